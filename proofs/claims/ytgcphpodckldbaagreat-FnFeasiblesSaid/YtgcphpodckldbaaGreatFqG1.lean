/-
  Functions of the program as Lean functions, and that the calls return what these say: part 2. No conditions.
-/
import Derived.Shelf.Sort.Plain
import Derived.Shelf.Slices.In.SortNone
import Derived.Shelf.Slices.CompactI
import Derived.Test.YtgcphpodckldbaaGreatFqG0
import Derived.KernelRfl
set_option maxRecDepth 100000
set_option maxHeartbeats 1000000
set_option linter.unusedVariables false
namespace Go.Proofs.YtgcphpodckldbaaGreat
open Go Go.Fw

def NA(bF:Method)(aD:List Int):Option (Bool):=
 (OC aD bF).bind fun r2=>
 some (!r2)
theorem amo{bF:Method}{aQ:Sv}{bD:Nat}{aD:List Int}{dO:Sv}{R:Bool}(hF:NA bF aD=some R):
   Fw.Spec Tryz.prog 101 [(zg [(zi bF.Rel),aQ.v,(zi bF.Limit),(zi bF.Cost),(zi bF.Quota)]),(pz bD)] [ah aQ bF.Inputs,a_ bD 24 dO.v,ah dO aD] (fun _:Unit=>(.bool R)) (fun _=>[]):=by
 refine Se 8 Tryz.func101 [.tmp 3] ?_
 intro H0 F0
 unfold NA at hF
 refine au ?_
 refine bW (fun k1=>?_)
 refine bf ?_
 refine bnd hF fun r2 hx3 hF=>bR (anU hx3) (fun _=>?_)
 exact ze hF
def J3(aD:List Int):List Method->Nat->Option (Int)
 |[],k4=>some (-1)
 |x6::aG,k4=>(NA x6 aD).bind fun r16=>
   if r16 then (
     some (k4:Int))
   else (
     J3 aD aG (k4+1))
def Tq(ae:List Method)(aD:List Int):Option (Int):=
 J3 aD ae 0
theorem alr{ae:List Method}{aa:Sv}{bD:Nat}{aD:List Int}{dO:Sv}{R:Int}(hF:Tq ae aD=some R):
   Fw.Spec Tryz.prog 168 [aa.v,(.func (.func 101) [].toArray [(pz bD)].toArray)] [dQ aa ae,a_ bD 24 dO.v,ah dO aD] (fun _:Unit=>(zi R)) (fun _=>[]):=by
 refine Se 19 Tryz.func168 [.tmp 4] ?_
 intro H0 F0
 unfold Tq at hF
 refine eU ?_
 refine bn (bU (m:=ae.length) (fun m2 f' cs'=>∃(g:Fr)(k4:Nat)(aG:List Method),m2=aG.length/\f'=aR g [(0,aa.v),(1,(.func (.func 101) [].toArray [(pz bD)].toArray)),(7,(zi (ae.length:Int))),(8,(zi (k4:Int)))]/\List.drop k4 ae=aG/\aP cs' [dQ aa ae,a_ bD 24 dO.v,ah dO aD]/\J3 aD aG k4=some R) ⟨_,0,_,rfl,aB,rfl,aA,hF⟩ ?_)
 rintro m2 _ _ ⟨g3,k4,aG,rfl,rfl,hd7,hE,hF⟩
 refine Kb hE ae (fun jL=>?_)
 rcases aG with _|⟨x6,aG⟩
 · have fG:=dn hd7
   rw[J3]at hF
   refine aL ?_
   refine dE ?_
   exact ze hF
 obtain⟨fG,dm,fF⟩:=dA hd7
 rw[J3]at hF
 refine aL ?_
 refine dD ?_
 refine lT ?_
 refine Ai dm (fun k13 lc=>?_)
 refine j_ (yF x6) zZ (fun gT=>?_)
 refine bnd hF fun r16 jy hF=>mh (.rd .h rfl (.rd .q3 rfl (.rd .q4 rfl .nil))) (lm atx.h (.tmp rfl rfl) bz (amo jy)) (fun _=>?_)
 refine au ?_
 refine Ci hF (fun kW hF=>?_) (fun kW hF=>?_)
 · exact ze hF
 refine bf ?_
 rw[wk k4]
 exact⟨_,bY _,_,k4+1,aG,rfl,aB,fF,aA,hF⟩
def Ni(ae:List Method)(aD:List Int):Option (Bool):=
 (Tq ae aD).bind fun r1=>
 some (decide ((0:Int)<=r1))
theorem aln{ae:List Method}{aa:Sv}{bD:Nat}{aD:List Int}{dO:Sv}{R:Bool}(hF:Ni ae aD=some R):
   Fw.Spec Tryz.prog 100 [aa.v,(.func (.func 101) [].toArray [(pz bD)].toArray)] [dQ aa ae,a_ bD 24 dO.v,ah dO aD] (fun _:Unit=>(.bool R)) (fun _=>[]):=by
 refine Se 9 Tryz.func100 [.tmp 4] ?_
 intro H0 F0
 unfold Ni at hF
 refine bG ?_
 refine bnd hF fun r1 hx2 hF=>bR (alr hx2) (fun _=>?_)
 exact ze hF
def KL(ae:List Int)(ag:List Method):Option (Bool):=
 ((DJ ae).bind fun r4=>
   bif r4 then (bif (decide (((ag.length:Int):Int)<=5))then ((Ni ag ae).bind fun r9=>
       some (!r9))
     else (some false))
   else (some false)).bind fun o2=>
 match o2 with
 |c12=>some c12
theorem adZ{ae:List Int}{aa:Sv}{ag:List Method}{ak:Sv}{R:Bool}(hF:KL ae ag=some R):
   Fw.Spec Tryz.prog 48 [aa.v,ak.v] [ah aa ae,dQ ak ag] (fun _:Unit=>(.bool R)) (fun _=>[]):=by
 refine Se 18 Tryz.func48 [.tmp 4] ?_
 intro H0 F0
 unfold KL at hF
 refine au ?_
 refine bW (fun k1=>?_)
 refine aT ?_
 obtain⟨o2,kX,hO3⟩:=bind_some hF
 refine au ?_
 refine gB (fun f' cs'=>∃(c12:Bool)(g:Fr),c12=o2/\f'=aR g [(4,(.bool c12))]/\aP cs' []) ?_ ?_
 · replace hF:=kX
   refine au ?_
   refine bnd hF fun r4 hx5 hF=>bR (Ug hx5) (fun _=>?_)
   refine au ?_
   rcases df r4 with ek|ek
   · rw[ek]
     try rw[ek]at hF; dsimp only[aY,aX]at hF
     refine fI ?_
     rcases df (decide (((ag.length:Int):Int)<=5))with dR|dR
     · rw[dR]
       try rw[dR]at hF; dsimp only[aY,aX]at hF
       refine aZ ?_
       refine aK (rV (fn:=.func 101) (vs:=[]) (us:=[(pz k1)]) .nil bz) ?_
       refine au ?_
       refine bnd hF fun r9 gu hF=>bR (aln gu) (fun _=>?_)
       exact cK hF
     rw[dR]
     try rw[dR]at hF; dsimp only[aY,aX]at hF
     exact cK hF
   rw[ek]
   try rw[ek]at hF; dsimp only[aY,aX]at hF
   exact cK hF
 rintro _ _ ⟨c12,g13,rfl,rfl,hE⟩
 replace hF:=hO3
 try dsimp only at hF
 refine bM hE ?_
 exact ze hF
def DY(ed:Int):Option (Bool):=
 (ry ed 0 9).bind fun r1=>
 some r1
theorem NV{ed:Int}{R:Bool}(hF:DY ed=some R):
   Fw.Spec Tryz.prog 99 [(zi ed)] [] (fun _:Unit=>(.bool R)) (fun _=>[]):=by
 refine Se 5 Tryz.func99 [.tmp 2] ?_
 intro H0 F0
 unfold DY at hF
 refine bf ?_
 refine bnd hF fun r1 hx2 hF=>bR (vQ hx2) (fun _=>?_)
 exact ze hF
def Eb(dY:Int):Option (Bool):=
 (ry dY 10 17).bind fun r1=>
 some r1
theorem OD{dY:Int}{R:Bool}(hF:Eb dY=some R):
   Fw.Spec Tryz.prog 171 [(zi dY)] [] (fun _:Unit=>(.bool R)) (fun _=>[]):=by
 refine Se 5 Tryz.func171 [.tmp 2] ?_
 intro H0 F0
 unfold Eb at hF
 refine bf ?_
 refine bnd hF fun r1 hx2 hF=>bR (vQ hx2) (fun _=>?_)
 exact ze hF
def Pj(dY:Int):Option (Bool):=
 ((DY dY).bind fun r3=>
   bif r3 then (some true)
   else ((Eb dY).bind fun r7=>
     some r7)).bind fun o1=>
 match o1 with
 |c10=>some c10
theorem ao0{dY:Int}{R:Bool}(hF:Pj dY=some R):
   Fw.Spec Tryz.prog 216 [(zi dY)] [] (fun _:Unit=>(.bool R)) (fun _=>[]):=by
 refine Se 9 Tryz.func216 [.tmp 2] ?_
 intro H0 F0
 unfold Pj at hF
 refine aZ ?_
 obtain⟨o1,xQ,hO2⟩:=bind_some hF
 refine au ?_
 refine gB (fun f' cs'=>∃(c10:Bool)(g:Fr),c10=o1/\f'=aR g [(2,(.bool c10))]/\aP cs' []) ?_ ?_
 · replace hF:=xQ
   refine au ?_
   refine bnd hF fun r3 hx4 hF=>bR (NV hx4) (fun _=>?_)
   refine au ?_
   rcases df r3 with iA|iA
   · rw[iA]
     try rw[iA]at hF; dsimp only[aY,aX]at hF
     exact cK hF
   rw[iA]
   try rw[iA]at hF; dsimp only[aY,aX]at hF
   refine aZ ?_
   refine bnd hF fun r7 nY hF=>bR (OD nY) (fun _=>?_)
   exact cK hF
 rintro _ _ ⟨c10,g11,rfl,rfl,hE⟩
 replace hF:=hO2
 try dsimp only at hF
 refine bM hE ?_
 exact ze hF
def NW(dY:Int):Option (Bool):=
 (Pj dY).bind fun r1=>
 some (!r1)
theorem am0{dY:Int}{R:Bool}(hF:NW dY=some R):
   Fw.Spec Tryz.prog 215 [(zi dY)] [] (fun _:Unit=>(.bool R)) (fun _=>[]):=by
 refine Se 6 Tryz.func215 [.tmp 2] ?_
 intro H0 F0
 unfold NW at hF
 refine bf ?_
 refine bnd hF fun r1 hx2 hF=>bR (ao0 hx2) (fun _=>?_)
 exact ze hF
def Ke:List Int->Nat->Option (Int)
 |[],k4=>some (-1)
 |x6::aG,k4=>(NW x6).bind fun eT=>
   if eT then (
     some (k4:Int))
   else (
     Ke aG (k4+1))
def TG(ae:List Int):Option (Int):=
 Ke ae 0
theorem alT{ae:List Int}{aa:Sv}{R:Int}(hF:TG ae=some R):
   Fw.Spec Tryz.prog 185 [aa.v,(.func (.func 215) [].toArray [].toArray)] [ah aa ae] (fun _:Unit=>(zi R)) (fun _=>[]):=by
 refine Se 19 Tryz.func185 [.tmp 4] ?_
 intro H0 F0
 unfold TG at hF
 refine eU ?_
 refine bn (bU (m:=ae.length) (fun m2 f' cs'=>∃(g:Fr)(k4:Nat)(aG:List Int),m2=aG.length/\f'=aR g [(0,aa.v),(1,(.func (.func 215) [].toArray [].toArray)),(7,(zi (ae.length:Int))),(8,(zi (k4:Int)))]/\List.drop k4 ae=aG/\aP cs' [ah aa ae]/\Ke aG k4=some R) ⟨_,0,_,rfl,aB,rfl,aA,hF⟩ ?_)
 rintro m2 _ _ ⟨g3,k4,aG,rfl,rfl,hd7,hE,hF⟩
 refine Kb hE ae (fun jL=>?_)
 rcases aG with _|⟨x6,aG⟩
 · have fG:=dn hd7
   rw[Ke]at hF
   refine aL ?_
   refine dE ?_
   exact ze hF
 obtain⟨fG,dm,fF⟩:=dA hd7
 rw[Ke]at hF
 refine aL ?_
 refine dD ?_
 refine lT ?_
 refine Ai dm (fun k13 lc=>?_)
 refine Al dN ?_
 refine bnd hF fun eT hx16 hF=>mh .nil (lm atB.h (.tmp rfl rfl) bz (am0 hx16)) (fun _=>?_)
 refine au ?_
 refine Ci hF (fun qK hF=>?_) (fun qK hF=>?_)
 · exact ze hF
 refine bf ?_
 rw[wk k4]
 exact⟨_,bY _,_,k4+1,aG,rfl,aB,fF,aA,hF⟩
def Ty(ae:List Int):Option (Bool):=
 (TG ae).bind fun r1=>
 some (decide ((0:Int)<=r1))
theorem alJ{ae:List Int}{aa:Sv}{R:Bool}(hF:Ty ae=some R):
   Fw.Spec Tryz.prog 136 [aa.v,(.func (.func 215) [].toArray [].toArray)] [ah aa ae] (fun _:Unit=>(.bool R)) (fun _=>[]):=by
 refine Se 9 Tryz.func136 [.tmp 4] ?_
 intro H0 F0
 unfold Ty at hF
 refine bG ?_
 refine bnd hF fun r1 hx2 hF=>bR (alT hx2) (fun _=>?_)
 exact ze hF
def OE(ag:List Int):Option (Bool):=
 (Ty ag).bind fun r1=>
 some (!r1)
theorem anV{ag:List Int}{aa:Sv}{R:Bool}(hF:OE ag=some R):
   Fw.Spec Tryz.prog 190 [aa.v] [ah aa ag] (fun _:Unit=>(.bool R)) (fun _=>[]):=by
 refine Se 6 Tryz.func190 [.tmp 2] ?_
 intro H0 F0
 unfold OE at hF
 refine bf ?_
 refine bnd hF fun r1 hx2 hF=>bR (alJ hx2) (fun _=>?_)
 exact ze hF
def Pk(ae:List Int)(ay:Atom):Option (Bool):=
 ((H6 ae ay.Rel).bind fun r4=>
   bif r4 then ((ix ae ay.Rel).bind fun x8=>
     bif (((ay.Terms.length:Int):Int)==x8)then ((OE ay.Terms).bind fun eT=>
       some eT)
     else (some false))
   else (some false)).bind fun o2=>
 match o2 with
 |c18=>some c18
theorem ao1{ae:List Int}{aa:Sv}{ay:Atom}{aU:Sv}{R:Bool}(hF:Pk ae ay=some R):
   Fw.Spec Tryz.prog 143 [aa.v,(zg [(zi ay.Rel),aU.v])] [ah aa ae,ah aU ay.Terms] (fun _:Unit=>(.bool R)) (fun _=>[]):=by
 refine Se 25 Tryz.func143 [.tmp 4] ?_
 intro H0 F0
 unfold Pk at hF
 refine au ?_
 refine bW (fun k1=>?_)
 refine aT ?_
 obtain⟨o2,kX,hO3⟩:=bind_some hF
 refine dM [0,1,2,3,4,5,6,7,8,9,10,11,12,13,14,15,16,17,18,19,20] [0,0,2,7,15,31,63,127,31,31,543,1823,3871,8191,16383,32767,65535,131071,262143,524287,1048575] [3,18] mixed (by decide+kernel) ?_
 refine qH (fun f' cs'=>∃(c18:Bool)(g:Fr),c18=o2/\f'=aR g [(4,(.bool c18))]/\aP cs' []) ?_ ?_
 · replace hF:=kX
   refine fw ?_
   refine bnd hF fun r4 hx5 hF=>jB (Y1 hx5) (fun _=>?_)
   refine du ?_
   rcases df r4 with ek|ek
   · rw[ek]
     try rw[ek]at hF; dsimp only[aY,aX]at hF
     refine Mj ?_
     refine zI hF fun x8 ab5 mD hF=>?_
     refine Di mD (fun k12 j13=>?_)
     refine Dl dN ?_
     refine fw ?_
     rcases df (((ay.Terms.length:Int):Int)==x8)with qM|qM
     · rw[qM]
       try rw[qM]at hF; dsimp only[aY,aX]at hF
       refine bV ?_
       refine bnd hF fun eT hx16 hF=>jB (anV hx16) (fun _=>?_)
       exact iC hF
     rw[qM]
     try rw[qM]at hF; dsimp only[aY,aX]at hF
     exact iC hF
   rw[ek]
   try rw[ek]at hF; dsimp only[aY,aX]at hF
   exact iC hF
 rintro _ _ ⟨c18,g19,rfl,rfl,hE⟩
 replace hF:=hO3
 try dsimp only at hF
 refine bM hE ?_
 exact ze hF
def Oe(ay:Atom)(aD:List Int):Option (Bool):=
 (Pk aD ay).bind fun r2=>
 some (!r2)
theorem anl{ay:Atom}{aQ:Sv}{bD:Nat}{aD:List Int}{dO:Sv}{R:Bool}(hF:Oe ay aD=some R):
   Fw.Spec Tryz.prog 142 [(zg [(zi ay.Rel),aQ.v]),(pz bD)] [ah aQ ay.Terms,a_ bD 24 dO.v,ah dO aD] (fun _:Unit=>(.bool R)) (fun _=>[]):=by
 refine Se 8 Tryz.func142 [.tmp 3] ?_
 intro H0 F0
 unfold Oe at hF
 refine au ?_
 refine bW (fun k1=>?_)
 refine bf ?_
 refine bnd hF fun r2 hx3 hF=>bR (ao1 hx3) (fun _=>?_)
 exact ze hF
def J5(aD:List Int):List Atom->Nat->Option (Int)
 |[],k4=>some (-1)
 |x6::aG,k4=>(Oe x6 aD).bind fun r16=>
   if r16 then (
     some (k4:Int))
   else (
     J5 aD aG (k4+1))
def Tv(ae:List Atom)(aD:List Int):Option (Int):=
 J5 aD ae 0
theorem alA{ae:List Atom}{aa:Sv}{bD:Nat}{aD:List Int}{dO:Sv}{R:Int}(hF:Tv ae aD=some R):
   Fw.Spec Tryz.prog 189 [aa.v,(.func (.func 142) [].toArray [(pz bD)].toArray)] [bX aa ae,a_ bD 24 dO.v,ah dO aD] (fun _:Unit=>(zi R)) (fun _=>[]):=by
 refine Se 19 Tryz.func189 [.tmp 4] ?_
 intro H0 F0
 unfold Tv at hF
 refine eU ?_
 refine bn (bU (m:=ae.length) (fun m2 f' cs'=>∃(g:Fr)(k4:Nat)(aG:List Atom),m2=aG.length/\f'=aR g [(0,aa.v),(1,(.func (.func 142) [].toArray [(pz bD)].toArray)),(7,(zi (ae.length:Int))),(8,(zi (k4:Int)))]/\List.drop k4 ae=aG/\aP cs' [bX aa ae,a_ bD 24 dO.v,ah dO aD]/\J5 aD aG k4=some R) ⟨_,0,_,rfl,aB,rfl,aA,hF⟩ ?_)
 rintro m2 _ _ ⟨g3,k4,aG,rfl,rfl,hd7,hE,hF⟩
 refine Kb hE ae (fun jL=>?_)
 rcases aG with _|⟨x6,aG⟩
 · have fG:=dn hd7
   rw[J5]at hF
   refine aL ?_
   refine dE ?_
   exact ze hF
 obtain⟨fG,dm,fF⟩:=dA hd7
 rw[J5]at hF
 refine aL ?_
 refine dD ?_
 refine lT ?_
 refine Ai dm (fun k13 lc=>?_)
 refine j_ (qZ x6) rZ (fun gT=>?_)
 refine bnd hF fun r16 jy hF=>mh (.rd .h rfl (.rd .q3 rfl (.rd .q4 rfl .nil))) (lm atz.h (.tmp rfl rfl) bz (anl jy)) (fun _=>?_)
 refine au ?_
 refine Ci hF (fun kW hF=>?_) (fun kW hF=>?_)
 · exact ze hF
 refine bf ?_
 rw[wk k4]
 exact⟨_,bY _,_,k4+1,aG,rfl,aB,fF,aA,hF⟩
def Nk(ae:List Atom)(aD:List Int):Option (Bool):=
 (Tv ae aD).bind fun r1=>
 some (decide ((0:Int)<=r1))
theorem alu{ae:List Atom}{aa:Sv}{bD:Nat}{aD:List Int}{dO:Sv}{R:Bool}(hF:Nk ae aD=some R):
   Fw.Spec Tryz.prog 141 [aa.v,(.func (.func 142) [].toArray [(pz bD)].toArray)] [bX aa ae,a_ bD 24 dO.v,ah dO aD] (fun _:Unit=>(.bool R)) (fun _=>[]):=by
 refine Se 9 Tryz.func141 [.tmp 4] ?_
 intro H0 F0
 unfold Nk at hF
 refine bG ?_
 refine bnd hF fun r1 hx2 hF=>bR (alA hx2) (fun _=>?_)
 exact ze hF
def Fu(dI:List Int):Option (List Int):=
 some (dI.mergeSort fun x y=>decide (x<=y))
theorem Yf{dI:List Int}{aa:Sv}{lF:List Nat}{R:List Int}(hF:Fu dI=some R):
   Fw.Spec Tryz.prog 166 [aa.v] [bv lF aa dI] (fun _:List Nat=>(.tuple [].toArray)) (fun p=>[bv p aa R]):=by
 cases hF
 exact ap8 bC.h (Go.Proofs.Any.slices_Sort_int_none ahz) (Go.Proofs.Any.slices_Sort_int ahz)
def Fq(dI:List Int):Option (List Int):=
 some (Lib.compact dI)
theorem Ye{dI:List Int}{aa:Sv}{lF:List Nat}{R:List Int}(hF:Fq dI=some R):
   Fw.Spec Tryz.prog 167 [aa.v] [bv lF aa dI] (fun p:Sv×List Nat=>p.1.v) (fun p=>[bv p.2 p.1 R]):=by
 cases hF
 exact aoo bC.h apC rfl (Go.Proofs.Any.slices_Compact_int_empty agS) (Go.Proofs.Any.slices_Compact_int agS)
def CP:List Int->Nat->(List Int)->Option ((List Int))
 |[],lg,l6=>some l6
 |vI::oW,lg,l6=>((Eb vI).bind fun oK=>
     if oK then (
       (app l6 ([vI]:List Int)).bind fun z52=>
       some z52)
     else (
       some l6)).bind fun JE=>
   match JE with
   |ym=>CP oW (lg+1) ym
def CQ:List Atom->Nat->(List Int)->Option ((List Int))
 |[],k8,c2=>(Fu c2).bind fun iq=>
   (Fq iq).bind fun nG=>
   some nG
 |fq::fD,k8,c2=>(CP fq.Terms 0 c2).bind fun Cs=>
   match Cs with
   |qU=>CQ fD (k8+1) qU
def T_(gm:List Atom):Option ((List Int)):=
 CQ gm 0 ([]:List Int)
theorem amh{gm:List Atom}{aa:Sv}{R:(List Int)}(hF:T_ gm=some R):
   Fw.Spec Tryz.prog 98 [aa.v,(.func (.func 171) [].toArray [].toArray)] [bX aa gm] (fun p:Sv×List Nat=>p.1.v) (fun p=>[bv p.2 p.1 R]):=by
 refine Se 37 Tryz.func98 [.tmp 4] ?_
 intro H0 F0
 unfold T_ at hF
 refine aL ?_
 refine b_ rfl (bI (g:=true) bH.h bC.h .nil (vs:=[]) rfl rfl rfl (by simp)) (fun k1=>?_)
 refine dh (.cons .h .nil) (bK (Ro:=(aj ax)) (E:=3) (F:=[]) (xs:=([]:List Int)) bJ rfl rfl) ?_
 refine fI ?_
 refine bn (bU (m:=gm.length) (fun m6 f' cs'=>∃(g:Fr)(k8:Nat)(fD:List Atom)(c2:List Int)(v3:Sv)(F4:List Nat),m6=fD.length/\f'=aR g [(1,(.func (.func 171) [].toArray [].toArray)),(5,v3.v),(11,aa.v),(12,(zi (gm.length:Int))),(13,(zi (k8:Int)))]/\List.drop k8 gm=fD/\aP cs' [bv F4 v3 c2,bX aa gm]/\CQ fD k8 c2=some R) ⟨_,0,_,_,⟨(some ⟨k1,0,none⟩),0,1⟩,(k1::[]),rfl,aB,rfl,aA,hF⟩ ?_)
 rintro m6 _ _ ⟨g7,k8,fD,c2,v3,F4,rfl,rfl,jA,hE,hF⟩
 refine Kb hE gm (fun LX=>?_)
 rcases fD with _|⟨fq,fD⟩
 · have u7:=dn jA
   rw[CQ]at hF
   refine aL ?_
   refine dE ?_
   refine bG ?_
   refine bnd hF fun iq iL hF=>dW (Yf iL) (fun yl=>?_)
   refine aZ ?_
   refine bnd hF fun nG nS hF=>dW (Ye nS) (fun iI=>?_)
   refine aZ ?_
   cases hF
   exact Er (iI.1,iI.2)
 obtain⟨u7,jc,u_⟩:=dA jA
 rw[CQ]at hF
 refine aL ?_
 refine dD ?_
 refine au ?_
 obtain⟨Cs,aaT,ab6⟩:=bind_some hF
 refine gN (fun f' cs'=>∃(qU:List Int)(v62:Sv)(JF:List Nat)(g:Fr),qU=Cs/\f'=aR g [(1,(.func (.func 171) [].toArray [].toArray)),(5,v62.v),(11,aa.v),(12,(zi (gm.length:Int))),(13,(zi (k8:Int)))]/\aP cs' [bv JF v62 qU,bX aa gm]) ?_ ?_
 · replace hF:=aaT
   refine bn (cB (rF (a:=fq) oC.h kM.h.sz (.tmp rfl rfl) (.tmp rfl rfl) (.t .h) (Int.natCast_nonneg k8) jc (fun k25 j26=>?_)))
   refine j_ (qZ fq) rZ (fun p27=>?_)
   refine cO (fun k28=>?_)
   refine As (zg [(zi fq.Rel),p27.v]) ?_
   refine bQ ?_
   refine bn (bU (m:=fq.Terms.length) (fun SK f' cs'=>∃(g:Fr)(lg:Nat)(oW l6:List Int)(v30:Sv)(Ct:List Nat),SK=oW.length/\f'=aR g [(1,(.func (.func 171) [].toArray [].toArray)),(5,v30.v),(11,aa.v),(12,(zi (gm.length:Int))),(13,(zi (k8:Int))),(18,p27.v),(19,(zi (fq.Terms.length:Int))),(20,(zi (lg:Int)))]/\List.drop lg fq.Terms=oW/\aP cs' [bv Ct v30 l6,bX aa gm,ah p27 fq.Terms]/\CP oW lg l6=some Cs) ⟨_,0,_,_,v3,F4,rfl,aB,rfl,aA,hF⟩ ?_)
   rintro SK _ _ ⟨g34,lg,oW,l6,v30,Ct,rfl,rfl,hd38,hE,hF⟩
   refine Kb hE fq.Terms (fun auJ=>?_)
   rcases oW with _|⟨vI,oW⟩
   · have ab7:=dn hd38
     rw[CP]at hF
     refine aL ?_
     refine dE ?_
     refine aL ?_
     cases hF
     exact⟨_,v30,Ct,_,rfl,aB,aA⟩
   obtain⟨ab7,sH,Mw⟩:=dA hd38
   rw[CP]at hF
   refine aL ?_
   refine dD ?_
   refine au ?_
   obtain⟨JE,aaU,ab8⟩:=bind_some hF
   refine gN (fun f' cs'=>∃(ym:List Int)(v57:Sv)(JG:List Nat)(g:Fr),ym=JE/\f'=aR g [(1,(.func (.func 171) [].toArray [].toArray)),(5,v57.v),(11,aa.v),(12,(zi (gm.length:Int))),(13,(zi (k8:Int))),(18,p27.v),(19,(zi (fq.Terms.length:Int))),(20,(zi (lg:Int)))]/\aP cs' [bv JG v57 ym,bX aa gm,ah p27 fq.Terms]) ?_ ?_
   · replace hF:=aaU
     refine bn (cB (rF (a:=vI) bH.h bC.h.sz (.tmp rfl rfl) (.tmp rfl rfl) .q2 (Int.natCast_nonneg lg) sH (fun vF j47=>?_)))
     refine Al dN ?_
     refine bf ?_
     refine bnd hF fun oK nU hF=>mh .nil (lm atC.h (.tmp rfl rfl) bz (OD nU)) (fun _=>?_)
     refine au ?_
     refine Ci hF (fun BI hF=>?_) (fun BI hF=>?_)
     · refine aZ ?_
       refine b_ rfl (bI (g:=true) bH.h bC.h bz (vs:=[(zi vI)]) rfl rfl rfl (by intro v hv; simp at hv; rcases hv with rfl<;>rfl)) (fun XQ=>?_)
       refine dh (.cons .h .nil) (bK (Ro:=(aj ax)) (E:=3) (F:=([]++[])) (xs:=([vI]:List Int)) (bS (dK (fun _=>rfl)) bJ bB) rfl rfl) ?_
       refine bnd hF fun z52 xO hF=>dC (.cons .q2 (.cons .h .nil)) (dL (Ro:=(aj ax)) bH.h gL bC.h rfl rfl rfl (.tmp rfl rfl) (.tmp rfl rfl) xO eX) (fun p54=>?_)
       refine aT ?_
       cases hF
       exact⟨_,p54.1,p54.2,_,rfl,aB,aA⟩
     refine au ?_
     cases hF
     exact⟨_,v30,Ct,_,rfl,aB,aA⟩
   rintro _ _ ⟨ym,v57,JG,g60,rfl,rfl,hE⟩
   replace hF:=ab8
   try dsimp only at hF
   refine bM hE ?_
   refine aL ?_
   rw[wk lg]
   exact⟨_,bY _,_,lg+1,oW,_,v57,JG,rfl,aB,Mw,aA,hF⟩
 rintro _ _ ⟨qU,v62,JF,g65,rfl,rfl,hE⟩
 replace hF:=ab6
 try dsimp only at hF
 refine bM hE ?_
 refine aL ?_
 rw[wk k8]
 exact⟨_,bY _,_,k8+1,fD,_,v62,JF,rfl,aB,u_,aA,hF⟩
def Li(ai:aO):Option ((List Int)):=
 (T_ ai.Atoms).bind fun r2=>
 some r2
theorem ae8{ai:aO}{aa aQ:Sv}{R:(List Int)}(hF:Li ai=some R):
   Fw.Spec Tryz.prog 153 [(zg [aa.v,aQ.v])] [ah aa ai.Head,bX aQ ai.Atoms] (fun p:Sv×List Nat=>p.1.v) (fun p=>[bv p.2 p.1 R]):=by
 refine Se 6 Tryz.func153 [.tmp 2] ?_
 intro H0 F0
 unfold Li at hF
 refine au ?_
 refine bW (fun k1=>?_)
 refine bf ?_
 refine bnd hF fun r2 hx3 hF=>dW (amh hx3) (fun p4=>?_)
 refine aZ ?_
 cases hF
 exact Er (p4.1,p4.2)
def Km(iN:Int):List Int->Nat->Option (Int)
 |[],k4=>some (-1)
 |x6::aG,k4=>if ((iN:Int)==x6)then (
     some (k4:Int))
   else (
     Km iN aG (k4+1))
def Kr(ae:List Int)(iN:Int):Option (Int):=
 Km iN ae 0
theorem adc{ae:List Int}{aa:Sv}{iN R:Int}(hF:Kr ae iN=some R):
   Fw.Spec Tryz.prog 201 [aa.v,(zi iN)] [ah aa ae] (fun _:Unit=>(zi R)) (fun _=>[]):=by
 refine Se 19 Tryz.func201 [.tmp 4] ?_
 intro H0 F0
 unfold Kr at hF
 refine eU ?_
 refine bn (bU (m:=ae.length) (fun m2 f' cs'=>∃(g:Fr)(k4:Nat)(aG:List Int),m2=aG.length/\f'=aR g [(0,aa.v),(1,(zi iN)),(7,(zi (ae.length:Int))),(8,(zi (k4:Int)))]/\List.drop k4 ae=aG/\aP cs' [ah aa ae]/\Km iN aG k4=some R) ⟨_,0,_,rfl,aB,rfl,aA,hF⟩ ?_)
 rintro m2 _ _ ⟨g3,k4,aG,rfl,rfl,hd7,hE,hF⟩
 refine Kb hE ae (fun jL=>?_)
 rcases aG with _|⟨x6,aG⟩
 · have fG:=dn hd7
   rw[Km]at hF
   refine aL ?_
   refine dE ?_
   exact ze hF
 obtain⟨fG,dm,fF⟩:=dA hd7
 rw[Km]at hF
 refine aL ?_
 refine dD ?_
 refine lT ?_
 refine Ai dm (fun k13 lc=>?_)
 refine Al dN ?_
 refine aT ?_
 refine Ci hF (fun QQ hF=>?_) (fun QQ hF=>?_)
 · exact ze hF
 refine bf ?_
 rw[wk k4]
 exact⟨_,bY _,_,k4+1,aG,rfl,aB,fF,aA,hF⟩
def Fg(ae:List Int)(iN:Int):Option (Bool):=
 (Kr ae iN).bind fun r1=>
 some (decide ((0:Int)<=r1))
theorem Yc{ae:List Int}{aa:Sv}{iN:Int}{R:Bool}(hF:Fg ae iN=some R):
   Fw.Spec Tryz.prog 154 [aa.v,(zi iN)] [ah aa ae] (fun _:Unit=>(.bool R)) (fun _=>[]):=by
 refine Se 9 Tryz.func154 [.tmp 4] ?_
 intro H0 F0
 unfold Fg at hF
 refine bG ?_
 refine bnd hF fun r1 hx2 hF=>bR (adc hx2) (fun _=>?_)
 exact ze hF
def Og(dY:Int)(aD:List Int):Option (Bool):=
 (Fg aD dY).bind fun r1=>
 some (!r1)
theorem anm{dY:Int}{bD:Nat}{aD:List Int}{dO:Sv}{R:Bool}(hF:Og dY aD=some R):
   Fw.Spec Tryz.prog 191 [(zi dY),(pz bD)] [a_ bD 24 dO.v,ah dO aD] (fun _:Unit=>(.bool R)) (fun _=>[]):=by
 refine Se 8 Tryz.func191 [.tmp 3] ?_
 intro H0 F0
 unfold Og at hF
 refine bG ?_
 refine bnd hF fun r1 hx2 hF=>bR (Yc hx2) (fun _=>?_)
 exact ze hF
def Kh(aD:List Int):List Int->Nat->Option (Int)
 |[],k4=>some (-1)
 |x6::aG,k4=>(Og x6 aD).bind fun eT=>
   if eT then (
     some (k4:Int))
   else (
     Kh aD aG (k4+1))
def TJ(ae:List Int)(aD:List Int):Option (Int):=
 Kh aD ae 0
theorem alX{ae:List Int}{aa:Sv}{bD:Nat}{aD:List Int}{dO:Sv}{R:Int}(hF:TJ ae aD=some R):
   Fw.Spec Tryz.prog 185 [aa.v,(.func (.func 191) [].toArray [(pz bD)].toArray)] [ah aa ae,a_ bD 24 dO.v,ah dO aD] (fun _:Unit=>(zi R)) (fun _=>[]):=by
 refine Se 19 Tryz.func185 [.tmp 4] ?_
 intro H0 F0
 unfold TJ at hF
 refine eU ?_
 refine bn (bU (m:=ae.length) (fun m2 f' cs'=>∃(g:Fr)(k4:Nat)(aG:List Int),m2=aG.length/\f'=aR g [(0,aa.v),(1,(.func (.func 191) [].toArray [(pz bD)].toArray)),(7,(zi (ae.length:Int))),(8,(zi (k4:Int)))]/\List.drop k4 ae=aG/\aP cs' [ah aa ae,a_ bD 24 dO.v,ah dO aD]/\Kh aD aG k4=some R) ⟨_,0,_,rfl,aB,rfl,aA,hF⟩ ?_)
 rintro m2 _ _ ⟨g3,k4,aG,rfl,rfl,hd7,hE,hF⟩
 refine Kb hE ae (fun jL=>?_)
 rcases aG with _|⟨x6,aG⟩
 · have fG:=dn hd7
   rw[Kh]at hF
   refine aL ?_
   refine dE ?_
   exact ze hF
 obtain⟨fG,dm,fF⟩:=dA hd7
 rw[Kh]at hF
 refine aL ?_
 refine dD ?_
 refine lT ?_
 refine Ai dm (fun k13 lc=>?_)
 refine Al dN ?_
 refine bnd hF fun eT hx16 hF=>mh (.rd .q2 rfl (.rd .q3 rfl .nil)) (lm atD.h (.tmp rfl rfl) bz (anm hx16)) (fun _=>?_)
 refine au ?_
 refine Ci hF (fun qK hF=>?_) (fun qK hF=>?_)
 · exact ze hF
 refine bf ?_
 rw[wk k4]
 exact⟨_,bY _,_,k4+1,aG,rfl,aB,fF,aA,hF⟩
def Nr(ae:List Int)(aD:List Int):Option (Bool):=
 (TJ ae aD).bind fun r1=>
 some (decide ((0:Int)<=r1))
theorem alN{ae:List Int}{aa:Sv}{bD:Nat}{aD:List Int}{dO:Sv}{R:Bool}(hF:Nr ae aD=some R):
   Fw.Spec Tryz.prog 136 [aa.v,(.func (.func 191) [].toArray [(pz bD)].toArray)] [ah aa ae,a_ bD 24 dO.v,ah dO aD] (fun _:Unit=>(.bool R)) (fun _=>[]):=by
 refine Se 9 Tryz.func136 [.tmp 4] ?_
 intro H0 F0
 unfold Nr at hF
 refine bG ?_
 refine bnd hF fun r1 hx2 hF=>bR (alX hx2) (fun _=>?_)
 exact ze hF
def UX(ai:aO):Option (Bool):=
 (Li ai).bind fun r2=>
 (bif (decide (((ai.Head.length:Int):Int)<=3))then ((Nr ai.Head r2).bind fun fo=>
     some (!fo))
   else (some false)).bind fun o8=>
 match o8 with
 |c14=>some c14
theorem aot{ai:aO}{aa aQ:Sv}{R:Bool}(hF:UX ai=some R):
   Fw.Spec Tryz.prog 144 [(zg [aa.v,aQ.v])] [ah aa ai.Head,bX aQ ai.Atoms] (fun _:Unit=>(.bool R)) (fun _=>[]):=by
 refine Se 17 Tryz.func144 [.tmp 2] ?_
 intro H0 F0
 unfold UX at hF
 refine au ?_
 refine bW (fun k1=>?_)
 refine aL ?_
 refine bnd hF fun r2 hx3 hF=>dW (ae8 hx3) (fun p4=>?_)
 refine cO (fun k5=>?_)
 refine As p4.1.v ?_
 refine au ?_
 refine lS .h H_ ?_
 refine lS (.t .h) bi ?_
 obtain⟨o8,ayH,hO9⟩:=bind_some hF
 refine au ?_
 refine gB (fun f' cs'=>∃(c14:Bool)(g:Fr),c14=o8/\f'=aR g [(2,(.bool c14))]/\aP cs' []) ?_ ?_
 · replace hF:=ayH
   refine bf ?_
   rcases df (decide (((ai.Head.length:Int):Int)<=3))with qN|qN
   · rw[qN]
     try rw[qN]at hF; dsimp only[aY,aX]at hF
     refine bf ?_
     refine aK (rV (fn:=.func 191) (vs:=[]) (us:=[(pz k5)]) .nil bz) ?_
     refine au ?_
     refine bnd hF fun fo uZ hF=>bR (alN uZ) (fun _=>?_)
     exact cK hF
   rw[qN]
   try rw[qN]at hF; dsimp only[aY,aX]at hF
   exact cK hF
 rintro _ _ ⟨c14,g15,rfl,rfl,hE⟩
 replace hF:=hO9
 try dsimp only at hF
 refine bM hE ?_
 exact ze hF
def Hq(ae:List Int)(ai:aO):Option (Bool):=
 ((DJ ae).bind fun r5=>
   bif r5 then ((ry (ai.Atoms.length:Int) 1 4).bind fun r9=>
     bif r9 then ((Nk ai.Atoms ae).bind fun fC=>
       bif (!fC)then ((UX ai).bind fun iq=>
         some iq)
       else (some false))
     else (some false))
   else (some false)).bind fun o3=>
 match o3 with
 |c20=>some c20
theorem YN{ae:List Int}{aa:Sv}{ai:aO}{ak aU:Sv}{R:Bool}(hF:Hq ae ai=some R):
   Fw.Spec Tryz.prog 80 [aa.v,(zg [ak.v,aU.v])] [ah aa ae,ah ak ai.Head,bX aU ai.Atoms] (fun _:Unit=>(.bool R)) (fun _=>[]):=by
 refine Se 24 Tryz.func80 [.tmp 4] ?_
 intro H0 F0
 unfold Hq at hF
 refine au ?_
 refine bW (fun k1=>?_)
 refine bW (fun k2=>?_)
 refine aT ?_
 obtain⟨o3,lW,hO4⟩:=bind_some hF
 refine au ?_
 refine gB (fun f' cs'=>∃(c20:Bool)(g:Fr),c20=o3/\f'=aR g [(4,(.bool c20))]/\aP cs' []) ?_ ?_
 · replace hF:=lW
   refine au ?_
   refine bnd hF fun r5 hx6 hF=>bR (Ug hx6) (fun _=>?_)
   refine au ?_
   rcases df r5 with dR|dR
   · rw[dR]
     try rw[dR]at hF; dsimp only[aY,aX]at hF
     refine bQ ?_
     refine bnd hF fun r9 gu hF=>bR (vQ gu) (fun _=>?_)
     refine aT ?_
     rcases df r9 with iw|iw
     · rw[iw]
       try rw[iw]at hF; dsimp only[aY,aX]at hF
       refine bf ?_
       refine aK (rV (fn:=.func 142) (vs:=[]) (us:=[(pz k1)]) .nil bz) ?_
       refine au ?_
       refine bnd hF fun fC fQ hF=>bR (alu fQ) (fun _=>?_)
       refine aL ?_
       rcases df (!fC)with jF|jF
       · rw[jF]
         try rw[jF]at hF; dsimp only[aY,aX]at hF
         refine aZ ?_
         refine bnd hF fun iq iL hF=>bR (aot iL) (fun _=>?_)
         exact cK hF
       rw[jF]
       try rw[jF]at hF; dsimp only[aY,aX]at hF
       exact cK hF
     rw[iw]
     try rw[iw]at hF; dsimp only[aY,aX]at hF
     exact cK hF
   rw[dR]
   try rw[dR]at hF; dsimp only[aY,aX]at hF
   exact cK hF
 rintro _ _ ⟨c20,g21,rfl,rfl,hE⟩
 replace hF:=hO4
 try dsimp only at hF
 refine bM hE ?_
 exact ze hF
def DK(ae:List Int)(ag:List Method)(ai:aO):Option (Bool):=
 ((KL ae ag).bind fun r4=>
   bif r4 then ((Hq ae ai).bind fun r8=>
     some r8)
   else (some false)).bind fun o2=>
 match o2 with
 |c11=>some c11
theorem Ui{ae:List Int}{aa:Sv}{ag:List Method}{ak:Sv}{ai:aO}{bu dw:Sv}{R:Bool}(hF:DK ae ag ai=some R):
   Fw.Spec Tryz.prog 33 [aa.v,ak.v,(zg [bu.v,dw.v])] [ah aa ae,dQ ak ag,ah bu ai.Head,bX dw ai.Atoms] (fun _:Unit=>(.bool R)) (fun _=>[]):=by
 refine Se 15 Tryz.func33 [.tmp 6] ?_
 intro H0 F0
 unfold DK at hF
 refine au ?_
 refine bW (fun k1=>?_)
 refine aT ?_
 obtain⟨o2,kX,hO3⟩:=bind_some hF
 refine au ?_
 refine gB (fun f' cs'=>∃(c11:Bool)(g:Fr),c11=o2/\f'=aR g [(6,(.bool c11))]/\aP cs' []) ?_ ?_
 · replace hF:=kX
   refine aT ?_
   refine bnd hF fun r4 hx5 hF=>bR (adZ hx5) (fun _=>?_)
   refine au ?_
   rcases df r4 with ek|ek
   · rw[ek]
     try rw[ek]at hF; dsimp only[aY,aX]at hF
     refine bf ?_
     refine bnd hF fun r8 dm hF=>bR (YN dm) (fun _=>?_)
     exact cK hF
   rw[ek]
   try rw[ek]at hF; dsimp only[aY,aX]at hF
   exact cK hF
 rintro _ _ ⟨c11,g12,rfl,rfl,hE⟩
 replace hF:=hO3
 try dsimp only at hF
 refine bM hE ?_
 exact ze hF
def TD(ae:List Method):Option ((List Method)):=
 (app ([]:List Method) ae).bind fun z5=>
 some z5
theorem alQ{ae:List Method}{aa:Sv}{R:(List Method)}(hF:TD ae=some R):
   Fw.Spec Tryz.prog 140 [aa.v] [dQ aa ae] (fun p:Sv×List Nat=>p.1.v) (fun p=>[II p.2 p.1 R]):=by
 refine Se 8 Tryz.func140 [.tmp 2] ?_
 intro H0 F0
 unfold TD at hF
 refine bG ?_
 refine ahl (xs:=ae) sD.h (.tmp rfl rfl) .h agH (fun bn1 hn2=>?_)
 refine au ?_
 refine Cc (fun hb3=>?_) (fun hb3=>?_)
 · have hnil:=hn2 hb3
   replace hF:some []=some R:=by rw[hnil]at hF; simpa[app]using hF
   refine aL ?_
   cases hF
   exact eO (⟨none,0,0⟩,[]) (.tmp rfl rfl .nil) rfl (.conv .nil (fu (Ro:=(aj lC)) (E:=92)) (.cons .nil) (.sel (.cons .h .nil)))
 refine aT ?_
 refine b_ rfl (bI (g:=true) sD.h kV.h .nil (vs:=[]) rfl rfl rfl (by simp)) (fun k4=>?_)
 refine dh (.cons .h .nil) (bK (Ro:=(aj lC)) (E:=92) (F:=[]) (xs:=([]:List Method)) bJ rfl rfl) ?_
 refine au ?_
 refine bnd hF fun z5 hx6 hF=>dC (.cons .h (.rd .h rfl .nil)) (dL (Ro:=(aj lC)) sD.h QH kV.h rfl rfl rfl (.tmp rfl rfl) (.tmp rfl rfl) hx6 nK) (fun p7=>?_)
 refine aZ ?_
 cases hF
 exact Er (p7.1,p7.2)
def FW(r1:(List Method)):Nat->(List Method)->Int->Option ((List Method))
 |0,_,_=>none
 |zo+1,tH,c37=>if (decide ((c37:Int)<(r1.length:Int)))then (
     ((ix tH c37).bind fun JH=>
       if ((JH.Limit:Int)!=0)then (
         (ix tH c37).bind fun uB=>
         (some (tH.set (c37).toNat {uB with Rel:=(-1)})).bind fun z64=>
         some z64)
       else (
         some tH)).bind fun JI=>
     match JI with
     |lH=>FW r1 zo lH (IntKind.i64.wrap (c37+1)))
   else (
     some tH)
def KT(ag:List Method):Option ((List Method)):=
 (TD ag).bind fun r1=>
 FW r1 (((r1.length:Int)-0).toNat+2) r1 0
theorem aep{ag:List Method}{aa:Sv}{R:(List Method)}(hF:KT ag=some R):
   Fw.Spec Tryz.prog 77 [aa.v] [dQ aa ag] (fun p:Sv×List Nat=>p.1.v) (fun p=>[II p.2 p.1 R]):=by
 refine Se 24 Tryz.func77 [.tmp 2] ?_
 intro H0 F0
 unfold KT at hF
 refine bf ?_
 refine bnd hF fun r1 hx2 hF=>dW (alQ hx2) (fun p3=>?_)
 refine fI ?_
 refine bn (bU (m:=(((r1.length:Int)-0).toNat+2)) (fun zo f' cs'=>∃(g:Fr)(tH:List Method)(c37:Int)(tJ:List Nat),f'=aR g [(3,p3.1.v),(8,p3.1.v),(9,(zi (r1.length:Int))),(10,(zi c37))]/\aP cs' [II tJ p3.1 tH]/\FW r1 zo tH c37=some R) ⟨_,_,_,p3.2,aB,aA,hF⟩ ?_)
 rintro zo _ _ ⟨g39,tH,c37,tJ,rfl,hE,hF⟩
 refine bM hE ?_
 rcases zo with _|zo
 · rw[FW]at hF
   exact absurd hF (by simp)
 rw[FW]at hF
 refine aL ?_
 refine Ci hF (fun QN hF=>?_) (fun QN hF=>?_)
 · refine au ?_
   obtain⟨JI,aaV,ab9⟩:=bind_some hF
   refine gN (fun f' cs'=>∃(lH:List Method)(g:Fr),lH=JI/\f'=aR g [(3,p3.1.v),(8,p3.1.v),(9,(zi (r1.length:Int))),(10,(zi c37))]/\aP cs' [II tJ p3.1 lH]) ?_ ?_
   · replace hF:=aaV
     refine bn (cB (Cm (zi c37) rfl rfl ?_))
     refine bnd hF fun JH Mm hF=>?_
     have ayI:=tZ Mm
     obtain⟨aDS,Ri⟩:=qf Mm
     refine rA sD.h kV.h.sz (.tmp rfl rfl) (.tmp rfl rfl) .h ayI (fun k48 ayJ=>?_)
     refine aho (yF JH) IG.h kV.h.sz rfl (.tmp rfl rfl) .h ayJ Ri zZ (fun p55=>?_)
     refine cO (fun k56=>?_)
     refine au ?_
     refine As (zg [(zi JH.Rel),p55.v,(zi JH.Limit),(zi JH.Cost),(zi JH.Quota)]) ?_
     refine bG ?_
     refine Ci hF (fun IM hF=>?_) (fun IM hF=>?_)
     · refine aZ ?_
       refine bnd hF fun uB wz hF=>?_
       have ayK:=tZ wz
       obtain⟨ajM,BA⟩:=qf wz
       refine rA sD.h kV.h.sz (.tmp rfl rfl) (.tmp rfl rfl) .q2 ayK (fun k57 ayL=>?_)
       refine au ?_
       refine bnd hF fun z64 I1 hF=>?_
       replace I1:=Option.some.inj I1
       refine dC (.cons .q2 .nil) (ZT (Ro:=(aj lC)) (i:=c37) bC.h.sz rfl (.tmp rfl rfl) (.int _ _) ayL BA rfl rfl aqA (aq3 (d:=(-1)))) (fun _=>?_)
       rw[I1]
       exact cK hF
     exact cK hF
   rintro _ _ ⟨lH,g68,rfl,rfl,hE⟩
   replace hF:=ab9
   try dsimp only at hF
   refine bM hE ?_
   refine aL ?_
   exact⟨zo,bY _,_,_,_,tJ,aB,aA,hF⟩
 refine eU ?_
 cases hF
 exact Er (p3.1,tJ)
def KU(ku:Int)(aD:Atom)(dz:List Int):Option (Bool):=
 ((ry ku 0 (IntKind.i64.wrap ((aD.Terms.length:Int)-1))).bind fun r3=>
   bif (!r3)then (some true)
   else ((ix aD.Terms ku).bind fun x7=>
     (Eb x7).bind fun fC=>
     bif fC then ((ix aD.Terms ku).bind fun qx=>
       (Fg dz qx).bind fun n_=>
       some (!n_))
     else (some false))).bind fun o1=>
 match o1 with
 |wQ=>some wQ
theorem ann{ku:Int}{bD:Nat}{aD:Atom}{fE:Sv}{fP:Nat}{dz:List Int}{iT:Sv}{R:Bool}(hF:KU ku aD dz=some R):
   Fw.Spec Tryz.prog 214 [(zi ku),(pz bD),(pz fP)] [a_ bD 66 (zg [(zi aD.Rel),fE.v]),ah fE aD.Terms,a_ fP 24 iT.v,ah iT dz] (fun _:Unit=>(.bool R)) (fun _=>[]):=by
 refine Se 30 Tryz.func214 [.tmp 4] ?_
 intro H0 F0
 unfold KU at hF
 refine aZ ?_
 obtain⟨o1,xQ,hO2⟩:=bind_some hF
 refine dM [0,1,2,3,4,5,6,7,8,9,10,11,12,13,14,15,16,17,18,19,20,21,22,23,24,25] [0,0,2,6,14,31,63,127,255,511,255,2047,4095,8191,16383,32767,32767,98303,32767,491519,1015807,2097151,4194303,8388607,16777215,33554431] [5,13,21] mixed (by decide+kernel) ?_
 refine qH (fun f' cs'=>∃(wQ:Bool)(g:Fr),wQ=o1/\f'=aR g [(4,(.bool wQ))]/\aP cs' []) ?_ ?_
 · replace hF:=xQ
   refine xH ?_
   refine bnd hF fun r3 hx4 hF=>jB (vQ hx4) (fun _=>?_)
   refine bV ?_
   rcases df (!r3)with iA|iA
   · rw[iA]
     try rw[iA]at hF; dsimp only[aY,aX]at hF
     exact iC hF
   rw[iA]
   try rw[iA]at hF; dsimp only[aY,aX]at hF
   refine fw ?_
   refine zI hF fun x7 hp9 gu hF=>?_
   refine Di gu (fun k11 j12=>?_)
   refine Dl dN ?_
   refine bnd hF fun fC fQ hF=>jB (OD fQ) (fun _=>?_)
   refine du ?_
   rcases df fC with jF|jF
   · rw[jF]
     try rw[jF]at hF; dsimp only[aY,aX]at hF
     refine sG ?_
     refine zI hF fun qx Wy nT hF=>?_
     refine Di nT (fun k21 M_=>?_)
     refine Dl dN ?_
     refine bnd hF fun n_ hx24 hF=>jB (Yc hx24) (fun _=>?_)
     exact iC hF
   rw[jF]
   try rw[jF]at hF; dsimp only[aY,aX]at hF
   exact iC hF
 rintro _ _ ⟨wQ,g27,rfl,rfl,hE⟩
 replace hF:=hO2
 try dsimp only at hF
 refine bM hE ?_
 exact ze hF
def Ki(aD:Atom)(dz:List Int):List Int->Nat->Option (Int)
 |[],k4=>some (-1)
 |x6::aG,k4=>(KU x6 aD dz).bind fun eT=>
   if eT then (
     some (k4:Int))
   else (
     Ki aD dz aG (k4+1))
def TK(ae:List Int)(aD:Atom)(dz:List Int):Option (Int):=
 Ki aD dz ae 0
theorem alY{ae:List Int}{aa:Sv}{bD:Nat}{aD:Atom}{fE:Sv}{fP:Nat}{dz:List Int}{iT:Sv}{R:Int}(hF:TK ae aD dz=some R):
   Fw.Spec Tryz.prog 185 [aa.v,(.func (.func 214) [].toArray [(pz bD),(pz fP)].toArray)] [ah aa ae,a_ bD 66 (zg [(zi aD.Rel),fE.v]),ah fE aD.Terms,a_ fP 24 iT.v,ah iT dz] (fun _:Unit=>(zi R)) (fun _=>[]):=by
 refine Se 19 Tryz.func185 [.tmp 4] ?_
 intro H0 F0
 unfold TK at hF
 refine eU ?_
 refine bn (bU (m:=ae.length) (fun m2 f' cs'=>∃(g:Fr)(k4:Nat)(aG:List Int),m2=aG.length/\f'=aR g [(0,aa.v),(1,(.func (.func 214) [].toArray [(pz bD),(pz fP)].toArray)),(7,(zi (ae.length:Int))),(8,(zi (k4:Int)))]/\List.drop k4 ae=aG/\aP cs' [ah aa ae,a_ bD 66 (zg [(zi aD.Rel),fE.v]),ah fE aD.Terms,a_ fP 24 iT.v,ah iT dz]/\Ki aD dz aG k4=some R) ⟨_,0,_,rfl,aB,rfl,aA,hF⟩ ?_)
 rintro m2 _ _ ⟨g3,k4,aG,rfl,rfl,hd7,hE,hF⟩
 refine Kb hE ae (fun jL=>?_)
 rcases aG with _|⟨x6,aG⟩
 · have fG:=dn hd7
   rw[Ki]at hF
   refine aL ?_
   refine dE ?_
   exact ze hF
 obtain⟨fG,dm,fF⟩:=dA hd7
 rw[Ki]at hF
 refine aL ?_
 refine dD ?_
 refine lT ?_
 refine Ai dm (fun k13 lc=>?_)
 refine Al dN ?_
 refine bnd hF fun eT hx16 hF=>mh (.rd .q2 rfl (.rd .q3 rfl (.rd .q4 rfl (.rd .q5 rfl .nil)))) (lm atF.h (.tmp rfl rfl) bz (ann hx16)) (fun _=>?_)
 refine au ?_
 refine Ci hF (fun qK hF=>?_) (fun qK hF=>?_)
 · exact ze hF
 refine bf ?_
 rw[wk k4]
 exact⟨_,bY _,_,k4+1,aG,rfl,aB,fF,aA,hF⟩
def Ns(ae:List Int)(aD:Atom)(dz:List Int):Option (Bool):=
 (TK ae aD dz).bind fun r1=>
 some (decide ((0:Int)<=r1))
theorem alO{ae:List Int}{aa:Sv}{bD:Nat}{aD:Atom}{fE:Sv}{fP:Nat}{dz:List Int}{iT:Sv}{R:Bool}(hF:Ns ae aD dz=some R):
   Fw.Spec Tryz.prog 136 [aa.v,(.func (.func 214) [].toArray [(pz bD),(pz fP)].toArray)] [ah aa ae,a_ bD 66 (zg [(zi aD.Rel),fE.v]),ah fE aD.Terms,a_ fP 24 iT.v,ah iT dz] (fun _:Unit=>(.bool R)) (fun _=>[]):=by
 refine Se 9 Tryz.func136 [.tmp 4] ?_
 intro H0 F0
 unfold Ns at hF
 refine bG ?_
 refine bnd hF fun r1 hx2 hF=>bR (alY hx2) (fun _=>?_)
 exact ze hF
def OV(bF:Method)(ay:Atom)(kv:List Int):Option (Bool):=
 (bif ((bF.Rel:Int)==ay.Rel)then ((Ns bF.Inputs ay kv).bind fun r7=>
     some (!r7))
   else (some false)).bind fun o4=>
 match o4 with
 |c10=>some c10
theorem aou{bF:Method}{aQ:Sv}{ay:Atom}{aU:Sv}{kv:List Int}{bu:Sv}{R:Bool}(hF:OV bF ay kv=some R):
   Fw.Spec Tryz.prog 188 [(zg [(zi bF.Rel),aQ.v,(zi bF.Limit),(zi bF.Cost),(zi bF.Quota)]),(zg [(zi ay.Rel),aU.v]),bu.v] [ah aQ bF.Inputs,ah aU ay.Terms,ah bu kv] (fun _:Unit=>(.bool R)) (fun _=>[]):=by
 refine Se 19 Tryz.func188 [.tmp 6] ?_
 intro H0 F0
 unfold OV at hF
 refine au ?_
 refine bW (fun k1=>?_)
 refine bW (fun k2=>?_)
 refine bW (fun k3=>?_)
 refine aT ?_
 obtain⟨o4,ayM,hO5⟩:=bind_some hF
 refine au ?_
 refine gB (fun f' cs'=>∃(c10:Bool)(g:Fr),c10=o4/\f'=aR g [(6,(.bool c10))]/\aP cs' []) ?_ ?_
 · replace hF:=ayM
   refine bG ?_
   rcases df ((bF.Rel:Int)==ay.Rel)with iA|iA
   · rw[iA]
     try rw[iA]at hF; dsimp only[aY,aX]at hF
     refine bf ?_
     refine aK (rV (fn:=.func 214) (vs:=[]) (us:=[(pz k2),(pz k3)]) .nil bz) ?_
     refine au ?_
     refine bnd hF fun r7 nY hF=>bR (alO nY) (fun _=>?_)
     exact cK hF
   rw[iA]
   try rw[iA]at hF; dsimp only[aY,aX]at hF
   exact cK hF
 rintro _ _ ⟨c10,g11,rfl,rfl,hE⟩
 replace hF:=hO5
 try dsimp only at hF
 refine bM hE ?_
 exact ze hF
def Zd(bF:Method)(ay:Atom):Option (Bool):=
 some true
theorem anW{bF:Method}{aQ:Sv}{ay:Atom}{aU:Sv}{R:Bool}(hF:Zd bF ay=some R):
   Fw.Spec Tryz.prog 139 [(zg [(zi bF.Rel),aQ.v,(zi bF.Limit),(zi bF.Cost),(zi bF.Quota)]),(zg [(zi ay.Rel),aU.v])] [ah aQ bF.Inputs,ah aU ay.Terms] (fun _:Unit=>(.bool R)) (fun _=>[]):=by
 refine Se 5 Tryz.func139 [.tmp 4] ?_
 intro H0 F0
 unfold Zd at hF
 refine au ?_
 refine bW (fun k1=>?_)
 refine bW (fun k2=>?_)
 exact ze hF
def Nt(bF:Method)(aD:Atom)(dz:List Int):Option (Bool):=
 ((OV bF aD dz).bind fun r4=>
   bif r4 then ((Zd bF aD).bind fun r8=>
     some r8)
   else (some false)).bind fun o2=>
 match o2 with
 |c11=>some c11
theorem amd{bF:Method}{aQ:Sv}{bD:Nat}{aD:Atom}{fE:Sv}{fP:Nat}{dz:List Int}{iT:Sv}{tK:Nat}{R:Bool}(hF:Nt bF aD dz=some R):
   Fw.Spec Tryz.prog 187 [(zg [(zi bF.Rel),aQ.v,(zi bF.Limit),(zi bF.Cost),(zi bF.Quota)]),(pz bD),(pz fP),(pz tK)] [ah aQ bF.Inputs,a_ bD 66 (zg [(zi aD.Rel),fE.v]),ah fE aD.Terms,a_ fP 24 iT.v,ah iT dz,a_ tK 155 (.func (.func 139) [].toArray [].toArray)] (fun _:Unit=>(.bool R)) (fun _=>[]):=by
 refine Se 16 Tryz.func187 [.tmp 5] ?_
 intro H0 F0
 unfold Nt at hF
 refine au ?_
 refine bW (fun k1=>?_)
 refine aT ?_
 obtain⟨o2,kX,hO3⟩:=bind_some hF
 refine au ?_
 refine gB (fun f' cs'=>∃(c11:Bool)(g:Fr),c11=o2/\f'=aR g [(5,(.bool c11))]/\aP cs' []) ?_ ?_
 · replace hF:=kX
   refine aZ ?_
   refine bnd hF fun r4 hx5 hF=>bR (aou hx5) (fun _=>?_)
   refine au ?_
   rcases df r4 with ek|ek
   · rw[ek]
     try rw[ek]at hF; dsimp only[aY,aX]at hF
     refine bQ ?_
     refine bnd hF fun r8 dm hF=>mh (.rd (.t .h) rfl (.rd .q3 rfl .nil)) (lm atG.h (.tmp rfl rfl) bz (anW dm)) (fun _=>?_)
     exact cK hF
   rw[ek]
   try rw[ek]at hF; dsimp only[aY,aX]at hF
   exact cK hF
 rintro _ _ ⟨c11,g12,rfl,rfl,hE⟩
 replace hF:=hO3
 try dsimp only at hF
 refine bM hE ?_
 exact ze hF
def J2(aD:Atom)(dz:List Int):List Method->Nat->Option (Int)
 |[],k4=>some (-1)
 |x6::aG,k4=>(Nt x6 aD dz).bind fun r16=>
   if r16 then (
     some (k4:Int))
   else (
     J2 aD dz aG (k4+1))
def Tp(ae:List Method)(aD:Atom)(dz:List Int):Option (Int):=
 J2 aD dz ae 0
theorem alm{ae:List Method}{aa:Sv}{bD:Nat}{aD:Atom}{fE:Sv}{fP:Nat}{dz:List Int}{iT:Sv}{tK:Nat}{R:Int}(hF:Tp ae aD dz=some R):
   Fw.Spec Tryz.prog 168 [aa.v,(.func (.func 187) [].toArray [(pz bD),(pz fP),(pz tK)].toArray)] [dQ aa ae,a_ bD 66 (zg [(zi aD.Rel),fE.v]),ah fE aD.Terms,a_ fP 24 iT.v,ah iT dz,a_ tK 155 (.func (.func 139) [].toArray [].toArray)] (fun _:Unit=>(zi R)) (fun _=>[]):=by
 refine Se 19 Tryz.func168 [.tmp 4] ?_
 intro H0 F0
 unfold Tp at hF
 refine eU ?_
 refine bn (bU (m:=ae.length) (fun m2 f' cs'=>∃(g:Fr)(k4:Nat)(aG:List Method),m2=aG.length/\f'=aR g [(0,aa.v),(1,(.func (.func 187) [].toArray [(pz bD),(pz fP),(pz tK)].toArray)),(7,(zi (ae.length:Int))),(8,(zi (k4:Int)))]/\List.drop k4 ae=aG/\aP cs' [dQ aa ae,a_ bD 66 (zg [(zi aD.Rel),fE.v]),ah fE aD.Terms,a_ fP 24 iT.v,ah iT dz,a_ tK 155 (.func (.func 139) [].toArray [].toArray)]/\J2 aD dz aG k4=some R) ⟨_,0,_,rfl,aB,rfl,aA,hF⟩ ?_)
 rintro m2 _ _ ⟨g3,k4,aG,rfl,rfl,hd7,hE,hF⟩
 refine Kb hE ae (fun jL=>?_)
 rcases aG with _|⟨x6,aG⟩
 · have fG:=dn hd7
   rw[J2]at hF
   refine aL ?_
   refine dE ?_
   exact ze hF
 obtain⟨fG,dm,fF⟩:=dA hd7
 rw[J2]at hF
 refine aL ?_
 refine dD ?_
 refine lT ?_
 refine Ai dm (fun k13 lc=>?_)
 refine j_ (yF x6) zZ (fun gT=>?_)
 refine bnd hF fun r16 jy hF=>mh (.rd .h rfl (.rd .q3 rfl (.rd .q4 rfl (.rd .q5 rfl (.rd .q6 rfl (.rd .q7 rfl .nil)))))) (lm atE.h (.tmp rfl rfl) bz (amd jy)) (fun _=>?_)
 refine au ?_
 refine Ci hF (fun kW hF=>?_) (fun kW hF=>?_)
 · exact ze hF
 refine bf ?_
 rw[wk k4]
 exact⟨_,bY _,_,k4+1,aG,rfl,aB,fF,aA,hF⟩
def Fx(dz:List Method)(yZ:List Int)(y5:List Bool):List Atom->Nat->Option (Step×Bool)
 |[],k5=>some ((⟨0,0⟩:Step),false)
 |x7::eP,k5=>(Tp dz x7 yZ).bind fun kr=>
   ((ix y5 (k5:Int)).bind fun vJ=>
     bif (!vJ)then (some (decide ((0:Int)<=kr)))
     else (some false)).bind fun yn=>
   match yn with
   |ko=>if ko then (
       some ((⟨(k5:Int),kr⟩:Step),true))
     else (
       Fx dz yZ y5 eP (k5+1))
def C8(aD:List Atom)(dz:List Method)(yZ:List Int)(y5:List Bool):Option (Step×Bool):=
 Fx dz yZ y5 aD 0
theorem adF{bD:Nat}{aD:List Atom}{dO:Sv}{fP:Nat}{dz:List Method}{iT:Sv}{tK:Nat}{yZ:List Int}{LY:Sv}{JJ Na:Nat}{y5:List Bool}{LZ:Sv}{R:Step×Bool}(hF:C8 aD dz yZ y5=some R):
   Fw.Spec Tryz.prog 186 [(pz bD),(pz fP),(pz tK),(pz JJ),(pz Na)] [a_ bD 26 dO.v,bX dO aD,a_ fP 25 iT.v,dQ iT dz,a_ tK 24 LY.v,ah LY yZ,a_ JJ 155 (.func (.func 139) [].toArray [].toArray),a_ Na 106 LZ.v,zr4 LZ y5] (fun _:Unit=>(.tuple [(zg [(zi R.1.Atom),(zi R.1.Method)]),(.bool R.2)].toArray)) (fun _=>[]):=by
 refine Se 34 Tryz.func186 [.cell 5 64,.tmp 6] ?_
 intro H0 F0
 unfold C8 at hF
 refine au ?_
 refine cO (fun k1=>?_)
 refine fI ?_
 refine bn (bU (m:=aD.length) (fun m3 f' cs'=>∃(g:Fr)(k5:Nat)(eP:List Atom),m3=eP.length/\f'=aR g [(1,(pz fP)),(2,(pz tK)),(3,(pz JJ)),(4,(pz Na)),(5,(pz k1)),(10,dO.v),(11,(zi (aD.length:Int))),(12,(zi (k5:Int)))]/\List.drop k5 aD=eP/\aP cs' [a_ fP 25 iT.v,dQ iT dz,a_ tK 24 LY.v,ah LY yZ,a_ JJ 155 (.func (.func 139) [].toArray [].toArray),a_ Na 106 LZ.v,zr4 LZ y5,bq k1 64 (zg [(zi 0),(zi 0)]),bX dO aD]/\Fx dz yZ y5 eP k5=some R) ⟨_,0,_,rfl,aB,rfl,aA,hF⟩ ?_)
 rintro m3 _ _ ⟨g4,k5,eP,rfl,rfl,mY,hE,hF⟩
 refine Kb hE aD (fun Im=>?_)
 rcases eP with _|⟨x7,eP⟩
 · have tq:=dn mY
   rw[Fx]at hF
   refine aL ?_
   refine dE ?_
   refine bf ?_
   refine aK (gH uW.h rfl (vs:=[]) .nil (cells:=[(zi 0),(zi 0)]) rfl) ?_
   refine As (zg [(zi 0),(zi 0)]) ?_
   refine aZ ?_
   cases hF
   exact eO () (.cellA rfl rfl .h rfl ajt.h uW.h.sz rfl rfl (.tmp rfl rfl .nil)) rfl (.sel .nil)
 obtain⟨tq,gu,jA⟩:=dA mY
 rw[Fx]at hF
 refine aL ?_
 refine dD ?_
 refine aL ?_
 refine Ai gu (fun k14 M8=>?_)
 refine j_ (qZ x7) rZ (fun p16=>?_)
 refine cO (fun k17=>?_)
 refine au ?_
 refine As (zg [(zi x7.Rel),p16.v]) ?_
 refine aZ ?_
 refine aK (rV (fn:=.func 187) (vs:=[]) (us:=[(pz k17),(pz tK),(pz JJ)]) .nil bz) ?_
 refine bnd hF fun kr kC hF=>dC (.cons .h (.rd .q3 rfl (.rd .h rfl (.rd .q4 rfl (.rd .q5 rfl (.rd .q6 rfl .nil)))))) (eY H_ (fun _=>.nil) (fM (.rd (.t .h) rfl (.rd .h rfl (.rd .q2 rfl (.rd .q3 rfl (.rd .q4 rfl (.rd .q5 rfl .nil)))))) (bP atw.h bz (alm kC)))) (fun _=>?_)
 refine aT ?_
 obtain⟨yn,Qg,Rj⟩:=bind_some hF
 refine au ?_
 refine gB (fun f' cs'=>∃(ko:Bool)(g:Fr),ko=yn/\f'=aR g [(1,(pz fP)),(2,(pz tK)),(3,(pz JJ)),(4,(pz Na)),(5,(pz k1)),(7,(zi (k5:Int))),(9,(zi kr)),(10,dO.v),(11,(zi (aD.length:Int))),(12,(zi (k5:Int))),(28,(.bool ko))]/\aP cs' [a_ fP 25 iT.v,dQ iT dz,a_ tK 24 LY.v,ah LY yZ,a_ JJ 155 (.func (.func 139) [].toArray [].toArray),a_ Na 106 LZ.v,zr4 LZ y5,bq k1 64 (zg [(zi 0),(zi 0)]),bX dO aD]) ?_ ?_
 · replace hF:=Qg
   refine aT ?_
   refine zI hF fun vJ aj6 jP hF=>?_
   refine Ai jP (fun k27 j28=>?_)
   refine Al atI ?_
   refine aT ?_
   rcases df (!vJ)with xS|xS
   · rw[xS]
     try rw[xS]at hF; dsimp only[aY,aX]at hF
     exact cK hF
   rw[xS]
   try rw[xS]at hF; dsimp only[aY,aX]at hF
   exact cK hF
 rintro _ _ ⟨ko,g33,rfl,rfl,hE⟩
 replace hF:=Rj
 try dsimp only at hF
 refine bM hE ?_
 refine Ci hF (fun BF hF=>?_) (fun BF hF=>?_)
 · refine aZ ?_
   refine aK (gH uW.h rfl (vs:=[(zi (k5:Int)),(zi kr)]) bz (cells:=[(zi (k5:Int)),(zi kr)]) rfl) ?_
   refine As (zg [(zi (k5:Int)),(zi kr)]) ?_
   refine aZ ?_
   cases hF
   exact eO () (.cellA rfl rfl .h rfl ajt.h uW.h.sz rfl rfl (.tmp rfl rfl .nil)) rfl (.sel .nil)
 refine bf ?_
 rw[wk k5]
 exact⟨_,bY _,_,k5+1,eP,rfl,aB,jA,aA,hF⟩
def CG(ag:List Method)(gm:List Atom):Nat->(List Step)->(List Bool)->(List Int)->Int->Int->Bool->Option ((List Step)×(List Bool))
 |0,_,_,_,_,_,_=>none
 |JK+1,wU,JL,jh,uE,lH,yo=>if yo then (
     (rQ (decide (0<=uE)&&decide (uE<(JL.length:Int)))).bind fun u80=>
     (some (JL.set (uE).toNat true)).bind fun z82=>
     (ix gm uE).bind fun x85=>
     (app jh x85.Terms).bind fun JM=>
     (app wU ([(⟨uE,lH⟩:Step)]:List Step)).bind fun z96=>
     (C8 gm ag JM z82).bind fun y7=>
     CG ag gm JK z96 z82 JM y7.1.Atom y7.1.Method y7.2)
   else (
     some (wU,JL))
def TP(fuel:Nat)(ag:List Method)(gm:List Atom):Option ((List Step)×(List Bool)):=
 (M3 (gm.length:Int) (false:Bool)).bind fun z5=>
 (C8 gm ag ([]:List Int) z5).bind fun eZ=>
 CG ag gm fuel ([]:List Step) z5 ([]:List Int) eZ.1.Atom eZ.1.Method eZ.2
theorem al3{fuel:Nat}{ag:List Method}{aa:Sv}{gm:List Atom}{ak:Sv}{R:(List Step)×(List Bool)}(hF:TP fuel ag gm=some R):
   Fw.Spec Tryz.prog 138 [aa.v,ak.v,(.func (.func 139) [].toArray [].toArray)] [dQ aa ag,bX ak gm] (fun p:Sv×List Nat×Sv×List Nat=>(.tuple [p.1.v,p.2.2.1.v].toArray)) (fun p=>[wy p.2.1 p.1 R.1,XH p.2.2.2 p.2.2.1 R.2]):=by
 refine Se 50 Tryz.func138 [.tmp 6,.tmp 7] ?_
 intro H0 F0
 unfold TP at hF
 refine au ?_
 refine bW (fun k1=>?_)
 refine bW (fun k2=>?_)
 refine bW (fun k3=>?_)
 refine aL ?_
 refine b_ rfl (bI (g:=true) Eo.h uW.h .nil (vs:=[]) rfl rfl rfl (by simp)) (fun k4=>?_)
 refine dh (.cons .h .nil) (bK (Ro:=(aj ww)) (E:=64) (F:=[]) (xs:=([]:List Step)) bJ rfl rfl) ?_
 refine bf ?_
 refine bnd hF fun z5 hx6 hF=>?_
 have hm7:=agF hx6
 refine b_ rfl (aoV (g:=true) (c:=(gm.length:Int)) aaK.h XG.h rfl rfl (by decide) (.tmp rfl rfl) hm7.2.1 hm7.2.2) (fun k8=>?_)
 refine dh (.cons .h .nil) (aqu (Ro:=(aj rdBool)) (E:=4) (a:=(false:Bool)) hx6 (fun _=>⟨rfl,rfl⟩)) ?_
 refine cO (fun k9=>?_)
 refine As (.slice (some ⟨k8,0,none⟩) (gm.length:Int).toNat 1) ?_
 refine aT ?_
 refine b_ rfl (bI (g:=true) bH.h bC.h .nil (vs:=[]) rfl rfl rfl (by simp)) (fun k10=>?_)
 refine dh (.cons .h .nil) (bK (Ro:=(aj ax)) (E:=3) (F:=[]) (xs:=([]:List Int)) bJ rfl rfl) ?_
 refine cO (fun k11=>?_)
 refine As (.slice (some ⟨k10,0,none⟩) 0 1) ?_
 refine aT ?_
 refine aK (rV (fn:=.func 186) (vs:=[]) (us:=[(pz k2),(pz k1),(pz k11),(pz k3),(pz k9)]) .nil bz) ?_
 refine bf ?_
 refine bnd hF fun eZ jc hF=>uV (.cons .q3 (.cons .q2 (.cons (.t .h) (.cons .h (.rd .q2 rfl (.rd .q5 rfl (.rd .q3 rfl (.rd .q4 rfl (.rd (.t .h) rfl .nil))))))))) (iW (pre:=_) (.cons bi (.cons H_ (.cons bi (.cons H_ .nil)))) (fun _=>.nil) (fM (.rd .q4 rfl (.rd .q5 rfl (.rd .q6 rfl (.rd .q7 rfl (.rd .h rfl (.rd (.t .h) rfl (.rd .q8 rfl (.rd .q2 rfl (.rd .q3 rfl .nil))))))))) (lm aiw.h (.tmp rfl rfl) .nil (@adF k2 gm ak k1 ag aa k11 ([]:List Int) (⟨(some ⟨k10,0,none⟩),0,1⟩) k3 k9 z5 (⟨(some ⟨k8,0,none⟩),(gm.length:Int).toNat,1⟩) _ jc)))) (fun _=>?_)
 refine au ?_
 refine zx ?_
 refine zx ?_
 refine cO (fun k15=>?_)
 refine As (zg [(zi eZ.1.Atom),(zi eZ.1.Method)]) ?_
 refine aT ?_
 refine bn (bU (m:=fuel) (fun JK f' cs'=>∃(g:Fr)(wU:List Step)(JL:List Bool)(jh:List Int)(uE lH:Int)(yo:Bool)(v58:Sv)(JN sZ:List Nat)(v63:Sv)(qR:List Nat)(XJ:Nat),f'=aR g [(4,(pz k2)),(8,v58.v),(9,(pz k9)),(10,(pz k11)),(11,(.func (.func 186) [].toArray [(pz k2),(pz k1),(pz k11),(pz k3),(pz k9)].toArray)),(12,(pz XJ)),(13,(.bool yo))]/\aP cs' [a_ k2 26 ak.v,bX ak gm,wy JN v58 wU,bq k9 106 (.slice (some ⟨k8,0,none⟩) (gm.length:Int).toNat 1),aJ (az 4 (aj rdBool)) sZ (.slice (some ⟨k8,0,none⟩) (gm.length:Int).toNat 1) JL,bq k11 24 v63.v,bv qR v63 jh,a_ k1 25 aa.v,dQ aa ag,a_ k3 155 (.func (.func 139) [].toArray [].toArray),bq XJ 64 (zg [(zi uE),(zi lH)])]/\CG ag gm JK wU JL jh uE lH yo=some R) ⟨_,_,_,_,_,_,_,⟨(some ⟨k4,0,none⟩),0,1⟩,(k4::[]),[k8],⟨(some ⟨k10,0,none⟩),0,1⟩,(k10::[]),k15,aB,aA,hF⟩ ?_)
 rintro JK _ _ ⟨g70,wU,JL,jh,uE,lH,yo,v58,JN,sZ,v63,qR,XJ,rfl,hE,hF⟩
 refine bM hE ?_
 rcases JK with _|JK
 · rw[CG]at hF
   exact absurd hF (by simp)
 rw[CG]at hF
 refine aL ?_
 refine Ci hF (fun auK hF=>?_) (fun auK hF=>?_)
 · refine bG ?_
   refine bnd hF fun u80 ayN hF=>?_
   have aj7:=HV ayN
   refine rA aaK.h XG.h.sz (.tmp rfl rfl) (.tmp rfl rfl) .q4 aj7 (fun vK ayO=>?_)
   refine bnd hF fun z82 ab_ hF=>?_
   replace ab_:=Option.some.inj ab_
   refine dC (.cons .q4 .nil) (D8 (Ro:=(aj rdBool)) (a:=true) (i:=uE) XG.h.sz rfl (.tmp rfl rfl) (.bool _) ayO aj7 (dK (fun _=>rfl)) (fun _ _ _ _ h=>by obtain⟨-,h⟩:=h; cases h; rfl)) (fun Cu=>?_)
   rw[ab_]
   refine au ?_
   refine dM [0,1,2,3,4,5,6,7,8] [0,0,0,4,14,30,62,127,255] [7,8] mixed (by decide+kernel) ?_
   refine dH rfl .no .q5 (fun ha hp=>fZ (v:=v63.v) fT.h (EN ha (.tmp rfl rfl) rfl) hp.2 rfl rfl) ?_
   refine bV ?_
   refine dH rfl .no .q10 (fun ha hp=>fZ (v:=(zi uE)) oI.h (EN ha (.tmp rfl rfl) rfl) hp.2 rfl rfl) ?_
   refine zI hF fun x85 aDT ab' hF=>?_
   refine Di ab' (fun qV j90=>?_)
   refine du ?_
   refine qG (R':=(aW 3 ax)) fT.h rfl .no (.tmp rfl rfl) rfl .h uS (fun w91=>?_)
   refine bnd hF fun JM hx93 hF=>bZ rfl rfl .no (.cons .q8 (.rd .h rfl .nil)) (.dep rfl (.dep rfl .nil)) (fun ha=>dL (Ro:=(aj ax)) bH.h gL bC.h rfl rfl rfl (EN ha (.tmp rfl rfl) rfl) (EN ha (.tmp rfl rfl) rfl) hx93 nK) (fun JO=>?_)
   refine bZ rfl rfl .no (.cons .q8 .nil) (.dep rfl (.dep rfl .nil)) (fun ha=>fA (e':=JO.1.v) fB.h.sz (EN ha (.tmp rfl rfl) rfl) (EN ha (.tmp rfl rfl) rfl) rfl rfl rfl rfl rfl) (fun _=>?_)
   refine du ?_
   refine aZ ?_
   refine b_ rfl (bI (g:=true) Eo.h uW.h bz (vs:=[(zg [(zi uE),(zi lH)])]) rfl rfl rfl (by intro v hv; simp at hv; rcases hv with rfl<;>rfl)) (fun k95=>?_)
   refine dh (.cons .h .nil) (bK (Ro:=(aj ww)) (E:=64) (F:=([]++[])) (xs:=([(⟨uE,lH⟩:Step)]:List Step)) (bS (dK (fun _=>rfl)) bJ bB) rfl rfl) ?_
   refine bnd hF fun z96 aca hF=>dC (.cons .q8 (.cons .h .nil)) (dL (Ro:=(aj ww)) Eo.h aju uW.h rfl rfl rfl (.tmp rfl rfl) (.tmp rfl rfl) aca eX) (fun p98=>?_)
   refine bQ ?_
   refine cO (fun k99=>?_)
   refine As (zg [(zi uE),(zi lH)]) ?_
   refine aZ ?_
   refine bnd hF fun y7 hx101 hF=>uV (.cons .q6 (.cons .q8 (.cons .q3 (.cons .q2 (.rd .q4 rfl (.rd .q5 rfl (.rd .q6 rfl (.rd .q7 rfl (.rd .q8 rfl .nil))))))))) (iW (pre:=_) (.cons bi (.cons H_ (.cons bi (.cons H_ .nil)))) (fun _=>.nil) (fM (.rd .q4 rfl (.rd .q5 rfl (.rd .q6 rfl (.rd .q7 rfl (.rd .h rfl (.rd (.t .h) rfl (.rd .q8 rfl (.rd .q2 rfl (.rd .q3 rfl .nil))))))))) (lm aiw.h (.tmp rfl rfl) .nil (@adF k2 gm ak k1 ag aa k11 JM JO.1 k3 k9 z82 (⟨(some ⟨k8,0,none⟩),(gm.length:Int).toNat,1⟩) _ hx101)))) (fun _=>?_)
   refine au ?_
   refine zx ?_
   refine zx ?_
   refine As (zg [(zi y7.1.Atom),(zi y7.1.Method)]) ?_
   refine aT ?_
   exact⟨JK,bY _,_,_,_,_,_,_,_,p98.1,p98.2,Cu,JO.1,JO.2,k99,aB,aA,hF⟩
 refine aL ?_
 refine dM [0,1,2,3] [0,0,1,7] [] mixed (by decide+kernel) ?_
 refine du ?_
 refine dH rfl .no .q3 (fun ha hp=>fZ (v:=(.slice (some ⟨k8,0,none⟩) (gm.length:Int).toNat 1)) atH.h (EN ha (.tmp rfl rfl) rfl) hp.2 rfl rfl) ?_
 refine fw ?_
 refine au ?_
 cases hF
 exact Er (v58,JN,⟨(some ⟨k8,0,none⟩),(gm.length:Int).toNat,1⟩,sZ)
def Lj(fuel:Nat)(ag:List Method)(gm:List Atom):Option ((List Step)×(List Bool)):=
 (TP fuel ag gm).bind fun r1=>
 some (r1.1,r1.2)
theorem ae9{fuel:Nat}{ag:List Method}{aa:Sv}{gm:List Atom}{ak:Sv}{R:(List Step)×(List Bool)}(hF:Lj fuel ag gm=some R):
   Fw.Spec Tryz.prog 76 [aa.v,ak.v] [dQ aa ag,bX ak gm] (fun p:Sv×List Nat×Sv×List Nat=>(.tuple [p.1.v,p.2.2.1.v].toArray)) (fun p=>[wy p.2.1 p.1 R.1,XH p.2.2.2 p.2.2.1 R.2]):=by
 refine Se 11 Tryz.func76 [.tmp 4,.tmp 5] ?_
 intro H0 F0
 unfold Lj at hF
 refine bQ ?_
 refine bnd hF fun r1 hx2 hF=>mV (al3 hx2) (fun p3=>?_)
 refine zx ?_
 refine zx ?_
 refine aL ?_
 cases hF
 exact Er (p3.1,p3.2.1,p3.2.2.1,p3.2.2.2)
def uL(ae:List Int):Option ((List Int)):=
 (app ([]:List Int) ae).bind fun z5=>
 some z5
theorem zC{ae:List Int}{aa:Sv}{R:(List Int)}(hF:uL ae=some R):
   Fw.Spec Tryz.prog 78 [aa.v] [ah aa ae] (fun p:Sv×List Nat=>p.1.v) (fun p=>[bv p.2 p.1 R]):=by
 refine Se 8 Tryz.func78 [.tmp 2] ?_
 intro H0 F0
 unfold uL at hF
 refine bG ?_
 refine ahl (xs:=ae) bH.h (.tmp rfl rfl) .h agH (fun bn1 hn2=>?_)
 refine au ?_
 refine Cc (fun hb3=>?_) (fun hb3=>?_)
 · have hnil:=hn2 hb3
   replace hF:some []=some R:=by rw[hnil]at hF; simpa[app]using hF
   refine aL ?_
   cases hF
   exact eO (⟨none,0,0⟩,[]) (.tmp rfl rfl .nil) rfl (.conv .nil (fu (Ro:=(aj ax)) (E:=3)) (.cons .nil) (.sel (.cons .h .nil)))
 refine aT ?_
 refine b_ rfl (bI (g:=true) bH.h bC.h .nil (vs:=[]) rfl rfl rfl (by simp)) (fun k4=>?_)
 refine dh (.cons .h .nil) (bK (Ro:=(aj ax)) (E:=3) (F:=[]) (xs:=([]:List Int)) bJ rfl rfl) ?_
 refine au ?_
 refine bnd hF fun z5 hx6 hF=>dC (.cons .h (.rd .h rfl .nil)) (dL (Ro:=(aj ax)) bH.h gL bC.h rfl rfl rfl (.tmp rfl rfl) (.tmp rfl rfl) hx6 nK) (fun p7=>?_)
 refine aZ ?_
 cases hF
 exact Er (p7.1,p7.2)
def UM(ay:Atom):Option (Atom):=
 (uL ay.Terms).bind fun r3=>
 some (⟨ay.Rel,r3⟩:Atom)
theorem anX{ay:Atom}{aQ:Sv}{R:Atom}(hF:UM ay=some R):
   Fw.Spec Tryz.prog 79 [(zg [(zi ay.Rel),aQ.v])] [ah aQ ay.Terms] (fun p:Sv×List Nat=>(zg [(zi R.Rel),p.1.v])) (fun p=>[bv p.2 p.1 R.Terms]):=by
 refine Se 9 Tryz.func79 [.cell 2 66] ?_
 intro H0 F0
 unfold UM at hF
 refine au ?_
 refine bW (fun k1=>?_)
 refine cO (fun k2=>?_)
 refine au ?_
 refine dM [0,1,2,3,4,5,6] [0,1,0,4,12,31,63] [4,6] mixed (by decide+kernel) ?_
 refine sG ?_
 refine bnd hF fun r3 hx4 hF=>kZ (zC hx4) (fun p5=>?_)
 refine dJ rfl .no (fun ha=>gH kM.h rfl (vs:=[(zi ay.Rel),p5.1.v]) (.cons (EN ha (.tmp rfl rfl) rfl) (.cons (EN ha (.tmp rfl rfl) rfl) .nil)) (cells:=[(zi ay.Rel),p5.1.v]) rfl) ?_
 refine bZ rfl rfl .no (.cons (.t .h) .nil) .nil (fun ha=>fA (e':=(zg [(zi ay.Rel),p5.1.v])) (v:=(zg [(zi ay.Rel),p5.1.v])) kM.h.sz (EN ha (.tmp rfl rfl) rfl) (EN ha (.tmp rfl rfl) rfl) rfl rfl rfl rfl rfl) (fun _=>?_)
 refine du ?_
 refine au ?_
 cases hF
 exact Er (p5.1,p5.2)
def DZ(ae:List Int)(r6:(List Step)×(List Bool))(r9:(List Int)):List Atom->Nat->(List Atom)->Option (aO×Bool)
 |[],wV,og=>(Hq ae (⟨r9,og⟩:aO)).bind fun SN=>
   some ((⟨r9,og⟩:aO),SN)
 |uB::AO,wV,og=>((ix r6.2 (wV:Int)).bind fun wW=>
     if wW then (
       (UM uB).bind fun XT=>
       (app og ([XT]:List Atom)).bind fun z87=>
       some z87)
     else (
       some og)).bind fun o70=>
   match o70 with
   |c91=>DZ ae r6 r9 AO (wV+1) c91
def LM(fuel:Nat)(ae:List Int)(ag:List Method)(ai:aO):Option (aO×Bool):=
 (KT ag).bind fun r3=>
 (Lj fuel r3 ai.Atoms).bind fun r6=>
 (uL ai.Head).bind fun r9=>
 DZ ae r6 r9 ai.Atoms 0 ([]:List Atom)
theorem af7{fuel:Nat}{ae:List Int}{aa:Sv}{ag:List Method}{ak:Sv}{ai:aO}{bu dw:Sv}{R:aO×Bool}(hF:LM fuel ae ag ai=some R):
   Fw.Spec Tryz.prog 30 [aa.v,ak.v,(zg [bu.v,dw.v])] [ah aa ae,dQ ak ag,ah bu ai.Head,bX dw ai.Atoms] (fun p:Sv×List Nat×Sv×List Nat=>(.tuple [(zg [p.1.v,p.2.2.1.v]),(.bool R.2)].toArray)) (fun p=>[bv p.2.1 p.1 R.1.Head,mq p.2.2.2 p.2.2.1 R.1.Atoms]):=by
 refine Se 49 Tryz.func30 [.cell 6 28,.tmp 7] ?_
 intro H0 F0
 unfold LM at hF
 refine au ?_
 refine bW (fun k1=>?_)
 refine cO (fun k2=>?_)
 refine aT ?_
 refine dM [0,2,3,1,4,5,6,7,8,9] [0,1,0,4,15,31,63,63,127,511] [1,4] mixed (by decide+kernel) ?_
 refine fw ?_
 refine bnd hF fun r3 hx4 hF=>kZ (aep hx4) (fun p5=>?_)
 refine bnd hF fun r6 hx7 hF=>AL rfl rfl .no (.cons .h (.rd .q5 rfl .nil)) .nil (fun ha=>eY bi (fun _=>(.cons (.cons .nil))) (bP ajs.h (.cons (EN ha (.tmp rfl rfl) rfl) (.cons (EN ha (.tmp rfl rfl) rfl) .nil)) (ae9 hx7))) (fun p8=>?_)
 refine du ?_
 refine dJ rfl .no (fun ha=>qz (l:=[p8.1.v,p8.2.2.1.v]) (v:=p8.1.v) (EN ha (.tmp rfl rfl) rfl) rfl) ?_
 refine dJ rfl .no (fun ha=>qz (l:=[p8.1.v,p8.2.2.1.v]) (v:=p8.2.2.1.v) (EN ha (.tmp rfl rfl) rfl) rfl) ?_
 refine fw ?_
 refine aZ ?_
 refine bnd hF fun r9 gu hF=>dW (zC gu) (fun jI=>?_)
 refine aK (gH gI.h rfl (vs:=[jI.1.v]) bz (cells:=[jI.1.v,(.slice none 0 0)]) rfl) ?_
 refine cO (fun k12=>?_)
 refine As (zg [jI.1.v,(.slice none 0 0)]) ?_
 refine fI ?_
 refine bn (bU (m:=ai.Atoms.length) (fun m56 f' cs'=>∃(g:Fr)(wV:Nat)(AO og:List Atom)(v53:Sv)(wX:List Nat),m56=AO.length/\f'=aR g [(0,aa.v),(6,(pz k2)),(9,p8.2.2.1.v),(10,(pz k12)),(26,dw.v),(27,(zi (ai.Atoms.length:Int))),(28,(zi (wV:Int)))]/\List.drop wV ai.Atoms=AO/\aP cs' [ah aa ae,bq k2 28 (zg [(.slice none 0 0),(.slice none 0 0)]),XH p8.2.2.2 p8.2.2.1 r6.2,bq k12 28 (zg [jI.1.v,v53.v]),bv jI.2 jI.1 r9,mq wX v53 og,bX dw ai.Atoms]/\DZ ae r6 r9 AO wV og=some R) ⟨_,0,_,_,⟨none,0,0⟩,[],rfl,aB,rfl,(.conv .nil (fu (Ro:=jO) (E:=66)) (.cons .nil) aA),hF⟩ ?_)
 rintro m56 _ _ ⟨g57,wV,AO,og,v53,wX,rfl,rfl,aj8,hE,hF⟩
 refine Kb hE ai.Atoms (fun aB2=>?_)
 rcases AO with _|⟨uB,AO⟩
 · have ayP:=dn aj8
   rw[DZ]at hF
   refine aL ?_
   refine dE ?_
   refine aL ?_
   refine dM [0,1,2,3,4,5] [0,0,0,6,15,31] [3,4] mixed (by decide+kernel) ?_
   refine dH rfl .no .q3 (fun ha hp=>gM jo.h gI.h.sz rfl (EN ha (.tmp rfl rfl) rfl) hp.2 rfl) ?_
   refine du ?_
   refine dH rfl .no .q3 (fun ha hp=>gM jo.h gI.h.sz rfl (EN ha (.tmp rfl rfl) rfl) hp.2 rfl) ?_
   refine bnd hF fun SN I4 hF=>lq rfl rfl .no (.cons .q5 (.cons .q4 (.rd .h rfl .nil))) (.dep rfl (.own .q3 (fun _ h=>h) .nil)) (fun ha=>iW (pre:=_) (.cons bi (.cons bi .nil)) (fun _=>.nil) (fM (.rd .q2 rfl (.rd .h rfl (.rd (.t .h) rfl .nil))) (bP axx.h (.cons (EN ha (.tmp rfl rfl) rfl) (.cons (EN ha (.tmp rfl rfl) rfl) .nil)) (YN I4)))) (fun _=>?_)
   refine bZ rfl rfl .no (.cons .q3 .nil) (.dep rfl (.dep rfl .nil)) (fun ha=>fA (e':=(zg [jI.1.v,v53.v])) (v:=(zg [jI.1.v,v53.v])) gI.h.sz (EN ha (.tmp rfl rfl) rfl) (EN ha (.tmp rfl rfl) rfl) rfl rfl rfl rfl rfl) (fun _=>?_)
   refine bV ?_
   refine au ?_
   cases hF
   exact eO (jI.1,jI.2,v53,wX) (.cellA rfl rfl .h rfl jo.h gI.h.sz rfl rfl (.tmp rfl rfl .nil)) rfl (.sel (.cons .q2 (.cons (.t .h) .nil)))
 obtain⟨ayP,BA,ayQ⟩:=dA aj8
 rw[DZ]at hF
 refine aL ?_
 refine dD ?_
 refine au ?_
 obtain⟨o70,auL,ayR⟩:=bind_some hF
 refine gN (fun f' cs'=>∃(c91:List Atom)(Cv:Sv)(JP:List Nat)(g:Fr),c91=o70/\f'=aR g [(0,aa.v),(6,(pz k2)),(9,p8.2.2.1.v),(10,(pz k12)),(26,dw.v),(27,(zi (ai.Atoms.length:Int))),(28,(zi (wV:Int)))]/\aP cs' [ah aa ae,bq k2 28 (zg [(.slice none 0 0),(.slice none 0 0)]),XH p8.2.2.2 p8.2.2.1 r6.2,bq k12 28 (zg [jI.1.v,Cv.v]),bv jI.2 jI.1 r9,mq JP Cv c91,bX dw ai.Atoms]) ?_ ?_
 · replace hF:=auL
   refine bn (cB (Cm (zi (wV:Int)) rfl rfl ?_))
   refine Ai BA (fun k72 j73=>?_)
   refine j_ (qZ uB) rZ (fun p74=>?_)
   refine cO (fun k75=>?_)
   refine au ?_
   refine As (zg [(zi uB.Rel),p74.v]) ?_
   refine aL ?_
   refine bnd hF fun wW Mx hF=>?_
   have ayS:=tZ Mx
   obtain⟨aDU,acb⟩:=qf Mx
   refine rA aaK.h XG.h.sz (.tmp rfl rfl) (.tmp rfl rfl) .q5 ayS (fun k76 ayT=>?_)
   refine Ij (w:=(.bool wW)) ag4.h (.tmp rfl rfl) .q5 ayT acb atJ ?_
   refine au ?_
   refine Ci hF (fun ayU hF=>?_) (fun ayU hF=>?_)
   · refine jK [0,1,2,3,4,5,6,7] [0,1,0,4,12,31,63,127] [3,5,7] mixed (by decide+kernel) ?_
     refine du ?_
     refine dH rfl .no .q6 (fun ha hp=>fZ (v:=v53.v) Em.h (EN ha (.tmp rfl rfl) rfl) hp.2 rfl rfl) ?_
     refine dH rfl .no .h (fun ha hp=>gM ajp.h kM.h.sz rfl (EN ha (.tmp rfl rfl) rfl) hp.2 rfl) ?_
     refine bnd hF fun XT Wz hF=>bZ rfl rfl .no (.rd (.t .h) rfl .nil) (.dep rfl (.own .q6 (fun _ h=>h) .nil)) (fun ha=>bP axz.h (.cons (EN ha (.tmp rfl rfl) rfl) .nil) (anX Wz)) (fun p85=>?_)
     refine gP rfl .no rfl (fun ha=>bI (g:=true) (len:=1) (parts:=[(0,.tmp 40)]) oC.h kM.h (.cons (EN ha (.tmp rfl rfl) rfl) .nil) (vs:=[(zg [(zi XT.Rel),p85.1.v])]) rfl rfl rfl (by intro v hv; simp at hv; rcases hv with rfl<;>rfl)) (fun k86=>?_)
     refine gZ (.cons .h (.cons .h .nil)) (bK (Ro:=jO) (E:=66) (F:=(p85.2++[])) (xs:=([XT]:List Atom)) (bS Bw bJ bB) rfl rfl) ?_
     refine bnd hF fun z87 ab' hF=>bZ rfl rfl .no (.cons .q9 (.cons .h .nil)) (.dep rfl (.dep rfl (.dep rfl .nil))) (fun ha=>dL (Ro:=jO) oC.h Mh kM.h rfl rfl rfl (EN ha (.tmp rfl rfl) rfl) (EN ha (.tmp rfl rfl) rfl) ab' eX) (fun p89=>?_)
     refine du ?_
     refine bZ rfl rfl .no (.cons .q7 .nil) (.dep rfl (.dep rfl (.dep rfl .nil))) (fun ha=>fA (e':=(zg [jI.1.v,p89.1.v])) We.h.sz (EN ha (.tmp rfl rfl) rfl) (EN ha (.tmp rfl rfl) rfl) rfl rfl rfl rfl rfl) (fun _=>?_)
     refine du ?_
     cases hF
     exact⟨_,p89.1,p89.2,_,rfl,aB,aA⟩
   refine au ?_
   cases hF
   exact⟨_,v53,wX,_,rfl,aB,aA⟩
 rintro _ _ ⟨c91,Cv,JP,g95,rfl,rfl,hE⟩
 replace hF:=ayR
 try dsimp only at hF
 refine bM hE ?_
 refine aL ?_
 rw[wk wV]
 exact⟨_,bY _,_,wV+1,AO,_,Cv,JP,rfl,aB,ayQ,aA,hF⟩
def Kv(fuel:Nat)(ae:List Int)(ag:List Method)(ai:aO):Option (aO×Bool):=
 (DK ae ag ai).bind fun r3=>
 if (!r3)then (
   some ((⟨[],[]⟩:aO),false))
 else (
   (LM fuel ae ag ai).bind fun r6=>
   if (!r6.2)then (
     some ((⟨[],[]⟩:aO),false))
   else (
     some (r6.1,true)))
theorem adq{fuel:Nat}{ae:List Int}{aa:Sv}{ag:List Method}{ak:Sv}{ai:aO}{bu dw:Sv}{R:aO×Bool}(hF:Kv fuel ae ag ai=some R):
   Fw.Spec Tryz.prog 8 [aa.v,ak.v,(zg [bu.v,dw.v])] [ah aa ae,dQ ak ag,ah bu ai.Head,bX dw ai.Atoms] (fun p:Sv×List Nat×Sv×List Nat=>(.tuple [(zg [p.1.v,p.2.2.1.v]),(.bool R.2)].toArray)) (fun p=>[bv p.2.1 p.1 R.1.Head,mq p.2.2.2 p.2.2.1 R.1.Atoms]):=by
 refine Se 27 Tryz.func8 [.cell 6 28,.tmp 7] ?_
 intro H0 F0
 unfold Kv at hF
 refine au ?_
 refine bW (fun k1=>?_)
 refine cO (fun k2=>?_)
 refine bQ ?_
 refine bnd hF fun r3 hx4 hF=>bR (Ui hx4) (fun _=>?_)
 refine aT ?_
 refine Ci hF (fun QL hF=>?_) (fun QL hF=>?_)
 · refine au ?_
   refine aK (gH gI.h rfl (vs:=[]) .nil (cells:=[(.slice none 0 0),(.slice none 0 0)]) rfl) ?_
   refine As (zg [(.slice none 0 0),(.slice none 0 0)]) ?_
   refine aZ ?_
   cases hF
   exact eO (⟨none,0,0⟩,[],⟨none,0,0⟩,[]) (.cellA rfl rfl .h rfl jo.h gI.h.sz rfl rfl (.tmp rfl rfl .nil)) rfl (.conv .nil (fu (Ro:=(aj ax)) (E:=3)) (.cons .nil) (.conv .nil (fu (Ro:=jO) (E:=66)) (.cons .nil) (.sel (.cons (.t .h) (.cons .h .nil)))))
 refine bf ?_
 refine bnd hF fun r6 hx7 hF=>mV (af7 hx7) (fun p8=>?_)
 refine au ?_
 refine zx ?_
 refine zx ?_
 refine cO (fun k9=>?_)
 refine As (zg [p8.1.v,p8.2.2.1.v]) ?_
 refine bQ ?_
 refine Ci hF (fun acd hF=>?_) (fun acd hF=>?_)
 · refine au ?_
   refine aK (gH gI.h rfl (vs:=[]) .nil (cells:=[(.slice none 0 0),(.slice none 0 0)]) rfl) ?_
   refine As (zg [(.slice none 0 0),(.slice none 0 0)]) ?_
   refine aZ ?_
   cases hF
   exact eO (⟨none,0,0⟩,[],⟨none,0,0⟩,[]) (.cellA rfl rfl .h rfl jo.h gI.h.sz rfl rfl (.tmp rfl rfl .nil)) rfl (.conv .nil (fu (Ro:=(aj ax)) (E:=3)) (.cons .nil) (.conv .nil (fu (Ro:=jO) (E:=66)) (.cons .nil) (.sel (.cons (.t .h) (.cons .h .nil)))))
 refine aZ ?_
 refine As (zg [p8.1.v,p8.2.2.1.v]) ?_
 refine aZ ?_
 cases hF
 exact eO (p8.1,p8.2.1,p8.2.2.1,p8.2.2.2) (.cellA rfl rfl .h rfl jo.h gI.h.sz rfl rfl (.tmp rfl rfl .nil)) rfl (.sel (.cons .q2 (.cons .q2 .nil)))
def CL:List Int->Nat->(List Int)->Option ((List Int))
 |[],lg,l6=>some l6
 |vI::oW,lg,l6=>((DY vI).bind fun oK=>
     if oK then (
       (app l6 ([vI]:List Int)).bind fun z52=>
       some z52)
     else (
       some l6)).bind fun JE=>
   match JE with
   |ym=>CL oW (lg+1) ym
def CO:List Atom->Nat->(List Int)->Option ((List Int))
 |[],k8,c2=>(Fu c2).bind fun iq=>
   (Fq iq).bind fun nG=>
   some nG
 |fq::fD,k8,c2=>(CL fq.Terms 0 c2).bind fun Cs=>
   match Cs with
   |qU=>CO fD (k8+1) qU
def TT(gm:List Atom):Option ((List Int)):=
 CO gm 0 ([]:List Int)
theorem amb{gm:List Atom}{aa:Sv}{R:(List Int)}(hF:TT gm=some R):
   Fw.Spec Tryz.prog 98 [aa.v,(.func (.func 99) [].toArray [].toArray)] [bX aa gm] (fun p:Sv×List Nat=>p.1.v) (fun p=>[bv p.2 p.1 R]):=by
 refine Se 37 Tryz.func98 [.tmp 4] ?_
 intro H0 F0
 unfold TT at hF
 refine aL ?_
 refine b_ rfl (bI (g:=true) bH.h bC.h .nil (vs:=[]) rfl rfl rfl (by simp)) (fun k1=>?_)
 refine dh (.cons .h .nil) (bK (Ro:=(aj ax)) (E:=3) (F:=[]) (xs:=([]:List Int)) bJ rfl rfl) ?_
 refine fI ?_
 refine bn (bU (m:=gm.length) (fun m6 f' cs'=>∃(g:Fr)(k8:Nat)(fD:List Atom)(c2:List Int)(v3:Sv)(F4:List Nat),m6=fD.length/\f'=aR g [(1,(.func (.func 99) [].toArray [].toArray)),(5,v3.v),(11,aa.v),(12,(zi (gm.length:Int))),(13,(zi (k8:Int)))]/\List.drop k8 gm=fD/\aP cs' [bv F4 v3 c2,bX aa gm]/\CO fD k8 c2=some R) ⟨_,0,_,_,⟨(some ⟨k1,0,none⟩),0,1⟩,(k1::[]),rfl,aB,rfl,aA,hF⟩ ?_)
 rintro m6 _ _ ⟨g7,k8,fD,c2,v3,F4,rfl,rfl,jA,hE,hF⟩
 refine Kb hE gm (fun LX=>?_)
 rcases fD with _|⟨fq,fD⟩
 · have u7:=dn jA
   rw[CO]at hF
   refine aL ?_
   refine dE ?_
   refine bG ?_
   refine bnd hF fun iq iL hF=>dW (Yf iL) (fun yl=>?_)
   refine aZ ?_
   refine bnd hF fun nG nS hF=>dW (Ye nS) (fun iI=>?_)
   refine aZ ?_
   cases hF
   exact Er (iI.1,iI.2)
 obtain⟨u7,jc,u_⟩:=dA jA
 rw[CO]at hF
 refine aL ?_
 refine dD ?_
 refine au ?_
 obtain⟨Cs,aaT,ab6⟩:=bind_some hF
 refine gN (fun f' cs'=>∃(qU:List Int)(v62:Sv)(JF:List Nat)(g:Fr),qU=Cs/\f'=aR g [(1,(.func (.func 99) [].toArray [].toArray)),(5,v62.v),(11,aa.v),(12,(zi (gm.length:Int))),(13,(zi (k8:Int)))]/\aP cs' [bv JF v62 qU,bX aa gm]) ?_ ?_
 · replace hF:=aaT
   refine bn (cB (rF (a:=fq) oC.h kM.h.sz (.tmp rfl rfl) (.tmp rfl rfl) (.t .h) (Int.natCast_nonneg k8) jc (fun k25 j26=>?_)))
   refine j_ (qZ fq) rZ (fun p27=>?_)
   refine cO (fun k28=>?_)
   refine As (zg [(zi fq.Rel),p27.v]) ?_
   refine bQ ?_
   refine bn (bU (m:=fq.Terms.length) (fun SK f' cs'=>∃(g:Fr)(lg:Nat)(oW l6:List Int)(v30:Sv)(Ct:List Nat),SK=oW.length/\f'=aR g [(1,(.func (.func 99) [].toArray [].toArray)),(5,v30.v),(11,aa.v),(12,(zi (gm.length:Int))),(13,(zi (k8:Int))),(18,p27.v),(19,(zi (fq.Terms.length:Int))),(20,(zi (lg:Int)))]/\List.drop lg fq.Terms=oW/\aP cs' [bv Ct v30 l6,bX aa gm,ah p27 fq.Terms]/\CL oW lg l6=some Cs) ⟨_,0,_,_,v3,F4,rfl,aB,rfl,aA,hF⟩ ?_)
   rintro SK _ _ ⟨g34,lg,oW,l6,v30,Ct,rfl,rfl,hd38,hE,hF⟩
   refine Kb hE fq.Terms (fun auJ=>?_)
   rcases oW with _|⟨vI,oW⟩
   · have ab7:=dn hd38
     rw[CL]at hF
     refine aL ?_
     refine dE ?_
     refine aL ?_
     cases hF
     exact⟨_,v30,Ct,_,rfl,aB,aA⟩
   obtain⟨ab7,sH,Mw⟩:=dA hd38
   rw[CL]at hF
   refine aL ?_
   refine dD ?_
   refine au ?_
   obtain⟨JE,aaU,ab8⟩:=bind_some hF
   refine gN (fun f' cs'=>∃(ym:List Int)(v57:Sv)(JG:List Nat)(g:Fr),ym=JE/\f'=aR g [(1,(.func (.func 99) [].toArray [].toArray)),(5,v57.v),(11,aa.v),(12,(zi (gm.length:Int))),(13,(zi (k8:Int))),(18,p27.v),(19,(zi (fq.Terms.length:Int))),(20,(zi (lg:Int)))]/\aP cs' [bv JG v57 ym,bX aa gm,ah p27 fq.Terms]) ?_ ?_
   · replace hF:=aaU
     refine bn (cB (rF (a:=vI) bH.h bC.h.sz (.tmp rfl rfl) (.tmp rfl rfl) .q2 (Int.natCast_nonneg lg) sH (fun vF j47=>?_)))
     refine Al dN ?_
     refine bf ?_
     refine bnd hF fun oK nU hF=>mh .nil (lm axy.h (.tmp rfl rfl) bz (NV nU)) (fun _=>?_)
     refine au ?_
     refine Ci hF (fun BI hF=>?_) (fun BI hF=>?_)
     · refine aZ ?_
       refine b_ rfl (bI (g:=true) bH.h bC.h bz (vs:=[(zi vI)]) rfl rfl rfl (by intro v hv; simp at hv; rcases hv with rfl<;>rfl)) (fun XQ=>?_)
       refine dh (.cons .h .nil) (bK (Ro:=(aj ax)) (E:=3) (F:=([]++[])) (xs:=([vI]:List Int)) (bS (dK (fun _=>rfl)) bJ bB) rfl rfl) ?_
       refine bnd hF fun z52 xO hF=>dC (.cons .q2 (.cons .h .nil)) (dL (Ro:=(aj ax)) bH.h gL bC.h rfl rfl rfl (.tmp rfl rfl) (.tmp rfl rfl) xO eX) (fun p54=>?_)
       refine aT ?_
       cases hF
       exact⟨_,p54.1,p54.2,_,rfl,aB,aA⟩
     refine au ?_
     cases hF
     exact⟨_,v30,Ct,_,rfl,aB,aA⟩
   rintro _ _ ⟨ym,v57,JG,g60,rfl,rfl,hE⟩
   replace hF:=ab8
   try dsimp only at hF
   refine bM hE ?_
   refine aL ?_
   rw[wk lg]
   exact⟨_,bY _,_,lg+1,oW,_,v57,JG,rfl,aB,Mw,aA,hF⟩
 rintro _ _ ⟨qU,v62,JF,g65,rfl,rfl,hE⟩
 replace hF:=ab6
 try dsimp only at hF
 refine bM hE ?_
 refine aL ?_
 rw[wk k8]
 exact⟨_,bY _,_,k8+1,fD,_,v62,JF,rfl,aB,u_,aA,hF⟩
def yC(ai:aO):Option ((List Int)):=
 (TT ai.Atoms).bind fun r2=>
 some r2
theorem Kw{ai:aO}{aa aQ:Sv}{R:(List Int)}(hF:yC ai=some R):
   Fw.Spec Tryz.prog 47 [(zg [aa.v,aQ.v])] [ah aa ai.Head,bX aQ ai.Atoms] (fun p:Sv×List Nat=>p.1.v) (fun p=>[bv p.2 p.1 R]):=by
 refine Se 6 Tryz.func47 [.tmp 2] ?_
 intro H0 F0
 unfold yC at hF
 refine au ?_
 refine bW (fun k1=>?_)
 refine bf ?_
 refine bnd hF fun r2 hx3 hF=>dW (amb hx3) (fun p4=>?_)
 refine aZ ?_
 cases hF
 exact Er (p4.1,p4.2)
def TL(ed:Int):Option (List Int):=
 if 0<=ed/\ed<4294967296 then some []else none
theorem al1{ed:Int}{R:List Int}(hF:TL ed=some R):
   Fw.Spec Tryz.prog 156 [(.slice none 0 0),.int .i64 ed] [] (fun p:Sv×List Nat=>p.1.v) (fun p=>[aJ (az 3 (aj ax)) p.2 p.1.v R]):=by
 unfold TL at hF
 split at hF
 · rename_i h
   obtain⟨h0,h1⟩:=h
   cases hF
   obtain⟨q,rfl⟩:∃q:Nat,ed=(q:Int):=⟨ed.toNat,by omega⟩
   have w0:IntKind.i64.wrap ((0:Int)-((0:Nat):Int))=0:=by decide
   have w1:IntKind.i64.wrap ((q:Int)-0)=(q:Int):=by rw[dX (by omega) (by omega)]; omega
   refine zV (n:=27) Tryz.func156 rfl rfl (rs:=[.tmp 4]) rfl rfl rfl ?_
   intro H0 F0
   iterate 8 refine au ?_
   refine kQ (b:=(decide ((q:Int)<0))) (.tmp rfl rfl) (fun hb=>absurd hb (by simp only[decide_eq_true_eq]; omega)) (fun _=>?_)
   iterate 5 refine au ?_
   refine aK (agQ bH.h (.tmp rfl rfl)) ?_
   refine au ?_
   refine aK (qD (l:=0) bH.h (.tmp rfl rfl) ⟨none,0,rfl⟩) ?_
   refine au ?_
   rw[w0]
   refine au ?_
   rw[w1]
   iterate 6 refine au ?_
   refine kQ (b:=(decide ((0:Int)<(q:Int)))) (.tmp rfl rfl) (fun hb=>?_) (fun hb=>?_)
   · have hq:0<q:=by simp only[decide_eq_true_eq]at hb; omega
     iterate 3 refine au ?_
     refine aK (agQ bH.h (.tmp rfl rfl)) ?_
     refine aK (aop bH.h bC.h.sz (.tmp rfl rfl) (.tmp rfl rfl)) ?_
     refine au ?_
     refine dC .nil (ap9 (Ro:=(aj ax)) (E:=3) bH.h SA bC.h rfl rfl rfl (by exact .tmp rfl rfl) (by exact .tmp rfl rfl) hq (by omega)) (fun k=>?_)
     refine au ?_
     refine aK (qD (l:=0) bH.h (.tmp rfl rfl) ⟨none,0,rfl⟩) ?_
     refine apF (i:=((0:Nat):Int)) bH.h bC.h.sz (by exact .tmp rfl rfl) (.inr rfl) (by exact .tmp rfl rfl) .h rfl (by omega) (by omega) (by omega) ?_
     iterate 7 refine au ?_
     exact eO (⟨some ⟨k,0,none⟩,0,2⟩,[k]) (.tmp rfl rfl .nil) rfl (.sel (.cons .h .nil))
   · iterate 6 refine au ?_
     exact eO (⟨none,0,0⟩,[]) (.tmp rfl rfl .nil) rfl (.conv .nil (fu (Ro:=(aj ax)) (E:=3)) (.cons .nil) (.sel (.cons .h .nil)))
 · simp at hF
def Ff:List (List Int)->Nat->(List Int)->Option ((List Int))
 |[],k23,c17=>some c17
 |x25::AP,k23,c17=>(app c17 x25).bind fun z35=>
   Ff AP (k23+1) z35
def CE(nJ:List (List Int)):List (List Int)->Nat->Int->Option ((List Int))
 |[],k5,c1=>(TL c1).bind fun iK=>
   Ff nJ 0 iK
 |x7::eP,k5,c1=>(if (decide (((IntKind.i64.wrap (c1+(x7.length:Int))):Int)<0))then (
       none)
     else (
       some ())).bind fun JQ=>
   match JQ with
   |_=>CE nJ eP (k5+1) (IntKind.i64.wrap (c1+(x7.length:Int)))
def Ko(nJ:List (List Int)):Option ((List Int)):=
 CE nJ nJ 0 0
theorem ada{nJ:List (List Int)}{aa:Sv}{R:(List Int)}(hF:Ko nJ=some R):
   Fw.Spec Tryz.prog 85 [aa.v] [bT (aW 24 (aW 3 ax)) aa.v nJ] (fun p:Sv×List Nat=>p.1.v) (fun p=>[bv p.2 p.1 R]):=by
 refine Se 36 Tryz.func85 [.tmp 2] ?_
 intro H0 F0
 unfold Ko at hF
 refine Ei ?_
 refine bn (bU (m:=nJ.length) (fun m3 f' cs'=>∃(g:Fr)(k5:Nat)(eP:List (List Int))(c1:Int),m3=eP.length/\f'=aR g [(0,aa.v),(3,(zi c1)),(9,aa.v),(10,(zi (nJ.length:Int))),(11,(zi (k5:Int)))]/\List.drop k5 nJ=eP/\aP cs' [bT (aW 24 (aW 3 ax)) aa.v nJ]/\CE nJ eP k5 c1=some R) ⟨_,0,_,_,rfl,aB,rfl,aA,hF⟩ ?_)
 rintro m3 _ _ ⟨g4,k5,eP,c1,rfl,rfl,mY,hE,hF⟩
 refine Kb hE nJ (fun Im=>?_)
 rcases eP with _|⟨x7,eP⟩
 · have tq:=dn mY
   rw[CE]at hF
   refine aL ?_
   refine dE ?_
   refine bG ?_
   refine bnd hF fun iK mR hF=>dW (al1 mR) (fun p16=>?_)
   refine fI ?_
   refine bn (bU (m:=nJ.length) (fun m21 f' cs'=>∃(g:Fr)(k23:Nat)(AP:List (List Int))(c17:List Int)(v18:Sv)(F19:List Nat),m21=AP.length/\f'=aR g [(6,v18.v),(25,aa.v),(26,(zi (nJ.length:Int))),(27,(zi (k23:Int)))]/\List.drop k23 nJ=AP/\aP cs' [bv F19 v18 c17,bT (aW 24 (aW 3 ax)) aa.v nJ]/\Ff AP k23 c17=some R) ⟨_,0,_,_,p16.1,p16.2,rfl,aB,rfl,aA,hF⟩ ?_)
   rintro m21 _ _ ⟨g22,k23,AP,c17,v18,F19,rfl,rfl,WA,hE,hF⟩
   refine Kb hE nJ (fun aB3=>?_)
   rcases AP with _|⟨x25,AP⟩
   · have ayV:=dn WA
     rw[Ff]at hF
     refine aL ?_
     refine dE ?_
     refine eU ?_
     cases hF
     exact Er (v18,F19)
   obtain⟨ayV,hx28,hd29⟩:=dA WA
   rw[Ff]at hF
   refine aL ?_
   refine dD ?_
   refine aZ ?_
   refine Ai hx28 (fun wR j33=>?_)
   refine ng (R':=(aW 3 ax)) fT.h (.tmp rfl rfl) .h rC (fun w34=>?_)
   refine bf ?_
   refine bnd hF fun z35 uX hF=>dC (.cons .q2 (.rd .h rfl .nil)) (dL (Ro:=(aj ax)) bH.h gL bC.h rfl rfl rfl (.tmp rfl rfl) (.tmp rfl rfl) uX nK) (fun p37=>?_)
   refine bG ?_
   rw[wk k23]
   exact⟨_,bY _,_,k23+1,AP,_,p37.1,p37.2,rfl,aB,hd29,aA,hF⟩
 obtain⟨tq,gu,jA⟩:=dA mY
 rw[CE]at hF
 refine aL ?_
 refine dD ?_
 refine au ?_
 obtain⟨JQ,aaW,ace⟩:=bind_some hF
 refine gN (fun f' cs'=>∃(g:Fr),JQ=()/\f'=aR g [(0,aa.v),(3,(zi (IntKind.i64.wrap (c1+(x7.length:Int))))),(9,aa.v),(10,(zi (nJ.length:Int))),(11,(zi (k5:Int)))]/\aP cs' [bT (aW 24 (aW 3 ax)) aa.v nJ]) ?_ ?_
 · replace hF:=aaW
   refine bn (cB (rF (a:=x7) gJ.h fB.h.sz (.tmp rfl rfl) (.tmp rfl rfl) .h (Int.natCast_nonneg k5) gu (fun tC j42=>?_)))
   refine ng (R':=(aW 3 ax)) fT.h (.tmp rfl rfl) .h rC (fun w43=>?_)
   refine aiD ?_
   refine Ci hF (fun Q9 hF=>?_) (fun Q9 hF=>?_)
   · exact absurd hF (by simp)
   refine au ?_
   cases hF
   exact⟨_,rfl,aB,aA⟩
 rintro _ _ ⟨g46,rfl,rfl,hE⟩
 replace hF:=ace
 try dsimp only at hF
 refine bM hE ?_
 refine aL ?_
 rw[wk k5]
 exact⟨_,bY _,_,k5+1,eP,_,rfl,aB,jA,aA,hF⟩
def FL(aI:aM)(dY:Int):Option (Int):=
 (rQ (decide (0<=(if (aI.Values.length:Int)<(aI.Vars.length:Int)then (aI.Values.length:Int)else (aI.Vars.length:Int)))&&decide ((if (aI.Values.length:Int)<(aI.Vars.length:Int)then (aI.Values.length:Int)else (aI.Vars.length:Int))<=(aI.Vars.length:Int)))).bind fun u3=>
 (Kr (aI.Vars.take ((if (aI.Values.length:Int)<(aI.Vars.length:Int)then (aI.Values.length:Int)else (aI.Vars.length:Int))).toNat) dY).bind fun r6=>
 some r6
theorem adG{aI:aM}{aa aQ:Sv}{dY R:Int}(hF:FL aI dY=some R):
   Fw.Spec Tryz.prog 172 [(zg [aa.v,aQ.v]),(zi dY)] [ah aa aI.Vars,ah aQ aI.Values] (fun _:Unit=>(zi R)) (fun _=>[]):=by
 refine Se 17 Tryz.func172 [.tmp 4] ?_
 intro H0 F0
 unfold FL at hF
 refine au ?_
 refine bW (fun k1=>?_)
 refine v_ ?_
 refine aK (ast (i:=(aI.Vars.length:Int)) (j:=(aI.Values.length:Int)) (.tmp rfl rfl) (.tmp rfl rfl)) ?_
 refine bnd hF fun u3 hx5 hF=>?_
 have hc2:=HV hx5
 simp only[Bool.and_eq_true,decide_eq_true_eq]at hc2
 refine apB bH.h bC.h.sz (.tmp rfl rfl) (.tmp rfl rfl) (.t .h) hc2.1 hc2.2 (fun w4=>?_)
 refine au ?_
 refine bnd hF fun r6 hx7 hF=>bR (adc hx7) (fun _=>?_)
 exact ze hF
def xh(aI:aM)(oZ:Int):Option (Int):=
 (Eb oZ).bind fun r2=>
 if (!r2)then (
   some oZ)
 else (
   (FL aI oZ).bind fun r5=>
   if (decide ((r5:Int)<0))then (
     some (-1))
   else (
     (ix aI.Values r5).bind fun x8=>
     some x8))
theorem NY{aI:aM}{aa aQ:Sv}{oZ R:Int}(hF:xh aI oZ=some R):
   Fw.Spec Tryz.prog 106 [(zg [aa.v,aQ.v]),(zi oZ)] [ah aa aI.Vars,ah aQ aI.Values] (fun _:Unit=>(zi R)) (fun _=>[]):=by
 refine Se 20 Tryz.func106 [.tmp 4] ?_
 intro H0 F0
 unfold xh at hF
 refine au ?_
 refine bW (fun k1=>?_)
 refine bf ?_
 refine bnd hF fun r2 hx3 hF=>bR (OD hx3) (fun _=>?_)
 refine aT ?_
 refine Ci hF (fun Q7 hF=>?_) (fun Q7 hF=>?_)
 · exact ze hF
 refine aL ?_
 refine bnd hF fun r5 hx6 hF=>bR (adG hx6) (fun _=>?_)
 refine bQ ?_
 refine Ci hF (fun acf hF=>?_) (fun acf hF=>?_)
 · exact ze hF
 refine bf ?_
 refine zI hF fun x8 ab5 mD hF=>?_
 refine Ai mD (fun k12 j13=>?_)
 refine Al dN ?_
 exact ze hF
def Dx(ay:Atom)(aI:aM):List Int->Nat->(List Int)->Option (Fact)
 |[],zq,nD=>some (⟨ay.Rel,nD⟩:Fact)
 |x35::AQ,zq,nD=>(xh aI x35).bind fun oL=>
   (app nD ([oL]:List Int)).bind fun z48=>
   Dx ay aI AQ (zq+1) z48
def Ll(ay:Atom)(aI:aM):Option (Fact):=
 Dx ay aI ay.Terms 0 ([]:List Int)
theorem ao2{ay:Atom}{aQ:Sv}{aI:aM}{ak aU:Sv}{R:Fact}(hF:Ll ay aI=some R):
   Fw.Spec Tryz.prog 155 [(zg [(zi ay.Rel),aQ.v]),(zg [ak.v,aU.v])] [ah aQ ay.Terms,ah ak aI.Vars,ah aU aI.Values] (fun p:Sv×List Nat=>(zg [(zi R.Rel),p.1.v])) (fun p=>[bv p.2 p.1 R.Values]):=by
 refine Se 29 Tryz.func155 [.cell 4 71] ?_
 intro H0 F0
 unfold Ll at hF
 refine au ?_
 refine bW (fun k1=>?_)
 refine bW (fun k2=>?_)
 refine cO (fun k3=>?_)
 refine aL ?_
 refine b_ rfl (bI (g:=true) bH.h bC.h .nil (vs:=[]) rfl rfl rfl (by simp)) (fun k4=>?_)
 refine dh (.cons .h .nil) (bK (Ro:=(aj ax)) (E:=3) (F:=[]) (xs:=([]:List Int)) bJ rfl rfl) ?_
 refine aK (gH eG.h rfl (vs:=[(zi ay.Rel),(.slice (some ⟨k4,0,none⟩) 0 1)]) bz (cells:=[(zi ay.Rel),(.slice (some ⟨k4,0,none⟩) 0 1)]) rfl) ?_
 refine cO (fun k5=>?_)
 refine As (zg [(zi ay.Rel),(.slice (some ⟨k4,0,none⟩) 0 1)]) ?_
 refine fI ?_
 refine bn (bU (m:=ay.Terms.length) (fun zn f' cs'=>∃(g:Fr)(zq:Nat)(AQ nD:List Int)(v28:Sv)(Cn:List Nat),zn=AQ.length/\f'=aR g [(3,(pz k2)),(4,(pz k3)),(5,(pz k5)),(13,aQ.v),(14,(zi (ay.Terms.length:Int))),(15,(zi (zq:Int)))]/\List.drop zq ay.Terms=AQ/\aP cs' [a_ k2 85 (zg [ak.v,aU.v]),ah ak aI.Vars,ah aU aI.Values,bq k3 71 (zg [(zi 0),(.slice none 0 0)]),bq k5 71 (zg [(zi ay.Rel),v28.v]),bv Cn v28 nD,ah aQ ay.Terms]/\Dx ay aI AQ zq nD=some R) ⟨_,0,_,_,⟨(some ⟨k4,0,none⟩),0,1⟩,(k4::[]),rfl,aB,rfl,aA,hF⟩ ?_)
 rintro zn _ _ ⟨g32,zq,AQ,nD,v28,Cn,rfl,rfl,WB,hE,hF⟩
 refine Kb hE ay.Terms (fun aB4=>?_)
 rcases AQ with _|⟨x35,AQ⟩
 · have ayW:=dn WB
   rw[Dx]at hF
   refine aL ?_
   refine dE ?_
   refine bG ?_
   refine As (zg [(zi ay.Rel),v28.v]) ?_
   refine aT ?_
   cases hF
   exact Er (v28,Cn)
 obtain⟨ayW,hx38,hd39⟩:=dA WB
 rw[Dx]at hF
 refine aL ?_
 refine dD ?_
 refine aZ ?_
 refine Ai hx38 (fun k42 j43=>?_)
 refine Al dN ?_
 refine aT ?_
 refine jK [0,1,2,3,4,5,6,7,8] [0,1,0,0,12,28,63,127,255] [4,6,8] mixed (by decide+kernel) ?_
 refine du ?_
 refine dH rfl .no .q5 (fun ha hp=>fZ (v:=v28.v) fT.h (EN ha (.tmp rfl rfl) rfl) hp.2 rfl rfl) ?_
 refine bV ?_
 refine bnd hF fun oL uj hF=>Vv rfl rfl .no (.rd .q2 rfl (.rd .q3 rfl .nil)) (.own .q5 (fun _ h=>h) .nil) (fun ha=>bP VK.h (.cons (EN ha (.tmp rfl rfl) rfl) (.cons (EN ha (.tmp rfl rfl) rfl) .nil)) (NY uj)) (fun _=>?_)
 refine gP rfl .no rfl (fun ha=>bI (g:=true) (len:=1) (parts:=[(0,.tmp 23)]) bH.h bC.h (.cons (EN ha (.tmp rfl rfl) rfl) .nil) (vs:=[(zi oL)]) rfl rfl rfl (by intro v hv; simp at hv; rcases hv with rfl<;>rfl)) (fun k47=>?_)
 refine gZ (.cons .h .nil) (bK (Ro:=(aj ax)) (E:=3) (F:=([]++[])) (xs:=([oL]:List Int)) (bS (dK (fun _=>rfl)) bJ bB) rfl rfl) ?_
 refine bnd hF fun z48 nU hF=>bZ rfl rfl .no (.cons .q7 (.cons .h .nil)) (.dep rfl (.dep rfl .nil)) (fun ha=>dL (Ro:=(aj ax)) bH.h gL bC.h rfl rfl rfl (EN ha (.tmp rfl rfl) rfl) (EN ha (.tmp rfl rfl) rfl) nU eX) (fun p50=>?_)
 refine du ?_
 refine bZ rfl rfl .no (.cons .q6 .nil) (.dep rfl (.dep rfl .nil)) (fun ha=>fA (e':=(zg [(zi ay.Rel),p50.1.v])) fB.h.sz (EN ha (.tmp rfl rfl) rfl) (EN ha (.tmp rfl rfl) rfl) rfl rfl rfl rfl rfl) (fun _=>?_)
 refine du ?_
 refine aL ?_
 rw[wk zq]
 exact⟨_,bY _,_,zq+1,AQ,_,p50.1,p50.2,rfl,aB,hd39,aA,hF⟩
def Ny(dI:Int):Option (Bool):=
 some ((dI:Int)!=dI)
theorem adH{dI:Int}{R:Bool}(hF:Ny dI=some R):
   Fw.Spec Tryz.prog 184 [(zi dI)] [] (fun _:Unit=>(.bool R)) (fun _=>[]):=by
 refine Se 6 Tryz.func184 [.tmp 2] ?_
 intro H0 F0
 unfold Ny at hF
 exact ze hF
def Ku(dI:Int)(wY:Int):Option (Int):=
 (Ny dI).bind fun r1=>
 (Ny wY).bind fun r4=>
 if r1 then (
   if r4 then (
     some 0)
   else (
     some (-1)))
 else (
   if r4 then (
     some 1)
   else (
     if (decide ((dI:Int)<wY))then (
       some (-1))
     else (
       if (decide ((wY:Int)<dI))then (
         some 1)
       else (
         some 0))))
theorem adl{dI wY R:Int}(hF:Ku dI wY=some R):
   Fw.Spec Tryz.prog 133 [(zi dI),(zi wY)] [] (fun _:Unit=>(zi R)) (fun _=>[]):=by
 refine Se 20 Tryz.func133 [.tmp 4] ?_
 intro H0 F0
 unfold Ku at hF
 refine bf ?_
 refine bnd hF fun r1 hx2 hF=>bR (adH hx2) (fun _=>?_)
 refine aL ?_
 refine bnd hF fun r4 hx5 hF=>bR (adH hx5) (fun _=>?_)
 refine bG ?_
 refine Ci hF (fun QL hF=>?_) (fun QL hF=>?_)
 · refine aL ?_
   refine Ci hF (fun hb7 hF=>?_) (fun hb7 hF=>?_)
   · exact ze hF
   exact ze hF
 refine bf ?_
 refine Ci hF (fun acd hF=>?_) (fun acd hF=>?_)
 · exact ze hF
 refine bQ ?_
 refine Ci hF (fun hb9 hF=>?_) (fun hb9 hF=>?_)
 · exact ze hF
 refine bQ ?_
 refine Ci hF (fun hb8 hF=>?_) (fun hb8 hF=>?_)
 · exact ze hF
 exact ze hF
def CB(iy:List Int)(iM:List Int):List Int->Nat->Option (Int)
 |[],k4=>if (decide (((iy.length:Int):Int)<(iM.length:Int)))then (
     some (-1))
   else (
     some 0)
 |x6::aG,k4=>if (decide (((iM.length:Int):Int)<=(k4:Int)))then (
     some 1)
   else (
     (ix iM (k4:Int)).bind fun qa=>
     (Ku x6 qa).bind fun iJ=>
     if ((iJ:Int)!=0)then (
       some iJ)
     else (
       CB iy iM aG (k4+1)))
def Kn(iy:List Int)(iM:List Int):Option (Int):=
 CB iy iM iy 0
theorem ac'{iy:List Int}{aa:Sv}{iM:List Int}{ak:Sv}{R:Int}(hF:Kn iy iM=some R):
   Fw.Spec Tryz.prog 134 [aa.v,ak.v] [ah aa iy,ah ak iM] (fun _:Unit=>(zi R)) (fun _=>[]):=by
 refine Se 36 Tryz.func134 [.tmp 4] ?_
 intro H0 F0
 unfold Kn at hF
 refine eU ?_
 refine bn (bU (m:=iy.length) (fun m2 f' cs'=>∃(g:Fr)(k4:Nat)(aG:List Int),m2=aG.length/\f'=aR g [(0,aa.v),(1,ak.v),(9,aa.v),(10,(zi (iy.length:Int))),(11,(zi (k4:Int)))]/\List.drop k4 iy=aG/\aP cs' [ah aa iy,ah ak iM]/\CB iy iM aG k4=some R) ⟨_,0,_,rfl,aB,rfl,aA,hF⟩ ?_)
 rintro m2 _ _ ⟨g3,k4,aG,rfl,rfl,hd7,hE,hF⟩
 refine Kb hE iy (fun jL=>?_)
 rcases aG with _|⟨x6,aG⟩
 · have fG:=dn hd7
   rw[CB]at hF
   refine aL ?_
   refine dE ?_
   refine Ei ?_
   refine Ci hF (fun ayX hF=>?_) (fun ayX hF=>?_)
   · exact ze hF
   exact ze hF
 obtain⟨fG,dm,fF⟩:=dA hd7
 rw[CB]at hF
 refine aL ?_
 refine dD ?_
 refine aL ?_
 refine Ai dm (fun k14 M8=>?_)
 refine Al dN ?_
 refine lT ?_
 refine Ci hF (fun BM hF=>?_) (fun BM hF=>?_)
 · exact ze hF
 refine aL ?_
 refine zI hF fun qa Rk kC hF=>?_
 refine Ai kC (fun k20 zt=>?_)
 refine Al dN ?_
 refine bf ?_
 refine bnd hF fun iJ nz hF=>bR (adl nz) (fun _=>?_)
 refine bG ?_
 refine Ci hF (fun IZ hF=>?_) (fun IZ hF=>?_)
 · exact ze hF
 refine bf ?_
 rw[wk k4]
 exact⟨_,bY _,_,k4+1,aG,rfl,aB,fF,aA,hF⟩
def KD:List Int->Nat->Option (Int)
 |[],k4=>some 0
 |x6::aG,k4=>if ((x6:Int)!=0)then (
     some x6)
   else (
     KD aG (k4+1))
def NZ(AR:List Int):Option (Int):=
 KD AR 0
theorem am1{AR:List Int}{aa:Sv}{R:Int}(hF:NZ AR=some R):
   Fw.Spec Tryz.prog 132 [aa.v] [ah aa AR] (fun _:Unit=>(zi R)) (fun _=>[]):=by
 refine Se 18 Tryz.func132 [.tmp 2] ?_
 intro H0 F0
 unfold NZ at hF
 refine Ei ?_
 refine bn (bU (m:=AR.length) (fun m2 f' cs'=>∃(g:Fr)(k4:Nat)(aG:List Int),m2=aG.length/\f'=aR g [(3,(zi 0)),(6,aa.v),(7,(zi (AR.length:Int))),(8,(zi (k4:Int)))]/\List.drop k4 AR=aG/\aP cs' [ah aa AR]/\KD aG k4=some R) ⟨_,0,_,rfl,aB,rfl,aA,hF⟩ ?_)
 rintro m2 _ _ ⟨g3,k4,aG,rfl,rfl,hd7,hE,hF⟩
 refine Kb hE AR (fun jL=>?_)
 rcases aG with _|⟨x6,aG⟩
 · have fG:=dn hd7
   rw[KD]at hF
   refine aL ?_
   refine dE ?_
   exact ze hF
 obtain⟨fG,dm,fF⟩:=dA hd7
 rw[KD]at hF
 refine aL ?_
 refine dD ?_
 refine aZ ?_
 refine Ai dm (fun k13 lc=>?_)
 refine Al dN ?_
 refine bQ ?_
 refine Ci hF (fun QQ hF=>?_) (fun QQ hF=>?_)
 · exact ze hF
 refine bf ?_
 rw[wk k4]
 exact⟨_,bY _,_,k4+1,aG,rfl,aB,fF,aA,hF⟩
def C9(ay:Fact)(aI:Fact):Option (Int):=
 (Ku ay.Rel aI.Rel).bind fun r3=>
 (Kn ay.Values aI.Values).bind fun r6=>
 (NZ ([r3,r6]:List Int)).bind fun kK=>
 some kK
theorem TV{ay:Fact}{aQ:Sv}{aI:Fact}{aU:Sv}{R:Int}(hF:C9 ay aI=some R):
   Fw.Spec Tryz.prog 74 [(zg [(zi ay.Rel),aQ.v]),(zg [(zi aI.Rel),aU.v])] [ah aQ ay.Values,ah aU aI.Values] (fun _:Unit=>(zi R)) (fun _=>[]):=by
 refine Se 17 Tryz.func74 [.tmp 4] ?_
 intro H0 F0
 unfold C9 at hF
 refine au ?_
 refine bW (fun k1=>?_)
 refine bW (fun k2=>?_)
 refine aT ?_
 refine dM [0,1,2,3,5,6,7,8,4,9,10,11,12] [0,1,0,4,15,0,32,0,128,511,1023,2047,4095] [4,9,11] mixed (by decide+kernel) ?_
 refine ajL ?_
 refine bnd hF fun r3 hx4 hF=>jB (adl hx4) (fun _=>?_)
 refine bnd hF fun r6 hx7 hF=>jB (ac' hx7) (fun _=>?_)
 refine gP rfl .no rfl (fun ha=>bI (g:=true) (len:=2) (parts:=[(0,.tmp 9),(1,.tmp 14)]) bH.h bC.h (.cons (EN ha (.tmp rfl rfl) rfl) (.cons (EN ha (.tmp rfl rfl) rfl) .nil)) (vs:=[(zi r3),(zi r6)]) rfl rfl rfl (by intro v hv; simp at hv; rcases hv with rfl|rfl<;>rfl)) (fun k9=>?_)
 refine gZ (.cons .h .nil) (bK (Ro:=(aj ax)) (E:=3) (F:=([]++([]++[]))) (xs:=([r3,r6]:List Int)) (bS (dK (fun _=>rfl)) (bS (dK (fun _=>rfl)) bJ bB) bB) rfl rfl) ?_
 refine bnd hF fun kK mD hF=>bZ rfl rfl .no (.cons .h .nil) (.dep rfl .nil) (fun ha=>eY bi (fun _=>.nil) (bP atP.h (.cons (EN ha (.tmp rfl rfl) rfl) .nil) (@am1 ([r3,r6]:List Int) (⟨(some ⟨k9,0,none⟩),2,1⟩) _ mD))) (fun _=>?_)
 refine bV ?_
 exact ze hF
def Oh(dI:Fact)(aD:Fact):Option (Bool):=
 (C9 dI aD).bind fun r2=>
 some ((r2:Int)==0)
theorem ano{dI:Fact}{aQ:Sv}{bD:Nat}{aD:Fact}{fE:Sv}{R:Bool}(hF:Oh dI aD=some R):
   Fw.Spec Tryz.prog 219 [(zg [(zi dI.Rel),aQ.v]),(pz bD)] [ah aQ dI.Values,a_ bD 71 (zg [(zi aD.Rel),fE.v]),ah fE aD.Values] (fun _:Unit=>(.bool R)) (fun _=>[]):=by
 refine Se 8 Tryz.func219 [.tmp 3] ?_
 intro H0 F0
 unfold Oh at hF
 refine au ?_
 refine bW (fun k1=>?_)
 refine bf ?_
 refine bnd hF fun r2 hx3 hF=>bR (TV hx3) (fun _=>?_)
 exact ze hF
def J6(aD:Fact):List Fact->Nat->Option (Int)
 |[],k4=>some (-1)
 |x6::aG,k4=>(Oh x6 aD).bind fun r16=>
   if r16 then (
     some (k4:Int))
   else (
     J6 aD aG (k4+1))
def Tw(ae:List Fact)(aD:Fact):Option (Int):=
 J6 aD ae 0
theorem alB{ae:List Fact}{aa:Sv}{bD:Nat}{aD:Fact}{fE:Sv}{R:Int}(hF:Tw ae aD=some R):
   Fw.Spec Tryz.prog 195 [aa.v,(.func (.func 219) [].toArray [(pz bD)].toArray)] [cz aa ae,a_ bD 71 (zg [(zi aD.Rel),fE.v]),ah fE aD.Values] (fun _:Unit=>(zi R)) (fun _=>[]):=by
 refine Se 19 Tryz.func195 [.tmp 4] ?_
 intro H0 F0
 unfold Tw at hF
 refine eU ?_
 refine bn (bU (m:=ae.length) (fun m2 f' cs'=>∃(g:Fr)(k4:Nat)(aG:List Fact),m2=aG.length/\f'=aR g [(0,aa.v),(1,(.func (.func 219) [].toArray [(pz bD)].toArray)),(7,(zi (ae.length:Int))),(8,(zi (k4:Int)))]/\List.drop k4 ae=aG/\aP cs' [cz aa ae,a_ bD 71 (zg [(zi aD.Rel),fE.v]),ah fE aD.Values]/\J6 aD aG k4=some R) ⟨_,0,_,rfl,aB,rfl,aA,hF⟩ ?_)
 rintro m2 _ _ ⟨g3,k4,aG,rfl,rfl,hd7,hE,hF⟩
 refine Kb hE ae (fun jL=>?_)
 rcases aG with _|⟨x6,aG⟩
 · have fG:=dn hd7
   rw[J6]at hF
   refine aL ?_
   refine dE ?_
   exact ze hF
 obtain⟨fG,dm,fF⟩:=dA hd7
 rw[J6]at hF
 refine aL ?_
 refine dD ?_
 refine lT ?_
 refine Ai dm (fun k13 lc=>?_)
 refine j_ (mZ x6) nI (fun gT=>?_)
 refine bnd hF fun r16 jy hF=>mh (.rd .h rfl (.rd .q3 rfl (.rd .q4 rfl .nil))) (lm atO.h (.tmp rfl rfl) bz (ano jy)) (fun _=>?_)
 refine au ?_
 refine Ci hF (fun kW hF=>?_) (fun kW hF=>?_)
 · exact ze hF
 refine bf ?_
 rw[wk k4]
 exact⟨_,bY _,_,k4+1,aG,rfl,aB,fF,aA,hF⟩
def Nl(ae:List Fact)(aD:Fact):Option (Bool):=
 (Tw ae aD).bind fun r1=>
 some (decide ((0:Int)<=r1))
theorem alv{ae:List Fact}{aa:Sv}{bD:Nat}{aD:Fact}{fE:Sv}{R:Bool}(hF:Nl ae aD=some R):
   Fw.Spec Tryz.prog 218 [aa.v,(.func (.func 219) [].toArray [(pz bD)].toArray)] [cz aa ae,a_ bD 71 (zg [(zi aD.Rel),fE.v]),ah fE aD.Values] (fun _:Unit=>(.bool R)) (fun _=>[]):=by
 refine Se 9 Tryz.func218 [.tmp 4] ?_
 intro H0 F0
 unfold Nl at hF
 refine bG ?_
 refine bnd hF fun r1 hx2 hF=>bR (alB hx2) (fun _=>?_)
 exact ze hF
def OW(ag:List Fact)(bN:Fact):Option (Bool):=
 (Nl ag bN).bind fun r2=>
 some r2
theorem aov{ag:List Fact}{aa:Sv}{bN:Fact}{aU:Sv}{R:Bool}(hF:OW ag bN=some R):
   Fw.Spec Tryz.prog 194 [aa.v,(zg [(zi bN.Rel),aU.v])] [cz aa ag,ah aU bN.Values] (fun _:Unit=>(.bool R)) (fun _=>[]):=by
 refine Se 8 Tryz.func194 [.tmp 4] ?_
 intro H0 F0
 unfold OW at hF
 refine au ?_
 refine bW (fun k1=>?_)
 refine aL ?_
 refine aK (rV (fn:=.func 219) (vs:=[]) (us:=[(pz k1)]) .nil bz) ?_
 refine bnd hF fun r2 hx3 hF=>bR (alv hx3) (fun _=>?_)
 exact ze hF
def OX(dI:Fact)(aD:Fact):Option (Bool):=
 (C9 dI aD).bind fun r2=>
 some (decide ((0:Int)<r2))
theorem aow{dI:Fact}{aQ:Sv}{bD:Nat}{aD:Fact}{fE:Sv}{R:Bool}(hF:OX dI aD=some R):
   Fw.Spec Tryz.prog 196 [(zg [(zi dI.Rel),aQ.v]),(pz bD)] [ah aQ dI.Values,a_ bD 71 (zg [(zi aD.Rel),fE.v]),ah fE aD.Values] (fun _:Unit=>(.bool R)) (fun _=>[]):=by
 refine Se 8 Tryz.func196 [.tmp 3] ?_
 intro H0 F0
 unfold OX at hF
 refine au ?_
 refine bW (fun k1=>?_)
 refine bf ?_
 refine bnd hF fun r2 hx3 hF=>bR (TV hx3) (fun _=>?_)
 exact ze hF
def J8(aD:Fact):List Fact->Nat->Option (Int)
 |[],k4=>some (-1)
 |x6::aG,k4=>(OX x6 aD).bind fun r16=>
   if r16 then (
     some (k4:Int))
   else (
     J8 aD aG (k4+1))
def Tx(ae:List Fact)(aD:Fact):Option (Int):=
 J8 aD ae 0
theorem alD{ae:List Fact}{aa:Sv}{bD:Nat}{aD:Fact}{fE:Sv}{R:Int}(hF:Tx ae aD=some R):
   Fw.Spec Tryz.prog 195 [aa.v,(.func (.func 196) [].toArray [(pz bD)].toArray)] [cz aa ae,a_ bD 71 (zg [(zi aD.Rel),fE.v]),ah fE aD.Values] (fun _:Unit=>(zi R)) (fun _=>[]):=by
 refine Se 19 Tryz.func195 [.tmp 4] ?_
 intro H0 F0
 unfold Tx at hF
 refine eU ?_
 refine bn (bU (m:=ae.length) (fun m2 f' cs'=>∃(g:Fr)(k4:Nat)(aG:List Fact),m2=aG.length/\f'=aR g [(0,aa.v),(1,(.func (.func 196) [].toArray [(pz bD)].toArray)),(7,(zi (ae.length:Int))),(8,(zi (k4:Int)))]/\List.drop k4 ae=aG/\aP cs' [cz aa ae,a_ bD 71 (zg [(zi aD.Rel),fE.v]),ah fE aD.Values]/\J8 aD aG k4=some R) ⟨_,0,_,rfl,aB,rfl,aA,hF⟩ ?_)
 rintro m2 _ _ ⟨g3,k4,aG,rfl,rfl,hd7,hE,hF⟩
 refine Kb hE ae (fun jL=>?_)
 rcases aG with _|⟨x6,aG⟩
 · have fG:=dn hd7
   rw[J8]at hF
   refine aL ?_
   refine dE ?_
   exact ze hF
 obtain⟨fG,dm,fF⟩:=dA hd7
 rw[J8]at hF
 refine aL ?_
 refine dD ?_
 refine lT ?_
 refine Ai dm (fun k13 lc=>?_)
 refine j_ (mZ x6) nI (fun gT=>?_)
 refine bnd hF fun r16 jy hF=>mh (.rd .h rfl (.rd .q3 rfl (.rd .q4 rfl .nil))) (lm atQ.h (.tmp rfl rfl) bz (aow jy)) (fun _=>?_)
 refine au ?_
 refine Ci hF (fun kW hF=>?_) (fun kW hF=>?_)
 · exact ze hF
 refine bf ?_
 rw[wk k4]
 exact⟨_,bY _,_,k4+1,aG,rfl,aB,fF,aA,hF⟩
def G8(bN:Fact):Option (Fact):=
 (uL bN.Values).bind fun r3=>
 some (⟨bN.Rel,r3⟩:Fact)
theorem YF{bN:Fact}{aQ:Sv}{R:Fact}(hF:G8 bN=some R):
   Fw.Spec Tryz.prog 198 [(zg [(zi bN.Rel),aQ.v])] [ah aQ bN.Values] (fun p:Sv×List Nat=>(zg [(zi R.Rel),p.1.v])) (fun p=>[bv p.2 p.1 R.Values]):=by
 refine Se 9 Tryz.func198 [.cell 2 71] ?_
 intro H0 F0
 unfold G8 at hF
 refine au ?_
 refine bW (fun k1=>?_)
 refine cO (fun k2=>?_)
 refine au ?_
 refine dM [0,1,2,3,4,5,6] [0,1,0,4,12,31,63] [4,6] mixed (by decide+kernel) ?_
 refine sG ?_
 refine bnd hF fun r3 hx4 hF=>kZ (zC hx4) (fun p5=>?_)
 refine dJ rfl .no (fun ha=>gH eG.h rfl (vs:=[(zi bN.Rel),p5.1.v]) (.cons (EN ha (.tmp rfl rfl) rfl) (.cons (EN ha (.tmp rfl rfl) rfl) .nil)) (cells:=[(zi bN.Rel),p5.1.v]) rfl) ?_
 refine bZ rfl rfl .no (.cons (.t .h) .nil) .nil (fun ha=>fA (e':=(zg [(zi bN.Rel),p5.1.v])) (v:=(zg [(zi bN.Rel),p5.1.v])) eG.h.sz (EN ha (.tmp rfl rfl) rfl) (EN ha (.tmp rfl rfl) rfl) rfl rfl rfl rfl rfl) (fun _=>?_)
 refine du ?_
 refine au ?_
 cases hF
 exact Er (p5.1,p5.2)
def Kl(ae:List Fact)(ku:Int)(iN:List Fact):Option (List Fact):=
 match iN with
 |[a]=>if 0<=ku/\ku.toNat<=ae.length/\ae.length+1<4294967296 then some (ae.take ku.toNat++a::ae.drop ku.toNat)else none
 |_=>none
set_option maxHeartbeats 4000000 in
theorem alZ(es:List Value)(e:Value)(v u:Sv)(F F2:List Nat)(i:Nat)(hi:i<=es.length)(hb:es.length+1<4294967296):Fw.Spec Tryz.prog 197 [v.v,.int .i64 (i:Int),u.v] [aJ (az 71 (aj (gG 2))) F v.v es,aJ (az 71 (aj (gG 2))) F2 u.v [e]] (fun q:Sv×List Nat=>q.1.v) (fun q=>[aJ (az 71 (aj (gG 2))) q.2 q.1.v (es.take i++e::es.drop i)]):=by
 refine zV (n:=95) Tryz.func197 rfl rfl (rs:=[.tmp 6]) rfl rfl rfl ?_
 intro H0 F0
 refine cB ?_
 refine aK (iG (v:=(.slice none 0 0)) EV.nilSlice) ?_
 refine dS ?_
 refine cB ?_
 refine aK (cu (v:=v.v) (.tmp rfl rfl)) ?_
 refine aK (cu (v:=(.int .i64 (i:Int))) (.tmp rfl rfl)) ?_
 refine dC (.cons .h .nil) (afE fU.h eG.h.sz (.tmp rfl rfl) (.tmp rfl rfl) hi) (fun w0=>?_)
 refine dS ?_
 refine cB ?_
 refine aK (cu (v:=u.v) (.tmp rfl rfl)) ?_
 refine iH (.t .h) (fun hp=>qD (l:=1) fU.h (.tmp rfl rfl) (Ab hp)) ?_
 refine aK (iG (v:=(.int .i64 ((1:Nat):Int))) (.tmp rfl rfl)) ?_
 refine dS ?_
 refine j6 ?_
 refine cB ?_
 refine aK (cu (v:=(.int .i64 ((1:Nat):Int))) (.tmp rfl rfl)) ?_
 refine aK (rE (i:=((1:Nat):Int)) (j:=0) (.tmp rfl rfl) (.int _ _)) ?_
 refine dS ?_
 refine kQ (b:=(((1:Nat):Int)==0)) (.tmp rfl rfl) (fun hb0=>absurd hb0 (by decide)) (fun _=>?_)
 refine qd ?_
 refine cB ?_
 refine aK (cu (v:=v.v) (.tmp rfl rfl)) ?_
 refine iH .h (fun hp=>qD (l:=es.length) fU.h (.tmp rfl rfl) (Ab hp)) ?_
 refine aK (iG (v:=(.int .i64 (es.length:Int))) (.tmp rfl rfl)) ?_
 refine dS ?_
 refine j6 ?_
 refine cB ?_
 refine aK (cu (v:=(.int .i64 (i:Int))) (.tmp rfl rfl)) ?_
 refine aK (cu (v:=(.int .i64 (es.length:Int))) (.tmp rfl rfl)) ?_
 refine aK (rE (i:=(i:Int)) (j:=(es.length:Int)) (.tmp rfl rfl) (.tmp rfl rfl)) ?_
 refine dS ?_
 refine kQ (b:=((i:Int)==(es.length:Int))) (.tmp rfl rfl) (fun hb1=>?_) (fun hb1=>?_)
 · have hie:i=es.length:=by simp only[beq_iff_eq]at hb1; omega
   refine cB ?_
   refine aK (cu (v:=v.v) (.tmp rfl rfl)) ?_
   refine aK (cu (v:=u.v) (.tmp rfl rfl)) ?_
   refine dC (.cons .h (.cons .h .nil)) (dL (Ro:=(aj (gG 2))) fU.h xG eG.h rfl rfl rfl (.tmp rfl rfl) (.tmp rfl rfl) (lu (xs:=es) (ys:=[e]) (by simpa using hb)) eX) (fun p=>?_)
   refine aK (iG (v:=p.1.v) (.tmp rfl rfl)) ?_
   refine dS ?_
   refine tY ?_
   rw[hie,List.take_length,List.drop_length]
   exact eO p (.tmp rfl rfl .nil) rfl (.sel (.cons .h .nil))
 refine qd ?_
 have hlt:i<es.length:=by simp at hb1; omega
 refine yO .h (Lh (by intro h; rw[h]at hlt; simp at hlt)) (fun hv=>?_)
 obtain⟨k0,m0,rfl,hm0⟩:=hv
 refine yO (.t .h) (Lh (by simp)) (fun hu=>?_)
 obtain⟨k1,m1,rfl,hm1⟩:=hu
 refine ait (t:=0) (k:=k0) (l:=es.length) (m:=m0) rfl rfl hm0 (by omega) .h rfl (fun c hc=>?_)
 have w1:IntKind.i64.wrap ((es.length:Int)+((1:Nat):Int))=((es.length+1:Nat):Int):=by rw[dX (by omega) (by omega)]; rfl
 have w2:IntKind.i64.wrap ((i:Int)+((1:Nat):Int))=((i+1:Nat):Int):=by rw[dX (by omega) (by omega)]; rfl
 have w3:IntKind.i64.wrap (((es.length+1:Nat):Int)-(i:Int))=((es.length+1-i:Nat):Int):=by rw[dX (by omega) (by omega)]; omega
 have hel:(es.take i++e::es.drop i).length=es.length+1:=aht hi
 refine j6 ?_
 refine cB ?_
 refine aK (cu (v:=(.int .i64 (es.length:Int))) (.tmp rfl rfl)) ?_
 refine aK (cu (v:=(.int .i64 ((1:Nat):Int))) (.tmp rfl rfl)) ?_
 refine aK (kL (i:=(es.length:Int)) (j:=((1:Nat):Int)) (.tmp rfl rfl) (.tmp rfl rfl)) ?_
 rw[w1]
 refine aK (cu (v:=(.slice (some ⟨k0,0,none⟩) es.length (c+3))) (.tmp rfl rfl)) ?_
 refine iH .h (fun hp=>ah0 fU.h hp rfl (.tmp rfl rfl)) ?_
 refine aK (LU (i:=((es.length+1:Nat):Int)) (j:=(c:Int)) (.tmp rfl rfl) (.tmp rfl rfl)) ?_
 refine dS ?_
 refine kQ (b:=(decide ((c:Int)<((es.length+1:Nat):Int)))) (.tmp rfl rfl) (fun hb2=>?_) (fun hb2=>?_)
 · have hcl:c<es.length+1:=by simp only[decide_eq_true_eq]at hb2; omega
   refine cB ?_
   refine aK (cu (v:=(.slice (some ⟨k0,0,none⟩) es.length (c+3))) (.tmp rfl rfl)) ?_
   refine aK (cu (v:=(.int .i64 (i:Int))) (.tmp rfl rfl)) ?_
   refine iH .h (fun hp=>UE (j:=i) fU.h eG.h.sz hp rfl (.tmp rfl rfl) (.tmp rfl rfl) (by omega)) ?_
   refine aK (cu (v:=(.int .i64 (es.length:Int))) (.tmp rfl rfl)) ?_
   refine aK (cu (v:=(.int .i64 ((1:Nat):Int))) (.tmp rfl rfl)) ?_
   refine aK (kL (i:=(es.length:Int)) (j:=((1:Nat):Int)) (.tmp rfl rfl) (.tmp rfl rfl)) ?_
   rw[w1]
   refine aK (cu (v:=(.int .i64 (i:Int))) (.tmp rfl rfl)) ?_
   refine aK (VE (i:=((es.length+1:Nat):Int)) (j:=(i:Int)) (.tmp rfl rfl) (.tmp rfl rfl)) ?_
   rw[w3]
   refine jM (.cons .h .nil) (aeW (c:=c) (q:=es.length+1-i) fU.h SA eG.h rfl rfl rfl rfl rfl rfl (.tmp rfl rfl) (.tmp rfl rfl) (by omega) (by omega) (by omega) (by omega)) (fun k2=>?_)
   rw[show i+(es.length+1-i)=es.length+1 from by omega]
   refine aK (iG (v:=(.slice (some ⟨k2,0,none⟩) (es.length+1) 2)) (.tmp rfl rfl)) ?_
   refine dS ?_
   refine cB ?_
   refine aK (cu (v:=(.slice (some ⟨k2,0,none⟩) (es.length+1) 2)) (.tmp rfl rfl)) ?_
   refine aK (cu (v:=(.int .i64 (i:Int))) (.tmp rfl rfl)) ?_
   refine iH .h (fun hp=>rW (j:=i) fU.h eG.h.sz hp rfl (.tmp rfl rfl) (.tmp rfl rfl) (by omega)) ?_
   refine aK (cu (v:=(.slice (some ⟨k1,0,none⟩) 1 m1)) (.tmp rfl rfl)) ?_
   refine jM (.cons .h (.cons (.t .h) .nil)) (LF (m1:=0) (m2:=m1) (ia:=i) (ja:=0) (ld:=es.length+1-i) (ls:=1) (es2:=[e]) (es':=es.take i++e::List.replicate (es.length-i) (.agg [(.int .i64 0),(.slice none 0 0)].toArray)) fU.h eG.h.sz rfl rfl rfl (by exact .tmp rfl rfl) (by exact .tmp rfl rfl) (by omega) (by omega) (by rw[List.length_singleton]; omega) (by simp; omega) (ah1 (e:=e) (z:=(.agg [(.int .i64 0),(.slice none 0 0)].toArray)) hlt) (by simp; omega)) (fun _=>?_)
   refine dS ?_
   refine dM [0,1,2,3,4,5,6,7,8] [0,0,0,6,15,0,0,96,255] [8] mixed (by decide+kernel) ?_
   refine dJ rfl .no (fun ha=>cu (v:=(.slice (some ⟨k2,0,none⟩) (es.length+1) 2)) (EN ha (.tmp rfl rfl) rfl)) ?_
   refine dJ rfl .no (fun ha=>cu (v:=(.int .i64 (i:Int))) (EN ha (.tmp rfl rfl) rfl)) ?_
   refine dJ rfl .no (fun ha=>cu (v:=(.int .i64 ((1:Nat):Int))) (EN ha (.tmp rfl rfl) rfl)) ?_
   refine dJ rfl .no (fun ha=>kL (i:=(i:Int)) (j:=((1:Nat):Int)) (EN ha (.tmp rfl rfl) rfl) (EN ha (.tmp rfl rfl) rfl)) ?_
   rw[w2]
   refine dH rfl .no .h (fun ha hp=>rW (j:=i+1) fU.h eG.h.sz hp rfl (EN ha (.tmp rfl rfl) rfl) (EN ha (.tmp rfl rfl) rfl) (by omega)) ?_
   refine dJ rfl .no (fun ha=>cu (v:=(.slice (some ⟨k0,0,none⟩) es.length (c+3))) (EN ha (.tmp rfl rfl) rfl)) ?_
   refine dJ rfl .no (fun ha=>cu (v:=(.int .i64 (i:Int))) (EN ha (.tmp rfl rfl) rfl)) ?_
   refine dH rfl .no (.t (.t .h)) (fun ha hp=>rW (j:=i) fU.h eG.h.sz hp rfl (EN ha (.tmp rfl rfl) rfl) (EN ha (.tmp rfl rfl) rfl) (by omega)) ?_
   refine lq rfl rfl .no (.cons .h (.cons (.t .h) .nil)) (.dep rfl (.dep rfl .nil)) (fun ha=>LF fU.h eG.h.sz rfl rfl rfl (EN ha (.tmp rfl rfl) rfl) (EN ha (.tmp rfl rfl) rfl) (by omega) (by omega) (by omega) (by simp; omega) (ah2 (e:=e) (z:=(.agg [(.int .i64 0),(.slice none 0 0)].toArray)) hlt) (by omega)) (fun _=>?_)
   refine Bj ?_
   refine cB ?_
   refine aK (cu (v:=(.slice (some ⟨k2,0,none⟩) (es.length+1) 2)) (.tmp rfl rfl)) ?_
   refine aK (iG (v:=(.slice (some ⟨k2,0,none⟩) (es.length+1) 2)) (.tmp rfl rfl)) ?_
   refine dS ?_
   refine tY ?_
   rw[hel]
   exact eO (⟨some ⟨k2,0,none⟩,es.length+1,2⟩,[k2]) (.tmp rfl rfl .nil) rfl (.sel (.cons .h .nil))
 refine qd ?_
 have hcl:es.length+1<=c:=by simp only[decide_eq_false_iff_not]at hb2; omega
 refine cB ?_
 refine aK (cu (v:=(.slice (some ⟨k0,0,none⟩) es.length (c+3))) (.tmp rfl rfl)) ?_
 refine aK (cu (v:=(.int .i64 (es.length:Int))) (.tmp rfl rfl)) ?_
 refine aK (cu (v:=(.int .i64 ((1:Nat):Int))) (.tmp rfl rfl)) ?_
 refine aK (kL (i:=(es.length:Int)) (j:=((1:Nat):Int)) (.tmp rfl rfl) (.tmp rfl rfl)) ?_
 rw[w1]
 refine iH .h (fun hp=>UE (j:=es.length+1) fU.h eG.h.sz hp rfl (.tmp rfl rfl) (.tmp rfl rfl) hcl) ?_
 refine aK (iG (v:=(.slice (some ⟨k0,0,none⟩) (es.length+1) (c+3))) (.tmp rfl rfl)) ?_
 refine dS ?_
 refine j6 ?_
 refine cB ?_
 refine aK (cu (v:=(.slice (some ⟨k1,0,none⟩) 1 m1)) (.tmp rfl rfl)) ?_
 refine aK (cu (v:=(.slice (some ⟨k0,0,none⟩) (es.length+1) (c+3))) (.tmp rfl rfl)) ?_
 refine aK (cu (v:=(.int .i64 (i:Int))) (.tmp rfl rfl)) ?_
 refine aK (cu (v:=(.int .i64 ((1:Nat):Int))) (.tmp rfl rfl)) ?_
 refine aK (kL (i:=(i:Int)) (j:=((1:Nat):Int)) (.tmp rfl rfl) (.tmp rfl rfl)) ?_
 rw[w2]
 refine iH .h (fun hp=>rW (j:=i+1) fU.h eG.h.sz hp rfl (.tmp rfl rfl) (.tmp rfl rfl) (by omega)) ?_
 refine jM (.cons (.t .h) (.cons .h .nil)) (afD fU.h eG.h.sz rfl arN rfl rfl (.tmp rfl rfl) (.tmp rfl rfl) (by omega) (by omega)) (fun _=>?_)
 refine aK (LV (b:=false) (.tmp rfl rfl)) ?_
 refine dS ?_
 refine kQ (b:=(!false)) (.tmp rfl rfl) (fun _=>?_) (fun h=>absurd h (by decide))
 refine dM [0,1,2,3,4,5,6,7,8] [0,0,0,6,15,0,0,96,255] [8] mixed (by decide+kernel) ?_
 refine dJ rfl .no (fun ha=>cu (v:=(.slice (some ⟨k0,0,none⟩) (es.length+1) (c+3))) (EN ha (.tmp rfl rfl) rfl)) ?_
 refine dJ rfl .no (fun ha=>cu (v:=(.int .i64 (i:Int))) (EN ha (.tmp rfl rfl) rfl)) ?_
 refine dJ rfl .no (fun ha=>cu (v:=(.int .i64 ((1:Nat):Int))) (EN ha (.tmp rfl rfl) rfl)) ?_
 refine dJ rfl .no (fun ha=>kL (i:=(i:Int)) (j:=((1:Nat):Int)) (EN ha (.tmp rfl rfl) rfl) (EN ha (.tmp rfl rfl) rfl)) ?_
 rw[w2]
 refine dH rfl .no (.t .h) (fun ha hp=>rW (j:=i+1) fU.h eG.h.sz hp rfl (EN ha (.tmp rfl rfl) rfl) (EN ha (.tmp rfl rfl) rfl) (by omega)) ?_
 refine dJ rfl .no (fun ha=>cu (v:=(.slice (some ⟨k0,0,none⟩) (es.length+1) (c+3))) (EN ha (.tmp rfl rfl) rfl)) ?_
 refine dJ rfl .no (fun ha=>cu (v:=(.int .i64 (i:Int))) (EN ha (.tmp rfl rfl) rfl)) ?_
 refine dH rfl .no (.t .h) (fun ha hp=>rW (j:=i) fU.h eG.h.sz hp rfl (EN ha (.tmp rfl rfl) rfl) (EN ha (.tmp rfl rfl) rfl) (by omega)) ?_
 refine bZ rfl rfl .no (.cons (.t .h) .nil) (.dep rfl (.dep rfl .nil)) (fun ha=>ahs fU.h eG.h.sz rfl rfl (EN ha (.tmp rfl rfl) rfl) (EN ha (.tmp rfl rfl) rfl) (by omega) (by omega) (by omega) (by omega) (ah3 hlt) (by simp; omega)) (fun _=>?_)
 refine Bj ?_
 refine cB ?_
 refine aK (cu (v:=(.slice (some ⟨k0,0,none⟩) (es.length+1) (c+3))) (.tmp rfl rfl)) ?_
 refine aK (cu (v:=(.int .i64 (i:Int))) (.tmp rfl rfl)) ?_
 refine iH .h (fun hp=>rW (j:=i) fU.h eG.h.sz hp rfl (.tmp rfl rfl) (.tmp rfl rfl) (by omega)) ?_
 refine aK (cu (v:=(.slice (some ⟨k1,0,none⟩) 1 m1)) (.tmp rfl rfl)) ?_
 refine jM (.cons .h (.cons .h .nil)) (LF (m1:=0) (m2:=m1) (ia:=i) (ja:=0) (ld:=es.length+1-i) (ls:=1) (es2:=[e]) (es':=es.take i++e::es.drop i) fU.h eG.h.sz rfl rfl rfl (by exact .tmp rfl rfl) (by exact .tmp rfl rfl) (by omega) (by omega) (by rw[List.length_singleton]; omega) (by simp; omega) (ah4 (e:=e) hlt) (by omega)) (fun _=>?_)
 refine dS ?_
 refine cB ?_
 refine aK (cu (v:=(.slice (some ⟨k0,0,none⟩) (es.length+1) (c+3))) (.tmp rfl rfl)) ?_
 refine aK (iG (v:=(.slice (some ⟨k0,0,none⟩) (es.length+1) (c+3))) (.tmp rfl rfl)) ?_
 refine dS ?_
 refine ahq (t:=6) (k:=k0) (l:=es.length+1) (c:=c) rfl rfl ?_
 refine tY ?_
 rw[hel]
 exact eO (⟨some ⟨k0,0,none⟩,es.length+1,2⟩,F) (.tmp rfl rfl .nil) rfl (.sel (.cons .h .nil))
theorem ac_{ae:List Fact}{aa:Sv}{lF:List Nat}{ku:Int}{iN:List Fact}{bu:Sv}{acg:List Nat}{R:List Fact}(hF:Kl ae ku iN=some R):
   Fw.Spec Tryz.prog 197 [aa.v,.int .i64 ku,bu.v] [aJ (az 71 gD) lF aa.v ae,aJ (az 71 gD) acg bu.v iN] (fun p:Sv×List Nat=>p.1.v) (fun p=>[aJ (az 71 gD) p.2 p.1.v R]):=by
 unfold Kl at hF
 rcases iN with _|⟨a,_|⟨_,_⟩⟩
 · simp at hF
 · dsimp only at hF
   split at hF
   · rename_i h
     obtain⟨h0,h1,h2⟩:=h
     obtain⟨i,rfl⟩:∃i:Nat,ku=(i:Int):=⟨ku.toNat,by omega⟩
     cases hF
     rw[Int.toNat_natCast]at h1 ⊢
     exact af5 (s:=2) fun es e Fa Fb hl=>alZ es e aa bu Fa Fb i (by omega) (by omega)
   · simp at hF
 · simp at hF
def Ic(ag:List Fact)(bN:Fact):Option ((List Fact)):=
 (OW ag bN).bind fun r2=>
 if r2 then (
   some ag)
 else (
   (Tx ag bN).bind fun r5=>
   if (decide ((r5:Int)<0))then (
     (G8 bN).bind fun r8=>
     (Kl ag (ag.length:Int) ([r8]:List Fact)).bind fun eZ=>
     some eZ)
   else (
     (G8 bN).bind fun eT=>
     (Kl ag r5 ([eT]:List Fact)).bind fun tF=>
     some tF))
theorem Ze{ag:List Fact}{aa:Sv}{lF:List Nat}{bN:Fact}{aU:Sv}{R:(List Fact)}(hF:Ic ag bN=some R):
   Fw.Spec Tryz.prog 147 [aa.v,(zg [(zi bN.Rel),aU.v])] [h_ lF aa ag,ah aU bN.Values] (fun p:Sv×List Nat=>p.1.v) (fun p=>[h_ p.2 p.1 R]):=by
 refine Se 23 Tryz.func147 [.tmp 4] ?_
 intro H0 F0
 unfold Ic at hF
 refine au ?_
 refine bW (fun k1=>?_)
 refine bG ?_
 refine bnd hF fun r2 hx3 hF=>dC (.cons (.t .h) (.rd (.t .h) rfl .nil)) (eY bi (fun _=>.nil) (bP atN.h bz (@aov ag aa bN aU _ hx3))) (fun _=>?_)
 refine au ?_
 refine Ci hF (fun ve hF=>?_) (fun ve hF=>?_)
 · refine bf ?_
   cases hF
   exact Er (aa,lF)
 refine aZ ?_
 refine aK (rV (fn:=.func 196) (vs:=[]) (us:=[(pz k1)]) .nil bz) ?_
 refine bnd hF fun r5 hx6 hF=>dC (.cons .h (.rd .h rfl (.rd (.t .h) rfl .nil))) (eY bi (fun _=>.nil) (bP aix.h bz (@alD ag aa k1 bN aU _ hx6))) (fun _=>?_)
 refine bQ ?_
 refine Ci hF (fun xM hF=>?_) (fun xM hF=>?_)
 · refine eU ?_
   refine bnd hF fun r8 dm hF=>dW (YF dm) (fun dP=>?_)
   refine b_ rfl (bI (g:=true) fU.h eG.h bz (vs:=[(zg [(zi r8.Rel),dP.1.v])]) rfl rfl rfl (by intro v hv; simp at hv; rcases hv with rfl<;>rfl)) (fun k11=>?_)
   refine dh (.cons .h (.cons .h .nil)) (bK (Ro:=gD) (E:=71) (F:=(dP.2++[])) (xs:=([r8]:List Fact)) (bS xE bJ bB) rfl rfl) ?_
   refine bnd hF fun eZ jc hF=>dW (@ac_ _ _ _ _ _ (⟨(some ⟨k11,0,none⟩),1,1⟩) _ _ jc) (fun pX=>?_)
   refine aZ ?_
   cases hF
   exact Er (pX.1,pX.2)
 refine bf ?_
 refine bnd hF fun eT hx16 hF=>dW (YF hx16) (fun sS=>?_)
 refine b_ rfl (bI (g:=true) fU.h eG.h bz (vs:=[(zg [(zi eT.Rel),sS.1.v])]) rfl rfl rfl (by intro v hv; simp at hv; rcases hv with rfl<;>rfl)) (fun k18=>?_)
 refine dh (.cons .h (.cons .h .nil)) (bK (Ro:=gD) (E:=71) (F:=(sS.2++[])) (xs:=([eT]:List Fact)) (bS xE bJ bB) rfl rfl) ?_
 refine bnd hF fun tF nT hF=>dW (@ac_ _ _ _ _ _ (⟨(some ⟨k18,0,none⟩),1,1⟩) _ _ nT) (fun oJ=>?_)
 refine aZ ?_
 cases hF
 exact Er (oJ.1,oJ.2)
def GJ(rf:List Int):Nat->Int->Option (Int)
 |0,_=>none
 |JR+1,EW=>(Fg rf EW).bind fun r98=>
   if r98 then (
     GJ rf JR (IntKind.i64.wrap (EW+1)))
   else (
     some EW)
def GK(jh:List Int)(uF:List Int):List Atom->Nat->(List Fact)->Option ((List Fact)×aM×Bool)
 |[],BN,vg=>some (vg,(⟨jh,uF⟩:aM),true)
 |WC::Aj,BN,vg=>(Ll WC (⟨jh,uF⟩:aM)).bind fun aj9=>
   (Ic vg aj9).bind fun aj_=>
   GK jh uF Aj (BN+1) aj_
def GL(ai:aO)(rf:List Int)(r4:(List Int))(fuel:Nat):Nat->(List Int)->(List Int)->Int->Int->Option ((List Fact)×aM×Bool)
 |0,_,_,_,_=>none
 |JS+1,jh,uF,yo,zu=>if (decide ((zu:Int)<(r4.length:Int)))then (
     (((ix r4 zu).bind fun x83=>
       (GJ rf fuel yo).bind fun XU=>
       match XU with
       |sJ=>(DY sJ).bind fun aj'=>
         if (!aj')then (
           some (.inl ([],(⟨[],[]⟩:aM),false)))
         else (
           (app jh ([x83]:List Int)).bind fun aka=>
           (app uF ([sJ]:List Int)).bind fun akb=>
           some (.inr (aka,akb,(IntKind.i64.wrap (sJ+1)))))):Option (Sum ((List Fact)×aM×Bool) ((List Int)×(List Int)×Int))).bind fun o78=>
     match o78 with
     | .inl r=>some r
     | .inr (c116,c119,mQ)=>GL ai rf r4 fuel JS c116 c119 mQ (IntKind.i64.wrap (zu+1)))
   else (
     GK jh uF ai.Atoms 0 ([]:List Fact))
def Lm(fuel:Nat)(ai:aO)(rf:List Int):Option ((List Fact)×aM×Bool):=
 (Li ai).bind fun r4=>
 GL ai rf r4 fuel (((r4.length:Int)-0).toNat+2) ([]:List Int) ([]:List Int) 0 0
theorem ae_{fuel:Nat}{ai:aO}{aa aQ:Sv}{rf:List Int}{ak:Sv}{R:(List Fact)×aM×Bool}(hF:Lm fuel ai rf=some R):
   Fw.Spec Tryz.prog 84 [(zg [aa.v,aQ.v]),ak.v] [ah aa ai.Head,bX aQ ai.Atoms,ah ak rf] (fun p:Sv×List Nat×Sv×List Nat×Sv×List Nat=>(.tuple [p.1.v,(zg [p.2.2.1.v,p.2.2.2.2.1.v]),(.bool R.2.2)].toArray)) (fun p=>[h_ p.2.1 p.1 R.1,bv p.2.2.2.1 p.2.2.1 R.2.1.Vars,bv p.2.2.2.2.2 p.2.2.2.2.1 R.2.1.Values]):=by
 refine Se 62 Tryz.func84 [.tmp 4,.cell 5 85,.tmp 6] ?_
 intro H0 F0
 unfold Lm at hF
 refine au ?_
 refine bW (fun k1=>?_)
 refine au ?_
 refine cO (fun k2=>?_)
 refine aZ ?_
 refine aK (gH d_.h rfl (vs:=[]) .nil (cells:=[(.slice none 0 0),(.slice none 0 0)]) rfl) ?_
 refine cO (fun k3=>?_)
 refine As (zg [(.slice none 0 0),(.slice none 0 0)]) ?_
 refine bQ ?_
 refine bnd hF fun r4 hx5 hF=>dW (ae8 hx5) (fun p6=>?_)
 refine aZ ?_
 refine bn (bU (m:=(((r4.length:Int)-0).toNat+2)) (fun JS f' cs'=>∃(g:Fr)(jh uF:List Int)(yo zu:Int)(v63:Sv)(qR:List Nat)(v66:Sv)(Nb:List Nat),f'=aR g [(1,ak.v),(2,(pz k1)),(5,(pz k2)),(7,(pz k3)),(8,(zi yo)),(16,p6.1.v),(17,(zi (r4.length:Int))),(18,(zi zu))]/\aP cs' [ah ak rf,a_ k1 28 (zg [aa.v,aQ.v]),ah aa ai.Head,bX aQ ai.Atoms,bq k2 85 (zg [(.slice none 0 0),(.slice none 0 0)]),bq k3 85 (zg [v63.v,v66.v]),bv qR v63 jh,bv Nb v66 uF,bv p6.2 p6.1 r4]/\GL ai rf r4 fuel JS jh uF yo zu=some R) ⟨_,_,_,_,_,⟨none,0,0⟩,[],⟨none,0,0⟩,[],aB,(.conv .nil (fu (Ro:=(aj ax)) (E:=3)) (.cons .nil) (.conv .nil (fu (Ro:=(aj ax)) (E:=3)) (.cons .nil) aA)),hF⟩ ?_)
 rintro JS _ _ ⟨g71,jh,uF,yo,zu,v63,qR,v66,Nb,rfl,hE,hF⟩
 refine bM hE ?_
 rcases JS with _|JS
 · rw[GL]at hF
   exact absurd hF (by simp)
 rw[GL]at hF
 refine aL ?_
 refine Ci hF (fun auM hF=>?_) (fun auM hF=>?_)
 · refine au ?_
   obtain⟨o78,auN,akc⟩:=bind_some hF
   refine gN (fun f' cs'=>∃(c116 c119:List Int)(mQ:Int)(v117:Sv)(ach:List Nat)(ny:Sv)(wC:List Nat)(g:Fr),o78= .inr (c116,c119,mQ)/\f'=aR g [(1,ak.v),(2,(pz k1)),(5,(pz k2)),(7,(pz k3)),(8,(zi mQ)),(16,p6.1.v),(17,(zi (r4.length:Int))),(18,(zi zu))]/\aP cs' [ah ak rf,a_ k1 28 (zg [aa.v,aQ.v]),ah aa ai.Head,bX aQ ai.Atoms,bq k2 85 (zg [(.slice none 0 0),(.slice none 0 0)]),bq k3 85 (zg [v117.v,ny.v]),bv ach v117 c116,bv wC ny c119,bv p6.2 p6.1 r4]) ?_ ?_
   · replace hF:=auN
     refine bn (cB ?_)
     refine bnd hF fun x83 Wz hF=>?_
     have ayY:=tZ Wz
     obtain⟨aDV,ayZ⟩:=qf Wz
     refine rA bH.h bC.h.sz (.tmp rfl rfl) (.tmp rfl rfl) .q8 ayY (fun uG aci=>?_)
     refine Ij (w:=(zi x83)) oI.h (.tmp rfl rfl) .q8 aci ayZ Qa ?_
     refine aT ?_
     obtain⟨XU,auO,ay0⟩:=bind_some hF
     refine gN (fun f' cs'=>∃(sJ:Int)(g:Fr),sJ=XU/\f'=aR g [(1,ak.v),(2,(pz k1)),(5,(pz k2)),(7,(pz k3)),(8,(zi sJ)),(10,(zi x83)),(16,p6.1.v),(17,(zi (r4.length:Int))),(18,(zi zu))]/\aP cs' [ah ak rf,a_ k1 28 (zg [aa.v,aQ.v]),ah aa ai.Head,bX aQ ai.Atoms,bq k2 85 (zg [(.slice none 0 0),(.slice none 0 0)]),bq k3 85 (zg [v63.v,v66.v]),bv qR v63 jh,bv Nb v66 uF,bv p6.2 p6.1 r4]) ?_ ?_
     · replace hF:=auO
       refine bn (bU (m:=fuel) (fun JR f' cs'=>∃(g:Fr)(EW:Int),f'=aR g [(1,ak.v),(2,(pz k1)),(5,(pz k2)),(7,(pz k3)),(8,(zi EW)),(10,(zi x83)),(16,p6.1.v),(17,(zi (r4.length:Int))),(18,(zi zu))]/\aP cs' [ah ak rf,a_ k1 28 (zg [aa.v,aQ.v]),ah aa ai.Head,bX aQ ai.Atoms,bq k2 85 (zg [(.slice none 0 0),(.slice none 0 0)]),bq k3 85 (zg [v63.v,v66.v]),bv qR v63 jh,bv Nb v66 uF,bv p6.2 p6.1 r4]/\GJ rf JR EW=some XU) ⟨_,_,aB,aA,hF⟩ ?_)
       rintro JR _ _ ⟨g91,EW,rfl,hE,hF⟩
       refine bM hE ?_
       rcases JR with _|JR
       · rw[GJ]at hF
         exact absurd hF (by simp)
       rw[GJ]at hF
       refine aL ?_
       refine bnd hF fun r98 hx99 hF=>bR (Yc hx99) (fun _=>?_)
       refine au ?_
       refine Ci hF (fun aaX hF=>?_) (fun aaX hF=>?_)
       · refine au ?_
         refine bn (qY (Cm (zi EW) rfl rfl ?_))
         refine aZ ?_
         exact⟨JR,bY _,_,_,aB,aA,hF⟩
       exact cK hF
     rintro _ _ ⟨sJ,aDW,rfl,rfl,hE⟩
     replace hF:=ay0
     try dsimp only at hF
     refine bM hE ?_
     refine aZ ?_
     refine bnd hF fun aj' hx104 hF=>bR (NV hx104) (fun _=>?_)
     refine aT ?_
     refine Ci hF (fun auP hF=>?_) (fun auP hF=>?_)
     · refine au ?_
       refine aK (gH d_.h rfl (vs:=[]) .nil (cells:=[(.slice none 0 0),(.slice none 0 0)]) rfl) ?_
       refine au ?_
       refine As (zg [(.slice none 0 0),(.slice none 0 0)]) ?_
       refine aZ ?_
       cases hF
       replace hF:=akc
       try dsimp only at hF
       cases hF
       exact eO (⟨none,0,0⟩,[],⟨none,0,0⟩,[],⟨none,0,0⟩,[]) (.tmp rfl rfl (.cellA rfl rfl .h rfl jN.h d_.h.sz rfl rfl (.tmp rfl rfl .nil))) rfl (.conv .nil (fu (Ro:=gD) (E:=71)) (.cons .nil) (.conv .nil (fu (Ro:=(aj ax)) (E:=3)) (.cons .nil) (.conv .nil (fu (Ro:=(aj ax)) (E:=3)) (.cons .nil) (.sel (.cons .q2 (.cons (.t .h) (.cons .h .nil)))))))
     refine au ?_
     refine dM [0,1,2,3,5,6,7,8,4,10,9,11,12,13] [0,1,0,4,15,0,32,0,128,511,127,2047,4095,8191] [4,9,11,13] mixed (by decide+kernel) ?_
     refine du ?_
     refine dH rfl .no .q5 (fun ha hp=>fZ (v:=v63.v) fT.h (EN ha (.tmp rfl rfl) rfl) hp.2 rfl rfl) ?_
     refine du ?_
     refine gP rfl .no rfl (fun ha=>bI (g:=true) (len:=1) (parts:=[(0,.tmp 33)]) bH.h bC.h (.cons (EN ha (.tmp rfl rfl) rfl) .nil) (vs:=[(zi x83)]) rfl rfl rfl (by intro v hv; simp at hv; rcases hv with rfl<;>rfl)) (fun ay1=>?_)
     refine gZ (.cons .h .nil) (bK (Ro:=(aj ax)) (E:=3) (F:=([]++[])) (xs:=([x83]:List Int)) (bS (dK (fun _=>rfl)) bJ bB) rfl rfl) ?_
     refine du ?_
     refine dH rfl .no .q6 (fun ha hp=>fZ (v:=v66.v) fT.h (EN ha (.tmp rfl rfl) rfl) hp.2 rfl rfl) ?_
     refine du ?_
     refine gP rfl .no rfl (fun ha=>bI (g:=true) (len:=1) (parts:=[(0,.tmp 38)]) bH.h bC.h (.cons (EN ha (.tmp rfl rfl) rfl) .nil) (vs:=[(zi sJ)]) rfl rfl rfl (by intro v hv; simp at hv; rcases hv with rfl<;>rfl)) (fun ayx=>?_)
     refine gZ (.cons .h .nil) (bK (Ro:=(aj ax)) (E:=3) (F:=([]++[])) (xs:=([sJ]:List Int)) (bS (dK (fun _=>rfl)) bJ bB) rfl rfl) ?_
     refine bnd hF fun aka Qh hF=>bZ rfl rfl .no (.cons .q8 (.cons (.t .h) .nil)) (.own .h (by simp[aJ]) (.own .q6 (fun _ h=>h) (.dep rfl (.dep rfl .nil)))) (fun ha=>dL (Ro:=(aj ax)) bH.h gL bC.h rfl rfl rfl (EN ha (.tmp rfl rfl) rfl) (EN ha (.tmp rfl rfl) rfl) Qh eX) (fun Rl=>?_)
     refine du ?_
     refine bnd hF fun akb hx112 hF=>bZ rfl rfl .no (.cons .q8 (.cons (.t .h) .nil)) (.dep rfl (.dep rfl (.dep rfl (.dep rfl .nil)))) (fun ha=>dL (Ro:=(aj ax)) bH.h gL bC.h rfl rfl rfl (EN ha (.tmp rfl rfl) rfl) (EN ha (.tmp rfl rfl) rfl) hx112 eX) (fun acj=>?_)
     refine bZ rfl rfl .no (.cons .q7 .nil) (.dep rfl (.dep rfl (.dep rfl (.dep rfl .nil)))) (fun ha=>fA (e':=(zg [Rl.1.v,v66.v])) fB.h.sz (EN ha (.tmp rfl rfl) rfl) (EN ha (.tmp rfl rfl) rfl) rfl rfl rfl rfl rfl) (fun _=>?_)
     refine du ?_
     refine bZ rfl rfl .no (.cons .h .nil) (.dep rfl (.dep rfl (.dep rfl (.dep rfl .nil)))) (fun ha=>fA (e':=(zg [Rl.1.v,acj.1.v])) fB.h.sz (EN ha (.tmp rfl rfl) rfl) (EN ha (.tmp rfl rfl) rfl) rfl rfl rfl rfl rfl) (fun _=>?_)
     refine du ?_
     refine bf ?_
     cases hF
     exact⟨_,_,_,Rl.1,Rl.2,acj.1,acj.2,_,rfl,aB,aA⟩
   rintro _ _ ⟨c116,c119,mQ,v117,ach,ny,wC,aDX,rfl,rfl,hE⟩
   replace hF:=akc
   try dsimp only at hF
   refine bM hE ?_
   refine aL ?_
   exact⟨JS,bY _,_,_,_,_,_,v117,ach,ny,wC,aB,aA,hF⟩
 refine bf ?_
 refine b_ rfl (bI (g:=true) fU.h eG.h .nil (vs:=[]) rfl rfl rfl (by simp)) (fun akd=>?_)
 refine dh (.cons .h .nil) (bK (Ro:=gD) (E:=71) (F:=[]) (xs:=([]:List Fact)) bJ rfl rfl) ?_
 refine eU ?_
 refine bn (bU (m:=ai.Atoms.length) (fun ake f' cs'=>∃(g:Fr)(BN:Nat)(Aj:List Atom)(vg:List Fact)(BO:Sv)(I5:List Nat),ake=Aj.length/\f'=aR g [(5,(pz k2)),(7,(pz k3)),(11,BO.v),(48,aQ.v),(49,(zi (ai.Atoms.length:Int))),(50,(zi (BN:Int)))]/\List.drop BN ai.Atoms=Aj/\aP cs' [bq k2 85 (zg [(.slice none 0 0),(.slice none 0 0)]),bq k3 85 (zg [v63.v,v66.v]),bv qR v63 jh,bv Nb v66 uF,h_ I5 BO vg,bX aQ ai.Atoms]/\GK jh uF Aj BN vg=some R) ⟨_,0,_,_,⟨(some ⟨akd,0,none⟩),0,1⟩,(akd::[]),rfl,aB,rfl,aA,hF⟩ ?_)
 rintro ake _ _ ⟨aDY,BN,Aj,vg,BO,I5,rfl,rfl,VN,hE,hF⟩
 refine Kb hE ai.Atoms (fun aAr=>?_)
 rcases Aj with _|⟨WC,Aj⟩
 · have auQ:=dn VN
   rw[GK]at hF
   refine aL ?_
   refine dE ?_
   refine aL ?_
   refine dM [0,1,2,3,4] [0,0,1,7,15] [3] mixed (by decide+kernel) ?_
   refine du ?_
   refine dH rfl .no (.t .h) (fun ha hp=>gM jN.h d_.h.sz rfl (EN ha (.tmp rfl rfl) rfl) hp.2 rfl) ?_
   refine du ?_
   refine bZ rfl rfl .no (.cons .h .nil) (.dep rfl .nil) (fun ha=>fA (e':=(zg [v63.v,v66.v])) (v:=(zg [v63.v,v66.v])) d_.h.sz (EN ha (.tmp rfl rfl) rfl) (EN ha (.tmp rfl rfl) rfl) rfl rfl rfl rfl rfl) (fun _=>?_)
   refine bV ?_
   refine au ?_
   cases hF
   exact eO (BO,I5,v63,qR,v66,Nb) (.tmp rfl rfl (.cellA rfl rfl .h rfl jN.h d_.h.sz rfl rfl (.tmp rfl rfl .nil))) rfl (.sel (.cons .q4 (.cons .q2 (.cons .q2 .nil))))
 obtain⟨auQ,auR,auS⟩:=dA VN
 rw[GK]at hF
 refine aL ?_
 refine dD ?_
 refine aZ ?_
 refine Ai auR (fun MB ay2=>?_)
 refine j_ (qZ WC) rZ (fun ay3=>?_)
 refine cO (fun lG=>?_)
 refine As (zg [(zi WC.Rel),ay3.v]) ?_
 refine bf ?_
 refine bnd hF fun aj9 auT hF=>Bu (.cons .q6 (.cons .q5 (.rd (.t .h) rfl .nil))) (iW (pre:=_) (.cons bi (.cons bi .nil)) (fun _=>(.cons .nil)) (fM (.rd .q2 rfl (.rd .h rfl (.rd (.t .h) rfl .nil))) (bP atK.h bz (ao2 auT)))) (fun aDZ=>?_)
 refine VF .q2 bi ?_
 refine bnd hF fun aj_ aiH hF=>dW (Ze aiH) (fun akf=>?_)
 refine bG ?_
 rw[wk BN]
 exact⟨_,bY _,_,BN+1,Aj,_,akf.1,akf.2,rfl,aB,auS,aA,hF⟩
def Dn(aI:aM):List Int->Nat->(List Int)->Option ((List Int))
 |[],k10,c4=>some c4
 |uH::o5,k10,c4=>(xh aI uH).bind fun kP=>
   (app c4 ([kP]:List Int)).bind fun z25=>
   Dn aI o5 (k10+1) z25
def D5(ai:aO)(aI:aM):Option ((List Int)):=
 Dn aI ai.Head 0 ([]:List Int)
theorem Uu{ai:aO}{aa aQ:Sv}{aI:aM}{ak aU:Sv}{R:(List Int)}(hF:D5 ai aI=some R):
   Fw.Spec Tryz.prog 52 [(zg [aa.v,aQ.v]),(zg [ak.v,aU.v])] [ah aa ai.Head,bX aQ ai.Atoms,ah ak aI.Vars,ah aU aI.Values] (fun p:Sv×List Nat=>p.1.v) (fun p=>[bv p.2 p.1 R]):=by
 refine Se 24 Tryz.func52 [.tmp 4] ?_
 intro H0 F0
 unfold D5 at hF
 refine au ?_
 refine bW (fun k1=>?_)
 refine bW (fun k2=>?_)
 refine aZ ?_
 refine b_ rfl (bI (g:=true) bH.h bC.h .nil (vs:=[]) rfl rfl rfl (by simp)) (fun k3=>?_)
 refine dh (.cons .h .nil) (bK (Ro:=(aj ax)) (E:=3) (F:=[]) (xs:=([]:List Int)) bJ rfl rfl) ?_
 refine eU ?_
 refine bn (bU (m:=ai.Head.length) (fun m8 f' cs'=>∃(g:Fr)(k10:Nat)(o5 c4:List Int)(v5:Sv)(F6:List Nat),m8=o5.length/\f'=aR g [(3,(pz k2)),(5,v5.v),(10,aa.v),(11,(zi (ai.Head.length:Int))),(12,(zi (k10:Int)))]/\List.drop k10 ai.Head=o5/\aP cs' [a_ k2 85 (zg [ak.v,aU.v]),ah ak aI.Vars,ah aU aI.Values,bv F6 v5 c4,ah aa ai.Head]/\Dn aI o5 k10 c4=some R) ⟨_,0,_,_,⟨(some ⟨k3,0,none⟩),0,1⟩,(k3::[]),rfl,aB,rfl,aA,hF⟩ ?_)
 rintro m8 _ _ ⟨g9,k10,o5,c4,v5,F6,rfl,rfl,Rm,hE,hF⟩
 refine Kb hE ai.Head (fun auU=>?_)
 rcases o5 with _|⟨uH,o5⟩
 · have ack:=dn Rm
   rw[Dn]at hF
   refine aL ?_
   refine dE ?_
   refine eU ?_
   cases hF
   exact Er (v5,F6)
 obtain⟨ack,mR,BJ⟩:=dA Rm
 rw[Dn]at hF
 refine aL ?_
 refine dD ?_
 refine aZ ?_
 refine Ai mR (fun k19 EU=>?_)
 refine Al dN ?_
 refine bG ?_
 refine bnd hF fun kP uk hF=>bR (NY uk) (fun _=>?_)
 refine b_ rfl (bI (g:=true) bH.h bC.h bz (vs:=[(zi kP)]) rfl rfl rfl (by intro v hv; simp at hv; rcases hv with rfl<;>rfl)) (fun k24=>?_)
 refine dh (.cons .h .nil) (bK (Ro:=(aj ax)) (E:=3) (F:=([]++[])) (xs:=([kP]:List Int)) (bS (dK (fun _=>rfl)) bJ bB) rfl rfl) ?_
 refine bnd hF fun z25 jP hF=>dC (.cons .q5 (.cons .h .nil)) (dL (Ro:=(aj ax)) bH.h gL bC.h rfl rfl rfl (.tmp rfl rfl) (.tmp rfl rfl) jP eX) (fun p27=>?_)
 refine bG ?_
 rw[wk k10]
 exact⟨_,bY _,_,k10+1,o5,_,p27.1,p27.2,rfl,aB,BJ,aA,hF⟩
def Uj(aI:aM):Option (aM):=
 (uL aI.Vars).bind fun r3=>
 (uL aI.Values).bind fun r6=>
 some (⟨r3,r6⟩:aM)
theorem amG{aI:aM}{aa aQ:Sv}{R:aM}(hF:Uj aI=some R):
   Fw.Spec Tryz.prog 222 [(zg [aa.v,aQ.v])] [ah aa aI.Vars,ah aQ aI.Values] (fun p:Sv×List Nat×Sv×List Nat=>(zg [p.1.v,p.2.2.1.v])) (fun p=>[bv p.2.1 p.1 R.Vars,bv p.2.2.2 p.2.2.1 R.Values]):=by
 refine Se 10 Tryz.func222 [.cell 2 85] ?_
 intro H0 F0
 unfold Uj at hF
 refine au ?_
 refine bW (fun k1=>?_)
 refine cO (fun k2=>?_)
 refine au ?_
 refine dM [0,1,3,4,2,5,6,7] [0,1,3,0,8,31,63,127] [2,5,7] mixed (by decide+kernel) ?_
 refine sG ?_
 refine bnd hF fun r3 hx4 hF=>kZ (zC hx4) (fun p5=>?_)
 refine bnd hF fun r6 hx7 hF=>kZ (zC hx7) (fun p8=>?_)
 refine dJ rfl .no (fun ha=>gH d_.h rfl (vs:=[p5.1.v,p8.1.v]) (.cons (EN ha (.tmp rfl rfl) rfl) (.cons (EN ha (.tmp rfl rfl) rfl) .nil)) (cells:=[p5.1.v,p8.1.v]) rfl) ?_
 refine bZ rfl rfl .no (.cons .q2 .nil) .nil (fun ha=>fA (e':=(zg [p5.1.v,p8.1.v])) (v:=(zg [p5.1.v,p8.1.v])) d_.h.sz (EN ha (.tmp rfl rfl) rfl) (EN ha (.tmp rfl rfl) rfl) rfl rfl rfl rfl rfl) (fun _=>?_)
 refine du ?_
 refine au ?_
 cases hF
 exact Er (p5.1,p5.2,p8.1,p8.2)
def FX(bN:Fact):List Int->Nat->(List Int)->(List Int)->Option (aM×Bool)
 |[],qV,c80,yt=>some ((⟨c80,yt⟩:aM),true)
 |x91::AU,qV,c80,yt=>((((Eb x91).bind fun BH=>
       bif BH then ((FL (⟨c80,yt⟩:aM) x91).bind fun Rn=>
         some (decide ((Rn:Int)<0)))
       else (some false)).bind fun acl=>
     match acl with
     |um=>if um then (
         (ix bN.Values (qV:Int)).bind fun x113=>
         (app c80 ([x91]:List Int)).bind fun acm=>
         (app yt ([x113]:List Int)).bind fun acn=>
         (ix bN.Values (qV:Int)).bind fun akg=>
         (xh (⟨acm,acn⟩:aM) x91).bind fun akh=>
         if ((akh:Int)!=akg)then (
           some (.inl ((⟨[],[]⟩:aM),false)))
         else (
           some (.inr (acm,acn))))
       else (
         (ix bN.Values (qV:Int)).bind fun aki=>
         (xh (⟨c80,yt⟩:aM) x91).bind fun akj=>
         if ((akj:Int)!=aki)then (
           some (.inl ((⟨[],[]⟩:aM),false)))
         else (
           some (.inr (c80,yt))))):Option (Sum (aM×Bool) ((List Int)×(List Int)))).bind fun o98=>
   match o98 with
   | .inl r=>some r
   | .inr (c148,Rp)=>FX bN AU (qV+1) c148 Rp
def Oi(aI:aM)(ay:Atom)(bN:Fact):Option (aM×Bool):=
 if (((ay.Rel:Int)!=bN.Rel)||((((ay.Terms.length:Int):Int)!=(bN.Values.length:Int))||(((aI.Vars.length:Int):Int)!=(aI.Values.length:Int))))then (
   some ((⟨[],[]⟩:aM),false))
 else (
   (Uj aI).bind fun r8=>
   FX bN ay.Terms 0 r8.Vars r8.Values)
theorem anp{aI:aM}{aa aQ:Sv}{ay:Atom}{aU:Sv}{bN:Fact}{dw:Sv}{R:aM×Bool}(hF:Oi aI ay bN=some R):
   Fw.Spec Tryz.prog 199 [(zg [aa.v,aQ.v]),(zg [(zi ay.Rel),aU.v]),(zg [(zi bN.Rel),dw.v])] [ah aa aI.Vars,ah aQ aI.Values,ah aU ay.Terms,ah dw bN.Values] (fun p:Sv×List Nat×Sv×List Nat=>(.tuple [(zg [p.1.v,p.2.2.1.v]),(.bool R.2)].toArray)) (fun p=>[bv p.2.1 p.1 R.1.Vars,bv p.2.2.2 p.2.2.1 R.1.Values]):=by
 refine Se 81 Tryz.func199 [.cell 6 85,.tmp 7] ?_
 intro H0 F0
 unfold Oi at hF
 refine au ?_
 refine bW (fun k1=>?_)
 refine bW (fun k2=>?_)
 refine bW (fun k3=>?_)
 refine cO (fun k4=>?_)
 refine aL ?_
 refine gB (fun f' cs'=>∃(g:Fr),f'=aR g [(3,(pz k1)),(4,(pz k2)),(5,(pz k3)),(6,(pz k4)),(33,(.bool (((ay.Rel:Int)!=bN.Rel)||((((ay.Terms.length:Int):Int)!=(bN.Values.length:Int))||(((aI.Vars.length:Int):Int)!=(aI.Values.length:Int))))))]/\aP cs' [a_ k1 85 (zg [aa.v,aQ.v]),ah aa aI.Vars,ah aQ aI.Values,a_ k2 66 (zg [(zi ay.Rel),aU.v]),ah aU ay.Terms,a_ k3 71 (zg [(zi bN.Rel),dw.v]),ah dw bN.Values,bq k4 85 (zg [(.slice none 0 0),(.slice none 0 0)])]) ?_ ?_
 · refine bG ?_
   rcases df ((ay.Rel:Int)!=bN.Rel)with hg5|hg5
   · rw[hg5]
     try rw[hg5]at hF; dsimp only[aY,aX]at hF
     refine aaN ?_
     exact⟨_,aB,aA⟩
   rw[hg5]
   try rw[hg5]at hF; dsimp only[aY,aX]at hF
   refine VL ?_
   rcases df (((ay.Terms.length:Int):Int)!=(bN.Values.length:Int))with iA|iA
   · rw[iA]
     try rw[iA]at hF; dsimp only[aY,aX]at hF
     refine eU ?_
     exact⟨_,aB,aA⟩
   rw[iA]
   try rw[iA]at hF; dsimp only[aY,aX]at hF
   refine VL ?_
   exact⟨_,aB,aA⟩
 rintro _ _ ⟨g7,rfl,hE⟩
 refine bM hE ?_
 refine Ci hF (fun auV hF=>?_) (fun auV hF=>?_)
 · refine au ?_
   refine aK (gH d_.h rfl (vs:=[]) .nil (cells:=[(.slice none 0 0),(.slice none 0 0)]) rfl) ?_
   refine As (zg [(.slice none 0 0),(.slice none 0 0)]) ?_
   refine aZ ?_
   cases hF
   exact eO (⟨none,0,0⟩,[],⟨none,0,0⟩,[]) (.cellA rfl rfl .h rfl jN.h d_.h.sz rfl rfl (.tmp rfl rfl .nil)) rfl (.conv .nil (fu (Ro:=(aj ax)) (E:=3)) (.cons .nil) (.conv .nil (fu (Ro:=(aj ax)) (E:=3)) (.cons .nil) (.sel (.cons (.t .h) (.cons .h .nil)))))
 refine aZ ?_
 refine bnd hF fun r8 dm hF=>mV (amG dm) (fun dP=>?_)
 refine cO (fun k11=>?_)
 refine As (zg [dP.1.v,dP.2.2.1.v]) ?_
 refine fI ?_
 refine bn (bU (m:=ay.Terms.length) (fun m87 f' cs'=>∃(g:Fr)(qV:Nat)(AU c80 yt:List Int)(v81:Sv)(SQ:List Nat)(v84:Sv)(SS:List Nat),m87=AU.length/\f'=aR g [(5,(pz k3)),(6,(pz k4)),(8,(pz k11)),(38,aU.v),(39,(zi (ay.Terms.length:Int))),(40,(zi (qV:Int)))]/\List.drop qV ay.Terms=AU/\aP cs' [a_ k3 71 (zg [(zi bN.Rel),dw.v]),ah dw bN.Values,bq k4 85 (zg [(.slice none 0 0),(.slice none 0 0)]),bq k11 85 (zg [v81.v,v84.v]),bv SQ v81 c80,bv SS v84 yt,ah aU ay.Terms]/\FX bN AU qV c80 yt=some R) ⟨_,0,_,_,_,dP.1,dP.2.1,dP.2.2.1,dP.2.2.2,rfl,aB,rfl,aA,hF⟩ ?_)
 rintro m87 _ _ ⟨g88,qV,AU,c80,yt,v81,SQ,v84,SS,rfl,rfl,akk,hE,hF⟩
 refine Kb hE ay.Terms (fun aB5=>?_)
 rcases AU with _|⟨x91,AU⟩
 · have ay4:=dn akk
   rw[FX]at hF
   refine aL ?_
   refine dE ?_
   refine bG ?_
   refine As (zg [v81.v,v84.v]) ?_
   refine aZ ?_
   cases hF
   exact eO (v81,SQ,v84,SS) (.cellA rfl rfl .h rfl jN.h d_.h.sz rfl rfl (.tmp rfl rfl .nil)) rfl (.sel (.cons .q4 (.cons .q4 .nil)))
 obtain⟨ay4,Rq,hd95⟩:=dA akk
 rw[FX]at hF
 refine aL ?_
 refine dD ?_
 refine au ?_
 obtain⟨o98,auW,aco⟩:=bind_some hF
 refine gN (fun f' cs'=>∃(c148 Rp:List Int)(WE:Sv)(acp:List Nat)(v152:Sv)(acr:List Nat)(g:Fr),o98= .inr (c148,Rp)/\f'=aR g [(5,(pz k3)),(6,(pz k4)),(8,(pz k11)),(38,aU.v),(39,(zi (ay.Terms.length:Int))),(40,(zi (qV:Int)))]/\aP cs' [a_ k3 71 (zg [(zi bN.Rel),dw.v]),ah dw bN.Values,bq k4 85 (zg [(.slice none 0 0),(.slice none 0 0)]),bq k11 85 (zg [WE.v,v152.v]),bv acp WE c148,bv acr v152 Rp,ah aU ay.Terms]) ?_ ?_
 · replace hF:=auW
   refine bn (cB (Cm (zi (qV:Int)) rfl rfl ?_))
   refine Ai Rq (fun aD0 aD1=>?_)
   refine Al dN ?_
   refine aL ?_
   obtain⟨acl,arU,auX⟩:=bind_some hF
   refine au ?_
   refine gB (fun f' cs'=>∃(um:Bool)(g:Fr),um=acl/\f'=aR g [(5,(pz k3)),(6,(pz k4)),(8,(pz k11)),(9,(zi (qV:Int))),(10,(zi x91)),(38,aU.v),(39,(zi (ay.Terms.length:Int))),(40,(zi (qV:Int))),(52,(.bool um))]/\aP cs' [a_ k3 71 (zg [(zi bN.Rel),dw.v]),ah dw bN.Values,bq k4 85 (zg [(.slice none 0 0),(.slice none 0 0)]),bq k11 85 (zg [v81.v,v84.v]),bv SQ v81 c80,bv SS v84 yt,ah aU ay.Terms]) ?_ ?_
   · replace hF:=arU
     refine au ?_
     refine bnd hF fun BH aaS hF=>bR (OD aaS) (fun _=>?_)
     refine au ?_
     rcases df BH with Qi|Qi
     · rw[Qi]
       try rw[Qi]at hF; dsimp only[aY,aX]at hF
       refine bf ?_
       refine bnd hF fun Rn Qh hF=>jM (.cons .q6 (.cons .q5 .nil)) (iW (pre:=[]) (.cons bi (.cons bi .nil)) (fun _=>.nil) (bP atL.h bz (adG Qh))) (fun _=>?_)
       exact cK hF
     rw[Qi]
     try rw[Qi]at hF; dsimp only[aY,aX]at hF
     exact cK hF
   rintro _ _ ⟨um,aD2,rfl,rfl,hE⟩
   replace hF:=auX
   try dsimp only at hF
   refine bM hE ?_
   refine Ci hF (fun auY hF=>?_) (fun auY hF=>?_)
   · refine jK [0,1,2,3,5,6,7,8,9,10,11,12,4,14,13,15,16,17] [0,1,0,4,15,0,32,0,128,0,896,1920,3968,8191,127,32767,65535,131071] [4,13,15,17] mixed (by decide+kernel) ?_
     refine du ?_
     refine dH rfl .no .q3 (fun ha hp=>fZ (v:=v81.v) fT.h (EN ha (.tmp rfl rfl) rfl) hp.2 rfl rfl) ?_
     refine du ?_
     refine gP rfl .no rfl (fun ha=>bI (g:=true) (len:=1) (parts:=[(0,.tmp 55)]) bH.h bC.h (.cons (EN ha (.tmp rfl rfl) rfl) .nil) (vs:=[(zi x91)]) rfl rfl rfl (by intro v hv; simp at hv; rcases hv with rfl<;>rfl)) (fun aD3=>?_)
     refine gZ (.cons .h .nil) (bK (Ro:=(aj ax)) (E:=3) (F:=([]++[])) (xs:=([x91]:List Int)) (bS (dK (fun _=>rfl)) bJ bB) rfl rfl) ?_
     refine du ?_
     refine dH rfl .no .q4 (fun ha hp=>fZ (v:=v84.v) fT.h (EN ha (.tmp rfl rfl) rfl) hp.2 rfl rfl) ?_
     refine fw ?_
     refine zI hF fun x113 aB6 aaY hF=>?_
     refine Di aaY (fun qm aD4=>?_)
     refine Dl dN ?_
     refine gP rfl .no rfl (fun ha=>bI (g:=true) (len:=1) (parts:=[(0,.tmp 64)]) bH.h bC.h (.cons (EN ha (.tmp rfl rfl) rfl) .nil) (vs:=[(zi x113)]) rfl rfl rfl (by intro v hv; simp at hv; rcases hv with rfl<;>rfl)) (fun aD5=>?_)
     refine gZ (.cons .h .nil) (bK (Ro:=(aj ax)) (E:=3) (F:=([]++[])) (xs:=([x113]:List Int)) (bS (dK (fun _=>rfl)) bJ bB) rfl rfl) ?_
     refine bnd hF fun acm auZ hF=>bZ rfl rfl .no (.cons .q7 (.cons .q2 .nil)) (.own .h (by simp[aJ]) (.own .q5 (fun _ h=>h) (.dep rfl (.dep rfl .nil)))) (fun ha=>dL (Ro:=(aj ax)) bH.h gL bC.h rfl rfl rfl (EN ha (.tmp rfl rfl) rfl) (EN ha (.tmp rfl rfl) rfl) auZ eX) (fun WF=>?_)
     refine du ?_
     refine bnd hF fun acn Qj hF=>bZ rfl rfl .no (.cons .q7 (.cons (.t .h) .nil)) (.dep rfl (.dep rfl (.dep rfl (.dep rfl .nil)))) (fun ha=>dL (Ro:=(aj ax)) bH.h gL bC.h rfl rfl rfl (EN ha (.tmp rfl rfl) rfl) (EN ha (.tmp rfl rfl) rfl) Qj eX) (fun acs=>?_)
     refine bZ rfl rfl .no (.cons .q6 .nil) (.dep rfl (.dep rfl (.dep rfl (.dep rfl .nil)))) (fun ha=>fA (e':=(zg [WF.1.v,v84.v])) fB.h.sz (EN ha (.tmp rfl rfl) rfl) (EN ha (.tmp rfl rfl) rfl) rfl rfl rfl rfl rfl) (fun _=>?_)
     refine du ?_
     refine bZ rfl rfl .no (.cons .h .nil) (.dep rfl (.dep rfl (.dep rfl (.dep rfl .nil)))) (fun ha=>fA (e':=(zg [WF.1.v,acs.1.v])) fB.h.sz (EN ha (.tmp rfl rfl) rfl) (EN ha (.tmp rfl rfl) rfl) rfl rfl rfl rfl rfl) (fun _=>?_)
     refine du ?_
     refine dM [0,1,3,4,5,6,7,2,8] [0,0,3,0,8,0,56,120,255] [2] mixed (by decide+kernel) ?_
     refine dH rfl .no .h (fun ha hp=>gM jN.h d_.h.sz rfl (EN ha (.tmp rfl rfl) rfl) hp.2 rfl) ?_
     refine sG ?_
     refine zI hF fun akg aB7 au0 hF=>?_
     refine Di au0 (fun aD6 aD7=>?_)
     refine Dl dN ?_
     refine bnd hF fun akh aaZ hF=>lq rfl rfl .no (.cons .q2 (.cons .q2 .nil)) (.dep rfl .nil) (fun ha=>iW (pre:=[]) (.cons bi (.cons bi .nil)) (fun _=>.nil) (bP VK.h (.cons (EN ha (.tmp rfl rfl) rfl) (.cons (EN ha (.tmp rfl rfl) rfl) .nil)) (NY aaZ))) (fun _=>?_)
     refine bV ?_
     refine Ci hF (fun au1 hF=>?_) (fun au1 hF=>?_)
     · refine au ?_
       refine aK (gH d_.h rfl (vs:=[]) .nil (cells:=[(.slice none 0 0),(.slice none 0 0)]) rfl) ?_
       refine As (zg [(.slice none 0 0),(.slice none 0 0)]) ?_
       refine aZ ?_
       cases hF
       replace hF:=aco
       try dsimp only at hF
       cases hF
       exact eO (⟨none,0,0⟩,[],⟨none,0,0⟩,[]) (.cellA rfl rfl .h rfl jN.h d_.h.sz rfl rfl (.tmp rfl rfl .nil)) rfl (.conv .nil (fu (Ro:=(aj ax)) (E:=3)) (.cons .nil) (.conv .nil (fu (Ro:=(aj ax)) (E:=3)) (.cons .nil) (.sel (.cons (.t .h) (.cons .h .nil)))))
     refine au ?_
     cases hF
     exact⟨_,_,WF.1,WF.2,acs.1,acs.2,_,rfl,aB,aA⟩
   refine au ?_
   refine dM [0,1,3,4,5,6,7,2,8] [0,0,3,0,8,0,56,120,255] [2] mixed (by decide+kernel) ?_
   refine dH rfl .no .q3 (fun ha hp=>gM jN.h d_.h.sz rfl (EN ha (.tmp rfl rfl) rfl) hp.2 rfl) ?_
   refine sG ?_
   refine zI hF fun aki aB8 au2 hF=>?_
   refine Di au2 (fun MB ay2=>?_)
   refine Dl dN ?_
   refine bnd hF fun akj au3 hF=>lq rfl rfl .no (.cons .q6 (.cons .q5 .nil)) (.dep rfl .nil) (fun ha=>iW (pre:=[]) (.cons bi (.cons bi .nil)) (fun _=>.nil) (bP VK.h (.cons (EN ha (.tmp rfl rfl) rfl) (.cons (EN ha (.tmp rfl rfl) rfl) .nil)) (NY au3))) (fun _=>?_)
   refine bV ?_
   refine Ci hF (fun au4 hF=>?_) (fun au4 hF=>?_)
   · refine au ?_
     refine aK (gH d_.h rfl (vs:=[]) .nil (cells:=[(.slice none 0 0),(.slice none 0 0)]) rfl) ?_
     refine As (zg [(.slice none 0 0),(.slice none 0 0)]) ?_
     refine aZ ?_
     cases hF
     replace hF:=aco
     try dsimp only at hF
     cases hF
     exact eO (⟨none,0,0⟩,[],⟨none,0,0⟩,[]) (.cellA rfl rfl .h rfl jN.h d_.h.sz rfl rfl (.tmp rfl rfl .nil)) rfl (.conv .nil (fu (Ro:=(aj ax)) (E:=3)) (.cons .nil) (.conv .nil (fu (Ro:=(aj ax)) (E:=3)) (.cons .nil) (.sel (.cons (.t .h) (.cons .h .nil)))))
   refine au ?_
   cases hF
   exact⟨_,_,v81,SQ,v84,SS,_,rfl,aB,aA⟩
 rintro _ _ ⟨c148,Rp,WE,acp,v152,acr,aD8,rfl,rfl,hE⟩
 replace hF:=aco
 try dsimp only at hF
 refine bM hE ?_
 refine aL ?_
 rw[wk qV]
 exact⟨_,bY _,_,qV+1,AU,_,_,WE,acp,v152,acr,rfl,aB,hd95,aA,hF⟩
def Da(ay:Atom)(eF:aM):List Fact->Nat->(List aM)->Option ((List aM))
 |[],vL,c24=>some c24
 |x32::AV,vL,c24=>((Oi eF ay x32).bind fun yu=>
     if yu.2 then (
       (app c24 ([yu.1]:List aM)).bind fun z50=>
       some z50)
     else (
       some c24)).bind fun JQ=>
   match JQ with
   |SV=>Da ay eF AV (vL+1) SV
def Db(ay:Atom)(bA:List Fact):List aM->Nat->(List aM)->Option ((List aM))
 |[],k9,c3=>some c3
 |eF::dB,k9,c3=>(Da ay eF bA 0 c3).bind fun iD=>
   match iD with
   |c59=>Db ay bA dB (k9+1) c59
def zW(lK:List aM)(ay:Atom)(bA:List Fact):Option ((List aM)):=
 Db ay bA lK 0 ([]:List aM)
theorem YG{lK:List aM}{aa:Sv}{ay:Atom}{aU:Sv}{bA:List Fact}{bu:Sv}{R:(List aM)}(hF:zW lK ay bA=some R):
   Fw.Spec Tryz.prog 148 [aa.v,(zg [(zi ay.Rel),aU.v]),bu.v] [nQ aa lK,ah aU ay.Terms,cz bu bA] (fun p:Sv×List Nat=>p.1.v) (fun p=>[pJ p.2 p.1 R]):=by
 refine Se 42 Tryz.func148 [.tmp 6] ?_
 intro H0 F0
 unfold zW at hF
 refine au ?_
 refine bW (fun k1=>?_)
 refine aZ ?_
 refine b_ rfl (bI (g:=true) rJ.h d_.h .nil (vs:=[]) rfl rfl rfl (by simp)) (fun k2=>?_)
 refine dh (.cons .h .nil) (bK (Ro:=pE) (E:=85) (F:=[]) (xs:=([]:List aM)) bJ rfl rfl) ?_
 refine fI ?_
 refine bn (bU (m:=lK.length) (fun m7 f' cs'=>∃(g:Fr)(k9:Nat)(dB c3:List aM)(v4:Sv)(F5:List Nat),m7=dB.length/\f'=aR g [(2,bu.v),(4,(pz k1)),(7,v4.v),(15,aa.v),(16,(zi (lK.length:Int))),(17,(zi (k9:Int)))]/\List.drop k9 lK=dB/\aP cs' [cz bu bA,a_ k1 66 (zg [(zi ay.Rel),aU.v]),ah aU ay.Terms,pJ F5 v4 c3,nQ aa lK]/\Db ay bA dB k9 c3=some R) ⟨_,0,_,_,⟨(some ⟨k2,0,none⟩),0,1⟩,(k2::[]),rfl,aB,rfl,aA,hF⟩ ?_)
 rintro m7 _ _ ⟨g8,k9,dB,c3,v4,F5,rfl,rfl,je,hE,hF⟩
 refine Kb hE lK (fun yQ=>?_)
 rcases dB with _|⟨eF,dB⟩
 · have nR:=dn je
   rw[Db]at hF
   refine aL ?_
   refine dE ?_
   refine eU ?_
   cases hF
   exact Er (v4,F5)
 obtain⟨nR,fQ,mr⟩:=dA je
 rw[Db]at hF
 refine aL ?_
 refine dD ?_
 refine au ?_
 obtain⟨iD,pg,pK⟩:=bind_some hF
 refine gN (fun f' cs'=>∃(c59:List aM)(v60:Sv)(sZ:List Nat)(g:Fr),c59=iD/\f'=aR g [(2,bu.v),(4,(pz k1)),(7,v60.v),(15,aa.v),(16,(zi (lK.length:Int))),(17,(zi (k9:Int)))]/\aP cs' [cz bu bA,a_ k1 66 (zg [(zi ay.Rel),aU.v]),ah aU ay.Terms,pJ sZ v60 c59,nQ aa lK]) ?_ ?_
 · replace hF:=pg
   refine bn (cB (rF (a:=eF) rJ.h d_.h.sz (.tmp rfl rfl) (.tmp rfl rfl) .q4 (Int.natCast_nonneg k9) fQ (fun k20 zt=>?_)))
   refine QG (z_ eF) DX (fun iI=>?_)
   refine cO (fun k23=>?_)
   refine As (zg [iI.1.v,iI.2.v]) ?_
   refine bG ?_
   refine bn (bU (m:=bA.length) (fun m28 f' cs'=>∃(g:Fr)(vL:Nat)(AV:List Fact)(c24:List aM)(v25:Sv)(EX:List Nat),m28=AV.length/\f'=aR g [(2,bu.v),(4,(pz k1)),(7,v25.v),(9,(pz k23)),(15,aa.v),(16,(zi (lK.length:Int))),(17,(zi (k9:Int))),(21,bu.v),(22,(zi (bA.length:Int))),(23,(zi (vL:Int)))]/\List.drop vL bA=AV/\aP cs' [cz bu bA,a_ k1 66 (zg [(zi ay.Rel),aU.v]),ah aU ay.Terms,pJ EX v25 c24,bq k23 85 (zg [iI.1.v,iI.2.v]),ah iI.1 eF.Vars,ah iI.2 eF.Values,nQ aa lK]/\Da ay eF AV vL c24=some iD) ⟨_,0,_,_,v4,F5,rfl,aB,rfl,aA,hF⟩ ?_)
   rintro m28 _ _ ⟨g29,vL,AV,c24,v25,EX,rfl,rfl,MC,hE,hF⟩
   refine Kb hE bA (fun aB9=>?_)
   rcases AV with _|⟨x32,AV⟩
   · have ay5:=dn MC
     rw[Da]at hF
     refine aL ?_
     refine dE ?_
     refine aL ?_
     cases hF
     exact⟨_,v25,EX,_,rfl,aB,aA⟩
   obtain⟨ay5,I6,WB⟩:=dA MC
   rw[Da]at hF
   refine aL ?_
   refine dD ?_
   refine au ?_
   obtain⟨JQ,aaW,ace⟩:=bind_some hF
   refine gN (fun f' cs'=>∃(SV:List aM)(v55:Sv)(F56:List Nat)(g:Fr),SV=JQ/\f'=aR g [(2,bu.v),(4,(pz k1)),(7,v55.v),(9,(pz k23)),(15,aa.v),(16,(zi (lK.length:Int))),(17,(zi (k9:Int))),(21,bu.v),(22,(zi (bA.length:Int))),(23,(zi (vL:Int)))]/\aP cs' [cz bu bA,a_ k1 66 (zg [(zi ay.Rel),aU.v]),ah aU ay.Terms,pJ F56 v55 SV,bq k23 85 (zg [iI.1.v,iI.2.v]),ah iI.1 eF.Vars,ah iI.2 eF.Values,nQ aa lK]) ?_ ?_
   · replace hF:=aaW
     refine bn (cB (rF (a:=x32) fU.h eG.h.sz (.tmp rfl rfl) (.tmp rfl rfl) .h (Int.natCast_nonneg vL) I6 (fun tC j42=>?_)))
     refine j_ (mZ x32) nI (fun p43=>?_)
     refine cO (fun XL=>?_)
     refine As (zg [(zi x32.Rel),p43.v]) ?_
     refine bf ?_
     refine bnd hF fun yu wD hF=>mV (anp wD) (fun p47=>?_)
     refine au ?_
     refine zx ?_
     refine zx ?_
     refine cO (fun k48=>?_)
     refine As (zg [p47.1.v,p47.2.2.1.v]) ?_
     refine bf ?_
     refine Ci hF (fun ay6 hF=>?_) (fun ay6 hF=>?_)
     · refine aZ ?_
       refine b_ rfl (bI (g:=true) rJ.h d_.h bz (vs:=[(zg [p47.1.v,p47.2.2.1.v])]) rfl rfl rfl (by intro v hv; simp at hv; rcases hv with rfl<;>rfl)) (fun JA=>?_)
       refine dh (.cons .h (.cons (.t .h) (.cons (.t .h) .nil))) (bK (Ro:=pE) (E:=85) (F:=((p47.2.1++p47.2.2.2)++[])) (xs:=([yu.1]:List aM)) (bS QI bJ bB) rfl rfl) ?_
       refine bnd hF fun z50 uY hF=>dC (.cons .q8 (.cons .h .nil)) (dL (Ro:=pE) rJ.h Wi d_.h rfl rfl rfl (.tmp rfl rfl) (.tmp rfl rfl) uY eX) (fun p52=>?_)
       refine aT ?_
       cases hF
       exact⟨_,p52.1,p52.2,_,rfl,aB,aA⟩
     refine au ?_
     cases hF
     exact⟨_,v25,EX,_,rfl,aB,aA⟩
   rintro _ _ ⟨SV,v55,F56,g58,rfl,rfl,hE⟩
   replace hF:=ace
   try dsimp only at hF
   refine bM hE ?_
   refine aL ?_
   rw[wk vL]
   exact⟨_,bY _,_,vL+1,AV,_,v55,F56,rfl,aB,WB,aA,hF⟩
 rintro _ _ ⟨c59,v60,sZ,g63,rfl,rfl,hE⟩
 replace hF:=pK
 try dsimp only at hF
 refine bM hE ?_
 refine aL ?_
 rw[wk k9]
 exact⟨_,bY _,_,k9+1,dB,_,v60,sZ,rfl,aB,mr,aA,hF⟩
def FM(bA:List Fact):List Atom->Nat->(List aM)->Option ((List aM))
 |[],k9,c3=>some c3
 |eF::dB,k9,c3=>(zW c3 eF bA).bind fun iJ=>
   FM bA dB (k9+1) iJ
def KM(ai:aO)(bA:List Fact):Option ((List aM)):=
 FM bA ai.Atoms 0 ([(⟨[],[]⟩:aM)]:List aM)
theorem ad1{ai:aO}{aa aQ:Sv}{bA:List Fact}{ak:Sv}{R:(List aM)}(hF:KM ai bA=some R):
   Fw.Spec Tryz.prog 95 [(zg [aa.v,aQ.v]),ak.v] [ah aa ai.Head,bX aQ ai.Atoms,cz ak bA] (fun p:Sv×List Nat=>p.1.v) (fun p=>[pJ p.2 p.1 R]):=by
 refine Se 23 Tryz.func95 [.tmp 4] ?_
 intro H0 F0
 unfold KM at hF
 refine au ?_
 refine bW (fun k1=>?_)
 refine aZ ?_
 refine aK (gH d_.h rfl (vs:=[]) .nil (cells:=[(.slice none 0 0),(.slice none 0 0)]) rfl) ?_
 refine b_ rfl (bI (g:=true) rJ.h d_.h bz (vs:=[(zg [(.slice none 0 0),(.slice none 0 0)])]) rfl rfl rfl (by intro v hv; simp at hv; rcases hv with rfl<;>rfl)) (fun k2=>?_)
 iterate 2 refine Ee .nil (fu (Ro:=(aj ax)) (E:=3)) bB ?_
 refine dh (.cons .q2 (.cons (.t .h) (.cons .h .nil))) (bK (Ro:=pE) (E:=85) (F:=(([]++[])++[])) (xs:=([(⟨[],[]⟩:aM)]:List aM)) (bS (QI (v0:=⟨none,0,0⟩) (v1:=⟨none,0,0⟩) (a:=(⟨[],[]⟩:aM))) bJ bB) rfl rfl) ?_
 refine eU ?_
 refine bn (bU (m:=ai.Atoms.length) (fun m7 f' cs'=>∃(g:Fr)(k9:Nat)(dB:List Atom)(c3:List aM)(v4:Sv)(F5:List Nat),m7=dB.length/\f'=aR g [(1,ak.v),(5,v4.v),(11,aQ.v),(12,(zi (ai.Atoms.length:Int))),(13,(zi (k9:Int)))]/\List.drop k9 ai.Atoms=dB/\aP cs' [cz ak bA,pJ F5 v4 c3,bX aQ ai.Atoms]/\FM bA dB k9 c3=some R) ⟨_,0,_,_,⟨(some ⟨k2,0,none⟩),1,1⟩,(k2::(([]++[])++[])),rfl,aB,rfl,aA,hF⟩ ?_)
 rintro m7 _ _ ⟨g8,k9,dB,c3,v4,F5,rfl,rfl,je,hE,hF⟩
 refine Kb hE ai.Atoms (fun yQ=>?_)
 rcases dB with _|⟨eF,dB⟩
 · have nR:=dn je
   rw[FM]at hF
   refine aL ?_
   refine dE ?_
   refine eU ?_
   cases hF
   exact Er (v4,F5)
 obtain⟨nR,fQ,mr⟩:=dA je
 rw[FM]at hF
 refine aL ?_
 refine dD ?_
 refine aZ ?_
 refine Ai fQ (fun k18 j19=>?_)
 refine j_ (qZ eF) rZ (fun nZ=>?_)
 refine cO (fun k21=>?_)
 refine As (zg [(zi eF.Rel),nZ.v]) ?_
 refine bf ?_
 refine bnd hF fun iJ nz hF=>jM (.cons .q4 (.rd (.t .h) rfl (.rd .q3 rfl .nil))) (eY bi (fun _=>(.cons .nil)) (bP aaL.h bz (YG nz))) (fun ji=>?_)
 refine bG ?_
 rw[wk k9]
 exact⟨_,bY _,_,k9+1,dB,_,ji.1,ji.2,rfl,aB,mr,aA,hF⟩
def Fp(iM:List Int):List Int->Nat->Option (Bool)
 |[],k4=>some true
 |x6::aG,k4=>(ix iM (k4:Int)).bind fun mH=>
   if ((x6:Int)!=mH)then (
     some false)
   else (
     Fp iM aG (k4+1))
def Fs(iy:List Int)(iM:List Int):Option (Bool):=
 if (((iy.length:Int):Int)!=(iM.length:Int))then (
   some false)
 else (
   Fp iM iy 0)
theorem TM{iy:List Int}{aa:Sv}{iM:List Int}{ak:Sv}{R:Bool}(hF:Fs iy iM=some R):
   Fw.Spec Tryz.prog 115 [aa.v,ak.v] [ah aa iy,ah ak iM] (fun _:Unit=>(.bool R)) (fun _=>[]):=by
 refine Se 26 Tryz.func115 [.tmp 4] ?_
 intro H0 F0
 unfold Fs at hF
 refine v_ ?_
 refine Ci hF (fun ve hF=>?_) (fun ve hF=>?_)
 · exact ze hF
 refine bQ ?_
 refine bn (bU (m:=iy.length) (fun m2 f' cs'=>∃(g:Fr)(k4:Nat)(aG:List Int),m2=aG.length/\f'=aR g [(0,aa.v),(1,ak.v),(12,(zi (iy.length:Int))),(13,(zi (k4:Int)))]/\List.drop k4 iy=aG/\aP cs' [ah aa iy,ah ak iM]/\Fp iM aG k4=some R) ⟨_,0,_,rfl,aB,rfl,aA,hF⟩ ?_)
 rintro m2 _ _ ⟨g3,k4,aG,rfl,rfl,hd7,hE,hF⟩
 refine Kb hE iy (fun jL=>?_)
 rcases aG with _|⟨x6,aG⟩
 · have fG:=dn hd7
   rw[Fp]at hF
   refine aL ?_
   refine dE ?_
   exact ze hF
 obtain⟨fG,dm,fF⟩:=dA hd7
 rw[Fp]at hF
 refine aL ?_
 refine dD ?_
 refine bG ?_
 refine dM [0,1,2,3,4,5,6,7,8] [0,0,3,7,0,0,48,112,255] [] mixed (by decide+kernel) ?_
 refine bV ?_
 refine Di dm (fun k13 lc=>?_)
 refine Dl dN ?_
 refine bV ?_
 refine zI hF fun mH ab1 iL hF=>?_
 refine Di iL (fun k19 EU=>?_)
 refine Dl dN ?_
 refine bV ?_
 refine Ci hF (fun xM hF=>?_) (fun xM hF=>?_)
 · exact ze hF
 refine bf ?_
 rw[wk k4]
 exact⟨_,bY _,_,k4+1,aG,rfl,aB,fF,aA,hF⟩
def FB(ai:aO)(o7:List Int):List aM->Nat->Option (aM×Bool)
 |[],wR=>some ((⟨[],[]⟩:aM),false)
 |x34::AX,wR=>(D5 ai x34).bind fun yu=>
   (Fs yu o7).bind fun oK=>
   if oK then (
     some (x34,true))
   else (
     FB ai o7 AX (wR+1))
def NI(ai:aO)(bA:List Fact)(o7:List Int):Option (aM×Bool):=
 (KM ai bA).bind fun r3=>
 FB ai o7 r3 0
theorem amH{ai:aO}{aa aQ:Sv}{bA:List Fact}{ak:Sv}{o7:List Int}{bu:Sv}{R:aM×Bool}(hF:NI ai bA o7=some R):
   Fw.Spec Tryz.prog 86 [(zg [aa.v,aQ.v]),ak.v,bu.v] [ah aa ai.Head,bX aQ ai.Atoms,cz ak bA,ah bu o7] (fun p:Sv×Sv=>(.tuple [(zg [p.1.v,p.2.v]),(.bool R.2)].toArray)) (fun p=>[ah p.1 R.1.Vars,ah p.2 R.1.Values]):=by
 refine Se 26 Tryz.func86 [.cell 6 85,.tmp 7] ?_
 intro H0 F0
 unfold NI at hF
 refine au ?_
 refine bW (fun k1=>?_)
 refine cO (fun k2=>?_)
 refine bG ?_
 refine bnd hF fun r3 hx4 hF=>dW (ad1 hx4) (fun p5=>?_)
 refine aZ ?_
 refine bn (lS .h bi ?_)
 refine bU (m:=r3.length) (fun m30 f' cs'=>∃(g:Fr)(wR:Nat)(AX:List aM),m30=AX.length/\f'=aR g [(2,bu.v),(3,(pz k1)),(6,(pz k2)),(12,p5.1.v),(13,(zi (r3.length:Int))),(14,(zi (wR:Int)))]/\List.drop wR r3=AX/\aP cs' [ah bu o7,a_ k1 28 (zg [aa.v,aQ.v]),ah aa ai.Head,bX aQ ai.Atoms,bq k2 85 (zg [(.slice none 0 0),(.slice none 0 0)]),nQ p5.1 r3]/\FB ai o7 AX wR=some R) ⟨_,0,_,rfl,aB,rfl,aA,hF⟩ ?_
 rintro m30 _ _ ⟨g31,wR,AX,rfl,rfl,akl,hE,hF⟩
 refine Kb hE r3 (fun aB_=>?_)
 rcases AX with _|⟨x34,AX⟩
 · have abG:=dn akl
   rw[FB]at hF
   refine aL ?_
   refine dE ?_
   refine bf ?_
   refine aK (gH d_.h rfl (vs:=[]) .nil (cells:=[(.slice none 0 0),(.slice none 0 0)]) rfl) ?_
   refine As (zg [(.slice none 0 0),(.slice none 0 0)]) ?_
   refine aZ ?_
   cases hF
   exact eO (⟨none,0,0⟩,⟨none,0,0⟩) (.cellA rfl rfl .h rfl jN.h d_.h.sz rfl rfl (.tmp rfl rfl .nil)) rfl (.conv .nil (Ef (R:=ax) (E:=3)) (.cons .nil) (.conv .nil (Ef (R:=ax) (E:=3)) (.cons .nil) (.sel (.rd (.t .h) rfl (.rd .h rfl .nil)))))
 obtain⟨abG,Rs,hd38⟩:=dA akl
 rw[FB]at hF
 refine aL ?_
 refine dD ?_
 refine aZ ?_
 refine Ai Rs (fun tC j42=>?_)
 refine QG (z_ x34) DX (fun p43=>?_)
 refine cO (fun XL=>?_)
 refine As (zg [p43.1.v,p43.2.v]) ?_
 refine aL ?_
 refine bnd hF fun yu wD hF=>dW (Uu wD) (fun p47=>?_)
 refine au ?_
 refine bnd hF fun oK nU hF=>dC (.cons .h (.rd .q4 rfl .nil)) (eY bi (fun _=>.nil) (bP atS.h bz (TM nU))) (fun _=>?_)
 refine au ?_
 refine Ci hF (fun acu hF=>?_) (fun acu hF=>?_)
 · refine aT ?_
   refine As (zg [p43.1.v,p43.2.v]) ?_
   refine aZ ?_
   cases hF
   exact eO (p43.1,p43.2) (.cellA rfl rfl .h rfl jN.h d_.h.sz rfl rfl (.tmp rfl rfl .nil)) rfl (.sel (.rd .q3 rfl (.rd .q4 rfl .nil)))
 refine bf ?_
 rw[wk wR]
 exact⟨_,bY _,_,wR+1,AX,rfl,aB,hd38,aA,hF⟩
def Oj(fuel:Nat)(jJ:aO)(ai:aO):Option (Bool):=
 if (((jJ.Head.length:Int):Int)!=(ai.Head.length:Int))then (
   some false)
 else (
   (yC jJ).bind fun r4=>
   (yC ai).bind fun r7=>
   (Ko ([r4,r7]:List (List Int))).bind fun fo=>
   (Lm fuel jJ fo).bind fun iK=>
   if (!iK.2.2)then (
     some false)
   else (
     (D5 jJ iK.2.1).bind fun iV=>
     (NI ai iK.1 iV).bind fun tL=>
     some tL.2))
theorem anq{fuel:Nat}{jJ:aO}{aa aQ:Sv}{ai:aO}{ak aU:Sv}{R:Bool}(hF:Oj fuel jJ ai=some R):
   Fw.Spec Tryz.prog 32 [(zg [aa.v,aQ.v]),(zg [ak.v,aU.v])] [ah aa jJ.Head,bX aQ jJ.Atoms,ah ak ai.Head,bX aU ai.Atoms] (fun _:Unit=>(.bool R)) (fun _=>[]):=by
 refine Se 41 Tryz.func32 [.tmp 4] ?_
 intro H0 F0
 unfold Oj at hF
 refine au ?_
 refine bW (fun k1=>?_)
 refine bW (fun k2=>?_)
 refine Ei ?_
 refine Ci hF (fun BG hF=>?_) (fun BG hF=>?_)
 · exact ze hF
 refine au ?_
 refine dM [0,1,3,12,2,4,5,6,7,8,9,10,11,13,14,15] [0,0,2,0,14,30,62,127,255,511,511,511,0,5119,14335,32767] [2,4,6,7,14] mixed (by decide+kernel) ?_
 refine fw ?_
 refine gP rfl .no rfl (fun ha=>ru (g:=true) d_.h rfl rfl) (fun k3=>?_)
 refine bnd hF fun r4 hx5 hF=>bZ rfl rfl .no (.rd .q3 rfl (.rd .q4 rfl .nil)) (.own .h (fun _ h=>h) .nil) (fun ha=>bP abx.h (.cons (EN ha (.tmp rfl rfl) rfl) .nil) (@Kw jJ aa aQ _ hx5)) (fun p6=>?_)
 refine bnd hF fun r7 nY hF=>bZ rfl rfl .no (.rd .q6 rfl (.rd .q7 rfl .nil)) (.own (.t .h) (fun _ h=>h) .nil) (fun ha=>bP abx.h (.cons (EN ha (.tmp rfl rfl) rfl) .nil) (@Kw ai ak aU _ nY)) (fun p9=>?_)
 refine gP rfl .no rfl (fun ha=>bI (g:=true) (len:=2) (parts:=[(0,.tmp 20),(1,.tmp 22)]) gJ.h fB.h (.cons (EN ha (.tmp rfl rfl) rfl) (.cons (EN ha (.tmp rfl rfl) rfl) .nil)) (vs:=[p6.1.v,p9.1.v]) rfl rfl rfl (by intro v hv; simp at hv; rcases hv with rfl|rfl<;>rfl)) (fun k10=>?_)
 refine gZ (.cons .h (.cons (.t .h) (.cons .h .nil))) (bK (Ro:=(az 3 (aj ax))) (E:=24) (F:=(p6.2++(p9.2++[]))) (xs:=([r4,r7]:List (List Int))) (bS uR (bS uR bJ bB) bB) rfl rfl) ?_
 refine bnd hF fun fo uZ hF=>lq rfl rfl .no (.cons .h .nil) (.dep rfl (.own .h (fun _ h=>h) .nil)) (fun ha=>eY bi (fun _=>(.cons .nil)) (bP ajv.h (.cons (EN ha (.tmp rfl rfl) rfl) .nil) (@ada ([r4,r7]:List (List Int)) (⟨(some ⟨k10,0,none⟩),2,1⟩) _ uZ))) (fun vH=>?_)
 refine bnd hF fun iK mR hF=>Eg rfl rfl .no (.cons (.t .h) (.rd .q4 rfl (.rd .q5 rfl .nil))) (.dep rfl (.own (.t .h) (fun _ h=>h) .nil)) (fun ha=>eY bi (fun _=>(.cons (.cons (.cons .nil)))) (fM (.rd (.t .h) rfl (.rd .q2 rfl (.rd .h rfl .nil))) (bP ajw.h (.cons (EN ha (.tmp rfl rfl) rfl) (.cons (EN ha (.tmp rfl rfl) rfl) .nil)) (@ae_ fuel jJ aa aQ fo vH.1 _ mR)))) (fun p16=>?_)
 refine du ?_
 refine dJ rfl .no (fun ha=>qz (l:=[p16.1.v,(zg [p16.2.2.1.v,p16.2.2.2.2.1.v]),(.bool iK.2.2)]) (v:=p16.1.v) (EN ha (.tmp rfl rfl) rfl) rfl) ?_
 refine dJ rfl .no (fun ha=>qz (l:=[p16.1.v,(zg [p16.2.2.1.v,p16.2.2.2.2.1.v]),(.bool iK.2.2)]) (v:=(zg [p16.2.2.1.v,p16.2.2.2.2.1.v])) (EN ha (.tmp rfl rfl) rfl) rfl) ?_
 refine dJ rfl .no (fun ha=>qz (l:=[p16.1.v,(zg [p16.2.2.1.v,p16.2.2.2.2.1.v]),(.bool iK.2.2)]) (v:=(.bool iK.2.2)) (EN ha (.tmp rfl rfl) rfl) rfl) ?_
 refine du ?_
 refine bZ rfl rfl .no (.cons .q5 .nil) (.dep rfl (.dep rfl .nil)) (fun ha=>fA (e':=(zg [p16.2.2.1.v,p16.2.2.2.2.1.v])) (v:=(zg [p16.2.2.1.v,p16.2.2.2.2.1.v])) d_.h.sz (EN ha (.tmp rfl rfl) rfl) (EN ha (.tmp rfl rfl) rfl) rfl rfl rfl rfl rfl) (fun _=>?_)
 refine bV ?_
 refine bf ?_
 refine Ci hF (fun qJ hF=>?_) (fun qJ hF=>?_)
 · exact ze hF
 refine au ?_
 refine lS .q3 bi ?_
 iterate 2 refine lS .q4 bi ?_
 refine dM [0,1,2,3,9,4,5,6,7,8,10,11] [0,0,0,0,12,31,63,127,127,0,767,2047] [4,5,10] mixed (by decide+kernel) ?_
 refine fw ?_
 refine dH rfl .no .q3 (fun ha hp=>gM jN.h d_.h.sz rfl (EN ha (.tmp rfl rfl) rfl) hp.2 rfl) ?_
 refine gP rfl .no rfl (fun ha=>ru (g:=true) d_.h rfl rfl) (fun k23=>?_)
 refine bnd hF fun iV hx25 hF=>bZ rfl rfl .no (.rd .q9 rfl (.rd .q10 rfl (.rd .q3 rfl (.rd .q2 rfl .nil)))) (.own .h (fun _ h=>h) (.dep rfl .nil)) (fun ha=>aat (post':=fun p26:Sv×List Nat=>[ah p26.1 iV]) (fun p26=>(.frz .h bi aA)) (bP ajx.h (.cons (EN ha (.tmp rfl rfl) rfl) (.cons (EN ha (.tmp rfl rfl) rfl) .nil)) (@Uu jJ aa aQ iK.2.1 p16.2.2.1 p16.2.2.2.2.1 _ hx25))) (fun p26=>?_)
 refine bnd hF fun tL hx28 hF=>lq rfl rfl .no (.rd .q12 rfl (.rd .q13 rfl (.rd .q2 rfl (.rd .h rfl .nil)))) (.own (.t .h) (fun _ h=>h) (.dep rfl .nil)) (fun ha=>bP axB.h (.cons (EN ha (.tmp rfl rfl) rfl) (.cons (EN ha (.tmp rfl rfl) rfl) (.cons (EN ha (.tmp rfl rfl) rfl) .nil))) (@amH ai ak aU iK.1 p16.1 iV p26.1 _ hx28)) (fun p29=>?_)
 refine du ?_
 refine dJ rfl .no (fun ha=>qz (l:=[(zg [p29.1.v,p29.2.v]),(.bool tL.2)]) (v:=(zg [p29.1.v,p29.2.v])) (EN ha (.tmp rfl rfl) rfl) rfl) ?_
 refine dJ rfl .no (fun ha=>qz (l:=[(zg [p29.1.v,p29.2.v]),(.bool tL.2)]) (v:=(.bool tL.2)) (EN ha (.tmp rfl rfl) rfl) rfl) ?_
 refine bZ rfl rfl .no (.cons .q3 .nil) (.dep rfl (.dep rfl .nil)) (fun ha=>fA (e':=(zg [p29.1.v,p29.2.v])) (v:=(zg [p29.1.v,p29.2.v])) d_.h.sz (EN ha (.tmp rfl rfl) rfl) (EN ha (.tmp rfl rfl) rfl) rfl rfl rfl rfl rfl) (fun _=>?_)
 refine bV ?_
 exact ze hF
def yD(fuel:Nat)(ae:List Int)(ag:List Method)(ai:aO):Option (Bool):=
 (Kv fuel ae ag ai).bind fun r2=>
 (bif r2.2 then ((Oj fuel r2.1 ai).bind fun r9=>
     some r9)
   else (some false)).bind fun o6=>
 match o6 with
 |c12=>some c12
theorem Ub{fuel:Nat}{ae:List Int}{aa:Sv}{ag:List Method}{ak:Sv}{ai:aO}{bu dw:Sv}{R:Bool}(hF:yD fuel ae ag ai=some R):
   Fw.Spec Tryz.prog 7 [aa.v,ak.v,(zg [bu.v,dw.v])] [ah aa ae,dQ ak ag,ah bu ai.Head,bX dw ai.Atoms] (fun _:Unit=>(.bool R)) (fun _=>[]):=by
 refine Se 22 Tryz.func7 [.tmp 6] ?_
 intro H0 F0
 unfold yD at hF
 refine au ?_
 refine bW (fun k1=>?_)
 refine bG ?_
 refine bnd hF fun r2 hx3 hF=>mV (adq hx3) (fun p4=>?_)
 refine au ?_
 refine zx ?_
 refine zx ?_
 refine cO (fun k5=>?_)
 refine As (zg [p4.1.v,p4.2.2.1.v]) ?_
 refine aT ?_
 obtain⟨o6,IY,JB⟩:=bind_some hF
 refine au ?_
 refine gB (fun f' cs'=>∃(c12:Bool)(g:Fr),c12=o6/\f'=aR g [(6,(.bool c12))]/\aP cs' []) ?_ ?_
 · replace hF:=IY
   refine aT ?_
   rcases df r2.2 with dR|dR
   · rw[dR]
     try rw[dR]at hF; dsimp only[aY,aX]at hF
     refine bf ?_
     refine bnd hF fun r9 gu hF=>jM (.cons .q2 (.cons (.t .h) (.rd .q4 rfl (.rd .q5 rfl .nil)))) (iW (pre:=_) (.cons bi (.cons bi .nil)) (fun _=>.nil) (bP axA.h bz (anq gu))) (fun _=>?_)
     exact cK hF
   rw[dR]
   try rw[dR]at hF; dsimp only[aY,aX]at hF
   exact cK hF
 rintro _ _ ⟨c12,g13,rfl,rfl,hE⟩
 replace hF:=JB
 try dsimp only at hF
 refine bM hE ?_
 exact ze hF
def Uk(ed:Int):Option (Bool):=
 (DY ed).bind fun r1=>
 some (!r1)
theorem amI{ed:Int}{R:Bool}(hF:Uk ed=some R):
   Fw.Spec Tryz.prog 183 [(zi ed)] [] (fun _:Unit=>(.bool R)) (fun _=>[]):=by
 refine Se 6 Tryz.func183 [.tmp 2] ?_
 intro H0 F0
 unfold Uk at hF
 refine bf ?_
 refine bnd hF fun r1 hx2 hF=>bR (NV hx2) (fun _=>?_)
 exact ze hF
def Ka:List Int->Nat->Option (Int)
 |[],k4=>some (-1)
 |x6::aG,k4=>(Uk x6).bind fun eT=>
   if eT then (
     some (k4:Int))
   else (
     Ka aG (k4+1))
def TE(ae:List Int):Option (Int):=
 Ka ae 0
theorem alR{ae:List Int}{aa:Sv}{R:Int}(hF:TE ae=some R):
   Fw.Spec Tryz.prog 185 [aa.v,(.func (.func 183) [].toArray [].toArray)] [ah aa ae] (fun _:Unit=>(zi R)) (fun _=>[]):=by
 refine Se 19 Tryz.func185 [.tmp 4] ?_
 intro H0 F0
 unfold TE at hF
 refine eU ?_
 refine bn (bU (m:=ae.length) (fun m2 f' cs'=>∃(g:Fr)(k4:Nat)(aG:List Int),m2=aG.length/\f'=aR g [(0,aa.v),(1,(.func (.func 183) [].toArray [].toArray)),(7,(zi (ae.length:Int))),(8,(zi (k4:Int)))]/\List.drop k4 ae=aG/\aP cs' [ah aa ae]/\Ka aG k4=some R) ⟨_,0,_,rfl,aB,rfl,aA,hF⟩ ?_)
 rintro m2 _ _ ⟨g3,k4,aG,rfl,rfl,hd7,hE,hF⟩
 refine Kb hE ae (fun jL=>?_)
 rcases aG with _|⟨x6,aG⟩
 · have fG:=dn hd7
   rw[Ka]at hF
   refine aL ?_
   refine dE ?_
   exact ze hF
 obtain⟨fG,dm,fF⟩:=dA hd7
 rw[Ka]at hF
 refine aL ?_
 refine dD ?_
 refine lT ?_
 refine Ai dm (fun k13 lc=>?_)
 refine Al dN ?_
 refine bnd hF fun eT hx16 hF=>mh .nil (lm atT.h (.tmp rfl rfl) bz (amI hx16)) (fun _=>?_)
 refine au ?_
 refine Ci hF (fun qK hF=>?_) (fun qK hF=>?_)
 · exact ze hF
 refine bf ?_
 rw[wk k4]
 exact⟨_,bY _,_,k4+1,aG,rfl,aB,fF,aA,hF⟩
def Np(ae:List Int):Option (Bool):=
 (TE ae).bind fun r1=>
 some (decide ((0:Int)<=r1))
theorem alG{ae:List Int}{aa:Sv}{R:Bool}(hF:Np ae=some R):
   Fw.Spec Tryz.prog 136 [aa.v,(.func (.func 183) [].toArray [].toArray)] [ah aa ae] (fun _:Unit=>(.bool R)) (fun _=>[]):=by
 refine Se 9 Tryz.func136 [.tmp 4] ?_
 intro H0 F0
 unfold Np at hF
 refine bG ?_
 refine bnd hF fun r1 hx2 hF=>bR (alR hx2) (fun _=>?_)
 exact ze hF
def Ol(ag:List Int):Option (Bool):=
 (Np ag).bind fun r1=>
 some (!r1)
theorem anr{ag:List Int}{aa:Sv}{R:Bool}(hF:Ol ag=some R):
   Fw.Spec Tryz.prog 131 [aa.v] [ah aa ag] (fun _:Unit=>(.bool R)) (fun _=>[]):=by
 refine Se 6 Tryz.func131 [.tmp 2] ?_
 intro H0 F0
 unfold Ol at hF
 refine bf ?_
 refine bnd hF fun r1 hx2 hF=>bR (alG hx2) (fun _=>?_)
 exact ze hF
def Pm(ae:List Int)(bN:Fact):Option (Bool):=
 ((H6 ae bN.Rel).bind fun r4=>
   bif r4 then ((ix ae bN.Rel).bind fun x8=>
     bif (((bN.Values.length:Int):Int)==x8)then ((Ol bN.Values).bind fun eT=>
       some eT)
     else (some false))
   else (some false)).bind fun o2=>
 match o2 with
 |c18=>some c18
theorem ao3{ae:List Int}{aa:Sv}{bN:Fact}{aU:Sv}{R:Bool}(hF:Pm ae bN=some R):
   Fw.Spec Tryz.prog 73 [aa.v,(zg [(zi bN.Rel),aU.v])] [ah aa ae,ah aU bN.Values] (fun _:Unit=>(.bool R)) (fun _=>[]):=by
 refine Se 25 Tryz.func73 [.tmp 4] ?_
 intro H0 F0
 unfold Pm at hF
 refine au ?_
 refine bW (fun k1=>?_)
 refine aT ?_
 obtain⟨o2,kX,hO3⟩:=bind_some hF
 refine dM [0,1,2,3,4,5,6,7,8,9,10,11,12,13,14,15,16,17,18,19,20] [0,0,2,7,15,31,63,127,31,31,543,1823,3871,8191,16383,32767,65535,131071,262143,524287,1048575] [3,18] mixed (by decide+kernel) ?_
 refine qH (fun f' cs'=>∃(c18:Bool)(g:Fr),c18=o2/\f'=aR g [(4,(.bool c18))]/\aP cs' []) ?_ ?_
 · replace hF:=kX
   refine fw ?_
   refine bnd hF fun r4 hx5 hF=>jB (Y1 hx5) (fun _=>?_)
   refine du ?_
   rcases df r4 with ek|ek
   · rw[ek]
     try rw[ek]at hF; dsimp only[aY,aX]at hF
     refine Mj ?_
     refine zI hF fun x8 ab5 mD hF=>?_
     refine Di mD (fun k12 j13=>?_)
     refine Dl dN ?_
     refine fw ?_
     rcases df (((bN.Values.length:Int):Int)==x8)with qM|qM
     · rw[qM]
       try rw[qM]at hF; dsimp only[aY,aX]at hF
       refine bV ?_
       refine bnd hF fun eT hx16 hF=>jB (anr hx16) (fun _=>?_)
       exact iC hF
     rw[qM]
     try rw[qM]at hF; dsimp only[aY,aX]at hF
     exact iC hF
   rw[ek]
   try rw[ek]at hF; dsimp only[aY,aX]at hF
   exact iC hF
 rintro _ _ ⟨c18,g19,rfl,rfl,hE⟩
 replace hF:=hO3
 try dsimp only at hF
 refine bM hE ?_
 exact ze hF
def zH(ae:List Int)(ag:List Fact):List Fact->Nat->Option (Bool)
 |[],k4=>((DJ ae).bind fun eT=>
     bif eT then (some (decide (((ag.length:Int):Int)<=24)))
     else (some false)).bind fun p_=>
   match p_ with
   |c19=>some c19
 |x6::aG,k4=>((Pm ae x6).bind fun tL=>
     bif (!tL)then (some true)
     else (bif (decide ((0:Int)<(k4:Int)))then ((ix ag (IntKind.i64.wrap ((k4:Int)-1))).bind fun x32=>
         (C9 x32 x6).bind fun jR=>
         some (decide ((0:Int)<=jR)))
       else (some false))).bind fun o25=>
   match o25 with
   |vM=>if vM then (
       some false)
     else (
       zH ae ag aG (k4+1))
def DL(ae:List Int)(ag:List Fact):Option (Bool):=
 zH ae ag ag 0
theorem NJ{ae:List Int}{aa:Sv}{ag:List Fact}{ak:Sv}{R:Bool}(hF:DL ae ag=some R):
   Fw.Spec Tryz.prog 29 [aa.v,ak.v] [ah aa ae,cz ak ag] (fun _:Unit=>(.bool R)) (fun _=>[]):=by
 refine Se 40 Tryz.func29 [.tmp 4] ?_
 intro H0 F0
 unfold DL at hF
 refine eU ?_
 refine bn (bU (m:=ag.length) (fun m2 f' cs'=>∃(g:Fr)(k4:Nat)(aG:List Fact),m2=aG.length/\f'=aR g [(0,aa.v),(1,ak.v),(7,ak.v),(8,(zi (ag.length:Int))),(9,(zi (k4:Int)))]/\List.drop k4 ag=aG/\aP cs' [ah aa ae,cz ak ag]/\zH ae ag aG k4=some R) ⟨_,0,_,rfl,aB,rfl,aA,hF⟩ ?_)
 rintro m2 _ _ ⟨g3,k4,aG,rfl,rfl,hd7,hE,hF⟩
 refine Kb hE ag (fun jL=>?_)
 rcases aG with _|⟨x6,aG⟩
 · have fG:=dn hd7
   rw[zH]at hF
   refine aL ?_
   refine dE ?_
   refine aL ?_
   obtain⟨p_,Bn,BK⟩:=bind_some hF
   refine au ?_
   refine gB (fun f' cs'=>∃(c19:Bool)(g:Fr),c19=p_/\f'=aR g [(4,(.bool c19))]/\aP cs' []) ?_ ?_
   · replace hF:=Bn
     refine au ?_
     refine bnd hF fun eT hx16 hF=>bR (Ug hx16) (fun _=>?_)
     refine au ?_
     rcases df eT with qO|qO
     · rw[qO]
       try rw[qO]at hF; dsimp only[aY,aX]at hF
       exact cK hF
     rw[qO]
     try rw[qO]at hF; dsimp only[aY,aX]at hF
     exact cK hF
   rintro _ _ ⟨c19,g20,rfl,rfl,hE⟩
   replace hF:=BK
   try dsimp only at hF
   refine bM hE ?_
   exact ze hF
 obtain⟨fG,dm,fF⟩:=dA hd7
 rw[zH]at hF
 refine aL ?_
 refine dD ?_
 refine aL ?_
 refine Ai dm (fun k21 M_=>?_)
 refine j_ (mZ x6) nI (fun qb=>?_)
 refine cO (fun k24=>?_)
 refine au ?_
 refine As (zg [(zi x6.Rel),qb.v]) ?_
 refine au ?_
 obtain⟨o25,au5,ay7⟩:=bind_some hF
 refine dM [0,1,2,3,4,5,6,7,8,9,10,11,12,13,14,15,16,17] [0,0,3,7,15,31,63,127,255,255,767,2047,4095,255,16383,32767,65535,131071] [2,14] mixed (by decide+kernel) ?_
 refine qH (fun f' cs'=>∃(vM:Bool)(g:Fr),vM=o25/\f'=aR g [(0,aa.v),(1,ak.v),(7,ak.v),(8,(zi (ag.length:Int))),(9,(zi (k4:Int))),(31,(.bool vM))]/\aP cs' [ah aa ae,cz ak ag]) ?_ ?_
 · replace hF:=au5
   refine du ?_
   refine dH rfl .no .h (fun ha hp=>gM Bz.h eG.h.sz rfl (EN ha (.tmp rfl rfl) rfl) hp.2 rfl) ?_
   refine bnd hF fun tL hx28 hF=>jB (ao3 hx28) (fun _=>?_)
   refine bV ?_
   rcases df (!tL)with xU|xU
   · rw[xU]
     try rw[xU]at hF; dsimp only[aY,aX]at hF
     exact iC hF
   rw[xU]
   try rw[xU]at hF; dsimp only[aY,aX]at hF
   refine fw ?_
   rcases df (decide ((0:Int)<(k4:Int)))with xV|xV
   · rw[xV]
     try rw[xV]at hF; dsimp only[aY,aX]at hF
     refine fw ?_
     refine zI hF fun x32 aD9 I6 hF=>?_
     refine Di I6 (fun k36 j37=>?_)
     refine oz (mZ x32) nI (fun p38=>?_)
     refine dH rfl (.on 21 rfl rfl rfl) .q2 (fun ha hp=>gM Bz.h eG.h.sz rfl (EN ha (.tmp rfl rfl) rfl) hp.2 rfl) ?_
     refine bnd hF fun jR sH hF=>jB (TV sH) (fun _=>?_)
     exact iC hF
   rw[xV]
   try rw[xV]at hF; dsimp only[aY,aX]at hF
   exact iC hF
 rintro _ _ ⟨vM,g45,rfl,rfl,hE⟩
 replace hF:=ay7
 try dsimp only at hF
 refine bM hE ?_
 refine Ci hF (fun Q9 hF=>?_) (fun Q9 hF=>?_)
 · exact ze hF
 refine bf ?_
 rw[wk k4]
 exact⟨_,bY _,_,k4+1,aG,rfl,aB,fF,aA,hF⟩
def N7(dI:List Int)(aD:List Int):Option (Bool):=
 (Fs dI aD).bind fun r1=>
 some r1
theorem am2{dI:List Int}{aa:Sv}{bD:Nat}{aD:List Int}{dO:Sv}{R:Bool}(hF:N7 dI aD=some R):
   Fw.Spec Tryz.prog 118 [aa.v,(pz bD)] [ah aa dI,a_ bD 24 dO.v,ah dO aD] (fun _:Unit=>(.bool R)) (fun _=>[]):=by
 refine Se 7 Tryz.func118 [.tmp 3] ?_
 intro H0 F0
 unfold N7 at hF
 refine bG ?_
 refine bnd hF fun r1 hx2 hF=>bR (TM hx2) (fun _=>?_)
 exact ze hF
def Kg(aD:List Int):List (List Int)->Nat->Option (Int)
 |[],k4=>some (-1)
 |x6::aG,k4=>(N7 x6 aD).bind fun r16=>
   if r16 then (
     some (k4:Int))
   else (
     Kg aD aG (k4+1))
def TH(ae:List (List Int))(aD:List Int):Option (Int):=
 Kg aD ae 0
theorem alU{ae:List (List Int)}{aa:Sv}{bD:Nat}{aD:List Int}{dO:Sv}{R:Int}(hF:TH ae aD=some R):
   Fw.Spec Tryz.prog 170 [aa.v,(.func (.func 118) [].toArray [(pz bD)].toArray)] [bT (aW 24 (aW 3 ax)) aa.v ae,a_ bD 24 dO.v,ah dO aD] (fun _:Unit=>(zi R)) (fun _=>[]):=by
 refine Se 19 Tryz.func170 [.tmp 4] ?_
 intro H0 F0
 unfold TH at hF
 refine eU ?_
 refine bn (bU (m:=ae.length) (fun m2 f' cs'=>∃(g:Fr)(k4:Nat)(aG:List (List Int)),m2=aG.length/\f'=aR g [(0,aa.v),(1,(.func (.func 118) [].toArray [(pz bD)].toArray)),(7,(zi (ae.length:Int))),(8,(zi (k4:Int)))]/\List.drop k4 ae=aG/\aP cs' [bT (aW 24 (aW 3 ax)) aa.v ae,a_ bD 24 dO.v,ah dO aD]/\Kg aD aG k4=some R) ⟨_,0,_,rfl,aB,rfl,aA,hF⟩ ?_)
 rintro m2 _ _ ⟨g3,k4,aG,rfl,rfl,hd7,hE,hF⟩
 refine Kb hE ae (fun jL=>?_)
 rcases aG with _|⟨x6,aG⟩
 · have fG:=dn hd7
   rw[Kg]at hF
   refine aL ?_
   refine dE ?_
   exact ze hF
 obtain⟨fG,dm,fF⟩:=dA hd7
 rw[Kg]at hF
 refine aL ?_
 refine dD ?_
 refine lT ?_
 refine Ai dm (fun k13 lc=>?_)
 refine ng (R':=(aW 3 ax)) fT.h (.tmp rfl rfl) .h rC (fun XV=>?_)
 refine bnd hF fun r16 jy hF=>mh (.rd .h rfl (.rd .q3 rfl (.rd .q4 rfl .nil))) (lm atW.h (.tmp rfl rfl) bz (am2 jy)) (fun _=>?_)
 refine au ?_
 refine Ci hF (fun kW hF=>?_) (fun kW hF=>?_)
 · exact ze hF
 refine bf ?_
 rw[wk k4]
 exact⟨_,bY _,_,k4+1,aG,rfl,aB,fF,aA,hF⟩
def Tz(ae:List (List Int))(aD:List Int):Option (Bool):=
 (TH ae aD).bind fun r1=>
 some (decide ((0:Int)<=r1))
theorem alK{ae:List (List Int)}{aa:Sv}{bD:Nat}{aD:List Int}{dO:Sv}{R:Bool}(hF:Tz ae aD=some R):
   Fw.Spec Tryz.prog 117 [aa.v,(.func (.func 118) [].toArray [(pz bD)].toArray)] [bT (aW 24 (aW 3 ax)) aa.v ae,a_ bD 24 dO.v,ah dO aD] (fun _:Unit=>(.bool R)) (fun _=>[]):=by
 refine Se 9 Tryz.func117 [.tmp 4] ?_
 intro H0 F0
 unfold Tz at hF
 refine bG ?_
 refine bnd hF fun r1 hx2 hF=>bR (alU hx2) (fun _=>?_)
 exact ze hF
def DN(ag:List (List Int))(dY:List Int):Option (Bool):=
 (Tz ag dY).bind fun r2=>
 some r2
theorem Ul{ag:List (List Int)}{aa:Sv}{dY:List Int}{ak:Sv}{R:Bool}(hF:DN ag dY=some R):
   Fw.Spec Tryz.prog 63 [aa.v,ak.v] [bT (aW 24 (aW 3 ax)) aa.v ag,ah ak dY] (fun _:Unit=>(.bool R)) (fun _=>[]):=by
 refine Se 8 Tryz.func63 [.tmp 4] ?_
 intro H0 F0
 unfold DN at hF
 refine au ?_
 refine bW (fun k1=>?_)
 refine aL ?_
 refine aK (rV (fn:=.func 118) (vs:=[]) (us:=[(pz k1)]) .nil bz) ?_
 refine bnd hF fun r2 hx3 hF=>bR (alK hx3) (fun _=>?_)
 exact ze hF
def NB(dI:List Int)(aD:List Int):Option (Bool):=
 (Kn dI aD).bind fun r1=>
 some (decide ((0:Int)<r1))
theorem amq{dI:List Int}{aa:Sv}{bD:Nat}{aD:List Int}{dO:Sv}{R:Bool}(hF:NB dI aD=some R):
   Fw.Spec Tryz.prog 203 [aa.v,(pz bD)] [ah aa dI,a_ bD 24 dO.v,ah dO aD] (fun _:Unit=>(.bool R)) (fun _=>[]):=by
 refine Se 8 Tryz.func203 [.tmp 3] ?_
 intro H0 F0
 unfold NB at hF
 refine bG ?_
 refine bnd hF fun r1 hx2 hF=>bR (ac' hx2) (fun _=>?_)
 exact ze hF
def J_(aD:List Int):List (List Int)->Nat->Option (Int)
 |[],k4=>some (-1)
 |x6::aG,k4=>(NB x6 aD).bind fun r16=>
   if r16 then (
     some (k4:Int))
   else (
     J_ aD aG (k4+1))
def TC(ae:List (List Int))(aD:List Int):Option (Int):=
 J_ aD ae 0
theorem alP{ae:List (List Int)}{aa:Sv}{bD:Nat}{aD:List Int}{dO:Sv}{R:Int}(hF:TC ae aD=some R):
   Fw.Spec Tryz.prog 170 [aa.v,(.func (.func 203) [].toArray [(pz bD)].toArray)] [bT (aW 24 (aW 3 ax)) aa.v ae,a_ bD 24 dO.v,ah dO aD] (fun _:Unit=>(zi R)) (fun _=>[]):=by
 refine Se 19 Tryz.func170 [.tmp 4] ?_
 intro H0 F0
 unfold TC at hF
 refine eU ?_
 refine bn (bU (m:=ae.length) (fun m2 f' cs'=>∃(g:Fr)(k4:Nat)(aG:List (List Int)),m2=aG.length/\f'=aR g [(0,aa.v),(1,(.func (.func 203) [].toArray [(pz bD)].toArray)),(7,(zi (ae.length:Int))),(8,(zi (k4:Int)))]/\List.drop k4 ae=aG/\aP cs' [bT (aW 24 (aW 3 ax)) aa.v ae,a_ bD 24 dO.v,ah dO aD]/\J_ aD aG k4=some R) ⟨_,0,_,rfl,aB,rfl,aA,hF⟩ ?_)
 rintro m2 _ _ ⟨g3,k4,aG,rfl,rfl,hd7,hE,hF⟩
 refine Kb hE ae (fun jL=>?_)
 rcases aG with _|⟨x6,aG⟩
 · have fG:=dn hd7
   rw[J_]at hF
   refine aL ?_
   refine dE ?_
   exact ze hF
 obtain⟨fG,dm,fF⟩:=dA hd7
 rw[J_]at hF
 refine aL ?_
 refine dD ?_
 refine lT ?_
 refine Ai dm (fun k13 lc=>?_)
 refine ng (R':=(aW 3 ax)) fT.h (.tmp rfl rfl) .h rC (fun XV=>?_)
 refine bnd hF fun r16 jy hF=>mh (.rd .h rfl (.rd .q3 rfl (.rd .q4 rfl .nil))) (lm atX.h (.tmp rfl rfl) bz (amq jy)) (fun _=>?_)
 refine au ?_
 refine Ci hF (fun kW hF=>?_) (fun kW hF=>?_)
 · exact ze hF
 refine bf ?_
 rw[wk k4]
 exact⟨_,bY _,_,k4+1,aG,rfl,aB,fF,aA,hF⟩
def Kq(ae:List (List Int))(ku:Int)(iN:List (List Int)):Option (List (List Int)):=
 match iN with
 |[a]=>if 0<=ku/\ku.toNat<=ae.length/\ae.length+1<4294967296 then some (ae.take ku.toNat++a::ae.drop ku.toNat)else none
 |_=>none
set_option maxHeartbeats 4000000 in
theorem al2(es:List Value)(e:Value)(v u:Sv)(F F2:List Nat)(i:Nat)(hi:i<=es.length)(hb:es.length+1<4294967296):Fw.Spec Tryz.prog 204 [v.v,.int .i64 (i:Int),u.v] [aJ (az 24 (aj (gG 1))) F v.v es,aJ (az 24 (aj (gG 1))) F2 u.v [e]] (fun q:Sv×List Nat=>q.1.v) (fun q=>[aJ (az 24 (aj (gG 1))) q.2 q.1.v (es.take i++e::es.drop i)]):=by
 refine zV (n:=95) Tryz.func204 rfl rfl (rs:=[.tmp 6]) rfl rfl rfl ?_
 intro H0 F0
 refine cB ?_
 refine aK (iG (v:=(.slice none 0 0)) EV.nilSlice) ?_
 refine dS ?_
 refine cB ?_
 refine aK (cu (v:=v.v) (.tmp rfl rfl)) ?_
 refine aK (cu (v:=(.int .i64 (i:Int))) (.tmp rfl rfl)) ?_
 refine dC (.cons .h .nil) (afE gJ.h fB.h.sz (.tmp rfl rfl) (.tmp rfl rfl) hi) (fun w0=>?_)
 refine dS ?_
 refine cB ?_
 refine aK (cu (v:=u.v) (.tmp rfl rfl)) ?_
 refine iH (.t .h) (fun hp=>qD (l:=1) gJ.h (.tmp rfl rfl) (Ab hp)) ?_
 refine aK (iG (v:=(.int .i64 ((1:Nat):Int))) (.tmp rfl rfl)) ?_
 refine dS ?_
 refine j6 ?_
 refine cB ?_
 refine aK (cu (v:=(.int .i64 ((1:Nat):Int))) (.tmp rfl rfl)) ?_
 refine aK (rE (i:=((1:Nat):Int)) (j:=0) (.tmp rfl rfl) (.int _ _)) ?_
 refine dS ?_
 refine kQ (b:=(((1:Nat):Int)==0)) (.tmp rfl rfl) (fun hb0=>absurd hb0 (by decide)) (fun _=>?_)
 refine qd ?_
 refine cB ?_
 refine aK (cu (v:=v.v) (.tmp rfl rfl)) ?_
 refine iH .h (fun hp=>qD (l:=es.length) gJ.h (.tmp rfl rfl) (Ab hp)) ?_
 refine aK (iG (v:=(.int .i64 (es.length:Int))) (.tmp rfl rfl)) ?_
 refine dS ?_
 refine j6 ?_
 refine cB ?_
 refine aK (cu (v:=(.int .i64 (i:Int))) (.tmp rfl rfl)) ?_
 refine aK (cu (v:=(.int .i64 (es.length:Int))) (.tmp rfl rfl)) ?_
 refine aK (rE (i:=(i:Int)) (j:=(es.length:Int)) (.tmp rfl rfl) (.tmp rfl rfl)) ?_
 refine dS ?_
 refine kQ (b:=((i:Int)==(es.length:Int))) (.tmp rfl rfl) (fun hb1=>?_) (fun hb1=>?_)
 · have hie:i=es.length:=by simp only[beq_iff_eq]at hb1; omega
   refine cB ?_
   refine aK (cu (v:=v.v) (.tmp rfl rfl)) ?_
   refine aK (cu (v:=u.v) (.tmp rfl rfl)) ?_
   refine dC (.cons .h (.cons .h .nil)) (dL (Ro:=(aj (gG 1))) gJ.h Es fB.h rfl rfl rfl (.tmp rfl rfl) (.tmp rfl rfl) (lu (xs:=es) (ys:=[e]) (by simpa using hb)) eX) (fun p=>?_)
   refine aK (iG (v:=p.1.v) (.tmp rfl rfl)) ?_
   refine dS ?_
   refine tY ?_
   rw[hie,List.take_length,List.drop_length]
   exact eO p (.tmp rfl rfl .nil) rfl (.sel (.cons .h .nil))
 refine qd ?_
 have hlt:i<es.length:=by simp at hb1; omega
 refine yO .h (Lh (by intro h; rw[h]at hlt; simp at hlt)) (fun hv=>?_)
 obtain⟨k0,m0,rfl,hm0⟩:=hv
 refine yO (.t .h) (Lh (by simp)) (fun hu=>?_)
 obtain⟨k1,m1,rfl,hm1⟩:=hu
 refine ait (t:=0) (k:=k0) (l:=es.length) (m:=m0) rfl rfl hm0 (by omega) .h rfl (fun c hc=>?_)
 have w1:IntKind.i64.wrap ((es.length:Int)+((1:Nat):Int))=((es.length+1:Nat):Int):=by rw[dX (by omega) (by omega)]; rfl
 have w2:IntKind.i64.wrap ((i:Int)+((1:Nat):Int))=((i+1:Nat):Int):=by rw[dX (by omega) (by omega)]; rfl
 have w3:IntKind.i64.wrap (((es.length+1:Nat):Int)-(i:Int))=((es.length+1-i:Nat):Int):=by rw[dX (by omega) (by omega)]; omega
 have hel:(es.take i++e::es.drop i).length=es.length+1:=aht hi
 refine j6 ?_
 refine cB ?_
 refine aK (cu (v:=(.int .i64 (es.length:Int))) (.tmp rfl rfl)) ?_
 refine aK (cu (v:=(.int .i64 ((1:Nat):Int))) (.tmp rfl rfl)) ?_
 refine aK (kL (i:=(es.length:Int)) (j:=((1:Nat):Int)) (.tmp rfl rfl) (.tmp rfl rfl)) ?_
 rw[w1]
 refine aK (cu (v:=(.slice (some ⟨k0,0,none⟩) es.length (c+3))) (.tmp rfl rfl)) ?_
 refine iH .h (fun hp=>ah0 gJ.h hp rfl (.tmp rfl rfl)) ?_
 refine aK (LU (i:=((es.length+1:Nat):Int)) (j:=(c:Int)) (.tmp rfl rfl) (.tmp rfl rfl)) ?_
 refine dS ?_
 refine kQ (b:=(decide ((c:Int)<((es.length+1:Nat):Int)))) (.tmp rfl rfl) (fun hb2=>?_) (fun hb2=>?_)
 · have hcl:c<es.length+1:=by simp only[decide_eq_true_eq]at hb2; omega
   refine cB ?_
   refine aK (cu (v:=(.slice (some ⟨k0,0,none⟩) es.length (c+3))) (.tmp rfl rfl)) ?_
   refine aK (cu (v:=(.int .i64 (i:Int))) (.tmp rfl rfl)) ?_
   refine iH .h (fun hp=>UE (j:=i) gJ.h fB.h.sz hp rfl (.tmp rfl rfl) (.tmp rfl rfl) (by omega)) ?_
   refine aK (cu (v:=(.int .i64 (es.length:Int))) (.tmp rfl rfl)) ?_
   refine aK (cu (v:=(.int .i64 ((1:Nat):Int))) (.tmp rfl rfl)) ?_
   refine aK (kL (i:=(es.length:Int)) (j:=((1:Nat):Int)) (.tmp rfl rfl) (.tmp rfl rfl)) ?_
   rw[w1]
   refine aK (cu (v:=(.int .i64 (i:Int))) (.tmp rfl rfl)) ?_
   refine aK (VE (i:=((es.length+1:Nat):Int)) (j:=(i:Int)) (.tmp rfl rfl) (.tmp rfl rfl)) ?_
   rw[w3]
   refine jM (.cons .h .nil) (aeW (c:=c) (q:=es.length+1-i) gJ.h SA fB.h rfl rfl rfl rfl rfl rfl (.tmp rfl rfl) (.tmp rfl rfl) (by omega) (by omega) (by omega) (by omega)) (fun k2=>?_)
   rw[show i+(es.length+1-i)=es.length+1 from by omega]
   refine aK (iG (v:=(.slice (some ⟨k2,0,none⟩) (es.length+1) 2)) (.tmp rfl rfl)) ?_
   refine dS ?_
   refine cB ?_
   refine aK (cu (v:=(.slice (some ⟨k2,0,none⟩) (es.length+1) 2)) (.tmp rfl rfl)) ?_
   refine aK (cu (v:=(.int .i64 (i:Int))) (.tmp rfl rfl)) ?_
   refine iH .h (fun hp=>rW (j:=i) gJ.h fB.h.sz hp rfl (.tmp rfl rfl) (.tmp rfl rfl) (by omega)) ?_
   refine aK (cu (v:=(.slice (some ⟨k1,0,none⟩) 1 m1)) (.tmp rfl rfl)) ?_
   refine jM (.cons .h (.cons (.t .h) .nil)) (LF (m1:=0) (m2:=m1) (ia:=i) (ja:=0) (ld:=es.length+1-i) (ls:=1) (es2:=[e]) (es':=es.take i++e::List.replicate (es.length-i) (.slice none 0 0)) gJ.h fB.h.sz rfl rfl rfl (by exact .tmp rfl rfl) (by exact .tmp rfl rfl) (by omega) (by omega) (by rw[List.length_singleton]; omega) (by simp; omega) (ah1 (e:=e) (z:=(.slice none 0 0)) hlt) (by simp; omega)) (fun _=>?_)
   refine dS ?_
   refine dM [0,1,2,3,4,5,6,7,8] [0,0,0,6,15,0,0,96,255] [8] mixed (by decide+kernel) ?_
   refine dJ rfl .no (fun ha=>cu (v:=(.slice (some ⟨k2,0,none⟩) (es.length+1) 2)) (EN ha (.tmp rfl rfl) rfl)) ?_
   refine dJ rfl .no (fun ha=>cu (v:=(.int .i64 (i:Int))) (EN ha (.tmp rfl rfl) rfl)) ?_
   refine dJ rfl .no (fun ha=>cu (v:=(.int .i64 ((1:Nat):Int))) (EN ha (.tmp rfl rfl) rfl)) ?_
   refine dJ rfl .no (fun ha=>kL (i:=(i:Int)) (j:=((1:Nat):Int)) (EN ha (.tmp rfl rfl) rfl) (EN ha (.tmp rfl rfl) rfl)) ?_
   rw[w2]
   refine dH rfl .no .h (fun ha hp=>rW (j:=i+1) gJ.h fB.h.sz hp rfl (EN ha (.tmp rfl rfl) rfl) (EN ha (.tmp rfl rfl) rfl) (by omega)) ?_
   refine dJ rfl .no (fun ha=>cu (v:=(.slice (some ⟨k0,0,none⟩) es.length (c+3))) (EN ha (.tmp rfl rfl) rfl)) ?_
   refine dJ rfl .no (fun ha=>cu (v:=(.int .i64 (i:Int))) (EN ha (.tmp rfl rfl) rfl)) ?_
   refine dH rfl .no (.t (.t .h)) (fun ha hp=>rW (j:=i) gJ.h fB.h.sz hp rfl (EN ha (.tmp rfl rfl) rfl) (EN ha (.tmp rfl rfl) rfl) (by omega)) ?_
   refine lq rfl rfl .no (.cons .h (.cons (.t .h) .nil)) (.dep rfl (.dep rfl .nil)) (fun ha=>LF gJ.h fB.h.sz rfl rfl rfl (EN ha (.tmp rfl rfl) rfl) (EN ha (.tmp rfl rfl) rfl) (by omega) (by omega) (by omega) (by simp; omega) (ah2 (e:=e) (z:=(.slice none 0 0)) hlt) (by omega)) (fun _=>?_)
   refine Bj ?_
   refine cB ?_
   refine aK (cu (v:=(.slice (some ⟨k2,0,none⟩) (es.length+1) 2)) (.tmp rfl rfl)) ?_
   refine aK (iG (v:=(.slice (some ⟨k2,0,none⟩) (es.length+1) 2)) (.tmp rfl rfl)) ?_
   refine dS ?_
   refine tY ?_
   rw[hel]
   exact eO (⟨some ⟨k2,0,none⟩,es.length+1,2⟩,[k2]) (.tmp rfl rfl .nil) rfl (.sel (.cons .h .nil))
 refine qd ?_
 have hcl:es.length+1<=c:=by simp only[decide_eq_false_iff_not]at hb2; omega
 refine cB ?_
 refine aK (cu (v:=(.slice (some ⟨k0,0,none⟩) es.length (c+3))) (.tmp rfl rfl)) ?_
 refine aK (cu (v:=(.int .i64 (es.length:Int))) (.tmp rfl rfl)) ?_
 refine aK (cu (v:=(.int .i64 ((1:Nat):Int))) (.tmp rfl rfl)) ?_
 refine aK (kL (i:=(es.length:Int)) (j:=((1:Nat):Int)) (.tmp rfl rfl) (.tmp rfl rfl)) ?_
 rw[w1]
 refine iH .h (fun hp=>UE (j:=es.length+1) gJ.h fB.h.sz hp rfl (.tmp rfl rfl) (.tmp rfl rfl) hcl) ?_
 refine aK (iG (v:=(.slice (some ⟨k0,0,none⟩) (es.length+1) (c+3))) (.tmp rfl rfl)) ?_
 refine dS ?_
 refine j6 ?_
 refine cB ?_
 refine aK (cu (v:=(.slice (some ⟨k1,0,none⟩) 1 m1)) (.tmp rfl rfl)) ?_
 refine aK (cu (v:=(.slice (some ⟨k0,0,none⟩) (es.length+1) (c+3))) (.tmp rfl rfl)) ?_
 refine aK (cu (v:=(.int .i64 (i:Int))) (.tmp rfl rfl)) ?_
 refine aK (cu (v:=(.int .i64 ((1:Nat):Int))) (.tmp rfl rfl)) ?_
 refine aK (kL (i:=(i:Int)) (j:=((1:Nat):Int)) (.tmp rfl rfl) (.tmp rfl rfl)) ?_
 rw[w2]
 refine iH .h (fun hp=>rW (j:=i+1) gJ.h fB.h.sz hp rfl (.tmp rfl rfl) (.tmp rfl rfl) (by omega)) ?_
 refine jM (.cons (.t .h) (.cons .h .nil)) (afD gJ.h fB.h.sz rfl arO rfl rfl (.tmp rfl rfl) (.tmp rfl rfl) (by omega) (by omega)) (fun _=>?_)
 refine aK (LV (b:=false) (.tmp rfl rfl)) ?_
 refine dS ?_
 refine kQ (b:=(!false)) (.tmp rfl rfl) (fun _=>?_) (fun h=>absurd h (by decide))
 refine dM [0,1,2,3,4,5,6,7,8] [0,0,0,6,15,0,0,96,255] [8] mixed (by decide+kernel) ?_
 refine dJ rfl .no (fun ha=>cu (v:=(.slice (some ⟨k0,0,none⟩) (es.length+1) (c+3))) (EN ha (.tmp rfl rfl) rfl)) ?_
 refine dJ rfl .no (fun ha=>cu (v:=(.int .i64 (i:Int))) (EN ha (.tmp rfl rfl) rfl)) ?_
 refine dJ rfl .no (fun ha=>cu (v:=(.int .i64 ((1:Nat):Int))) (EN ha (.tmp rfl rfl) rfl)) ?_
 refine dJ rfl .no (fun ha=>kL (i:=(i:Int)) (j:=((1:Nat):Int)) (EN ha (.tmp rfl rfl) rfl) (EN ha (.tmp rfl rfl) rfl)) ?_
 rw[w2]
 refine dH rfl .no (.t .h) (fun ha hp=>rW (j:=i+1) gJ.h fB.h.sz hp rfl (EN ha (.tmp rfl rfl) rfl) (EN ha (.tmp rfl rfl) rfl) (by omega)) ?_
 refine dJ rfl .no (fun ha=>cu (v:=(.slice (some ⟨k0,0,none⟩) (es.length+1) (c+3))) (EN ha (.tmp rfl rfl) rfl)) ?_
 refine dJ rfl .no (fun ha=>cu (v:=(.int .i64 (i:Int))) (EN ha (.tmp rfl rfl) rfl)) ?_
 refine dH rfl .no (.t .h) (fun ha hp=>rW (j:=i) gJ.h fB.h.sz hp rfl (EN ha (.tmp rfl rfl) rfl) (EN ha (.tmp rfl rfl) rfl) (by omega)) ?_
 refine bZ rfl rfl .no (.cons (.t .h) .nil) (.dep rfl (.dep rfl .nil)) (fun ha=>ahs gJ.h fB.h.sz rfl rfl (EN ha (.tmp rfl rfl) rfl) (EN ha (.tmp rfl rfl) rfl) (by omega) (by omega) (by omega) (by omega) (ah3 hlt) (by simp; omega)) (fun _=>?_)
 refine Bj ?_
 refine cB ?_
 refine aK (cu (v:=(.slice (some ⟨k0,0,none⟩) (es.length+1) (c+3))) (.tmp rfl rfl)) ?_
 refine aK (cu (v:=(.int .i64 (i:Int))) (.tmp rfl rfl)) ?_
 refine iH .h (fun hp=>rW (j:=i) gJ.h fB.h.sz hp rfl (.tmp rfl rfl) (.tmp rfl rfl) (by omega)) ?_
 refine aK (cu (v:=(.slice (some ⟨k1,0,none⟩) 1 m1)) (.tmp rfl rfl)) ?_
 refine jM (.cons .h (.cons .h .nil)) (LF (m1:=0) (m2:=m1) (ia:=i) (ja:=0) (ld:=es.length+1-i) (ls:=1) (es2:=[e]) (es':=es.take i++e::es.drop i) gJ.h fB.h.sz rfl rfl rfl (by exact .tmp rfl rfl) (by exact .tmp rfl rfl) (by omega) (by omega) (by rw[List.length_singleton]; omega) (by simp; omega) (ah4 (e:=e) hlt) (by omega)) (fun _=>?_)
 refine dS ?_
 refine cB ?_
 refine aK (cu (v:=(.slice (some ⟨k0,0,none⟩) (es.length+1) (c+3))) (.tmp rfl rfl)) ?_
 refine aK (iG (v:=(.slice (some ⟨k0,0,none⟩) (es.length+1) (c+3))) (.tmp rfl rfl)) ?_
 refine dS ?_
 refine ahq (t:=6) (k:=k0) (l:=es.length+1) (c:=c) rfl rfl ?_
 refine tY ?_
 rw[hel]
 exact eO (⟨some ⟨k0,0,none⟩,es.length+1,2⟩,F) (.tmp rfl rfl .nil) rfl (.sel (.cons .h .nil))
theorem adb{ae:List (List Int)}{aa:Sv}{lF:List Nat}{ku:Int}{iN:List (List Int)}{bu:Sv}{acg:List Nat}{R:List (List Int)}(hF:Kq ae ku iN=some R):
   Fw.Spec Tryz.prog 204 [aa.v,.int .i64 ku,bu.v] [aJ (az 24 (az 3 (aj ax))) lF aa.v ae,aJ (az 24 (az 3 (aj ax))) acg bu.v iN] (fun p:Sv×List Nat=>p.1.v) (fun p=>[aJ (az 24 (az 3 (aj ax))) p.2 p.1.v R]):=by
 unfold Kq at hF
 rcases iN with _|⟨a,_|⟨_,_⟩⟩
 · simp at hF
 · dsimp only at hF
   split at hF
   · rename_i h
     obtain⟨h0,h1,h2⟩:=h
     obtain⟨i,rfl⟩:∃i:Nat,ku=(i:Int):=⟨ku.toNat,by omega⟩
     cases hF
     rw[Int.toNat_natCast]at h1 ⊢
     exact af5 (s:=1) fun es e Fa Fb hl=>al2 es e aa bu Fa Fb i (by omega) (by omega)
   · simp at hF
 · simp at hF
def N8(ag:List (List Int))(dY:List Int):Option ((List (List Int))):=
 (DN ag dY).bind fun r2=>
 if r2 then (
   some ag)
 else (
   (TC ag dY).bind fun r5=>
   if (decide ((r5:Int)<0))then (
     (uL dY).bind fun r8=>
     (Kq ag (ag.length:Int) ([r8]:List (List Int))).bind fun eZ=>
     some eZ)
   else (
     (uL dY).bind fun eT=>
     (Kq ag r5 ([eT]:List (List Int))).bind fun tF=>
     some tF))
theorem am3{ag:List (List Int)}{aa:Sv}{lF:List Nat}{dY:List Int}{ak:Sv}{R:(List (List Int))}(hF:N8 ag dY=some R):
   Fw.Spec Tryz.prog 162 [aa.v,ak.v] [aJ (az 24 (az 3 (aj ax))) lF aa.v ag,ah ak dY] (fun p:Sv×List Nat=>p.1.v) (fun p=>[aJ (az 24 (az 3 (aj ax))) p.2 p.1.v R]):=by
 refine Se 23 Tryz.func162 [.tmp 4] ?_
 intro H0 F0
 unfold N8 at hF
 refine au ?_
 refine bW (fun k1=>?_)
 refine bG ?_
 refine bnd hF fun r2 hx3 hF=>dC (.cons (.t .h) (.rd (.t .h) rfl .nil)) (eY bi (fun _=>.nil) (bP abz.h bz (@Ul ag aa dY ak _ hx3))) (fun _=>?_)
 refine au ?_
 refine Ci hF (fun ve hF=>?_) (fun ve hF=>?_)
 · refine bf ?_
   cases hF
   exact Er (aa,lF)
 refine aZ ?_
 refine aK (rV (fn:=.func 203) (vs:=[]) (us:=[(pz k1)]) .nil bz) ?_
 refine bnd hF fun r5 hx6 hF=>dC (.cons .h (.rd .h rfl (.rd (.t .h) rfl .nil))) (eY bi (fun _=>.nil) (bP aiy.h bz (@alP ag aa k1 dY ak _ hx6))) (fun _=>?_)
 refine bQ ?_
 refine Ci hF (fun xM hF=>?_) (fun xM hF=>?_)
 · refine eU ?_
   refine bnd hF fun r8 dm hF=>dW (zC dm) (fun dP=>?_)
   refine b_ rfl (bI (g:=true) gJ.h fB.h bz (vs:=[dP.1.v]) rfl rfl rfl (by intro v hv; simp at hv; rcases hv with rfl<;>rfl)) (fun k11=>?_)
   refine dh (.cons .h (.cons .h .nil)) (bK (Ro:=(az 3 (aj ax))) (E:=24) (F:=(dP.2++[])) (xs:=([r8]:List (List Int))) (bS uR bJ bB) rfl rfl) ?_
   refine bnd hF fun eZ jc hF=>dW (@adb _ _ _ _ _ (⟨(some ⟨k11,0,none⟩),1,1⟩) _ _ jc) (fun pX=>?_)
   refine aZ ?_
   cases hF
   exact Er (pX.1,pX.2)
 refine bf ?_
 refine bnd hF fun eT hx16 hF=>dW (zC hx16) (fun sS=>?_)
 refine b_ rfl (bI (g:=true) gJ.h fB.h bz (vs:=[sS.1.v]) rfl rfl rfl (by intro v hv; simp at hv; rcases hv with rfl<;>rfl)) (fun k18=>?_)
 refine dh (.cons .h (.cons .h .nil)) (bK (Ro:=(az 3 (aj ax))) (E:=24) (F:=(sS.2++[])) (xs:=([eT]:List (List Int))) (bS uR bJ bB) rfl rfl) ?_
 refine bnd hF fun tF nT hF=>dW (@adb _ _ _ _ _ (⟨(some ⟨k18,0,none⟩),1,1⟩) _ _ nT) (fun oJ=>?_)
 refine aZ ?_
 cases hF
 exact Er (oJ.1,oJ.2)
def Gh(ai:aO):List aM->Nat->(List (List Int))->Option ((List (List Int)))
 |[],k9,c3=>some c3
 |eF::dB,k9,c3=>(D5 ai eF).bind fun iJ=>
   (N8 c3 iJ).bind fun jd=>
   Gh ai dB (k9+1) jd
def K5(ai:aO)(lK:List aM):Option ((List (List Int))):=
 Gh ai lK 0 ([]:List (List Int))
theorem aeJ{ai:aO}{aa aQ:Sv}{lK:List aM}{ak:Sv}{R:(List (List Int))}(hF:K5 ai lK=some R):
   Fw.Spec Tryz.prog 94 [(zg [aa.v,aQ.v]),ak.v] [ah aa ai.Head,bX aQ ai.Atoms,nQ ak lK] (fun p:Sv×List Nat=>p.1.v) (fun p=>[aJ (az 24 (az 3 (aj ax))) p.2 p.1.v R]):=by
 refine Se 22 Tryz.func94 [.tmp 4] ?_
 intro H0 F0
 unfold K5 at hF
 refine au ?_
 refine bW (fun k1=>?_)
 refine aZ ?_
 refine b_ rfl (bI (g:=true) gJ.h fB.h .nil (vs:=[]) rfl rfl rfl (by simp)) (fun k2=>?_)
 refine dh (.cons .h .nil) (bK (Ro:=(az 3 (aj ax))) (E:=24) (F:=[]) (xs:=([]:List (List Int))) bJ rfl rfl) ?_
 refine fI ?_
 refine bn (bU (m:=lK.length) (fun m7 f' cs'=>∃(g:Fr)(k9:Nat)(dB:List aM)(c3:List (List Int))(v4:Sv)(F5:List Nat),m7=dB.length/\f'=aR g [(2,(pz k1)),(5,v4.v),(9,ak.v),(10,(zi (lK.length:Int))),(11,(zi (k9:Int)))]/\List.drop k9 lK=dB/\aP cs' [a_ k1 28 (zg [aa.v,aQ.v]),ah aa ai.Head,bX aQ ai.Atoms,aJ (az 24 (az 3 (aj ax))) F5 v4.v c3,nQ ak lK]/\Gh ai dB k9 c3=some R) ⟨_,0,_,_,⟨(some ⟨k2,0,none⟩),0,1⟩,(k2::[]),rfl,aB,rfl,aA,hF⟩ ?_)
 rintro m7 _ _ ⟨g8,k9,dB,c3,v4,F5,rfl,rfl,je,hE,hF⟩
 refine Kb hE lK (fun yQ=>?_)
 rcases dB with _|⟨eF,dB⟩
 · have nR:=dn je
   rw[Gh]at hF
   refine aL ?_
   refine dE ?_
   refine eU ?_
   cases hF
   exact Er (v4,F5)
 obtain⟨nR,fQ,mr⟩:=dA je
 rw[Gh]at hF
 refine aL ?_
 refine dD ?_
 refine aZ ?_
 refine Ai fQ (fun k18 j19=>?_)
 refine QG (z_ eF) DX (fun nZ=>?_)
 refine cO (fun k21=>?_)
 refine As (zg [nZ.1.v,nZ.2.v]) ?_
 refine bf ?_
 refine bnd hF fun iJ nz hF=>dW (Uu nz) (fun ji=>?_)
 refine VF .h bi ?_
 refine bnd hF fun jd jP hF=>dW (am3 jP) (fun p27=>?_)
 refine bG ?_
 rw[wk k9]
 exact⟨_,bY _,_,k9+1,dB,_,p27.1,p27.2,rfl,aB,mr,aA,hF⟩
def Pn(ag:List Method)(mJ:Int):Option (Int):=
 ((ry mJ 0 (IntKind.i64.wrap ((ag.length:Int)-1))).bind fun r3=>
   bif (!r3)then (some true)
   else ((ix ag mJ).bind fun x7=>
     (Pi x7.Cost).bind fun fC=>
     some (!fC))).bind fun o1=>
 match o1 with
 |c16=>if c16 then (
     some 0)
   else (
     (ix ag mJ).bind fun qx=>
     some qx.Cost)
theorem ao4{ag:List Method}{aa:Sv}{mJ R:Int}(hF:Pn ag mJ=some R):
   Fw.Spec Tryz.prog 200 [aa.v,(zi mJ)] [dQ aa ag] (fun _:Unit=>(zi R)) (fun _=>[]):=by
 refine Se 25 Tryz.func200 [.tmp 4] ?_
 intro H0 F0
 unfold Pn at hF
 refine aL ?_
 obtain⟨o1,xQ,hO2⟩:=bind_some hF
 refine au ?_
 refine gB (fun f' cs'=>∃(c16:Bool)(g:Fr),c16=o1/\f'=aR g [(0,aa.v),(1,(zi mJ)),(19,(.bool c16))]/\aP cs' [dQ aa ag]) ?_ ?_
 · replace hF:=xQ
   refine aL ?_
   refine bnd hF fun r3 hx4 hF=>bR (vQ hx4) (fun _=>?_)
   refine aT ?_
   rcases df (!r3)with iA|iA
   · rw[iA]
     try rw[iA]at hF; dsimp only[aY,aX]at hF
     exact cK hF
   rw[iA]
   try rw[iA]at hF; dsimp only[aY,aX]at hF
   refine bf ?_
   refine zI hF fun x7 hp9 gu hF=>?_
   refine Ai gu (fun k11 j12=>?_)
   refine aZ ?_
   refine Al ah7 ?_
   refine au ?_
   refine bnd hF fun fC fQ hF=>bR (ae7 fQ) (fun _=>?_)
   exact cK hF
 rintro _ _ ⟨c16,g24,rfl,rfl,hE⟩
 replace hF:=hO2
 try dsimp only at hF
 refine bM hE ?_
 refine Ci hF (fun ve hF=>?_) (fun ve hF=>?_)
 · exact ze hF
 refine aL ?_
 refine zI hF fun qx Wy nT hF=>?_
 refine Ai nT (fun k21 M_=>?_)
 refine au ?_
 refine Al ah7 ?_
 exact ze hF
def Gs(ag:List Method):List aV->Nat->Int->Option (Int)
 |[],k5,c1=>some c1
 |x7::eP,k5,c1=>(Pn ag x7.Method).bind fun kr=>
   Gs ag eP (k5+1) (IntKind.i64.wrap (c1+kr))
def UY(ag:List Method)(qh:List aV):Option (Int):=
 Gs ag qh 0 0
theorem aox{ag:List Method}{aa:Sv}{qh:List aV}{ak:Sv}{R:Int}(hF:UY ag qh=some R):
   Fw.Spec Tryz.prog 149 [aa.v,ak.v] [dQ aa ag,gU ak qh] (fun _:Unit=>(zi R)) (fun _=>[]):=by
 refine Se 22 Tryz.func149 [.tmp 4] ?_
 intro H0 F0
 unfold UY at hF
 refine Ei ?_
 refine bn (bU (m:=qh.length) (fun m3 f' cs'=>∃(g:Fr)(k5:Nat)(eP:List aV)(c1:Int),m3=eP.length/\f'=aR g [(0,aa.v),(5,(zi c1)),(8,ak.v),(9,(zi (qh.length:Int))),(10,(zi (k5:Int)))]/\List.drop k5 qh=eP/\aP cs' [dQ aa ag,gU ak qh]/\Gs ag eP k5 c1=some R) ⟨_,0,_,_,rfl,aB,rfl,aA,hF⟩ ?_)
 rintro m3 _ _ ⟨g4,k5,eP,c1,rfl,rfl,mY,hE,hF⟩
 refine Kb hE qh (fun Im=>?_)
 rcases eP with _|⟨x7,eP⟩
 · have tq:=dn mY
   rw[Gs]at hF
   refine aL ?_
   refine dE ?_
   exact ze hF
 obtain⟨tq,gu,jA⟩:=dA mY
 rw[Gs]at hF
 refine aL ?_
 refine dD ?_
 refine aZ ?_
 refine Ai gu (fun k14 M8=>?_)
 refine j_ (zQ x7) Dv (fun p16=>?_)
 refine cO (fun k17=>?_)
 refine As (zg [(zi x7.Method),p16.v]) ?_
 refine bG ?_
 refine bnd hF fun kr kC hF=>bR (ao4 kC) (fun _=>?_)
 refine bQ ?_
 rw[wk k5]
 exact⟨_,bY _,_,k5+1,eP,_,rfl,aB,jA,aA,hF⟩
end Go.Proofs.YtgcphpodckldbaaGreat
