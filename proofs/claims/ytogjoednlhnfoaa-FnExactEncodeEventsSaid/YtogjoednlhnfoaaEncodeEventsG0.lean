/-
  Functions of the program as Lean functions, and that the calls return what these say: part 1. No conditions.
-/
import Derived.Test.YtogjoednlhnfoaaFc
import Derived.Test.YtogjoednlhnfoaaProg
import Derived.KernelRfl
set_option maxRecDepth 100000
set_option maxHeartbeats 1000000
set_option linter.unusedVariables false
namespace Go.Proofs.Ytogjoednlhnfoaa
open Go Go.Fw

instance:aj Try.prog:=⟨fun _=>True⟩
structure Event where
 Kind:Int
 Text:List UInt8
instance yV:bC Try.prog 4:=⟨Try.call4⟩
instance yA:eH Try.prog 22 31:=⟨by unfold SL; kernel_rfl⟩
def dR(_:aa)(v:Value)(a:Event):Prop:=v= .agg [(.int .i64 a.Kind),(sv a.Text)].toArray
instance:Pure dR:=⟨fun h=>h⟩
instance:Cells dR 2:=⟨fun h=>by
 subst h
 exact⟨rfl,rfl⟩⟩
instance wF:bK Try.prog 31 2 24 (.agg [(.int .i64 0),(.string ⟨[].toArray⟩)].toArray):=⟨by unfold TY; kernel_rfl⟩
def ku(a:Event)(_:Unit):List Value:=[(.int .i64 a.Kind),(sv a.Text)]
theorem mV{a:Event}:∀H e,dR H e a-> ∃i:Unit,0+2<=e.cells.size/\(e.cells.toList.drop 0).take 2=ku a i/\ ∀c∈([]:List ae),c.P H/\c.F=[]:=by
 intro H e h
 subst h
 refine⟨(),Nat.le_of_ble_eq_true rfl,rfl,fun c hc=>by simp at hc⟩
instance yB:bY Try.prog 31 true:=⟨by unfold AG; kernel_rfl⟩
instance yX:bC Try.prog 9:=⟨Try.call9⟩
instance ym:fw Try.prog 31 1 1:=⟨by unfold FD; kernel_rfl⟩
instance pU:bY Try.prog 9 false:=⟨by unfold AG; kernel_rfl⟩
theorem pV:Fw.ST Try.prog 9:=by unfold Fw.ST; kernel_rfl
instance yY:bC Try.prog 6:=⟨Try.call6⟩
instance jL:eH Try.prog 25 33:=⟨by unfold SL; kernel_rfl⟩
instance eZ:bK Try.prog 33 2 24 (.agg [(.int .i64 0),(.string ⟨[].toArray⟩)].toArray):=⟨by unfold TY; kernel_rfl⟩
def bW(_:aa)(v:Value)(a:Event):Prop:=v= .agg [(.int .i64 a.Kind),(sv a.Text)].toArray
instance:Pure bW:=⟨fun h=>h⟩
instance:Cells bW 2:=⟨fun h=>by
 subst h
 exact⟨rfl,rfl⟩⟩
instance yC:bC Try.prog 11:=⟨Try.call11⟩
instance yn:fw Try.prog 31 0 0:=⟨by unfold FD; kernel_rfl⟩
instance yZ:bY Try.prog 3 false:=⟨by unfold AG; kernel_rfl⟩
instance yo:fw Try.prog 33 0 0:=⟨by unfold FD; kernel_rfl⟩
instance y5:bK Try.prog 3 1 8 (.int .i64 0):=⟨by unfold TY; kernel_rfl⟩
instance yt:fw Try.prog 33 1 1:=⟨by unfold FD; kernel_rfl⟩
instance jZ:bK Try.prog 9 1 16 (.string ⟨[].toArray⟩):=⟨by unfold TY; kernel_rfl⟩
instance o_:bY Try.prog 33 true:=⟨by unfold AG; kernel_rfl⟩
instance xU:bC Try.prog 5:=⟨Try.call5⟩
def iA(a:Event)(_:Unit):List Value:=[(.int .i64 a.Kind),(sv a.Text)]
theorem jh{a:Event}:∀H e,bW H e a-> ∃i:Unit,0+2<=e.cells.size/\(e.cells.toList.drop 0).take 2=iA a i/\ ∀c∈([]:List ae),c.P H/\c.F=[]:=by
 intro H e h
 subst h
 refine⟨(),Nat.le_of_ble_eq_true rfl,rfl,fun c hc=>by simp at hc⟩
instance yD:bC Try.prog 10:=⟨Try.call10⟩
instance yE:bC Try.prog 16:=⟨Try.call16⟩
instance yF:bC Try.prog 19:=⟨Try.call19⟩
instance jM:eH Try.prog 48 9:=⟨by unfold SL; kernel_rfl⟩
theorem oU{a:List UInt8}:∀F H e,(aR rdStr) F H e a->e.cells.toList[0]?=some (sv a):=by
 intro F H e h
 obtain⟨-,h⟩:=h
 subst h
 rfl
instance xV:bC Try.prog 7:=⟨Try.call7⟩
instance wG:bC Try.prog 12:=⟨Try.call12⟩
instance yG:bC Try.prog 17:=⟨Try.call17⟩
instance yH:bC Try.prog 20:=⟨Try.call20⟩
instance yI:bC Try.prog 21:=⟨Try.call21⟩
instance xW:bC Try.prog 8:=⟨Try.call8⟩
theorem mixed:Try.prog.follows .mixedOrders=true:=by kernel_rfl
instance yJ:bC Try.prog 15:=⟨Try.call15⟩
theorem ol:fieldAt Try.prog 31 0=some (3,0,1):=by kernel_rfl
theorem uz:fieldAt Try.prog 31 1=some (9,1,1):=by kernel_rfl
def jN(a:Event):Prop:=lh a.Kind/\oM a.Text
theorem yK:∀H v a,dR H v a->dP v=jJ Try.prog 31:=by
 intro H v a h
 subst h
 kernel_rfl
theorem wH:bP Try.prog 31 dR jN:=by
 intro T enc w fuel cs x h hw ρ H hr hF
 have hl:=tu ol h (n:=2) wF.h.sz.cells
 obtain⟨ρ0,H0,pW,a0,r0,f0,u0,i0,v0,q0,w0⟩:=mU ol h hw (bP.int (by kernel_rfl)) hr hF
 obtain⟨ρ1,H1,xX,a1,r1,f1,u1,i1,v1,q1,w1⟩:=mU uz h hw (bP.str (by kernel_rfl)) r0 f0
 obtain rfl:pW=(.int .i64 a0):=q0
 replace v0:=v0.up u1
 obtain rfl:xX=(sv a1):=q1
 have hv:=ah.field (o:=0) v0 (ah.field (o:=1) v1 (ah.end hl))
 rw[List.drop_zero]at hv
 refine⟨ρ1,H1,(.agg [(.int .i64 a0),(sv a1)].toArray:Value),({Kind:=a0,Text:=a1}:Event),r1,f1,(u0.trans u1),(i0.trans i1),?_,?_,w0,w1⟩
 · exact hv
 · exact rfl
def iB(aB:Event)(dG:Int):Option (Int):=
 if (decide (((IntKind.i64.wrap (dG-(aB.Text.length:Int))):Int)<0))then (
   some (-1))
 else (
   some (IntKind.i64.wrap (dG-(aB.Text.length:Int))))
theorem qM(aB:Event)(dG:Int)(R:Int)(hF:iB aB dG=some R):
   Fw.Spec Try.prog 9 [(.agg [(.int .i64 aB.Kind),(sv aB.Text)].toArray),(.int .i64 dG)] [] (fun _:Unit=>(.int .i64 R)) (fun _=>[]):=by
 refine Se 13 Try.func9 [.tmp 4] ?_
 intro H0 F0
 unfold iB at hF
 refine au ?_
 refine g_ (fun k1=>?_)
 iterate 6 refine au ?_
 refine aC (ni (s:=aB.Text) pV (.tmp rfl rfl)) ?_
 iterate 8 refine au ?_
 refine Ci hF (fun hb2 hF=>?_) (fun hb2 hF=>?_)
 · iterate 4 refine au ?_
   cases hF
   exact Er ()
 iterate 6 refine au ?_
 cases hF
 exact Er ()
def ib:List Event->Nat->Int->Option (Int)
 |[],k5,c1=>some c1
 |x7::aV,k5,c1=>(iB x7 c1).bind fun r16=>
   if (decide ((r16:Int)<0))then (
     some (-1))
   else (
     ib aV (k5+1) r16)
def je(aB:List Event)(dG:Int):Option (Int):=
 if (decide (((IntKind.i64.wrap (dG-(aB.length:Int))):Int)<0))then (
   some (-1))
 else (
   ib aB 0 (IntKind.i64.wrap (dG-(aB.length:Int))))
theorem qE(aB:List Event)(aX:Sv)(dG:Int)(R:Int)(hF:je aB dG=some R):
   Fw.Spec Try.prog 4 [aX.v,(.int .i64 dG)] [aY (aO 31 dR) aX.v aB] (fun _:Unit=>(.int .i64 R)) (fun _=>[]):=by
 refine Se 27 Try.func4 [.tmp 4] ?_
 intro H0 F0
 unfold je at hF
 iterate 15 refine au ?_
 refine Ci hF (fun wI hF=>?_) (fun wI hF=>?_)
 · iterate 4 refine au ?_
   cases hF
   exact Er ()
 iterate 5 refine au ?_
 refine gB (iI (m:=aB.length) (fun m3 f' cs'=>∃(g:Fr)(k5:Nat)(aV:List Event)(c1:Int),m3=aV.length/\f'=dB g [(0,aX.v),(1,(.int .i64 c1)),(5,(.int .i64 (k5:Int)))]/\List.drop k5 aB=aV/\bq cs' [aY (aO 31 dR) aX.v aB]/\ib aV k5 c1=some R) ⟨_,0,_,_,rfl,bZ,rfl,bV,hF⟩ ?_)
 rintro m3 _ _ ⟨g4,k5,aV,c1,rfl,rfl,fB,hE,hF⟩
 refine Kb hE aB (fun oV=>?_)
 rcases aV with _|⟨x7,aV⟩
 · have iY:=dn fB
   rw[ib]at hF
   iterate 7 refine au ?_
   refine jX ?_
   iterate 9 refine au ?_
   cases hF
   exact Er ()
 obtain⟨iY,iT,iU⟩:=iy fB
 rw[ib]at hF
 iterate 7 refine au ?_
 refine jW ?_
 iterate 5 refine au ?_
 refine Ai iT (fun k14 pX=>?_)
 refine lJ (ku x7) mV (fun _=>?_)
 refine au ?_
 refine bnd hF fun r16 iV hF=>fA (qM _ _ _ iV) (fun _=>?_)
 iterate 6 refine au ?_
 refine Ci hF (fun wJ hF=>?_) (fun wJ hF=>?_)
 · iterate 4 refine au ?_
   cases hF
   exact Er ()
 iterate 6 refine au ?_
 rw[wk k5]
 exact⟨_,Nat.lt_succ_self _,_,k5+1,aV,_,rfl,bZ,iU,bV,hF⟩
def iC(aB:Event):Option (Event):=
 some aB
theorem qN(aB:Event)(R:Event)(hF:iC aB=some R):
   Fw.Spec Try.prog 11 [(.agg [(.int .i64 aB.Kind),(sv aB.Text)].toArray)] [] (fun _:Unit=>(.agg [(.int .i64 R.Kind),(sv R.Text)].toArray)) (fun _=>[]):=by
 refine Se 11 Try.func11 [.cell 2 33] ?_
 intro H0 F0
 unfold iC at hF
 refine au ?_
 refine g_ (fun k1=>?_)
 refine pQ (fun k2=>?_)
 iterate 2 refine au ?_
 refine pQ (fun k3=>?_)
 iterate 5 refine au ?_
 refine As (.agg [(.int .i64 aB.Kind),(sv [])].toArray) ?_
 iterate 5 refine au ?_
 refine As (.agg [(.int .i64 aB.Kind),(sv aB.Text)].toArray) ?_
 iterate 3 refine au ?_
 refine As (.agg [(.int .i64 aB.Kind),(sv aB.Text)].toArray) ?_
 iterate 2 refine au ?_
 cases hF
 exact Er ()
def gp:List Event->Nat->(List Event)->Option ((List Event))
 |[],dx,fC=>some fC
 |lY::d9,dx,fC=>(iC lY).bind fun lZ=>
   (jS (decide (0<=(dx:Int))&&decide ((dx:Int)<(fC.length:Int)))).bind fun xY=>
   (some (fC.set ((dx:Int)).toNat lZ)).bind fun z54=>
   gp d9 (dx+1) z54
def gy(aB:List Event):Option ((List Event)):=
 (fZ (aB.length:Int) (({Kind:=0,Text:=[]}:Event):Event)).bind fun z1=>
 gp aB 0 z1
theorem j5(aB:List Event)(aX:Sv)(R:(List Event))(hF:gy aB=some R):
   Fw.Spec Try.prog 6 [aX.v] [aY (aO 31 dR) aX.v aB] (fun p:Sv×List Nat=>p.1.v) (fun p=>[aK (aD 33 (aR bW)) p.2 p.1.v R]):=by
 refine Se 23 Try.func6 [.tmp 2] ?_
 intro H0 F0
 unfold gy at hF
 iterate 6 refine au ?_
 refine bnd hF fun z1 hx2 hF=>?_
 have pY:=ny hx2
 refine gJ rfl (qP (g:=true) (c:=(aB.length:Int)) jL.h eZ.h rfl rfl (by decide) (.tmp rfl rfl) pY.2.1 pY.2.2) (fun k4=>?_)
 refine lX (.cons .h .nil) (si (Ro:=(aR bW)) (E:=33) (a:=(({Kind:=0,Text:=[]}:Event):Event)) hx2 (fun _=>⟨rfl,rfl⟩)) ?_
 iterate 6 refine au ?_
 refine gB (iI (m:=aB.length) (fun p8 f' cs'=>∃(g:Fr)(dx:Nat)(d9:List Event)(fC:List Event)(l5:List Nat),p8=d9.length/\f'=dB g [(0,aX.v),(3,(.slice (some ⟨k4,0,none⟩) (aB.length:Int).toNat 1)),(4,(.int .i64 (dx:Int)))]/\List.drop dx aB=d9/\bq cs' [aY (aO 31 dR) aX.v aB,aK (aD 33 (aR bW)) l5 (.slice (some ⟨k4,0,none⟩) (aB.length:Int).toNat 1) fC]/\gp d9 dx fC=some R) ⟨_,0,_,_,[k4],rfl,bZ,rfl,bV,hF⟩ ?_)
 rintro p8 _ _ ⟨y7,dx,d9,fC,l5,rfl,rfl,hd38,hE,hF⟩
 refine Kb hE aB (fun yu=>?_)
 rcases d9 with _|⟨lY,d9⟩
 · have wK:=dn hd38
   rw[gp]at hF
   iterate 7 refine au ?_
   refine jX ?_
   iterate 9 refine au ?_
   cases hF
   exact Er (⟨(some ⟨k4,0,none⟩),(aB.length:Int).toNat,1⟩,l5)
 obtain⟨wK,wL,wM⟩:=iy hd38
 rw[gp]at hF
 iterate 7 refine au ?_
 refine jW ?_
 iterate 7 refine au ?_
 refine Ai wL (fun y8 y9=>?_)
 refine lJ (ku lY) mV (fun _=>?_)
 refine bnd hF fun lZ wN hF=>fA (qN _ _ wN) (fun _=>?_)
 refine bnd hF fun xY wO hF=>?_
 have pg:=rY wO
 refine kQ jL.h eZ.h.sz (.tmp rfl rfl) (.tmp rfl rfl) (.t (.t .h)) pg (fun y_ wP=>?_)
 refine bnd hF fun z54 lK hF=>?_
 replace lK:=Option.some.inj lK
 refine dJ (.cons (.t (.t .h)) .nil) (r9 (Ro:=(aR bW)) (a:=lZ) (i:=(dx:Int)) eZ.h.sz rfl (.tmp rfl rfl) (.tmp rfl rfl) wP pg (cO (fun _=>rfl)) (fun _ _ _ _ h=>by obtain⟨-,h⟩:=h; cases h; rfl)) (fun xZ=>?_)
 rw[lK]
 iterate 6 refine au ?_
 rw[wk dx]
 exact⟨_,Nat.lt_succ_self _,_,dx+1,d9,_,xZ,rfl,bZ,wM,bV,hF⟩
def jy(fD:Int)(dm:Int)(dH:Int):Option (Bool):=
 some ((decide ((dm:Int)<=fD))&&(decide ((fD:Int)<=dH)))
theorem rO(fD:Int)(dm:Int)(dH:Int)(R:Bool)(hF:jy fD dm dH=some R):
   Fw.Spec Try.prog 19 [(.int .i64 fD),(.int .i64 dm),(.int .i64 dH)] [] (fun _:Unit=>(.bool R)) (fun _=>[]):=by
 refine Se 15 Try.func19 [.tmp 6] ?_
 intro H0 F0
 unfold jy at hF
 iterate 4 refine au ?_
 refine jB (fun f' cs'=>∃(g:Fr),f'=dB g [(6,(.bool ((decide ((dm:Int)<=fD))&&(decide ((fD:Int)<=dH)))))]/\bq cs' []) ?_ ?_
 · iterate 4 refine au ?_
   rcases Bool.eq_false_or_eq_true (decide ((dm:Int)<=fD))with hg1|hg1
   · rw[hg1]
     try rw[hg1]at hF; dsimp only[cond_true,cond_false]at hF
     iterate 9 refine au ?_
     exact⟨_,bZ,bV⟩
   rw[hg1]
   try rw[hg1]at hF; dsimp only[cond_true,cond_false]at hF
   iterate 6 refine au ?_
   exact⟨_,bZ,bV⟩
 rintro _ _ ⟨g2,rfl,hE⟩
 refine gK hE ?_
 refine au ?_
 cases hF
 exact Er ()
def ik(dI:Int):Option ((List UInt8)):=
 (jy dI 1 6).bind fun r1=>
 if (!r1)then (
   some [])
 else (
   (ix ([[109,101,116,104,111,100],[114,117,108,101],[97,100,100],[100,114,111,112],[119,97,105,116],[97,115,107]]:List (List UInt8)) (IntKind.i64.wrap (dI-1))).bind fun x8=>
   some x8)
theorem qA(dI:Int)(R:(List UInt8))(hF:ik dI=some R):
   Fw.Spec Try.prog 16 [(.int .i64 dI)] [] (fun _:Unit=>(sv R)) (fun _=>[]):=by
 refine Se 11 Try.func16 [.tmp 2] ?_
 intro H0 F0
 unfold ik at hF
 iterate 6 refine au ?_
 refine bnd hF fun r1 hx2 hF=>fA (rO _ _ _ _ hx2) (fun _=>?_)
 iterate 2 refine au ?_
 refine Ci hF (fun wQ hF=>?_) (fun wQ hF=>?_)
 · iterate 4 refine au ?_
   cases hF
   exact Er ()
 iterate 2 refine au ?_
 refine gJ rfl (mo (g:=true) jM.h jZ.h (.cons (.sv _) (.cons (.sv _) (.cons (.sv _) (.cons (.sv _) (.cons (.sv _) (.cons (.sv _) .nil)))))) (vs:=[(sv [109,101,116,104,111,100]),(sv [114,117,108,101]),(sv [97,100,100]),(sv [100,114,111,112]),(sv [119,97,105,116]),(sv [97,115,107])]) rfl rfl rfl (by intro v hv; simp at hv; rcases hv with rfl|rfl|rfl|rfl|rfl|rfl<;>rfl)) (fun k4=>?_)
 refine lX (.cons .h .nil) (nI (Ro:=(aR rdStr)) (E:=9) (F:=([]++([]++([]++([]++([]++([]++[]))))))) (xs:=([[109,101,116,104,111,100],[114,117,108,101],[97,100,100],[100,114,111,112],[119,97,105,116],[97,115,107]]:List (List UInt8))) (dh (cO (fun _=>rfl)) (dh (cO (fun _=>rfl)) (dh (cO (fun _=>rfl)) (dh (cO (fun _=>rfl)) (dh (cO (fun _=>rfl)) (dh (cO (fun _=>rfl)) nH bE) bE) bE) bE) bE) bE) rfl rfl) ?_
 iterate 2 refine au ?_
 refine bnd hF fun x8 j3 hF=>?_
 have x9:=nZ j3
 obtain⟨yL,gU⟩:=jr j3
 refine kQ jM.h jZ.h.sz (.tmp rfl rfl) (.tmp rfl rfl) .h x9 (fun k5 x_=>?_)
 refine oK (w:=(sv x8)) pU.h (.tmp rfl rfl) .h x_ gU oU ?_
 iterate 3 refine au ?_
 cases hF
 exact Er ()
def ic(bi:Event):Option ((List UInt8)):=
 (ik bi.Kind).bind fun r2=>
 if ((r2==[])||(bi.Text==[]))then (
   some [])
 else (
   (bG r2 [32]).bind fun x7=>
   (bG x7 bi.Text).bind fun f_=>
   some f_)
theorem ql(bi:Event)(R:(List UInt8))(hF:ic bi=some R):
   Fw.Spec Try.prog 10 [(.agg [(.int .i64 bi.Kind),(sv bi.Text)].toArray)] [] (fun _:Unit=>(sv R)) (fun _=>[]):=by
 refine Se 19 Try.func10 [.tmp 2] ?_
 intro H0 F0
 unfold ic at hF
 refine au ?_
 refine g_ (fun k1=>?_)
 iterate 5 refine au ?_
 refine bnd hF fun r2 hx3 hF=>fA (qA _ _ hx3) (fun _=>?_)
 iterate 4 refine au ?_
 refine jB (fun f' cs'=>∃(g:Fr),f'=dB g [(1,(pz k1)),(3,(sv r2)),(13,(.bool ((r2==[])||(bi.Text==[]))))]/\bq cs' [oZ k1 33 (.agg [(.int .i64 bi.Kind),(sv bi.Text)].toArray)]) ?_ ?_
 · refine au ?_
   refine aC (gI (s:=r2) (t:=[]) (.tmp rfl rfl) (.sv _)) ?_
   refine au ?_
   rcases Bool.eq_false_or_eq_true (r2==[])with hg5|hg5
   · rw[hg5]
     try rw[hg5]at hF; dsimp only[cond_true,cond_false]at hF
     iterate 5 refine au ?_
     exact⟨_,bZ,bV⟩
   rw[hg5]
   try rw[hg5]at hF; dsimp only[cond_true,cond_false]at hF
   iterate 5 refine au ?_
   refine aC (gI (s:=bi.Text) (t:=[]) (.tmp rfl rfl) (.sv _)) ?_
   iterate 2 refine au ?_
   exact⟨_,bZ,bV⟩
 rintro _ _ ⟨g6,rfl,hE⟩
 refine gK hE ?_
 refine Ci hF (fun lL hF=>?_) (fun lL hF=>?_)
 · iterate 4 refine au ?_
   cases hF
   exact Er ()
 iterate 3 refine au ?_
 refine bnd hF fun x7 gm hF=>?_
 obtain⟨wR,yc⟩:=eT gm
 refine aC (fJ (s:=r2) (t:=[32]) (u:=x7) (.tmp rfl rfl) (.sv _) gm) ?_
 iterate 2 refine au ?_
 refine bnd hF fun f_ iW hF=>?_
 obtain⟨wS,wT⟩:=eT iW
 refine aC (fJ (s:=x7) (t:=bi.Text) (u:=f_) (.tmp rfl rfl) (.tmp rfl rfl) iW) ?_
 iterate 3 refine au ?_
 cases hF
 exact Er ()
def fG:List Event->Nat->(List UInt8)->Option ((List UInt8))
 |[],k5,c1=>some c1
 |x7::aV,k5,c1=>(ic x7).bind fun r16=>
   if (r16==[])then (
     some [])
   else (
     (bG c1 r16).bind fun j4=>
     (bG j4 [10]).bind fun l6=>
     fG aV (k5+1) l6)
def jb(bn:List Event):Option ((List UInt8)):=
 fG bn 0 []
theorem qh(bn:List Event)(aX:Sv)(R:(List UInt8))(hF:jb bn=some R):
   Fw.Spec Try.prog 5 [aX.v] [aY (aO 33 bW) aX.v bn] (fun _:Unit=>(sv R)) (fun _=>[]):=by
 refine Se 24 Try.func5 [.tmp 2] ?_
 intro H0 F0
 unfold jb at hF
 iterate 10 refine au ?_
 refine gB (iI (m:=bn.length) (fun m3 f' cs'=>∃(g:Fr)(k5:Nat)(aV:List Event)(c1:List UInt8),m3=aV.length/\f'=dB g [(0,aX.v),(3,(sv c1)),(4,(.int .i64 (k5:Int)))]/\List.drop k5 bn=aV/\bq cs' [aY (aO 33 bW) aX.v bn]/\fG aV k5 c1=some R) ⟨_,0,_,_,rfl,bZ,rfl,bV,hF⟩ ?_)
 rintro m3 _ _ ⟨g4,k5,aV,c1,rfl,rfl,fB,hE,hF⟩
 refine Kb hE bn (fun oV=>?_)
 rcases aV with _|⟨x7,aV⟩
 · have iY:=dn fB
   rw[fG]at hF
   iterate 7 refine au ?_
   refine jX ?_
   iterate 9 refine au ?_
   cases hF
   exact Er ()
 obtain⟨iY,iT,iU⟩:=iy fB
 rw[fG]at hF
 iterate 7 refine au ?_
 refine jW ?_
 iterate 5 refine au ?_
 refine Ai iT (fun k14 pX=>?_)
 refine lJ (iA x7) jh (fun _=>?_)
 refine bnd hF fun r16 iV hF=>fA (ql _ _ iV) (fun _=>?_)
 iterate 5 refine au ?_
 refine aC (gI (s:=r16) (t:=[]) (.tmp rfl rfl) (.sv _)) ?_
 refine au ?_
 refine Ci hF (fun wU hF=>?_) (fun wU hF=>?_)
 · iterate 4 refine au ?_
   cases hF
   exact Er ()
 iterate 4 refine au ?_
 refine bnd hF fun j4 jO hF=>?_
 obtain⟨yM,yN⟩:=eT jO
 refine aC (fJ (s:=c1) (t:=r16) (u:=j4) (.tmp rfl rfl) (.tmp rfl rfl) jO) ?_
 refine bnd hF fun l6 hx24 hF=>?_
 obtain⟨yO,yP⟩:=eT hx24
 refine aC (fJ (s:=j4) (t:=[10]) (u:=l6) (.tmp rfl rfl) (.sv _) hx24) ?_
 iterate 7 refine au ?_
 rw[wk k5]
 exact⟨_,Nat.lt_succ_self _,_,k5+1,aV,_,rfl,bZ,iU,bV,hF⟩
def ji(fE:Int)(dm:Int)(dH:Int):Option (Bool):=
 some ((decide ((dm:Int)<=fE))&&(decide ((fE:Int)<=dH)))
theorem qU(fE:Int)(dm:Int)(dH:Int)(R:Bool)(hF:ji fE dm dH=some R):
   Fw.Spec Try.prog 20 [(.int .i64 fE),(.int .i64 dm),(.int .i64 dH)] [] (fun _:Unit=>(.bool R)) (fun _=>[]):=by
 refine Se 15 Try.func20 [.tmp 6] ?_
 intro H0 F0
 unfold ji at hF
 iterate 4 refine au ?_
 refine jB (fun f' cs'=>∃(g:Fr),f'=dB g [(6,(.bool ((decide ((dm:Int)<=fE))&&(decide ((fE:Int)<=dH)))))]/\bq cs' []) ?_ ?_
 · iterate 4 refine au ?_
   rcases Bool.eq_false_or_eq_true (decide ((dm:Int)<=fE))with hg1|hg1
   · rw[hg1]
     try rw[hg1]at hF; dsimp only[cond_true,cond_false]at hF
     iterate 9 refine au ?_
     exact⟨_,bZ,bV⟩
   rw[hg1]
   try rw[hg1]at hF; dsimp only[cond_true,cond_false]at hF
   iterate 6 refine au ?_
   exact⟨_,bZ,bV⟩
 rintro _ _ ⟨g2,rfl,hE⟩
 refine gK hE ?_
 refine au ?_
 cases hF
 exact Er ()
def j6:Option ((List (List UInt8))):=
 some ([[],[109,101,116,104,111,100],[114,117,108,101],[97,100,100],[100,114,111,112],[119,97,105,116],[97,115,107]]:List (List UInt8))
theorem qw(R:(List (List UInt8)))(hF:j6=some R):
   Fw.Spec Try.prog 21 [] [] (fun p:Sv×List Nat=>p.1.v) (fun p=>[aK (aD 9 (aR rdStr)) p.2 p.1.v R]):=by
 refine Se 2 Try.func21 [.tmp 0] ?_
 intro H0 F0
 unfold j6 at hF
 iterate 4 refine au ?_
 refine gJ rfl (mo (g:=true) jM.h jZ.h (.cons (.sv _) (.cons (.sv _) (.cons (.sv _) (.cons (.sv _) (.cons (.sv _) (.cons (.sv _) (.cons (.sv _) .nil))))))) (vs:=[(sv []),(sv [109,101,116,104,111,100]),(sv [114,117,108,101]),(sv [97,100,100]),(sv [100,114,111,112]),(sv [119,97,105,116]),(sv [97,115,107])]) rfl rfl rfl (by intro v hv; simp at hv; rcases hv with rfl|rfl|rfl|rfl|rfl|rfl|rfl<;>rfl)) (fun k1=>?_)
 refine lX (.cons .h .nil) (nI (Ro:=(aR rdStr)) (E:=9) (F:=([]++([]++([]++([]++([]++([]++([]++[])))))))) (xs:=([[],[109,101,116,104,111,100],[114,117,108,101],[97,100,100],[100,114,111,112],[119,97,105,116],[97,115,107]]:List (List UInt8))) (dh (cO (fun _=>rfl)) (dh (cO (fun _=>rfl)) (dh (cO (fun _=>rfl)) (dh (cO (fun _=>rfl)) (dh (cO (fun _=>rfl)) (dh (cO (fun _=>rfl)) (dh (cO (fun _=>rfl)) nH bE) bE) bE) bE) bE) bE) bE) rfl rfl) ?_
 iterate 3 refine au ?_
 cases hF
 exact Er (⟨(some ⟨k1,0,none⟩),7,1⟩,(k1::([]++([]++([]++([]++([]++([]++([]++[])))))))))
def il(dI:Int):Option ((List UInt8)):=
 (ji dI 1 6).bind fun r1=>
 if (!r1)then (
   some [])
 else (
   (j6).bind fun r4=>
   (ix r4 dI).bind fun l7=>
   some l7)
theorem qB(dI:Int)(R:(List UInt8))(hF:il dI=some R):
   Fw.Spec Try.prog 17 [(.int .i64 dI)] [] (fun _:Unit=>(sv R)) (fun _=>[]):=by
 refine Se 10 Try.func17 [.tmp 2] ?_
 intro H0 F0
 unfold il at hF
 iterate 6 refine au ?_
 refine bnd hF fun r1 hx2 hF=>fA (qU _ _ _ _ hx2) (fun _=>?_)
 iterate 2 refine au ?_
 refine Ci hF (fun wV hF=>?_) (fun wV hF=>?_)
 · iterate 4 refine au ?_
   cases hF
   exact Er ()
 iterate 2 refine au ?_
 refine bnd hF fun r4 hx5 hF=>jY (qw _ hx5) (fun p6=>?_)
 refine au ?_
 refine bnd hF fun l7 gU hF=>?_
 have hi9:=nZ gU
 obtain⟨yQ,wW⟩:=jr gU
 refine kQ jM.h jZ.h.sz (.tmp rfl rfl) (.tmp rfl rfl) .h hi9 (fun k7 l8=>?_)
 refine oK (w:=(sv l7)) pU.h (.tmp rfl rfl) .h l8 wW oU ?_
 iterate 3 refine au ?_
 cases hF
 exact Er ()
def ig(bi:Event):Option ((List UInt8)):=
 (il bi.Kind).bind fun r2=>
 if ((r2==[])||(bi.Text==[]))then (
   some [])
 else (
   (bG r2 [32]).bind fun x7=>
   (bG x7 bi.Text).bind fun f_=>
   some f_)
theorem qm(bi:Event)(R:(List UInt8))(hF:ig bi=some R):
   Fw.Spec Try.prog 12 [(.agg [(.int .i64 bi.Kind),(sv bi.Text)].toArray)] [] (fun _:Unit=>(sv R)) (fun _=>[]):=by
 refine Se 19 Try.func12 [.tmp 2] ?_
 intro H0 F0
 unfold ig at hF
 refine au ?_
 refine g_ (fun k1=>?_)
 iterate 5 refine au ?_
 refine bnd hF fun r2 hx3 hF=>fA (qB _ _ hx3) (fun _=>?_)
 iterate 4 refine au ?_
 refine jB (fun f' cs'=>∃(g:Fr),f'=dB g [(1,(pz k1)),(3,(sv r2)),(13,(.bool ((r2==[])||(bi.Text==[]))))]/\bq cs' [oZ k1 33 (.agg [(.int .i64 bi.Kind),(sv bi.Text)].toArray)]) ?_ ?_
 · refine au ?_
   refine aC (gI (s:=r2) (t:=[]) (.tmp rfl rfl) (.sv _)) ?_
   refine au ?_
   rcases Bool.eq_false_or_eq_true (r2==[])with hg5|hg5
   · rw[hg5]
     try rw[hg5]at hF; dsimp only[cond_true,cond_false]at hF
     iterate 5 refine au ?_
     exact⟨_,bZ,bV⟩
   rw[hg5]
   try rw[hg5]at hF; dsimp only[cond_true,cond_false]at hF
   iterate 5 refine au ?_
   refine aC (gI (s:=bi.Text) (t:=[]) (.tmp rfl rfl) (.sv _)) ?_
   iterate 2 refine au ?_
   exact⟨_,bZ,bV⟩
 rintro _ _ ⟨g6,rfl,hE⟩
 refine gK hE ?_
 refine Ci hF (fun lL hF=>?_) (fun lL hF=>?_)
 · iterate 4 refine au ?_
   cases hF
   exact Er ()
 iterate 3 refine au ?_
 refine bnd hF fun x7 gm hF=>?_
 obtain⟨wR,yc⟩:=eT gm
 refine aC (fJ (s:=r2) (t:=[32]) (u:=x7) (.tmp rfl rfl) (.sv _) gm) ?_
 iterate 2 refine au ?_
 refine bnd hF fun f_ iW hF=>?_
 obtain⟨wS,wT⟩:=eT iW
 refine aC (fJ (s:=x7) (t:=bi.Text) (u:=f_) (.tmp rfl rfl) (.tmp rfl rfl) iW) ?_
 iterate 3 refine au ?_
 cases hF
 exact Er ()
theorem jP:Try.prog.underlying 35=some (.pointer 38):=by kernel_rfl
theorem pq:Try.prog.underlying 50=some .unsafePointer:=by kernel_rfl
theorem wX:Try.prog.underlying 46=some (.pointer 5):=by kernel_rfl
theorem yf:Try.prog.underlying 9=some .string:=by kernel_rfl
instance lM:eH Try.prog 36 5:=⟨by unfold SL; kernel_rfl⟩
instance gV:bK Try.prog 38 2 32 (.agg [(.pointer none),(.slice none 0 0)].toArray):=⟨by unfold TY; kernel_rfl⟩
instance wY:bK Try.prog 35 1 8 (.pointer none):=⟨by unfold TY; kernel_rfl⟩
instance wZ:bK Try.prog 36 1 24 (.slice none 0 0):=⟨by unfold TY; kernel_rfl⟩
instance p9:bK Try.prog 5 1 1 (.int .u8 0):=⟨by unfold TY; kernel_rfl⟩
instance kW:fw Try.prog 38 0 0:=⟨by unfold FD; kernel_rfl⟩
instance gH:fw Try.prog 38 1 1:=⟨by unfold FD; kernel_rfl⟩
instance pu:bY Try.prog 35 false:=⟨by unfold AG; kernel_rfl⟩
instance iX:bY Try.prog 36 false:=⟨by unfold AG; kernel_rfl⟩
instance w9:bC Try.prog 13:=⟨Try.call13⟩
instance w_:bC Try.prog 14:=⟨Try.call14⟩
instance xc:bC Try.prog 18:=⟨Try.call18⟩
theorem xe(u:Value)(w:World):(callFunc 22 #[u]).run Try.prog w= .ok (.value u) w:=by
 rw[run_callFunc_extern Try.func22 (by kernel_rfl) (by kernel_rfl) (by kernel_rfl) (e:=Extern.AbiNoEscape.same) (by kernel_rfl),Lib.run_noEscape]
 rfl
def fF(k:Nat)(us:Bool):Option Addr:=bif us then some ⟨k,0,some 0⟩else none
theorem qC(aL:Nat)(us:Bool)(u:Sv):
   Fw.Spec Try.prog 18 [(.pointer (some ⟨aL,0,some 0⟩))] [dC aL 38 (.agg [(.pointer (fF aL us)),u.v].toArray)] (fun _:Unit=>(.tuple [].toArray)) (fun _=>[dC aL 38 (.agg [(.pointer (some ⟨aL,0,some 0⟩)),u.v].toArray)]):=by
 refine iq (n:=20) Try.func18 rfl rfl (rs:=[]) rfl rfl rfl ?_
 intro H0 F0
 refine bL (Cm (.pointer (some ⟨aL,0,some 0⟩)) rfl rfl ?_)
 refine aC (dV (v:=(.pointer (some ⟨aL,0,some 0⟩))) rfl (.tmp rfl rfl)) ?_
 refine aC (dD (off:=0) kW.h (.tmp rfl rfl)) ?_
 refine b_ .h (fun hp=>dE (v:=(.pointer (fF aL us))) pu.h (.tmp rfl rfl) hp.2 rfl rfl) ?_
 refine aC (sH (p:=fF aL us) jP (.tmp rfl rfl)) ?_
 cases us with
 |false=>
   refine bz (dW (b:=true) (.tmp rfl rfl) (fun _=>?_) (fun hb=>absurd hb (by decide)))
   refine iw (Cm (.pointer (some ⟨aL,0,some 0⟩)) rfl rfl ?_)
   refine Cm (.pointer (some ⟨aL,0,some 0⟩)) rfl rfl ?_
   refine b_ .h (fun hp=>q8 jP pq gV.h.sz rfl (.tmp rfl rfl) hp) ?_
   refine aC (rf xe (.tmp rfl rfl)) ?_
   refine b_ .h (fun hp=>qJ jP pq gV.h.sz rfl (.tmp rfl rfl) hp) ?_
   refine aC (dV (v:=(.pointer (some ⟨aL,0,some 0⟩))) rfl (.tmp rfl rfl)) ?_
   refine aC (dD (off:=0) kW.h (.tmp rfl rfl)) ?_
   refine dJ (.cons .h .nil) (iG (e':=(.agg [(.pointer (some ⟨aL,0,some 0⟩)),u.v].toArray)) (v:=(.pointer (some ⟨aL,0,some 0⟩))) wY.h.sz (.tmp rfl rfl) (.tmp rfl rfl) rfl rfl rfl rfl rfl) (fun _=>?_)
   refine bz ?_
   exact nG () .nil rfl (.sel (.cons .h .nil))
 |true=>
   refine bz (dW (b:=false) (.tmp rfl rfl) (fun hb=>absurd hb (by decide)) (fun _=>?_))
   refine bL (Cm (.pointer (some ⟨aL,0,some 0⟩)) rfl rfl ?_)
   refine aC (dV (v:=(.pointer (some ⟨aL,0,some 0⟩))) rfl (.tmp rfl rfl)) ?_
   refine aC (dD (off:=0) kW.h (.tmp rfl rfl)) ?_
   refine b_ .h (fun hp=>dE (v:=(.pointer (some ⟨aL,0,some 0⟩))) pu.h (.tmp rfl rfl) hp.2 rfl rfl) ?_
   refine Cm (.pointer (some ⟨aL,0,some 0⟩)) rfl rfl ?_
   refine b_ .h (fun hp=>rJ jP gV.h.sz (.tmp rfl rfl) (.tmp rfl rfl) hp.2) ?_
   refine bz (dW (b:=false) (.tmp rfl rfl) (fun hb=>absurd hb (by decide)) (fun _=>?_))
   refine jo ?_
   exact nG () .nil rfl (.sel (.cons .h .nil))
theorem qo(aL:Nat)(us:Bool)(u:Sv)(F:List Nat)(xs s zs:List UInt8)(hz:app xs s=some zs)(hne:s≠[]):
   Fw.Spec Try.prog 13 [(.pointer (some ⟨aL,0,some 0⟩)),(sv s)] [dC aL 38 (.agg [(.pointer (fF aL us)),u.v].toArray),aK (aD 5 (aR bu)) F u.v xs] (fun _:Sv×List Nat=>(.tuple [(.int .i64 (s.length:Int)),.nilIface].toArray)) (fun q=>[dC aL 38 (.agg [(.pointer (fF aL true)),q.1.v].toArray),aK (aD 5 (aR bu)) q.2 q.1.v zs]):=by
 refine iq (n:=19) Try.func13 rfl rfl (rs:=[.tmp 4,.tmp 5]) rfl rfl rfl ?_
 intro H0 F0
 refine bL (aC (dL (v:=(.int .i64 0)) (.int _ _)) ?_)
 refine aC (dL (v:=.nilIface) EV.nilIface) ?_
 refine bz (bL (Cm (.pointer (some ⟨aL,0,some 0⟩)) rfl rfl ?_))
 refine dJ (.cons .h .nil) (dO xc.h (.cons (.tmp rfl rfl) .nil) (qC aL us u)) (fun _=>?_)
 refine bz (bL (Cm (.pointer (some ⟨aL,0,some 0⟩)) rfl rfl ?_))
 refine Cm (.pointer (some ⟨aL,0,some 0⟩)) rfl rfl ?_
 refine aC (dV (v:=(.pointer (some ⟨aL,0,some 0⟩))) rfl (.tmp rfl rfl)) ?_
 refine aC (dD (off:=1) gH.h (.tmp rfl rfl)) ?_
 refine b_ .h (fun hp=>dE (v:=u.v) iX.h (.tmp rfl rfl) hp.2 rfl rfl) ?_
 refine Cm (sv s) rfl rfl ?_
 refine dJ (.cons (.t .h) .nil) (tL lM.h yf p9.h rfl rfl (.tmp rfl rfl) (.tmp rfl rfl) hz hne) (fun q=>?_)
 refine aC (dV (v:=(.pointer (some ⟨aL,0,some 0⟩))) rfl (.tmp rfl rfl)) ?_
 refine aC (dD (off:=1) gH.h (.tmp rfl rfl)) ?_
 refine dJ (.cons (.t .h) .nil) (iG (e':=(.agg [(.pointer (some ⟨aL,0,some 0⟩)),q.1.v].toArray)) (v:=q.1.v) wZ.h.sz (.tmp rfl rfl) (.tmp rfl rfl) rfl rfl rfl rfl rfl) (fun _=>?_)
 refine bz (bL (Cm (sv s) rfl rfl ?_))
 refine aC (ni (s:=s) pV (.tmp rfl rfl)) ?_
 refine Ca (.int .i64 (s.length:Int)) rfl rfl ?_
 refine aC (dL (v:=.nilIface) EV.nilIface) ?_
 refine bz (gF ?_)
 exact gD q (.tmp rfl rfl (.tmp rfl rfl .nil)) rfl (.sel (.cons .h (.cons .h .nil)))
theorem qV(aL:Nat)(us:Bool)(u:Sv)(F:List Nat)(xs:List UInt8)(h0:xs=[]->u=⟨none,0,0⟩):
   Fw.Spec Try.prog 14 [(.pointer (some ⟨aL,0,some 0⟩))] [dC aL 38 (.agg [(.pointer (fF aL us)),u.v].toArray),aK (aD 5 (aR bu)) F u.v xs] (fun _:Unit=>(sv xs)) (fun _=>[]):=by
 refine iq (n:=14) Try.func14 rfl rfl (rs:=[.tmp 2]) rfl rfl rfl ?_
 intro H0 F0
 refine bL (aC (dL (v:=(sv [])) (.sv _)) ?_)
 refine bz ?_
 by_cases hne:xs=[]
 · obtain rfl:=h0 hne
   subst hne
   refine kU [0,1,2,3,4,5,6,7,8,9,10,11] [0,1,3,7,15,0,32,96,224,480,1023,2047] [] mixed (by decide+kernel) ?_
   refine Dm (.pointer (some ⟨aL,0,some 0⟩)) rfl rfl rfl rfl ?_
   refine aU rfl .no (fun ha=>dV (v:=(.pointer (some ⟨aL,0,some 0⟩))) rfl (EN ha (.tmp rfl rfl) rfl)) ?_
   refine aU rfl .no (fun ha=>dD (off:=1) gH.h (EN ha (.tmp rfl rfl) rfl)) ?_
   refine gM rfl .no .h (fun ha hp=>dE (v:=(.slice none 0 0)) iX.h (EN ha (.tmp rfl rfl) rfl) hp.2 rfl rfl) ?_
   refine aU rfl .no (fun ha=>qK (EN ha (.tmp rfl rfl) rfl)) ?_
   refine Dm (.pointer (some ⟨aL,0,some 0⟩)) rfl rfl rfl rfl ?_
   refine aU rfl .no (fun ha=>dV (v:=(.pointer (some ⟨aL,0,some 0⟩))) rfl (EN ha (.tmp rfl rfl) rfl)) ?_
   refine aU rfl .no (fun ha=>dD (off:=1) gH.h (EN ha (.tmp rfl rfl) rfl)) ?_
   refine gM rfl .no .h (fun ha hp=>dE (v:=(.slice none 0 0)) iX.h (EN ha (.tmp rfl rfl) rfl) hp.2 rfl rfl) ?_
   refine aU rfl .no (fun ha=>gG (l:=0) lM.h (EN ha (.tmp rfl rfl) rfl) ⟨none,0,rfl⟩) ?_
   refine aU rfl .no (fun ha=>qL (EN ha (.tmp rfl rfl) rfl) (EN ha (.tmp rfl rfl) rfl)) ?_
   refine Da (sv []) rfl rfl rfl rfl ?_
   refine lg (gF ?_)
   exact gD () (.tmp rfl rfl .nil) rfl (.sel .nil)
 refine kN (c:=aK (aD 5 (aR bu)) F u.v xs) (.t .h) (fun H h=>uw hne h) (fun hu=>?_)
 obtain⟨k,m,hu⟩:=hu
 rw[hu]
 refine kU [0,1,2,3,4,5,6,7,8,9,10,11] [0,1,3,7,15,0,32,96,224,480,1023,2047] [10] mixed (by decide+kernel) ?_
 refine Dm (.pointer (some ⟨aL,0,some 0⟩)) rfl rfl rfl rfl ?_
 refine aU rfl .no (fun ha=>dV (v:=(.pointer (some ⟨aL,0,some 0⟩))) rfl (EN ha (.tmp rfl rfl) rfl)) ?_
 refine aU rfl .no (fun ha=>dD (off:=1) gH.h (EN ha (.tmp rfl rfl) rfl)) ?_
 refine gM rfl .no .h (fun ha hp=>dE (v:=(.slice (some ⟨k,0,none⟩) xs.length m)) iX.h (EN ha (.tmp rfl rfl) rfl) hp.2 rfl rfl) ?_
 refine gM rfl .no (.t .h) (fun ha hp=>qQ hne (EN ha (.tmp rfl rfl) rfl) hp) ?_
 refine Dm (.pointer (some ⟨aL,0,some 0⟩)) rfl rfl rfl rfl ?_
 refine aU rfl .no (fun ha=>dV (v:=(.pointer (some ⟨aL,0,some 0⟩))) rfl (EN ha (.tmp rfl rfl) rfl)) ?_
 refine aU rfl .no (fun ha=>dD (off:=1) gH.h (EN ha (.tmp rfl rfl) rfl)) ?_
 refine gM rfl .no .h (fun ha hp=>dE (v:=(.slice (some ⟨k,0,none⟩) xs.length m)) iX.h (EN ha (.tmp rfl rfl) rfl) hp.2 rfl rfl) ?_
 refine aU rfl .no (fun ha=>gG (l:=xs.length) lM.h (EN ha (.tmp rfl rfl) rfl) ⟨_,_,rfl⟩) ?_
 refine n_ rfl rfl .no (.cons (.t .h) .nil) (.dep rfl (.dep rfl (.dep rfl .nil))) (fun ha=>qR wX p9.h.sz hne (EN ha (.tmp rfl rfl) rfl) (EN ha (.tmp rfl rfl) rfl)) (fun _=>?_)
 refine Da (sv xs) rfl rfl rfl rfl ?_
 refine lg (gF ?_)
 exact gD () (.tmp rfl rfl .nil) rfl (.sel .nil)
def fH:List Event->Nat->(List UInt8)->Option ((List UInt8))
 |[],k5,c1=>some c1
 |x7::aV,k5,c1=>(ig x7).bind fun eO=>
   if (eO==[])then (
     some [])
   else (
     (bG eO [10]).bind fun x20=>
     (app c1 x20).bind fun x24=>
     fH aV (k5+1) x24)
def jc(bn:List Event):Option ((List UInt8)):=
 fH bn 0 []
theorem qi(bn:List Event)(aX:Sv)(R:(List UInt8))(hF:jc bn=some R):
   Fw.Spec Try.prog 7 [aX.v] [aY (aO 33 bW) aX.v bn] (fun _:Unit=>(sv R)) (fun _=>[]):=by
 refine iq (n:=23) Try.func7 rfl rfl (rs:=[.tmp 2]) rfl rfl rfl ?_
 intro H0 F0
 unfold jc at hF
 refine bL (aC (dL (v:=(sv [])) (.sv _)) ?_)
 refine bz (bL (aC (sZ gV.h rfl (vs:=[]) .nil (cells:=[(.pointer none),(.slice none 0 0)]) rfl) ?_))
 refine gJ rfl (kz (g:=true) gV.h rfl rfl) (fun k1=>?_)
 refine dJ (.cons .h .nil) (iG (e':=(.agg [(.pointer (fF k1 false)),(.slice none 0 0)].toArray)) (v:=(.agg [(.pointer none),(.slice none 0 0)].toArray)) gV.h.sz (.tmp rfl rfl) (.tmp rfl rfl) rfl rfl rfl rfl rfl) (fun _=>?_)
 refine nY .nil (sV (E:=5) (Ro:=(aR bu))) (.cons .nil) ?_
 refine bz (eU (bL (Cm aX.v rfl rfl ?_)))
 refine b_ (.t (.t .h)) (fun hp=>gG (l:=bn.length) jL.h (.tmp rfl rfl) (kI hp)) ?_
 refine aC (iJ (v:=(.int .i64 0)) (.int _ _)) ?_
 refine bz (gB (iI (m:=bn.length) (fun m3 f' cs'=>∃(g:Fr)(k5:Nat)(aV:List Event)(c1:List UInt8)(us:Bool)(u:Sv)(F:List Nat),m3=aV.length/\f'=dB g [(3,(.pointer (some ⟨k1,0,some 0⟩))),(8,aX.v),(9,(.int .i64 (bn.length:Int))),(10,(.int .i64 (k5:Int)))]/\List.drop k5 bn=aV/\bq cs' [aY (aO 33 bW) aX.v bn,dC k1 38 (.agg [(.pointer (fF k1 us)),u.v].toArray),aK (aD 5 (aR bu)) F u.v c1]/\fH aV k5 c1=some R/\(c1=[]->u=⟨none,0,0⟩)) ⟨_,0,_,_,false,⟨none,0,0⟩,[],rfl,(bN.cons rfl (bN.cons rfl (bN.cons rfl (bN.cons rfl (bN.nil))))).eq,rfl,(.sel (.rd (.t (.t .h)) rfl (.cons (.t .h) (.cons .h .nil)))),hF,fun _=>rfl⟩ ?_))
 clear hF
 rintro m3 _ _ ⟨g4,k5,aV,c1,us,u,F,rfl,rfl,fB,hE,hF,hu0⟩
 refine gK hE ?_
 clear hE
 refine kN (c:=aY (aO 33 bW) aX.v bn) .h mQ (fun oV=>?_)
 rcases aV with _|⟨x7,aV⟩
 · have iY:=List.drop_eq_nil_iff.1 fB
   have lq:(decide (((k5:Int):Int)<(bn.length:Int)))=false:=decide_eq_false (by omega)
   rw[fH]at hF
   refine bL (aC (jA (i:=(k5:Int)) (j:=(bn.length:Int)) (.tmp rfl rfl) (.tmp rfl rfl)) ?_)
   refine bz (eU (dW (b:=(decide (((k5:Int):Int)<(bn.length:Int)))) (.tmp rfl rfl) (fun hb=>absurd (lq.symm.trans hb) (by decide)) (fun _=>?_)))
   refine nD ?_
   iterate 2 refine mI ?_
   refine m_ (bL (lC (.cons (.t .h) (.cons (.t .h) .nil)) (dO w_.h (.cons (.tmp rfl rfl) .nil) (qV k1 us u F c1 hu0)) (fun _=>?_)))
   refine Ca (sv c1) rfl rfl ?_
   refine bz (gF ?_)
   obtain rfl:=Option.some.inj hF
   exact gD () (.tmp rfl rfl .nil) rfl (.sel .nil)
 obtain⟨iY,iT,iU⟩:=iy fB
 have lq:(decide (((k5:Int):Int)<(bn.length:Int)))=true:=decide_eq_true (by omega)
 rw[fH]at hF
 refine bL (aC (jA (i:=(k5:Int)) (j:=(bn.length:Int)) (.tmp rfl rfl) (.tmp rfl rfl)) ?_)
 refine bz (eU (dW (b:=(decide (((k5:Int):Int)<(bn.length:Int)))) (.tmp rfl rfl) (fun _=>?_) (fun hb=>absurd (lq.symm.trans hb) (by decide))))
 refine jo (nE (bL (oJ (a:=x7) jL.h eZ.h.sz (.tmp rfl rfl) (.tmp rfl rfl) .h (Int.natCast_nonneg k5) iT (fun k14 pX=>?_))))
 refine og (iA x7) o_.h eZ.h.sz rfl (.tmp rfl rfl) .h jh (fun _=>?_)
 refine gJ rfl (kz (g:=true) eZ.h rfl rfl) (fun k16=>?_)
 refine dJ (.cons .h .nil) (iG (e':=(.agg [(.int .i64 x7.Kind),(sv x7.Text)].toArray)) (v:=(.agg [(.int .i64 x7.Kind),(sv x7.Text)].toArray)) eZ.h.sz (.tmp rfl rfl) (.tmp rfl rfl) rfl rfl rfl rfl rfl) (fun _=>?_)
 refine bz (bL (b_ .h (fun hp=>jg o_.h eZ.h.sz rfl (.tmp rfl rfl) hp.2 rfl) ?_))
 obtain⟨eO,lN,hF⟩:=bind_some hF
 refine lC .nil (dO wG.h (.cons (.tmp rfl rfl) .nil) (qm x7 _ lN)) (fun _=>?_)
 refine Ca (sv eO) rfl rfl ?_
 refine bz (eU (bL (Cm (sv eO) rfl rfl ?_)))
 refine aC (gI (s:=eO) (t:=[]) (.tmp rfl rfl) (.sv _)) ?_
 refine bz (dW (b:=(eO==[])) (.tmp rfl rfl) (fun lQ=>?_) (fun lQ=>?_))
 · rw[if_pos lQ]at hF
   refine bL (aC (dL (v:=(sv [])) (.sv _)) ?_)
   refine bz (gF ?_)
   obtain rfl:=Option.some.inj hF
   exact gD () (.tmp rfl rfl .nil) rfl (.sel .nil)
 rw[if_neg (by rw[lQ]; exact Bool.false_ne_true)]at hF
 refine jo (iw (Cm (sv eO) rfl rfl ?_))
 obtain⟨x20,pE,hF⟩:=bind_some hF
 obtain⟨xg,yR⟩:=eT pE
 refine aC (fJ (s:=eO) (t:=[10]) (u:=x20) (.tmp rfl rfl) (.sv _) pE) ?_
 obtain⟨x24,hx25,hF⟩:=bind_some hF
 have xh:=(ng hx25).1
 have hne:x20≠[]:=by rw[xg]; simp
 refine o6 (.cons (.t (.t (.t .h))) (.cons (.t (.t (.t .h))) .nil)) (dO w9.h (.cons (.tmp rfl rfl) (.cons (.tmp rfl rfl) .nil)) (qo k1 us u F c1 x20 x24 hx25 hne)) (fun q=>?_)
 refine bz (iw (aC (kX (i:=(k5:Int)) (j:=1) (.tmp rfl rfl) (.int _ _)) ?_))
 refine Cm (.int .i64 (IntKind.i64.wrap ((k5:Int)+1))) rfl rfl ?_
 refine bz ?_
 have xk:IntKind.i64.wrap ((k5:Int)+1)=((k5+1:Nat):Int):=by rw[jk (by omega) (by omega)]; rfl
 rw[xk]
 exact⟨_,Nat.lt_succ_self _,_,k5+1,aV,x24,true,q.1,q.2,rfl,(bN.cons rfl (bN.cons rfl (bN.cons rfl (bN.cons rfl (bN.nil))))).eq,iU,(.sel (.rd (.t (.t (.t (.t .h)))) rfl (.cons .h (.cons .h .nil)))),hF,fun e=>by rw[xh]at e; simp[hne]at e⟩
def iD(aB:Event)(bQ:Event):Option (Bool):=
 if ((aB.Kind:Int)!=bQ.Kind)then (
   some false)
 else (
   if (!(aB.Text==bQ.Text))then (
     some false)
   else (
     some true))
theorem qO(aB:Event)(bQ:Event)(R:Bool)(hF:iD aB bQ=some R):
   Fw.Spec Try.prog 15 [(.agg [(.int .i64 aB.Kind),(sv aB.Text)].toArray),(.agg [(.int .i64 bQ.Kind),(sv bQ.Text)].toArray)] [] (fun _:Unit=>(.bool R)) (fun _=>[]):=by
 refine Se 15 Try.func15 [.tmp 4] ?_
 intro H0 F0
 unfold iD at hF
 refine au ?_
 refine g_ (fun k1=>?_)
 refine g_ (fun k2=>?_)
 iterate 10 refine au ?_
 refine Ci hF (fun hb4 hF=>?_) (fun hb4 hF=>?_)
 · iterate 4 refine au ?_
   cases hF
   exact Er ()
 iterate 7 refine au ?_
 refine aC (oG (s:=aB.Text) (t:=bQ.Text) (.tmp rfl rfl) (.tmp rfl rfl)) ?_
 refine au ?_
 refine Ci hF (fun hb3 hF=>?_) (fun hb3 hF=>?_)
 · iterate 4 refine au ?_
   cases hF
   exact Er ()
 iterate 5 refine au ?_
 cases hF
 exact Er ()
def gq(bQ:List Event):List Event->Nat->Option (Bool)
 |[],k4=>some true
 |x6::ed,k4=>(ix bQ (k4:Int)).bind fun l9=>
   (iD x6 l9).bind fun p_=>
   if (!p_)then (
     some false)
   else (
     gq bQ ed (k4+1))
def jf(aB:List Event)(bQ:List Event):Option (Bool):=
 if (((aB.length:Int):Int)!=(bQ.length:Int))then (
   some false)
 else (
   gq bQ aB 0)
theorem qF(aB:List Event)(aX:Sv)(bQ:List Event)(jQ:Sv)(R:Bool)(hF:jf aB bQ=some R):
   Fw.Spec Try.prog 8 [aX.v,jQ.v] [aY (aO 33 bW) aX.v aB,aY (aO 33 bW) jQ.v bQ] (fun _:Unit=>(.bool R)) (fun _=>[]):=by
 refine Se 27 Try.func8 [.tmp 4] ?_
 intro H0 F0
 unfold jf at hF
 iterate 11 refine au ?_
 refine Ci hF (fun xm hF=>?_) (fun xm hF=>?_)
 · iterate 4 refine au ?_
   cases hF
   exact Er ()
 iterate 5 refine au ?_
 refine gB (iI (m:=aB.length) (fun m2 f' cs'=>∃(g:Fr)(k4:Nat)(ed:List Event),m2=ed.length/\f'=dB g [(0,aX.v),(1,jQ.v),(5,(.int .i64 (k4:Int)))]/\List.drop k4 aB=ed/\bq cs' [aY (aO 33 bW) aX.v aB,aY (aO 33 bW) jQ.v bQ]/\gq bQ ed k4=some R) ⟨_,0,_,rfl,bZ,rfl,bV,hF⟩ ?_)
 rintro m2 _ _ ⟨g3,k4,ed,rfl,rfl,hd7,hE,hF⟩
 refine Kb hE aB (fun yw=>?_)
 rcases ed with _|⟨x6,ed⟩
 · have l8:=dn hd7
   rw[gq]at hF
   iterate 7 refine au ?_
   refine jX ?_
   iterate 8 refine au ?_
   cases hF
   exact Er ()
 obtain⟨l8,j3,xn⟩:=iy hd7
 rw[gq]at hF
 iterate 7 refine au ?_
 refine jW ?_
 iterate 2 refine au ?_
 refine kU [0,1,2,3,4,5,6,7,8,9] [0,0,3,7,0,0,48,112,255,511] [8] mixed (by decide+kernel) ?_
 iterate 2 refine du ?_
 refine Di j3 (fun k13 za=>?_)
 refine o9 (iA x6) jh (fun _=>?_)
 iterate 2 refine du ?_
 refine bnd hF fun l9 hx16 hF=>?_
 obtain⟨yS,lN⟩:=jr hx16
 refine Di lN (fun k19 zb=>?_)
 refine o9 (iA l9) jh (fun _=>?_)
 refine bnd hF fun p_ xq hF=>xS (qO _ _ _ xq) (fun _=>?_)
 iterate 2 refine du ?_
 refine Ci hF (fun xu hF=>?_) (fun xu hF=>?_)
 · iterate 4 refine au ?_
   cases hF
   exact Er ()
 iterate 6 refine au ?_
 rw[wk k4]
 exact⟨_,Nat.lt_succ_self _,_,k4+1,ed,rfl,bZ,xn,bV,hF⟩
def ja(fT:List Event):Option (Bool):=
 (je fT 1048576).bind fun r1=>
 if (decide ((r1:Int)<0))then (
   some true)
 else (
   (gy fT).bind fun r4=>
   (jb r4).bind fun r7=>
   (gy fT).bind fun iZ=>
   (jc iZ).bind fun l_=>
   if (!(l_==r7))then (
     some false)
   else (
     (gy fT).bind fun r16=>
     (jf iZ r16).bind fun qa=>
     if (!qa)then (
       some false)
     else (
       some true)))
theorem qf(fT:List Event)(aX:Sv)(R:Bool)(hF:ja fT=some R):
   Fw.Spec Try.prog 3 [aX.v] [aY (aO 31 dR) aX.v fT] (fun _:Unit=>(.bool R)) (fun _=>[]):=by
 refine Se 27 Try.func3 [.tmp 2] ?_
 intro H0 F0
 unfold ja at hF
 iterate 9 refine au ?_
 refine bnd hF fun r1 hx2 hF=>fA (qE _ _ _ _ hx2) (fun _=>?_)
 iterate 7 refine au ?_
 refine Ci hF (fun xw hF=>?_) (fun xw hF=>?_)
 · iterate 4 refine au ?_
   cases hF
   exact Er ()
 iterate 3 refine au ?_
 refine bnd hF fun r4 hx5 hF=>jY (j5 _ _ _ hx5) (fun p6=>?_)
 refine bnd hF fun r7 gm hF=>dJ (.cons .h .nil) (kV jq (fun _=>.nil) (dO xU.h (.cons (.tmp rfl rfl) .nil) (qh r4 p6.1 _ gm))) (fun _=>?_)
 iterate 4 refine au ?_
 refine bnd hF fun iZ gU hF=>jY (j5 _ _ _ gU) (fun qb=>?_)
 iterate 4 refine au ?_
 refine bnd hF fun l_ xx hF=>dJ (.cons .h .nil) (kV jq (fun _=>.nil) (dO xV.h (.cons (.tmp rfl rfl) .nil) (qi iZ qb.1 _ xx))) (fun _=>?_)
 iterate 6 refine au ?_
 refine aC (oG (s:=l_) (t:=r7) (.tmp rfl rfl) (.tmp rfl rfl)) ?_
 refine au ?_
 refine Ci hF (fun xy hF=>?_) (fun xy hF=>?_)
 · iterate 4 refine au ?_
   cases hF
   exact Er ()
 iterate 5 refine au ?_
 refine bnd hF fun r16 iV hF=>jY (j5 _ _ _ iV) (fun yg=>?_)
 refine bnd hF fun qa jO hF=>o6 (.cons .h (.cons .h .nil)) (tH (pre:=[]) (.cons jq (.cons jq .nil)) (fun _=>.nil) (dO xW.h (.cons (.tmp rfl rfl) (.cons (.tmp rfl rfl) .nil)) (qF iZ qb.1 r16 yg.1 _ jO))) (fun _=>?_)
 iterate 2 refine au ?_
 refine Ci hF (fun xz hF=>?_) (fun xz hF=>?_)
 · iterate 4 refine au ?_
   cases hF
   exact Er ()
 iterate 5 refine au ?_
 cases hF
 exact Er ()
end Go.Proofs.Ytogjoednlhnfoaa
