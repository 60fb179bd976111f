/-
  Functions of the program as Lean functions, and that the calls return what these say. No conditions.
-/
import Derived.Test.YtlnefhbbbikmgabGreatAskQueryGI0
set_option maxRecDepth 100000
set_option maxHeartbeats 4000000
set_option linter.unusedVariables false
namespace Go.Proofs.YtlnefhbbbikmgabGreat
open Go Go.Fw
def KP(Gr:List Int)(xO:List Int):List Int->Nat->Option (Int)
 |[],k4=>if (decide (((Gr.length:Int):Int)<(xO.length:Int)))then (
     some (-1))
   else (
     some 0)
 |x6::dH,k4=>if (decide (((xO.length:Int):Int)<=(k4:Int)))then (
     some 1)
   else (
     (ix xO (k4:Int)).bind fun nI=>
     (G6 x6 nI).bind fun mq=>
     if ((mq:Int)!=0)then (
       some mq)
     else (
       KP Gr xO dH (k4+1)))
def GV(Gr:List Int)(xO:List Int):Option (Int):=
 KP Gr xO Gr 0
instance aIl:I2 235 t0 t0 u0 GV:=⟨by
 intro _ _ _ _ _ hF
 refine' en Tryz.func235 (GV.eq_1 ..)
 refine' eP q0 11 [0,1,9,10]<;>rw[KP]at hF<;>refine' go⟩
def X8:List Int->Nat->Option (Int)
 |[],k4=>some 0
 |x6::dH,k4=>if ((x6:Int)!=0)then (
     some x6)
   else (
     X8 dH (k4+1))
def LU(aAM:List Int):Option (Int):=
 X8 aAM 0
instance aIV:I1 233 t0 u0 LU:=⟨by
 intro _ _ _ hF
 refine' en Tryz.func233 (LU.eq_1 ..)
 refine' eP q0 8 [3,6,7]<;>rw[X8]at hF<;>refine' go⟩
def Hm(ae:aj)(aM:aj):Option (Int):=
 (G6 ae.aD aM.aD).bind fun r3=>
 (GV ae.Values aM.Values).bind fun r6=>
 (LU ([r3,r6]:List Int)).bind fun fF=>
 some fF
instance aIy:I2 206 t6 t6 u0 Hm:=⟨by
 intro _ _ _ _ _ hF
 have hD:=True.intro
 refine' en Tryz.func206 (Hm.eq_1 ..)
 refine' KD [0,1,2,3,5,6,7,8,4,9,10,11,12] [0,1,0,4,15,0,32,0,128,511,1023,2047,4095] [4,9,11] mixed ?_
 refine' go
 rename_i r3 _ r6 _
 refine' Hb (az ax) [r3,r6]⟩
def Hy(aC:List Int)(aG:List aj):List aj->Nat->Option (Bool)
 |[],k4=>((Bv aC).bind fun fu=>
     bif fu then (some (decide (((aG.length:Int):Int)<=24)))
     else (some false)).bind fun wQ=>
   match wQ with
   |c19=>some c19
 |x6::dH,k4=>((SH aC x6).bind fun fD=>
     bif (!fD)then (some true)
     else (bif (decide ((0:Int)<(k4:Int)))then ((ix aG (IntKind.i64.wrap ((k4:Int)-1))).bind fun x32=>
         (Hm x32 x6).bind fun WK=>
         some (decide ((0:Int)<=WK)))
       else (some false))).bind fun o25=>
   match o25 with
   |Ei=>if Ei then (
       some false)
     else (
       Hy aC aG dH (k4+1))
def ME(aC:List Int)(aG:List aj):Option (Bool):=
 Hy aC aG aG 0
instance aJK:I2 135 t0 t20 u20 ME:=⟨by
 intro _ _ _ _ _ hF
 refine' en Tryz.func135 (ME.eq_1 ..)
 refine' eP q0 9 [0,1,7,8]<;>rw[Hy]at hF<;>refine' go
 refine' rc (q1 4 tB) []
 refine' qj ?_
 refine' go
 refine' dc (q1 31 tB) [0,1,7,8,9]⟩
def RB(aC:List Int)(aT:Source):Option (Bool):=
 ((ME aC aT.Facts).bind fun r4=>
   bif r4 then ((mG aT.Version 0 1000).bind fun r8=>
     some r8)
   else (some false)).bind fun o2=>
 match o2 with
 |c11=>some c11
instance aJL:I2 121 t0 t21 u20 RB:=⟨by
 intro _ _ _ _ _ hF
 refine' en Tryz.func121 (RB.eq_1 ..)
 refine' rc (q1 4 tB) []⟩
def MF(aC:List Int)(aG:List Method)(ae:ag):Option (Bool):=
 ((EP aC aG).bind fun r4=>
   bif r4 then ((mG ae.Method 0 (IntKind.i64.wrap ((aG.length:Int)-1))).bind fun r8=>
     bif r8 then ((ix aG ae.Method).bind fun uR=>
       bif (((ae.Values.length:Int):Int)==(uR.bg.length:Int))then ((Mf ae.Values).bind fun kR=>
         some kR)
       else (some false))
     else (some false))
   else (some false)).bind fun o2=>
 match o2 with
 |c23=>some c23
instance aJM:I3 126 t0 t26 t9 u20 MF:=⟨by
 intro _ _ _ _ _ _ _ hF
 refine' en Tryz.func126 (MF.eq_1 ..)
 refine' dc (q1 6 tB) []⟩
def PW(dC:aj)(fJ:ag):List Int->Nat->Option (Bool)
 |[],k5=>some false
 |x7::fM,k5=>(ix dC.Values x7).bind fun nI=>
   (ix fJ.Values (k5:Int)).bind fun jT=>
   if ((nI:Int)!=jT)then (
     some true)
   else (
     PW dC fJ fM (k5+1))
def yh(dC:aj)(aH:Method)(fJ:ag):Option (Bool):=
 if ((dC.aD:Int)!=aH.aD)then (
   some true)
 else (
   PW dC fJ aH.bg 0)
theorem acX{dC:aj}{bB:Sv}{bu:Nat}{aH:Method}{dR:Sv}{gF:Nat}{fJ:ag}{tX:Sv}{R:Bool}(hF:yh dC aH fJ=some R):
   Fw.Spec Tryz.prog 259 [(.agg [(.int .i64 dC.aD),bB.v].toArray),(.pointer (some ⟨bu,0,some 0⟩)),(.pointer (some ⟨gF,0,some 0⟩))] [aI (ak 3 ax) bB.v dC.Values,bC bu 127 (.agg [(.int .i64 aH.aD),dR.v,(.int .i64 aH.Limit),(.int .i64 aH.bK),(.int .i64 aH.gW)].toArray),aI (ak 3 ax) dR.v aH.bg,bC gF 85 (.agg [(.int .i64 fJ.Method),tX.v].toArray),aI (ak 3 ax) tX.v fJ.Values] (fun _:Unit=>(.bool R)) (fun _=>[]):=by
 refine' en Tryz.func259 (yh.eq_1 ..)
 refine' eP q0 15 [2,3,13,14]<;>rw[PW]at hF<;>refine' go
instance:dz Tryz.prog 259 (type_of% @acX):=⟨@acX⟩
def Xd(aH:Method)(fJ:ag):List aj->Nat->Option (Int)
 |[],k4=>some (-1)
 |x6::dH,k4=>(yh x6 aH fJ).bind fun r16=>
   if r16 then (
     some (k4:Int))
   else (
     Xd aH fJ dH (k4+1))
def ach(aC:List aj)(aH:Method)(fJ:ag):Option (Int):=
 Xd aH fJ aC 0
theorem acg{aC:List aj}{aA:Sv}{bu:Nat}{aH:Method}{dR:Sv}{gF:Nat}{fJ:ag}{tX:Sv}{R:Int}(hF:ach aC aH fJ=some R):
   Fw.Spec Tryz.prog 287 [aA.v,(.func (.func 259) [].toArray [(.pointer (some ⟨bu,0,some 0⟩)),(.pointer (some ⟨gF,0,some 0⟩))].toArray)] [aI (ak 164 gZ) aA.v aC,bC bu 127 (.agg [(.int .i64 aH.aD),dR.v,(.int .i64 aH.Limit),(.int .i64 aH.bK),(.int .i64 aH.gW)].toArray),aI (ak 3 ax) dR.v aH.bg,bC gF 85 (.agg [(.int .i64 fJ.Method),tX.v].toArray),aI (ak 3 ax) tX.v fJ.Values] (fun _:Unit=>(.int .i64 R)) (fun _=>[]):=by
 refine' en Tryz.func287 (ach.eq_1 ..)
 refine' eP q0 8 [0,1,7]<;>rw[Xd]at hF<;>refine' go
instance:dz Tryz.prog 287 (type_of% @acg):=⟨@acg⟩
def Xi(aC:List aj)(aH:Method)(fJ:ag):Option (List aj):=
 NU (fun aK=>yh aK aH fJ) aC
theorem arD(qs:List (Value×aj))(v:Sv)(F:List Nat)(bu:Nat)(aH:Method)(dR:Sv)(gF:Nat)(fJ:ag)(tX:Sv)(p:Value×aj->Bool)(hcl:∀q∈qs,yh q.2 aH fJ=some (p q))(hidx:ach (qs.map Prod.snd) aH fJ=some (iM p qs 0))(hbd:qs.length<4611686018427387904):
   Fw.Spec Tryz.prog 258 [v.v,(.func (.func 259) [].toArray [(.pointer (some ⟨bu,0,some 0⟩)),(.pointer (some ⟨gF,0,some 0⟩))].toArray)] [ah (aa 164 (az (rq gZ))) F v.v qs,bC bu 127 (.agg [(.int .i64 aH.aD),dR.v,(.int .i64 aH.Limit),(.int .i64 aH.bK),(.int .i64 aH.gW)].toArray),aI (ak 3 ax) dR.v aH.bg,bC gF 85 (.agg [(.int .i64 fJ.Method),tX.v].toArray),aI (ak 3 ax) tX.v fJ.Values] (fun q:Sv×List Nat=>q.1.v) (fun q=>[ah (aa 164 (az (rq gZ))) q.2 q.1.v (qs.filter fun a=>!p a)]):=by
 refine Im (n:=42) Tryz.func258 rfl rfl (rs:=[.tmp 4]) rfl rfl rfl ?_
 intro H0 F0
 refine eB ?_
 refine aP (jI (v:=(.slice none 0 0)) EV.oF) ?_
 refine eQ ?_
 refine eB ?_
 refine aP (bE (v:=v.v) (.tmp rfl rfl)) ?_
 refine aP (bE (v:=(.func (.func 259) [].toArray [(.pointer (some ⟨bu,0,some 0⟩)),(.pointer (some ⟨gF,0,some 0⟩))].toArray)) (.tmp rfl rfl)) ?_
 refine iZ (.cons .h (.rd .h rfl (.rd (.t .h) rfl (.rd (.t (.t .h)) rfl (.rd (.t (.t (.t .h))) rfl .nil))))) (axZ azs (fun _=>.nil) (qR (.rd (.t (.t (.t (.t .h)))) rfl (.rd .h rfl (.rd (.t .h) rfl (.rd (.t (.t .h)) rfl (.rd (.t (.t (.t .h))) rfl .nil))))) (cK aC1.h (.cons (.tmp rfl rfl) (.cons (.tmp rfl rfl) .nil)) (@acg (qs.map Prod.snd) v bu aH dR gF fJ tX _ hidx)))) (fun _=>?_)
 generalize hR:iM p qs 0=R0
 refine aP (jI (v:=(.int .i64 R0)) (.tmp rfl rfl)) ?_
 refine eQ ?_
 refine dZ ?_
 refine eB ?_
 refine aP (bE (v:=(.int .i64 R0)) (.tmp rfl rfl)) ?_
 refine aP (CQ (i:=R0) (j:=(-1)) (.tmp rfl rfl) (.int _ _)) ?_
 refine eQ ?_
 refine nY (b:=(R0==(-1:Int))) (.tmp rfl rfl) (fun hb=>?_) (fun hb=>?_)
 · refine eB ?_
   refine aP (bE (v:=v.v) (.tmp rfl rfl)) ?_
   refine aP (jI (v:=v.v) (.tmp rfl rfl)) ?_
   refine eQ ?_
   refine vz ?_
   have e:qs.filter (fun q=>!p q)=qs:=al7 (k:=0) (by rw[hR]; simpa using hb)
   rw[e]
   exact iW (v,F) (.tmp rfl rfl .nil) rfl (.sel (.cons .h .nil))
 refine uo ?_
 obtain⟨i0,hi0,hi1⟩:∃i:Nat,R0=(i:Int)/\i<qs.length:=by
   rcases alx p qs 0 with h|⟨i,h,hi⟩
   · rw[hR]at h; subst h; simp at hb
   · exact⟨i,by rw[←hR,h],by omega⟩
 subst hi0
 refine dZ ?_
 refine eB ?_
 refine aP (bE (v:=(.int .i64 (i0:Int))) (.tmp rfl rfl)) ?_
 refine aP (nO (i:=(i0:Int)) (j:=1) (.tmp rfl rfl) (.int _ _)) ?_
 rw[show IntKind.i64.wrap ((i0:Int)+1)=((i0+1:Nat):Int)from by rw[di (by omega) (by omega)]; rfl]
 refine aP (jI (v:=(.int .i64 ((i0+1:Nat):Int))) (.tmp rfl rfl)) ?_
 refine eQ ?_
 refine gU ?_
 refine kI (m:=qs.length-(i0+1)) (fun m f' cs'=>∃(g:Fr)(cur:List (Value×aj))(i j:Nat)(F':List Nat),m=qs.length-j/\f'=dm g [(0,v.v),(1,(.func (.func 259) [].toArray [(.pointer (some ⟨bu,0,some 0⟩)),(.pointer (some ⟨gF,0,some 0⟩))].toArray)),(5,(.int .i64 (i:Int))),(6,(.int .i64 (j:Int)))]/\vL p qs cur i j/\bL cs' [ah (aa 164 (az (rq gZ))) F' v.v cur,bC bu 127 (.agg [(.int .i64 aH.aD),dR.v,(.int .i64 aH.Limit),(.int .i64 aH.bK),(.int .i64 aH.gW)].toArray),aI (ak 3 ax) dR.v aH.bg,bC gF 85 (.agg [(.int .i64 fJ.Method),tX.v].toArray),aI (ak 3 ax) tX.v fJ.Values]) ⟨_,qs,i0,i0+1,F,rfl,(fB.cons rfl (fB.cons rfl (fB.cons rfl (fB.cons rfl (fB.nil))))).eq,vL.init (by rw[hR]),.sel (.cons .h (.rd .h rfl (.rd (.t .h) rfl (.rd (.t (.t .h)) rfl (.rd (.t (.t (.t .h))) rfl .nil)))))⟩ ?_
 rintro m _ _ ⟨g,cur,i,j,F',rfl,rfl,hI,hE⟩
 refine gV hE ?_
 clear hE
 refine dZ ?_
 refine eB ?_
 refine aP (bE (v:=(.int .i64 (j:Int))) (.tmp rfl rfl)) ?_
 refine aP (bE (v:=v.v) (.tmp rfl rfl)) ?_
 refine gM .h (fun hp=>tK (l:=cur.length) lC.h (.tmp rfl rfl) (wY hp)) ?_
 refine aP (aff (i:=(j:Int)) (j:=(cur.length:Int)) (.tmp rfl rfl) (.tmp rfl rfl)) ?_
 refine eQ ?_
 have hlen:=hI.len
 have hij:=hI.lt
 have hjl:=hI.le
 refine nY (b:=(decide ((j:Int)<(cur.length:Int)))) (.tmp rfl rfl) (fun hb2=>?_) (fun hb2=>?_)
 · refine uo ?_
   have hj:j<qs.length:=by simp at hb2; omega
   obtain⟨x,hx1,hx2⟩:=hI.at hj
   refine qj ?_
   refine eB ?_
   refine aP (bE (v:=v.v) (.tmp rfl rfl)) ?_
   refine aP (bE (v:=(.int .i64 (j:Int))) (.tmp rfl rfl)) ?_
   refine iJ lC.h jY.h.sz (.tmp rfl rfl) (.tmp rfl rfl) .h (by simp; omega) (fun k hk=>?_)
   refine azr (a:=x) (ul:=fun i:Sv=>[(.int .i64 x.2.aD),i.v]) (cc:=fun i=>[aI (ak 3 ax) i.v x.2.Values]) afC.h jY.h.sz rfl (.tmp rfl rfl) .h hk (by simpa using hx1) (fun H e h=>by obtain⟨-,v0,h1,h0⟩:=h; exact⟨v0,h1,rfl,by simp[aI,h0]⟩) (fun w=>?_)
   refine lJ rfl (vW (g:=true) jY.h rfl rfl) (fun k1=>?_)
   refine iZ (.cons .h .nil) (iO (e:=(.agg [(.int .i64 0),(.slice none 0 0)].toArray)) (e':=(.agg [(.int .i64 x.2.aD),w.v].toArray)) (v:=(.agg [(.int .i64 x.2.aD),w.v].toArray)) jY.h.sz (.tmp rfl rfl) (.tmp rfl rfl) rfl rfl rfl rfl rfl) (fun _=>?_)
   refine eQ ?_
   refine eB ?_
   refine aP (bE (v:=(.func (.func 259) [].toArray [(.pointer (some ⟨bu,0,some 0⟩)),(.pointer (some ⟨gF,0,some 0⟩))].toArray)) (.tmp rfl rfl)) ?_
   refine gM .h (fun hp=>lm afC.h jY.h.sz rfl (.tmp rfl rfl) hp.2 rfl) ?_
   refine apP (.rd (.t (.t .h)) rfl (.rd (.t (.t (.t (.t .h)))) rfl (.rd (.t (.t (.t (.t (.t .h))))) rfl (.rd (.t (.t (.t (.t (.t (.t .h)))))) rfl (.rd (.t (.t (.t (.t (.t (.t (.t .h))))))) rfl .nil))))) (ZQ aCW.h (.tmp rfl rfl) (.cons (.tmp rfl rfl) .nil) (@acX x.2 w bu aH dR gF fJ tX _ (hcl x (aRh hx2)))) (fun _=>?_)
   refine aP (NE (b:=p x) (.tmp rfl rfl)) ?_
   refine eQ ?_
   refine nY (b:=(!p x)) (.tmp rfl rfl) (fun hb3=>?_) (fun hb3=>?_)
   · refine eB ?_
     refine aP (bE (v:=v.v) (.tmp rfl rfl)) ?_
     refine aP (bE (v:=(.int .i64 (i:Int))) (.tmp rfl rfl)) ?_
     refine gM .h (fun hp=>lm afC.h jY.h.sz rfl (.tmp rfl rfl) hp.2 rfl) ?_
     have hii:(decide ((0:Int)<=(i:Int))&&decide ((i:Int)<(cur.length:Int)))=true:=by simp; omega
     refine iJ lC.h jY.h.sz (.tmp rfl rfl) (.tmp rfl rfl) (.t (.t (.t .h))) hii (fun k2 hk2=>?_)
     refine iZ (.cons (.t (.t (.t .h))) (.rd (.t .h) rfl .nil)) (uZ (Ro:=az (rq gZ)) (a:=x) (i:=(i:Int)) jY.h.sz rfl (.tmp rfl rfl) (.tmp rfl rfl) hk2 hii aak (fun _ _ _ _ h=>by obtain⟨-,-,v0,rfl,_⟩:=h; rfl)) (fun F2=>?_)
     refine eQ ?_
     refine IC ?_
     refine aP (bE (v:=(.int .i64 (i:Int))) (.tmp rfl rfl)) ?_
     refine aP (nO (i:=(i:Int)) (j:=1) (.tmp rfl rfl) (.int _ _)) ?_
     rw[show IntKind.i64.wrap ((i:Int)+1)=((i+1:Nat):Int)from by rw[di (by omega) (by omega)]; rfl]
     refine aP (jI (v:=(.int .i64 ((i+1:Nat):Int))) (.tmp rfl rfl)) ?_
     refine eQ ?_
     refine IC ?_
     refine aP (bE (v:=(.int .i64 (j:Int))) (.tmp rfl rfl)) ?_
     refine aP (nO (i:=(j:Int)) (j:=1) (.tmp rfl rfl) (.int _ _)) ?_
     rw[show IntKind.i64.wrap ((j:Int)+1)=((j+1:Nat):Int)from by rw[di (by omega) (by omega)]; rfl]
     refine aP (jI (v:=(.int .i64 ((j+1:Nat):Int))) (.tmp rfl rfl)) ?_
     refine eQ ?_
     exact⟨_,by omega,_,cur.set i x,i+1,j+1,F2,rfl,(fB.cons rfl (fB.cons rfl (fB.cons rfl (fB.cons rfl (fB.nil))))).eq,hI.no hx2 (by simpa using hb3),.sel (.cons .h (.rd (.t (.t (.t .h))) rfl (.rd (.t (.t (.t (.t .h)))) rfl (.rd (.t (.t (.t (.t (.t .h))))) rfl (.rd (.t (.t (.t (.t (.t (.t .h)))))) rfl .nil)))))⟩
   · refine uo ?_
     refine IC ?_
     refine aP (bE (v:=(.int .i64 (j:Int))) (.tmp rfl rfl)) ?_
     refine aP (nO (i:=(j:Int)) (j:=1) (.tmp rfl rfl) (.int _ _)) ?_
     rw[show IntKind.i64.wrap ((j:Int)+1)=((j+1:Nat):Int)from by rw[di (by omega) (by omega)]; rfl]
     refine aP (jI (v:=(.int .i64 ((j+1:Nat):Int))) (.tmp rfl rfl)) ?_
     refine eQ ?_
     exact⟨_,by omega,_,cur,i,j+1,F',rfl,(fB.cons rfl (fB.cons rfl (fB.cons rfl (fB.cons rfl (fB.nil))))).eq,hI.yes hx2 (by simpa using hb3),.sel (.cons (.t (.t (.t .h))) (.rd (.t (.t (.t .h))) rfl (.rd (.t (.t (.t (.t .h)))) rfl (.rd (.t (.t (.t (.t (.t .h))))) rfl (.rd (.t (.t (.t (.t (.t (.t .h)))))) rfl .nil)))))⟩
 · refine Z4 ?_
   refine Zn ?_
   refine Zn ?_
   refine ad5 ?_
   have hj:qs.length<=j:=by simp at hb2; omega
   refine zV .h (IR (by intro e; rw[e]at hlen; simp at hlen; omega)) (fun hv=>?_)
   obtain⟨k0,m0,rfl,hm0⟩:=hv
   refine eB ?_
   refine aP (bE (v:=(.slice (some ⟨k0,0,none⟩) cur.length m0)) (.tmp rfl rfl)) ?_
   refine aP (bE (v:=(.int .i64 (i:Int))) (.tmp rfl rfl)) ?_
   refine awv lC.h jY.h.sz (.tmp rfl rfl) (.tmp rfl rfl) .h (by omega) (by omega) ?_
   refine iZ (.cons .h .nil) (ax4 (l:=cur.length) (m:=m0) (k:=k0) (i:=i) (j:=cur.length-i) lC.h jY.h rfl rfl rfl rfl rfl (by omega) (.tmp rfl rfl)) (fun _=>?_)
   refine eQ ?_
   refine eB ?_
   refine aP (bE (v:=(.slice (some ⟨k0,0,none⟩) cur.length m0)) (.tmp rfl rfl)) ?_
   refine aP (bE (v:=(.int .i64 (i:Int))) (.tmp rfl rfl)) ?_
   refine aww lC.h jY.h.sz (.tmp rfl rfl) hm0 (.tmp rfl rfl) .h rfl (by omega) (by omega) (by omega) ?_
   refine aP (jI (v:=(.slice (some ⟨k0,0,none⟩) i 2)) (.tmp rfl rfl)) ?_
   refine eQ ?_
   refine vz ?_
   rw[←hI.fin hj]
   exact iW (⟨some ⟨k0,0,none⟩,i,2⟩,F') (.tmp rfl rfl .nil) rfl (.sel (.cons .h .nil))
theorem air{aC:List aj}{aA:Sv}{jb:List Nat}{bu:Nat}{aH:Method}{dR:Sv}{gF:Nat}{fJ:ag}{tX:Sv}{R:List aj}(hF:Xi aC aH fJ=some R):
   Fw.Spec Tryz.prog 258 [aA.v,(.func (.func 259) [].toArray [(.pointer (some ⟨bu,0,some 0⟩)),(.pointer (some ⟨gF,0,some 0⟩))].toArray)] [ah (aa 164 dV) jb aA.v aC,bC bu 127 (.agg [(.int .i64 aH.aD),dR.v,(.int .i64 aH.Limit),(.int .i64 aH.bK),(.int .i64 aH.gW)].toArray),aI (ak 3 ax) dR.v aH.bg,bC gF 85 (.agg [(.int .i64 fJ.Method),tX.v].toArray),aI (ak 3 ax) tX.v fJ.Values] (fun p:Sv×List Nat=>p.1.v) (fun p=>[ah (aa 164 dV) p.2 p.1.v R]):=by
 unfold Xi at hF
 obtain⟨h1,h2⟩:=alv hF
 refine awx akZ (fun hb=>?_)
 refine awu (R:=gZ) rfl (fun es F1 hel=>⟨(es.zip aC).filter (fun a=>!(yh a.2 aH fJ).getD false),List.filter_sublist,by rw[h2]; exact avK (fun a=>(yh a aH fJ).getD false) es aC hel,?_⟩)
 refine arD (es.zip aC) aA F1 bu aH dR gF fJ tX (fun a=>(yh a.2 aH fJ).getD false) (fun q hq=>h1 q.2 (List.of_mem_zip hq).2) ?_ (by simp; omega)
 rw[aSz (aRe hel.symm),←amO Prod.snd (fun a=>(yh a aH fJ).getD false),aSz (aRe hel.symm)]
 exact pM (L:=Xd aH fJ) (fun _=>rfl) (fun _ _ _=>rfl) aC 0 h1
instance:dz Tryz.prog 258 (type_of% @air):=⟨@air⟩
def II(aG:List Method)(dM:List aj)(ae:ag):Option ((List aj)):=
 (ix aG ae.Method).bind fun x2=>
 (Br dM).bind fun gQ=>
 (Xi gQ x2 ae).bind fun r16=>
 some r16
instance auM:I3 210 t26 t20 t9 u7 II:=⟨by
 intro _ _ _ _ _ _ _ hF
 refine' en Tryz.func210 (II.eq_1 ..)⟩
def IU(gT:Int):Option (Bool):=
 (mG gT 0 10000).bind fun r1=>
 some r1
instance aKF:I1 123 t1 u20 IU:=⟨by
 intro _ _ hF
 refine' en Tryz.func123 (IU.eq_1 ..)⟩
def RD(aC:List Int)(aG:List Method)(aT:aS):Option (Bool):=
 ((MF aC aG aT.ag).bind fun r4=>
   bif r4 then ((ME aC aT.Facts).bind fun r8=>
     bif r8 then ((II aG aT.Facts aT.ag).bind fun gL=>
       bif (((gL.length:Int):Int)==(aT.Facts.length:Int))then ((IU aT.At).bind fun r16=>
         some r16)
       else (some false))
     else (some false))
   else (some false)).bind fun o2=>
 match o2 with
 |c19=>some c19
instance aJN:I3 189 t0 t26 t22 u20 RD:=⟨by
 intro _ _ _ _ _ _ _ _ hF
 have hD:=True.intro
 refine' en Tryz.func189 (RD.eq_1 ..)
 refine' KD [0,1,2,3,4,5,6,7,8,9,10,11,12,13,14,15,16,19,20,21,17,18,22,23,24,25,26,27,28,29] [0,0,0,4,15,31,63,63,191,511,1023,2047,4095,4095,12287,4095,36863,131071,262143,4095,528383,1576959,4194303,8388607,16777215,33554431,67108863,134217727,268435455,536870911] [4,9,17,27] mixed ?_
 refine' go
 refine' dc (q1 6 tB) []⟩
def K9(ae:ag)(aM:ag):Option (Int):=
 (G6 ae.Method aM.Method).bind fun r3=>
 (GV ae.Values aM.Values).bind fun r6=>
 (LU ([r3,r6]:List Int)).bind fun fF=>
 some fF
instance aIq:I2 190 t9 t9 u0 K9:=⟨by
 intro _ _ _ _ _ hF
 have hD:=True.intro
 refine' en Tryz.func190 (K9.eq_1 ..)
 refine' KD [0,1,2,3,5,6,7,8,4,9,10,11,12] [0,1,0,4,15,0,32,0,128,511,1023,2047,4095] [4,9,11] mixed ?_
 refine' go
 rename_i r3 _ r6 _
 refine' Hb (az ax) [r3,r6]⟩
def H_(aC:List Int)(aG:List Method)(bG:Cache):List aS->Nat->Option (Bool)
 |[],k5=>((EP aC aG).bind fun r16=>
     bif r16 then ((mG bG.Age 0 100).bind fun kR=>
       bif kR then (some (decide (((bG.Entries.length:Int):Int)<=100)))
       else (some false))
     else (some false)).bind fun WI=>
   match WI with
   |c24=>some c24
 |x7::fM,k5=>((RD aC aG x7).bind fun r32=>
     bif (!r32)then (some true)
     else (bif (decide ((0:Int)<(k5:Int)))then ((ix bG.Entries (IntKind.i64.wrap ((k5:Int)-1))).bind fun Ej=>
         (K9 Ej.ag x7.ag).bind fun pI=>
         some (decide ((0:Int)<=pI)))
       else (some false))).bind fun o30=>
   match o30 with
   |uT=>if uT then (
       some false)
     else (
       H_ aC aG bG fM (k5+1))
def R8(aC:List Int)(aG:List Method)(bG:Cache):Option (Bool):=
 H_ aC aG bG bG.Entries 0
instance aJ9:I3 122 t0 t26 t23 u20 R8:=⟨by
 intro _ _ _ _ _ _ _ hF
 refine' en Tryz.func122 (R8.eq_1 ..)
 refine' eP q0 12 [0,1,5,10,11]<;>rw[H_]at hF<;>refine' go
 refine' rc (q1 6 tB) []
 refine' qj ?_
 refine' go
 refine' dc (q1 38 tB) [0,1,5,10,11,12]⟩
def PX(ae:ag)(aH:bU):Option (Bool):=
 (MF aH.bA aH.Methods ae).bind fun r2=>
 some (!r2)
theorem ai5{ae:ag}{bB:Sv}{bu:Nat}{aH:bU}{dB:Sv}{dR:Sv}{FQ:Sv}{FR:Sv}{FT:Sv}{FU:Sv}{FV:Sv}{FI:Sv}{R:Bool}(hF:PX ae aH=some R):
   Fw.Spec Tryz.prog 125 [(.agg [(.int .i64 ae.Method),bB.v].toArray),(.pointer (some ⟨bu,0,some 0⟩))] [aI (ak 3 ax) bB.v ae.Values,bC bu 50 (.agg [dB.v,dR.v,FQ.v,FR.v,(.int .i64 aH.Source.Version),FT.v,(.int .i64 aH.Cache.Age),(.int .i64 aH.Now),FU.v,FV.v,(.int .i64 aH.bI),FI.v].toArray),aI (ak 3 ax) dB.v aH.bA,aI (ak 127 iB) dR.v aH.Methods,aI (ak 129 qy) FQ.v aH.bV,aI (ak 164 gZ) FR.v aH.Source.Facts,aI (ak 201 jm) FT.v aH.Cache.Entries,aI (ak 85 kN) FU.v aH.bD,aI (ak 3 ax) FV.v aH.dh,aI (ak 79 (ak 22 (ak 3 ax))) FI.v aH.bX] (fun _:Unit=>(.bool R)) (fun _=>[]):=by
 refine' en Tryz.func125 (PX.eq_1 ..)
instance:dz Tryz.prog 125 (type_of% @ai5):=⟨@ai5⟩
def WX(aH:bU):List ag->Nat->Option (Int)
 |[],k4=>some (-1)
 |x6::dH,k4=>(PX x6 aH).bind fun r16=>
   if r16 then (
     some (k4:Int))
   else (
     WX aH dH (k4+1))
def W9(aC:List ag)(aH:bU):Option (Int):=
 WX aH aC 0
theorem aij{aC:List ag}{aA:Sv}{bu:Nat}{aH:bU}{dB:Sv}{dR:Sv}{FQ:Sv}{FR:Sv}{FT:Sv}{FU:Sv}{FV:Sv}{FI:Sv}{R:Int}(hF:W9 aC aH=some R):
   Fw.Spec Tryz.prog 191 [aA.v,(.func (.func 125) [].toArray [(.pointer (some ⟨bu,0,some 0⟩))].toArray)] [aI (ak 85 kN) aA.v aC,bC bu 50 (.agg [dB.v,dR.v,FQ.v,FR.v,(.int .i64 aH.Source.Version),FT.v,(.int .i64 aH.Cache.Age),(.int .i64 aH.Now),FU.v,FV.v,(.int .i64 aH.bI),FI.v].toArray),aI (ak 3 ax) dB.v aH.bA,aI (ak 127 iB) dR.v aH.Methods,aI (ak 129 qy) FQ.v aH.bV,aI (ak 164 gZ) FR.v aH.Source.Facts,aI (ak 201 jm) FT.v aH.Cache.Entries,aI (ak 85 kN) FU.v aH.bD,aI (ak 3 ax) FV.v aH.dh,aI (ak 79 (ak 22 (ak 3 ax))) FI.v aH.bX] (fun _:Unit=>(.int .i64 R)) (fun _=>[]):=by
 refine' en Tryz.func191 (W9.eq_1 ..)
 refine' eP q0 8 [0,1,7]<;>rw[WX]at hF<;>refine' go
instance:dz Tryz.prog 191 (type_of% @aij):=⟨@aij⟩
def OJ(aC:List ag)(aH:bU):Option (Bool):=
 (W9 aC aH).bind fun r1=>
 some (decide ((0:Int)<=r1))
theorem aig{aC:List ag}{aA:Sv}{bu:Nat}{aH:bU}{dB:Sv}{dR:Sv}{FQ:Sv}{FR:Sv}{FT:Sv}{FU:Sv}{FV:Sv}{FI:Sv}{R:Bool}(hF:OJ aC aH=some R):
   Fw.Spec Tryz.prog 124 [aA.v,(.func (.func 125) [].toArray [(.pointer (some ⟨bu,0,some 0⟩))].toArray)] [aI (ak 85 kN) aA.v aC,bC bu 50 (.agg [dB.v,dR.v,FQ.v,FR.v,(.int .i64 aH.Source.Version),FT.v,(.int .i64 aH.Cache.Age),(.int .i64 aH.Now),FU.v,FV.v,(.int .i64 aH.bI),FI.v].toArray),aI (ak 3 ax) dB.v aH.bA,aI (ak 127 iB) dR.v aH.Methods,aI (ak 129 qy) FQ.v aH.bV,aI (ak 164 gZ) FR.v aH.Source.Facts,aI (ak 201 jm) FT.v aH.Cache.Entries,aI (ak 85 kN) FU.v aH.bD,aI (ak 3 ax) FV.v aH.dh,aI (ak 79 (ak 22 (ak 3 ax))) FI.v aH.bX] (fun _:Unit=>(.bool R)) (fun _=>[]):=by
 refine' en Tryz.func124 (OJ.eq_1 ..)
instance:dz Tryz.prog 124 (type_of% @aig):=⟨@aig⟩
def PY(aT:Int)(KG:Int):Option (Bool):=
 ((ED aT).bind fun r3=>
   bif r3 then ((ED KG).bind fun r7=>
     bif (!r7)then (some true)
     else (some (decide ((aT:Int)<KG))))
   else (some (decide ((aT:Int)<KG)))).bind fun o1=>
 match o1 with
 |c11=>some c11
instance aIz:I2 238 t1 t1 u20 PY:=⟨by
 intro _ _ _ hF
 refine' en Tryz.func238 (PY.eq_1 ..)
 refine' rc (q1 4 tB) []⟩
def KO(aT:List Int):Nat->Int->Option (Bool)
 |0,_=>none
 |m2+1,c1=>if (decide ((0:Int)<c1))then (
     (ix aT c1).bind fun kS=>
     (ix aT (IntKind.i64.wrap (c1-1))).bind fun nI=>
     (PY kS nI).bind fun mq=>
     if mq then (
       some false)
     else (
       KO aT m2 (IntKind.i64.wrap (c1-1))))
   else (
     some true)
def O4(aT:List Int):Option (Bool):=
 KO aT (((IntKind.i64.wrap ((aT.length:Int)-1))-0).toNat+2) (IntKind.i64.wrap ((aT.length:Int)-1))
instance aIk:I1 193 t0 u20 O4:=⟨by
 intro _ _ _ hF
 refine' en Tryz.func193 (O4.eq_1 ..)
 refine' Ou (q1 3 tI) [0]<;>rw[KO]at hF<;>refine' go⟩
def YX(gT:Int):Option (Bool):=
 (IU gT).bind fun r1=>
 some (!r1)
instance aIW:I1 195 t1 u20 YX:=⟨by
 intro _ _ hF
 refine' en Tryz.func195 (YX.eq_1 ..)⟩
def Xw:List Int->Nat->Option (Int)
 |[],k4=>some (-1)
 |x6::dH,k4=>(YX x6).bind fun fu=>
   if fu then (
     some (k4:Int))
   else (
     Xw dH (k4+1))
def XJ(aC:List Int):Option (Int):=
 Xw aC 0
theorem aiF{aC:List Int}{aA:Sv}{R:Int}(hF:XJ aC=some R):
   Fw.Spec Tryz.prog 239 [aA.v,(.func (.func 195) [].toArray [].toArray)] [aI (ak 3 ax) aA.v aC] (fun _:Unit=>(.int .i64 R)) (fun _=>[]):=by
 refine' en Tryz.func239 (XJ.eq_1 ..)
 refine' eP q0 8 [0,1,7]<;>rw[Xw]at hF<;>refine' go
instance:dz Tryz.prog 239 (type_of% @aiF):=⟨@aiF⟩
def OZ(aC:List Int):Option (Bool):=
 (XJ aC).bind fun r1=>
 some (decide ((0:Int)<=r1))
theorem aiy{aC:List Int}{aA:Sv}{R:Bool}(hF:OZ aC=some R):
   Fw.Spec Tryz.prog 194 [aA.v,(.func (.func 195) [].toArray [].toArray)] [aI (ak 3 ax) aA.v aC] (fun _:Unit=>(.bool R)) (fun _=>[]):=by
 refine' en Tryz.func194 (OZ.eq_1 ..)
instance:dz Tryz.prog 194 (type_of% @aiy):=⟨@aiy⟩
def RG(aG:List Int):Option (Bool):=
 ((O4 aG).bind fun r3=>
   bif r3 then ((OZ aG).bind fun r7=>
     some (!r7))
   else (some false)).bind fun o1=>
 match o1 with
 |c10=>some c10
instance aJO:I1 127 t0 u20 RG:=⟨by
 intro _ _ _ hF
 refine' en Tryz.func127 (RG.eq_1 ..)
 refine' rc (q1 2 tB) []⟩
def QB(aF:bU):Option (Bool):=
 ((EP aF.bA aF.Methods).bind fun r4=>
   bif r4 then ((RA aF.bA aF.bV).bind fun r8=>
     bif r8 then ((RB aF.bA aF.Source).bind fun gL=>
       bif gL then ((R8 aF.bA aF.Methods aF.Cache).bind fun r16=>
         bif r16 then ((IU aF.Now).bind fun kR=>
           bif kR then (bif (decide (((aF.bD.length:Int):Int)<=1000))then ((OJ aF.bD aF).bind fun iA=>
               bif (!iA)then (bif (((aF.dh.length:Int):Int)==(aF.bD.length:Int))then ((RG aF.dh).bind fun WJ=>
                   bif WJ then ((mG aF.bI 0 1000000).bind fun Wu=>
                     bif Wu then (some (decide (((aF.bX.length:Int):Int)<=100)))
                     else (some false))
                   else (some false))
                 else (some false))
               else (some false))
             else (some false))
           else (some false))
         else (some false))
       else (some false))
     else (some false))
   else (some false)).bind fun o2=>
 match o2 with
 |c38=>some c38
instance asN:I1 39 t25 u20 QB:=⟨by
 intro _ _ _ _ _ _ _ _ _ _ hF
 refine' en Tryz.func39 (QB.eq_1 ..)
 refine' rc (q1 2 tB) []⟩
def Fz(gT:Int):Option (Bool):=
 (mG gT 10 17).bind fun r1=>
 some r1
instance avU:I1 246 t1 u20 Fz:=⟨by
 intro _ _ hF
 refine' en Tryz.func246 (Fz.eq_1 ..)⟩
def SI(gT:Int):Option (Bool):=
 ((IG gT).bind fun r3=>
   bif r3 then (some true)
   else ((Fz gT).bind fun r7=>
     some r7)).bind fun o1=>
 match o1 with
 |c10=>some c10
instance aKG:I1 297 t1 u20 SI:=⟨by
 intro _ _ hF
 refine' en Tryz.func297 (SI.eq_1 ..)
 refine' rc (q1 2 tB) []⟩
def QC(gT:Int):Option (Bool):=
 (SI gT).bind fun r1=>
 some (!r1)
instance aIX:I1 296 t1 u20 QC:=⟨by
 intro _ _ hF
 refine' en Tryz.func296 (QC.eq_1 ..)⟩
def Xx:List Int->Nat->Option (Int)
 |[],k4=>some (-1)
 |x6::dH,k4=>(QC x6).bind fun fu=>
   if fu then (
     some (k4:Int))
   else (
     Xx dH (k4+1))
def XK(aC:List Int):Option (Int):=
 Xx aC 0
theorem aiG{aC:List Int}{aA:Sv}{R:Int}(hF:XK aC=some R):
   Fw.Spec Tryz.prog 239 [aA.v,(.func (.func 296) [].toArray [].toArray)] [aI (ak 3 ax) aA.v aC] (fun _:Unit=>(.int .i64 R)) (fun _=>[]):=by
 refine' en Tryz.func239 (XK.eq_1 ..)
 refine' eP q0 8 [0,1,7]<;>rw[Xx]at hF<;>refine' go
instance:dz Tryz.prog 239 (type_of% @aiG):=⟨@aiG⟩
def Xy(aC:List Int):Option (Bool):=
 (XK aC).bind fun r1=>
 some (decide ((0:Int)<=r1))
theorem aiz{aC:List Int}{aA:Sv}{R:Bool}(hF:Xy aC=some R):
   Fw.Spec Tryz.prog 194 [aA.v,(.func (.func 296) [].toArray [].toArray)] [aI (ak 3 ax) aA.v aC] (fun _:Unit=>(.bool R)) (fun _=>[]):=by
 refine' en Tryz.func194 (Xy.eq_1 ..)
instance:dz Tryz.prog 194 (type_of% @aiz):=⟨@aiz⟩
def RH(aG:List Int):Option (Bool):=
 (Xy aG).bind fun r1=>
 some (!r1)
instance aJP:I1 276 t0 u20 RH:=⟨by
 intro _ _ _ hF
 refine' en Tryz.func276 (RH.eq_1 ..)⟩
def SK(aC:List Int)(ae:aJ):Option (Bool):=
 ((BN aC ae.aD).bind fun r4=>
   bif r4 then ((ix aC ae.aD).bind fun x8=>
     bif (((ae.Terms.length:Int):Int)==x8)then ((RH ae.Terms).bind fun fu=>
       some fu)
     else (some false))
   else (some false)).bind fun o2=>
 match o2 with
 |c18=>some c18
instance aKH:I2 242 t0 t17 u20 SK:=⟨by
 intro _ _ _ _ _ hF
 refine' en Tryz.func242 (SK.eq_1 ..)
 refine' dc (q1 4 tB) []⟩
def Q6(ae:aJ)(aH:List Int):Option (Bool):=
 (SK aH ae).bind fun r2=>
 some (!r2)
theorem ajI{ae:aJ}{bB:Sv}{bu:Nat}{aH:List Int}{dB:Sv}{R:Bool}(hF:Q6 ae aH=some R):
   Fw.Spec Tryz.prog 241 [(.agg [(.int .i64 ae.aD),bB.v].toArray),(.pointer (some ⟨bu,0,some 0⟩))] [aI (ak 3 ax) bB.v ae.Terms,bC bu 22 dB.v,aI (ak 3 ax) dB.v aH] (fun _:Unit=>(.bool R)) (fun _=>[]):=by
 refine' en Tryz.func241 (Q6.eq_1 ..)
instance:dz Tryz.prog 241 (type_of% @ajI):=⟨@ajI⟩
def Xe(aH:List Int):List aJ->Nat->Option (Int)
 |[],k4=>some (-1)
 |x6::dH,k4=>(Q6 x6 aH).bind fun r16=>
   if r16 then (
     some (k4:Int))
   else (
     Xe aH dH (k4+1))
def Xk(aC:List aJ)(aH:List Int):Option (Int):=
 Xe aH aC 0
theorem ais{aC:List aJ}{aA:Sv}{bu:Nat}{aH:List Int}{dB:Sv}{R:Int}(hF:Xk aC aH=some R):
   Fw.Spec Tryz.prog 275 [aA.v,(.func (.func 241) [].toArray [(.pointer (some ⟨bu,0,some 0⟩))].toArray)] [aI (ak 138 l7) aA.v aC,bC bu 22 dB.v,aI (ak 3 ax) dB.v aH] (fun _:Unit=>(.int .i64 R)) (fun _=>[]):=by
 refine' en Tryz.func275 (Xk.eq_1 ..)
 refine' eP q0 8 [0,1,7]<;>rw[Xe]at hF<;>refine' go
instance:dz Tryz.prog 275 (type_of% @ais):=⟨@ais⟩
def OQ(aC:List aJ)(aH:List Int):Option (Bool):=
 (Xk aC aH).bind fun r1=>
 some (decide ((0:Int)<=r1))
theorem ain{aC:List aJ}{aA:Sv}{bu:Nat}{aH:List Int}{dB:Sv}{R:Bool}(hF:OQ aC aH=some R):
   Fw.Spec Tryz.prog 240 [aA.v,(.func (.func 241) [].toArray [(.pointer (some ⟨bu,0,some 0⟩))].toArray)] [aI (ak 138 l7) aA.v aC,bC bu 22 dB.v,aI (ak 3 ax) dB.v aH] (fun _:Unit=>(.bool R)) (fun _=>[]):=by
 refine' en Tryz.func240 (OQ.eq_1 ..)
instance:dz Tryz.prog 240 (type_of% @ain):=⟨@ain⟩
def O8(aT:List Int):Option (List Int):=
 some (aT.mergeSort fun x y=>decide (x<=y))
theorem aiN{aT:List Int}{aA:Sv}{jb:List Nat}{R:List Int}(hF:O8 aT=some R):
   Fw.Spec Tryz.prog 312 [aA.v] [dW jb aA aT] (fun _:List Nat=>(.tuple [].toArray)) (fun p=>[dW p aA R]):=by
 cases hF
 exact awy gP.h (Go.Proofs.Any.slices_Sort_int_none amY) (Go.Proofs.Any.slices_Sort_int amY)
instance:dz Tryz.prog 312 (type_of% @aiN):=⟨@aiN⟩
def KR(aT:List Int):Option (List Int):=
 some (Lib.compact aT)
theorem arN{aT:List Int}{aA:Sv}{jb:List Nat}{R:List Int}(hF:KR aT=some R):
   Fw.Spec Tryz.prog 313 [aA.v] [dW jb aA aT] (fun p:Sv×List Nat=>p.1.v) (fun p=>[dW p.2 p.1 R]):=by
 cases hF
 exact auw gP.h avL rfl (Go.Proofs.Any.slices_Compact_int_empty amb) (Go.Proofs.Any.slices_Compact_int amb)
instance aIm:I1 313 t28 u36 KR:=⟨fun h=>arN h⟩
def K3:List Int->Nat->(List Int)->Option ((List Int))
 |[],Oz,zJ=>some zJ
 |Ej::afa,Oz,zJ=>((Fz Ej).bind fun iH=>
     if iH then (
       (app zJ ([Ej]:List Int)).bind fun z52=>
       some z52)
     else (
       some zJ)).bind fun o44=>
   match o44 with
   |Wy=>K3 afa (Oz+1) Wy
def K4:List aJ->Nat->(List Int)->Option ((List Int))
 |[],k8,c2=>(O8 c2).bind fun fC=>
   (KR fC).bind fun kR=>
   some kR
 |kS::qA,k8,c2=>(K3 kS.Terms 0 c2).bind fun o23=>
   match o23 with
   |c61=>K4 qA (k8+1) c61
def X3(Cg:List aJ):Option ((List Int)):=
 K4 Cg 0 ([]:List Int)
theorem aiU{Cg:List aJ}{aA:Sv}{R:(List Int)}(hF:X3 Cg=some R):
   Fw.Spec Tryz.prog 298 [aA.v,(.func (.func 246) [].toArray [].toArray)] [aI (ak 138 l7) aA.v Cg] (fun p:Sv×List Nat=>p.1.v) (fun p=>[ah (aa 3 (az ax)) p.2 p.1.v R]):=by
 have hK:=True.intro
 refine' en Tryz.func298 (X3.eq_1 ..)
 refine' dZ ?_
 refine' go
 refine' ed (q1 5 (tO 3 (az ax))) 13 [1,11,12]<;>rw[K4]at hF<;>refine' go
 refine' cu (q1 5 (tO 3 (az ax))) [1,11,12,13]
 rename_i k28
 refine' ed ((q1 5 (tO 3 (az ax))).dr [pz k28]) 20 [1,11,12,13,18,19]<;>rw[K3]at hF<;>refine' go
 refine' cu (q1 5 (tO 3 (az ax))) [1,11,12,13,18,19,20]
instance:dz Tryz.prog 298 (type_of% @aiU):=⟨@aiU⟩
def Nr(aK:Query):Option ((List Int)):=
 (X3 aK.aL).bind fun r2=>
 some r2
instance avn:I1 277 t29 u1 Nr:=⟨by
 intro _ _ _ _ hF
 refine' en Tryz.func277 (Nr.eq_1 ..)⟩
end Go.Proofs.YtlnefhbbbikmgabGreat
