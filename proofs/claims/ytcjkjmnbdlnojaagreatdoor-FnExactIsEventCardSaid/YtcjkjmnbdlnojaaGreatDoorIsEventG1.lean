/-
  Functions of the program as Lean functions, and that the calls return what these say: part 2. No conditions.
-/
import Derived.Shelf.Strconv.Itoa3
import Derived.Shelf.Strings.OnBuilder
import Derived.Shelf.Sort.Plain
import Derived.Shelf.Slices.In.SortNone
import Derived.Shelf.Slices.CompactI
import Derived.Test.YtcjkjmnbdlnojaaGreatDoorIsEventG0
import Derived.KernelRfl
set_option maxRecDepth 100000
set_option maxHeartbeats 1000000
set_option linter.unusedVariables false
namespace Go.Proofs.YtcjkjmnbdlnojaaGreatDoor
open Go Go.Fw

def gK(aa:List UInt8):Option (Int×Bool):=
 (C_ aa).bind fun r1=>
 (bif (!r1.2)then (some true)
   else ((gP r1.1 (-999999999) 999999999).bind fun r7=>
     bif (!r7)then (some true)
     else ((iI r1.1).bind fun iQ=>
       some (!(iQ==aa))))).bind fun o4=>
 match o4 with
 |c14=>if c14 then (
     some (0,false))
   else (
     some (r1.1,true))
theorem kS{aa:List UInt8}{R:Int×Bool}(hF:gK aa=some R):
   Fw.Spec Tryz.prog 59 [(sv aa)] [] (fun _:Unit=>(.tuple [(.int .i64 R.1),(.bool R.2)].toArray)) (fun _=>[]):=by
 refine Gt (n:=25) Tryz.func59 rfl rfl (rs:=[.tmp 2,.tmp 3]) rfl rfl rfl ?_
 intro H0 F0
 unfold gK at hF
 refine eu (ai (jU (v:=(.int .i64 0)) (.int _ _)) ?_)
 refine ai (jU (v:=(.bool false)) (.bool _)) ?_
 refine fH (eu (Cm (sv aa) rfl rfl ?_))
 obtain⟨r1,hx2,hF⟩:=bind_some hF
 refine mH .nil (bZ Zj.h (.cons (.tmp rfl rfl) .nil) (@RA aa _ hx2)) (fun p3=>?_)
 refine Cm (.tuple [(.int .i64 r1.1),(pg 219 p3 r1.2)].toArray) rfl rfl ?_
 refine ai (Gy (l:=[(.int .i64 r1.1),(pg 219 p3 r1.2)]) (v:=(.int .i64 r1.1)) (.tmp rfl rfl) rfl) ?_
 refine ai (Gy (l:=[(.int .i64 r1.1),(pg 219 p3 r1.2)]) (v:=(pg 219 p3 r1.2)) (.tmp rfl rfl) rfl) ?_
 refine Ca (.int .i64 r1.1) rfl rfl ?_
 refine Ca (pg 219 p3 r1.2) rfl rfl ?_
 refine fH (jY ?_)
 obtain⟨o4,aaD,QG⟩:=bind_some hF
 refine eu (b_ (fun f' cs'=>∃(c14:Bool)(g:Fr),c14=o4/\f'=aH g [(4,(.int .i64 r1.1)),(23,(.bool c14))]/\aF cs' []) ?_ ?_)
 · replace hF:=aaD
   refine Cm (pg 219 p3 r1.2) rfl rfl ?_
   refine ai (Va (k:=p3) (b:=r1.2) VK (.tmp rfl rfl)) ?_
   refine Cm (.bool (!r1.2)) rfl rfl ?_
   rcases Bool.eq_false_or_eq_true (!r1.2)with gF|gF
   · rw[gF]
     try rw[gF]at hF; dsimp only[cond_true,cond_false]at hF
     iterate 3 refine xZ (t:=13) rfl rfl rfl ?_
     refine ai (qF (b:=true) (u:=(.bool true)) (v:=undef) (.tmp rfl rfl) (.bool _) (.tmp rfl rfl)) ?_
     refine Cm (.bool true) rfl rfl ?_
     iterate 4 refine xZ (t:=18) rfl rfl rfl ?_
     refine ai (qF (b:=true) (u:=(.bool true)) (v:=undef) (.tmp rfl rfl) (.bool _) (.tmp rfl rfl)) ?_
     refine fH ?_
     obtain rfl:=Option.some.inj hF
     exact⟨_,_,rfl,(bF.cons rfl (bF.cons rfl (bF.nil))).eq,(.sel .nil)⟩
   rw[gF]
   try rw[gF]at hF; dsimp only[cond_true,cond_false]at hF
   refine kJ (t:=13) rfl rfl rfl ?_
   refine Cm (.int .i64 r1.1) rfl rfl ?_
   refine kJ (t:=13) rfl rfl rfl ?_
   obtain⟨r7,iG,hF⟩:=bind_some hF
   refine mH .nil (bZ Zk.h (.cons (.tmp rfl rfl) (.cons (.int _ _) (.cons (.int _ _) .nil))) (@jq r1.1 (-999999999) 999999999 _ iG)) (fun _=>?_)
   refine kJ (t:=13) rfl rfl rfl ?_
   refine ai (Ak (b:=r7) (.tmp rfl rfl)) ?_
   refine ai (qF (b:=false) (u:=(.bool true)) (v:=(.bool (!r7))) (.tmp rfl rfl) (.bool _) (.tmp rfl rfl)) ?_
   refine Cm (.bool (!r7)) rfl rfl ?_
   rcases Bool.eq_false_or_eq_true (!r7)with j6|j6
   · rw[j6]
     try rw[j6]at hF; dsimp only[cond_true,cond_false]at hF
     iterate 4 refine xZ (t:=18) rfl rfl rfl ?_
     refine ai (qF (b:=true) (u:=(.bool true)) (v:=undef) (.tmp rfl rfl) (.bool _) (.tmp rfl rfl)) ?_
     refine fH ?_
     obtain rfl:=Option.some.inj hF
     exact⟨_,_,rfl,(bF.cons rfl (bF.cons rfl (bF.nil))).eq,(.sel .nil)⟩
   rw[j6]
   try rw[j6]at hF; dsimp only[cond_true,cond_false]at hF
   refine kJ (t:=18) rfl rfl rfl ?_
   refine Cm (.int .i64 r1.1) rfl rfl ?_
   refine kJ (t:=18) rfl rfl rfl ?_
   obtain⟨iQ,lc,hF⟩:=bind_some hF
   refine mH .nil (bZ Zl.h (.cons (.tmp rfl rfl) .nil) (@kC r1.1 _ lc)) (fun _=>?_)
   refine kJ (t:=18) rfl rfl rfl ?_
   refine Cm (sv aa) rfl rfl ?_
   refine kJ (t:=18) rfl rfl rfl ?_
   refine ai (jI (s:=iQ) (t:=aa) (.tmp rfl rfl) (.tmp rfl rfl)) ?_
   refine ai (qF (b:=false) (u:=(.bool true)) (v:=(.bool (!(iQ==aa)))) (.tmp rfl rfl) (.bool _) (.tmp rfl rfl)) ?_
   refine fH ?_
   obtain rfl:=Option.some.inj hF
   exact⟨_,_,rfl,(bF.cons rfl (bF.cons rfl (bF.nil))).eq,(.sel .nil)⟩
 rintro _ _ ⟨c14,g16,rfl,rfl,hE⟩
 replace hF:=QG
 clear QG
 try dsimp only at hF
 refine bz hE ?_
 refine mo (b:=c14) (.tmp rfl rfl) (fun Bh=>?_) (fun Bh=>?_)
 · rw[if_pos Bh]at hF
   refine eu (ai (jU (v:=(.int .i64 0)) (.int _ _)) ?_)
   refine ai (jU (v:=(.bool false)) (.bool _)) ?_
   refine fH (vO ?_)
   obtain rfl:=Option.some.inj hF
   exact dO () (.tmp rfl rfl (.tmp rfl rfl .nil)) rfl (.sel .nil)
 rw[if_neg (by rw[Bh]; exact Bool.false_ne_true)]at hF
 refine uj (eu (Cm (.int .i64 r1.1) rfl rfl ?_))
 refine Ca (.int .i64 r1.1) rfl rfl ?_
 refine ai (jU (v:=(.bool true)) (.bool _)) ?_
 refine fH (vO ?_)
 obtain rfl:=Option.some.inj hF
 exact dO () (.tmp rfl rfl (.tmp rfl rfl .nil)) rfl (.sel .nil)
def mg:List (List UInt8)->Nat->(List Int)->Option ((List Int)×Bool)
 |[],k8,c2=>some (c2,true)
 |gN::df,k8,c2=>(gK gN).bind fun mV=>
   if (!mV.2)then (
     some ([],false))
   else (
     (app c2 ([mV.1]:List Int)).bind fun z23=>
     mg df (k8+1) z23)
def tV(iT:List (List UInt8)):Option ((List Int)×Bool):=
 mg iT 0 ([]:List Int)
theorem Gc{iT:List (List UInt8)}{ae:Sv}{R:(List Int)×Bool}(hF:tV iT=some R):
   Fw.Spec Tryz.prog 76 [ae.v] [iY ae iT] (fun p:Sv×List Nat=>(.tuple [p.1.v,(.bool R.2)].toArray)) (fun p=>[bR p.2 p.1 R.1]):=by
 refine Se 29 Tryz.func76 [.tmp 2,.tmp 3] ?_
 intro H0 F0
 unfold tV at hF
 refine aD ?_
 refine fI rfl (eH (g:=true) eB.h dU.h .nil (vs:=[]) rfl rfl rfl (by simp)) (fun k1=>?_)
 refine fT (.cons .h .nil) (eT (Ro:=(aR aY)) (E:=3) (F:=[]) (xs:=([]:List Int)) eQ rfl rfl) ?_
 refine dh ?_
 refine bI (bY (m:=iT.length) (fun m6 f' cs'=>∃(g:Fr)(k8:Nat)(df:List (List UInt8))(c2:List Int)(v3:Sv)(F4:List Nat),m6=df.length/\f'=aH g [(4,v3.v),(10,ae.v),(11,(zi (iT.length:Int))),(12,(zi (k8:Int)))]/\List.drop k8 iT=df/\aF cs' [bR F4 v3 c2,iY ae iT]/\mg df k8 c2=some R) ⟨_,0,_,_,⟨(some ⟨k1,0,none⟩),0,1⟩,(k1::[]),rfl,aN,rfl,aL,hF⟩ ?_)
 rintro m6 _ _ ⟨g7,k8,df,c2,v3,F4,rfl,rfl,jh,hE,hF⟩
 refine Kb hE iT (fun Ep=>?_)
 rcases df with _|⟨gN,df⟩
 · have rR:=dn jh
   rw[mg]at hF
   refine aB ?_
   refine dI ?_
   refine kG ?_
   cases hF
   exact Er (v3,F4)
 obtain⟨rR,eD,rT⟩:=dC jh
 rw[mg]at hF
 refine aB ?_
 refine dH ?_
 refine ay ?_
 refine Ai eD (fun k17 j18=>?_)
 refine Al eZ ?_
 refine aB ?_
 refine bnd hF fun mV ik hF=>aA (kS ik) (fun _=>?_)
 refine au ?_
 refine zx ?_
 refine zx ?_
 refine dh ?_
 refine Ci hF (fun Jg hF=>?_) (fun Jg hF=>?_)
 · refine aD ?_
   cases hF
   exact dO (⟨none,0,0⟩,[]) (.tmp rfl rfl (.tmp rfl rfl .nil)) rfl (.conv .nil (dK (Ro:=(aR aY)) (E:=3)) (.cons .nil) (.sel (.cons .h .nil)))
 refine aB ?_
 refine fI rfl (eH (g:=true) eB.h dU.h bJ (vs:=[(zi mV.1)]) rfl rfl rfl (by intro v hv; simp at hv; rcases hv with rfl<;>rfl)) (fun k22=>?_)
 refine fT (.cons .h .nil) (eT (Ro:=(aR aY)) (E:=3) (F:=([]++[])) (xs:=([mV.1]:List Int)) (fK (iL (fun _=>rfl)) eQ dE) rfl rfl) ?_
 refine bnd hF fun z23 hx24 hF=>cB (.cons .q2 (.cons .h .nil)) (iJ (Ro:=(aR aY)) eB.h lY dU.h rfl rfl rfl (.tmp rfl rfl) (.tmp rfl rfl) hx24 iM) (fun p25=>?_)
 refine bC ?_
 rw[wk k8]
 exact⟨_,cK _,_,k8+1,df,_,p25.1,p25.2,rfl,aN,rT,aL,hF⟩
def uV(aa:List UInt8)(fG:List UInt8):Option (Bool):=
 (bif (decide (((fG.length:Int):Int)<=(aa.length:Int)))then ((kg (decide (0<=(fG.length:Int))&&decide ((fG.length:Int)<=((aa).length:Int)))).bind fun u5=>
     some ((aa.take ((fG.length:Int)).toNat)==fG))
   else (some false)).bind fun o1=>
 match o1 with
 |c7=>some c7
theorem Q_{aa fG:List UInt8}{R:Bool}(hF:uV aa fG=some R):
   Fw.Spec Tryz.prog 162 [(sv aa),(sv fG)] [] (fun _:Unit=>(.bool R)) (fun _=>[]):=by
 refine Se 18 Tryz.func162 [.tmp 4] ?_
 intro H0 F0
 unfold uV at hF
 refine ay ?_
 obtain⟨o1,jZ,hO2⟩:=bind_some hF
 refine au ?_
 refine b_ (fun f' cs'=>∃(c7:Bool)(g:Fr),c7=o1/\f'=aH g [(4,(.bool c7))]/\aF cs' []) ?_ ?_
 · replace hF:=jZ
   refine au ?_
   refine ai (iK (s:=aa) dN (.tmp rfl rfl)) ?_
   refine au ?_
   refine ai (iK (s:=fG) dN (.tmp rfl rfl)) ?_
   refine aI ?_
   rcases bi (decide (((fG.length:Int):Int)<=(aa.length:Int)))with hg3|hg3
   · rw[hg3]
     try rw[hg3]at hF; dsimp only[ak,aj]at hF
     refine aD ?_
     refine ai (iK (s:=fG) dN (.tmp rfl rfl)) ?_
     refine au ?_
     refine bnd hF fun u5 hx6 hF=>?_
     have hc4:0<=(fG.length:Int)/\(fG.length:Int)<=((aa).length:Int):=by (have hq:=mi hx6; clear hF; simp only[Bool.and_eq_true,decide_eq_true_eq]at*; omega)
     refine ai (Dt (s:=aa) (j:=(fG.length:Int)) dN (.tmp rfl rfl) (.tmp rfl rfl) hc4.1 hc4.2) ?_
     refine ay ?_
     refine ai (uu (s:=(aa.take ((fG.length:Int)).toNat)) (t:=fG) (.tmp rfl rfl) (.tmp rfl rfl)) ?_
     exact aP hF
   rw[hg3]
   try rw[hg3]at hF; dsimp only[ak,aj]at hF
   exact aP hF
 rintro _ _ ⟨c7,g8,rfl,rfl,hE⟩
 replace hF:=hO2
 try dsimp only at hF
 refine bz hE ?_
 exact ze hF
def yR(aa:List UInt8)(fG:List UInt8):Option ((List UInt8)):=
 (uV aa fG).bind fun r1=>
 if r1 then (
   (kg (decide (0<=(fG.length:Int))&&decide ((fG.length:Int)<=((aa).length:Int)))).bind fun u5=>
   some (aa.drop ((fG.length:Int)).toNat))
 else (
   some aa)
theorem Q8{aa fG:List UInt8}{R:(List UInt8)}(hF:yR aa fG=some R):
   Fw.Spec Tryz.prog 105 [(sv aa),(sv fG)] [] (fun _:Unit=>(sv R)) (fun _=>[]):=by
 refine Se 13 Tryz.func105 [.tmp 4] ?_
 intro H0 F0
 unfold yR at hF
 refine bU ?_
 refine bnd hF fun r1 hx2 hF=>aA (Q_ hx2) (fun _=>?_)
 refine au ?_
 refine Ci hF (fun Ke hF=>?_) (fun Ke hF=>?_)
 · refine ay ?_
   refine ai (iK (s:=fG) dN (.tmp rfl rfl)) ?_
   refine bnd hF fun u5 hx6 hF=>?_
   have hc4:=mi hx6
   simp only[Bool.and_eq_true,decide_eq_true_eq]at hc4
   refine ai (zJ (s:=aa) (i:=(fG.length:Int)) dN (.tmp rfl rfl) (.tmp rfl rfl) hc4.1 hc4.2) ?_
   exact ze hF
 exact ze hF
def kR(aa:List UInt8)(fG:List UInt8):Option ((List UInt8)):=
 (yR aa fG).bind fun r1=>
 some r1
theorem wU{aa fG:List UInt8}{R:(List UInt8)}(hF:kR aa fG=some R):
   Fw.Spec Tryz.prog 77 [(sv aa),(sv fG)] [] (fun _:Unit=>(sv R)) (fun _=>[]):=by
 refine Se 8 Tryz.func77 [.tmp 4] ?_
 intro H0 F0
 unfold kR at hF
 refine bC ?_
 refine bnd hF fun r1 hx2 hF=>aA (Q8 hx2) (fun _=>?_)
 exact ze hF
def Dg(bX:Int):Option (Bool):=
 (gP bX 1 3).bind fun r1=>
 some (!r1)
theorem RV{bX:Int}{R:Bool}(hF:Dg bX=some R):
   Fw.Spec Tryz.prog 204 [(zi bX)] [] (fun _:Unit=>(.bool R)) (fun _=>[]):=by
 refine Se 6 Tryz.func204 [.tmp 2] ?_
 intro H0 F0
 unfold Dg at hF
 refine aD ?_
 refine bnd hF fun r1 hx2 hF=>aA (jq hx2) (fun _=>?_)
 exact ze hF
def wR:List Int->Nat->Option (Int)
 |[],k4=>some (-1)
 |x6::aK,k4=>(Dg x6).bind fun dV=>
   if dV then (
     some (k4:Int))
   else (
     wR aK (k4+1))
def CR(aa:List Int):Option (Int):=
 wR aa 0
theorem Q5{aa:List Int}{ae:Sv}{R:Int}(hF:CR aa=some R):
   Fw.Spec Tryz.prog 228 [ae.v,(.func (.func 204) [].toArray [].toArray)] [aC ae aa] (fun _:Unit=>(zi R)) (fun _=>[]):=by
 refine Se 19 Tryz.func228 [.tmp 4] ?_
 intro H0 F0
 unfold CR at hF
 refine gq ?_
 refine bI (bY (m:=aa.length) (fun m2 f' cs'=>∃(g:Fr)(k4:Nat)(aK:List Int),m2=aK.length/\f'=aH g [(0,ae.v),(1,(.func (.func 204) [].toArray [].toArray)),(7,(zi (aa.length:Int))),(8,(zi (k4:Int)))]/\List.drop k4 aa=aK/\aF cs' [aC ae aa]/\wR aK k4=some R) ⟨_,0,_,rfl,aN,rfl,aL,hF⟩ ?_)
 rintro m2 _ _ ⟨g3,k4,aK,rfl,rfl,hd7,hE,hF⟩
 refine Kb hE aa (fun mF=>?_)
 rcases aK with _|⟨x6,aK⟩
 · have h_:=dn hd7
   rw[wR]at hF
   refine aB ?_
   refine dI ?_
   exact ze hF
 obtain⟨h_,bQ,g_⟩:=dC hd7
 rw[wR]at hF
 refine aB ?_
 refine dH ?_
 refine kG ?_
 refine Ai bQ (fun k13 om=>?_)
 refine Al dw ?_
 refine bnd hF fun dV hx16 hF=>mH .nil (ui WV.h (.tmp rfl rfl) bJ (RV hx16)) (fun _=>?_)
 refine au ?_
 refine Ci hF (fun nZ hF=>?_) (fun nZ hF=>?_)
 · exact ze hF
 refine aD ?_
 rw[wk k4]
 exact⟨_,cK _,_,k4+1,aK,rfl,aN,g_,aL,hF⟩
def yP(aa:List Int):Option (Bool):=
 (CR aa).bind fun r1=>
 some (decide ((0:Int)<=r1))
theorem QX{aa:List Int}{ae:Sv}{R:Bool}(hF:yP aa=some R):
   Fw.Spec Tryz.prog 164 [ae.v,(.func (.func 204) [].toArray [].toArray)] [aC ae aa] (fun _:Unit=>(.bool R)) (fun _=>[]):=by
 refine Se 9 Tryz.func164 [.tmp 4] ?_
 intro H0 F0
 unfold yP at hF
 refine bC ?_
 refine bnd hF fun r1 hx2 hF=>aA (Q5 hx2) (fun _=>?_)
 exact ze hF
def xw(aa:List Int):Option (Bool):=
 ((gP (aa.length:Int) 1 3).bind fun r3=>
   bif r3 then ((yP aa).bind fun r7=>
     some (!r7))
   else (some false)).bind fun o1=>
 match o1 with
 |c10=>some c10
theorem LK{aa:List Int}{ae:Sv}{R:Bool}(hF:xw aa=some R):
   Fw.Spec Tryz.prog 142 [ae.v] [aC ae aa] (fun _:Unit=>(.bool R)) (fun _=>[]):=by
 refine Se 11 Tryz.func142 [.tmp 2] ?_
 intro H0 F0
 unfold xw at hF
 refine ay ?_
 obtain⟨o1,jZ,hO2⟩:=bind_some hF
 refine au ?_
 refine b_ (fun f' cs'=>∃(c10:Bool)(g:Fr),c10=o1/\f'=aH g [(2,(.bool c10))]/\aF cs' []) ?_ ?_
 · replace hF:=jZ
   refine aI ?_
   refine bnd hF fun r3 hx4 hF=>aA (jq hx4) (fun _=>?_)
   refine au ?_
   rcases bi r3 with gF|gF
   · rw[gF]
     try rw[gF]at hF; dsimp only[ak,aj]at hF
     refine ay ?_
     refine bnd hF fun r7 iG hF=>aA (QX iG) (fun _=>?_)
     exact aP hF
   rw[gF]
   try rw[gF]at hF; dsimp only[ak,aj]at hF
   exact aP hF
 rintro _ _ ⟨c10,g11,rfl,rfl,hE⟩
 replace hF:=hO2
 try dsimp only at hF
 refine bz hE ?_
 exact ze hF
def qw(aa:List Int)(ry:Int):Option (Bool):=
 ((xw aa).bind fun r3=>
   bif r3 then ((gP ry 0 (IntKind.i64.wrap ((aa.length:Int)-1))).bind fun r7=>
     some r7)
   else (some false)).bind fun o1=>
 match o1 with
 |c10=>some c10
theorem zw{aa:List Int}{ae:Sv}{ry:Int}{R:Bool}(hF:qw aa ry=some R):
   Fw.Spec Tryz.prog 106 [ae.v,(zi ry)] [aC ae aa] (fun _:Unit=>(.bool R)) (fun _=>[]):=by
 refine Se 14 Tryz.func106 [.tmp 4] ?_
 intro H0 F0
 unfold qw at hF
 refine ay ?_
 obtain⟨o1,jZ,hO2⟩:=bind_some hF
 refine au ?_
 refine b_ (fun f' cs'=>∃(c10:Bool)(g:Fr),c10=o1/\f'=aH g [(4,(.bool c10))]/\aF cs' []) ?_ ?_
 · replace hF:=jZ
   refine au ?_
   refine bnd hF fun r3 hx4 hF=>aA (LK hx4) (fun _=>?_)
   refine au ?_
   rcases bi r3 with gF|gF
   · rw[gF]
     try rw[gF]at hF; dsimp only[ak,aj]at hF
     refine gq ?_
     refine bnd hF fun r7 iG hF=>aA (jq iG) (fun _=>?_)
     exact aP hF
   rw[gF]
   try rw[gF]at hF; dsimp only[ak,aj]at hF
   exact aP hF
 rintro _ _ ⟨c10,g11,rfl,rfl,hE⟩
 replace hF:=hO2
 try dsimp only at hF
 refine bz hE ?_
 exact ze hF
def u6(bf:List Int):List Int->Nat->Option (Bool)
 |[],k4=>some true
 |x6::aK,k4=>(bif (decide ((0:Int)<(k4:Int)))then ((ix bf (IntKind.i64.wrap ((k4:Int)-1))).bind fun mY=>
       some (decide ((x6:Int)<=mY)))
     else (some false)).bind fun Kg=>
   match Kg with
   |c24=>if c24 then (
       some false)
     else (
       u6 bf aK (k4+1))
def zy(bf:List Int):Option (Bool):=
 u6 bf bf 0
theorem Sk{bf:List Int}{ae:Sv}{R:Bool}(hF:zy bf=some R):
   Fw.Spec Tryz.prog 163 [ae.v] [aC ae bf] (fun _:Unit=>(.bool R)) (fun _=>[]):=by
 refine Se 24 Tryz.func163 [.tmp 2] ?_
 intro H0 F0
 unfold zy at hF
 refine gq ?_
 refine bI (bY (m:=bf.length) (fun m2 f' cs'=>∃(g:Fr)(k4:Nat)(aK:List Int),m2=aK.length/\f'=aH g [(0,ae.v),(5,(zi (bf.length:Int))),(6,(zi (k4:Int)))]/\List.drop k4 bf=aK/\aF cs' [aC ae bf]/\u6 bf aK k4=some R) ⟨_,0,_,rfl,aN,rfl,aL,hF⟩ ?_)
 rintro m2 _ _ ⟨g3,k4,aK,rfl,rfl,hd7,hE,hF⟩
 refine Kb hE bf (fun mF=>?_)
 rcases aK with _|⟨x6,aK⟩
 · have h_:=dn hd7
   rw[u6]at hF
   refine aB ?_
   refine dI ?_
   exact ze hF
 obtain⟨h_,bQ,g_⟩:=dC hd7
 rw[u6]at hF
 refine aB ?_
 refine dH ?_
 refine bC ?_
 obtain⟨Kg,Ym,aaE⟩:=bind_some hF
 refine fV [0,1,2,3,4,5,6,7,8,9,10,11,12,13] [0,1,3,7,7,31,63,7,7,263,903,1927,4095,8191] [] mixed (by decide+kernel) ?_
 refine oV (fun f' cs'=>∃(c24:Bool)(g:Fr),c24=Kg/\f'=aH g [(0,ae.v),(5,(zi (bf.length:Int))),(6,(zi (k4:Int))),(22,(.bool c24))]/\aF cs' [aC ae bf]) ?_ ?_
 · replace hF:=Ym
   refine gZ ?_
   rcases bi (decide ((0:Int)<(k4:Int)))with gy|gy
   · rw[gy]
     try rw[gy]at hF; dsimp only[ak,aj]at hF
     refine fA ?_
     refine Di bQ (fun k16 Fz=>?_)
     refine Dl dw ?_
     refine gZ ?_
     refine zI hF fun mY H_ j3 hF=>?_
     refine Di j3 (fun k22 j23=>?_)
     refine Dl dw ?_
     exact fP hF
   rw[gy]
   try rw[gy]at hF; dsimp only[ak,aj]at hF
   exact fP hF
 rintro _ _ ⟨c24,g27,rfl,rfl,hE⟩
 replace hF:=aaE
 try dsimp only at hF
 refine bz hE ?_
 refine Ci hF (fun BA hF=>?_) (fun BA hF=>?_)
 · exact ze hF
 refine aD ?_
 rw[wk k4]
 exact⟨_,cK _,_,k4+1,aK,rfl,aN,g_,aL,hF⟩
def y7(sF:Int)(bD:Int):Option (Bool):=
 (gP sF 0 (IntKind.i64.wrap (bD-1))).bind fun r1=>
 some (!r1)
theorem Rw{sF:Int}{dJ:Nat}{bD:Int}{R:Bool}(hF:y7 sF bD=some R):
   Fw.Spec Tryz.prog 165 [(zi sF),(pz dJ)] [cu dJ 3 (zi bD)] (fun _:Unit=>(.bool R)) (fun _=>[]):=by
 refine Se 9 Tryz.func165 [.tmp 3] ?_
 intro H0 F0
 unfold y7 at hF
 refine bU ?_
 refine bnd hF fun r1 hx2 hF=>aA (jq hx2) (fun _=>?_)
 exact ze hF
def wP(bD:Int):List Int->Nat->Option (Int)
 |[],k4=>some (-1)
 |x6::aK,k4=>(y7 x6 bD).bind fun dV=>
   if dV then (
     some (k4:Int))
   else (
     wP bD aK (k4+1))
def CP(aa:List Int)(bD:Int):Option (Int):=
 wP bD aa 0
theorem Q0{aa:List Int}{ae:Sv}{dJ:Nat}{bD R:Int}(hF:CP aa bD=some R):
   Fw.Spec Tryz.prog 228 [ae.v,(.func (.func 165) [].toArray [(pz dJ)].toArray)] [aC ae aa,cu dJ 3 (zi bD)] (fun _:Unit=>(zi R)) (fun _=>[]):=by
 refine Se 19 Tryz.func228 [.tmp 4] ?_
 intro H0 F0
 unfold CP at hF
 refine gq ?_
 refine bI (bY (m:=aa.length) (fun m2 f' cs'=>∃(g:Fr)(k4:Nat)(aK:List Int),m2=aK.length/\f'=aH g [(0,ae.v),(1,(.func (.func 165) [].toArray [(pz dJ)].toArray)),(7,(zi (aa.length:Int))),(8,(zi (k4:Int)))]/\List.drop k4 aa=aK/\aF cs' [aC ae aa,cu dJ 3 (zi bD)]/\wP bD aK k4=some R) ⟨_,0,_,rfl,aN,rfl,aL,hF⟩ ?_)
 rintro m2 _ _ ⟨g3,k4,aK,rfl,rfl,hd7,hE,hF⟩
 refine Kb hE aa (fun mF=>?_)
 rcases aK with _|⟨x6,aK⟩
 · have h_:=dn hd7
   rw[wP]at hF
   refine aB ?_
   refine dI ?_
   exact ze hF
 obtain⟨h_,bQ,g_⟩:=dC hd7
 rw[wP]at hF
 refine aB ?_
 refine dH ?_
 refine kG ?_
 refine Ai bQ (fun k13 om=>?_)
 refine Al dw ?_
 refine bnd hF fun dV hx16 hF=>mH (.rd .q2 rfl .nil) (ui WW.h (.tmp rfl rfl) bJ (Rw hx16)) (fun _=>?_)
 refine au ?_
 refine Ci hF (fun nZ hF=>?_) (fun nZ hF=>?_)
 · exact ze hF
 refine aD ?_
 rw[wk k4]
 exact⟨_,cK _,_,k4+1,aK,rfl,aN,g_,aL,hF⟩
def yN(aa:List Int)(bD:Int):Option (Bool):=
 (CP aa bD).bind fun r1=>
 some (decide ((0:Int)<=r1))
theorem QT{aa:List Int}{ae:Sv}{dJ:Nat}{bD:Int}{R:Bool}(hF:yN aa bD=some R):
   Fw.Spec Tryz.prog 164 [ae.v,(.func (.func 165) [].toArray [(pz dJ)].toArray)] [aC ae aa,cu dJ 3 (zi bD)] (fun _:Unit=>(.bool R)) (fun _=>[]):=by
 refine Se 9 Tryz.func164 [.tmp 4] ?_
 intro H0 F0
 unfold yN at hF
 refine bC ?_
 refine bnd hF fun r1 hx2 hF=>aA (Q0 hx2) (fun _=>?_)
 exact ze hF
def DF(bX:Int):Option (Bool):=
 (gP bX 0 99).bind fun r1=>
 some r1
theorem Tw{bX:Int}{R:Bool}(hF:DF bX=some R):
   Fw.Spec Tryz.prog 166 [(zi bX)] [] (fun _:Unit=>(.bool R)) (fun _=>[]):=by
 refine Se 5 Tryz.func166 [.tmp 2] ?_
 intro H0 F0
 unfold DF at hF
 refine aD ?_
 refine bnd hF fun r1 hx2 hF=>aA (jq hx2) (fun _=>?_)
 exact ze hF
def wZ(aJ:Method)(qD:Int):Option (Bool):=
 ((zy aJ.Inputs).bind fun r5=>
   bif r5 then ((yN aJ.Inputs qD).bind fun r9=>
     bif (!r9)then ((gP aJ.Limit 0 9).bind fun lM=>
       bif lM then ((DF aJ.Cost).bind fun fo=>
         bif fo then ((gP aJ.Quota 1 99).bind fun gD=>
           some gD)
         else (some false))
       else (some false))
     else (some false))
   else (some false)).bind fun o3=>
 match o3 with
 |c24=>some c24
theorem K8{aJ:Method}{bA:Sv}{qD:Int}{R:Bool}(hF:wZ aJ qD=some R):
   Fw.Spec Tryz.prog 107 [(zg [(zi aJ.Rel),bA.v,(zi aJ.Limit),(zi aJ.Cost),(zi aJ.Quota)]),(zi qD)] [aC bA aJ.Inputs] (fun _:Unit=>(.bool R)) (fun _=>[]):=by
 refine Se 30 Tryz.func107 [.tmp 4] ?_
 intro H0 F0
 unfold wZ at hF
 refine au ?_
 refine fe (fun k1=>?_)
 refine fe (fun k2=>?_)
 refine aI ?_
 obtain⟨o3,Jh,hO4⟩:=bind_some hF
 refine au ?_
 refine b_ (fun f' cs'=>∃(c24:Bool)(g:Fr),c24=o3/\f'=aH g [(4,(.bool c24))]/\aF cs' []) ?_ ?_
 · replace hF:=Jh
   refine aI ?_
   refine bnd hF fun r5 hx6 hF=>aA (Sk hx6) (fun _=>?_)
   refine au ?_
   rcases bi r5 with iH|iH
   · rw[iH]
     try rw[iH]at hF; dsimp only[ak,aj]at hF
     refine aD ?_
     refine ai (mh (fn:=.func 165) (vs:=[]) (us:=[(pz k2)]) .nil bJ) ?_
     refine au ?_
     refine bnd hF fun r9 jg hF=>aA (QT jg) (fun _=>?_)
     refine aB ?_
     rcases bi (!r9)with gu|gu
     · rw[gu]
       try rw[gu]at hF; dsimp only[ak,aj]at hF
       refine aD ?_
       refine bnd hF fun lM j4 hF=>aA (jq j4) (fun _=>?_)
       refine aI ?_
       rcases bi lM with gz|gz
       · rw[gz]
         try rw[gz]at hF; dsimp only[ak,aj]at hF
         refine aD ?_
         refine bnd hF fun fo jC hF=>aA (Tw jC) (fun _=>?_)
         refine aI ?_
         rcases bi fo with BO|BO
         · rw[BO]
           try rw[BO]at hF; dsimp only[ak,aj]at hF
           refine aD ?_
           refine bnd hF fun gD rO hF=>aA (jq rO) (fun _=>?_)
           exact aP hF
         rw[BO]
         try rw[BO]at hF; dsimp only[ak,aj]at hF
         exact aP hF
       rw[gz]
       try rw[gz]at hF; dsimp only[ak,aj]at hF
       exact aP hF
     rw[gu]
     try rw[gu]at hF; dsimp only[ak,aj]at hF
     exact aP hF
   rw[iH]
   try rw[iH]at hF; dsimp only[ak,aj]at hF
   exact aP hF
 rintro _ _ ⟨c24,Qt,rfl,rfl,hE⟩
 replace hF:=hO4
 try dsimp only at hF
 refine bz hE ?_
 exact ze hF
def vE(aa:List Int)(aJ:Method):Option (Bool):=
 ((qw aa aJ.Rel).bind fun r4=>
   bif r4 then ((ix aa aJ.Rel).bind fun x8=>
     (wZ aJ x8).bind fun ky=>
     some ky)
   else (some false)).bind fun o2=>
 match o2 with
 |c17=>some c17
theorem LM{aa:List Int}{ae:Sv}{aJ:Method}{dP:Sv}{R:Bool}(hF:vE aa aJ=some R):
   Fw.Spec Tryz.prog 78 [ae.v,(zg [(zi aJ.Rel),dP.v,(zi aJ.Limit),(zi aJ.Cost),(zi aJ.Quota)])] [aC ae aa,aC dP aJ.Inputs] (fun _:Unit=>(.bool R)) (fun _=>[]):=by
 refine Se 18 Tryz.func78 [.tmp 4] ?_
 intro H0 F0
 unfold vE at hF
 refine au ?_
 refine fe (fun k1=>?_)
 refine aI ?_
 obtain⟨o2,fB,hO3⟩:=bind_some hF
 refine fV [0,1,2,3,4,5,6,7,8,9,10,11,12,13] [0,0,2,7,15,31,31,31,159,479,991,2047,4095,8191] [3,11] mixed (by decide+kernel) ?_
 refine oV (fun f' cs'=>∃(c17:Bool)(g:Fr),c17=o2/\f'=aH g [(4,(.bool c17))]/\aF cs' []) ?_ ?_
 · replace hF:=fB
   refine gZ ?_
   refine bnd hF fun r4 hx5 hF=>cZ (zw hx5) (fun _=>?_)
   refine du ?_
   rcases bi r4 with a_|a_
   · rw[a_]
     try rw[a_]at hF; dsimp only[ak,aj]at hF
     refine rE ?_
     refine zI hF fun x8 PW rF hF=>?_
     refine Di rF (fun k12 j13=>?_)
     refine Dl dw ?_
     refine bnd hF fun ky jM hF=>cZ (K8 jM) (fun _=>?_)
     exact fP hF
   rw[a_]
   try rw[a_]at hF; dsimp only[ak,aj]at hF
   exact fP hF
 rintro _ _ ⟨c17,g18,rfl,rfl,hE⟩
 replace hF:=hO3
 try dsimp only at hF
 refine bz hE ?_
 exact ze hF
def nD(ry:Int):Option (Bool):=
 (gP ry 0 2).bind fun r1=>
 some r1
theorem zD{ry:Int}{R:Bool}(hF:nD ry=some R):
   Fw.Spec Tryz.prog 108 [(zi ry)] [] (fun _:Unit=>(.bool R)) (fun _=>[]):=by
 refine Se 5 Tryz.func108 [.tmp 2] ?_
 intro H0 F0
 unfold nD at hF
 refine aD ?_
 refine bnd hF fun r1 hx2 hF=>aA (jq hx2) (fun _=>?_)
 exact ze hF
def qg(bT:List (List UInt8))(dX:List UInt8):Option (List UInt8):=
 if bT.length<4294967296/\(Lib.join bT dX).length<4294967296 then some (Lib.join bT dX)else none
theorem CX{bT:List (List UInt8)}{ae:Sv}{dX R:List UInt8}(hF:qg bT dX=some R):
   Fw.Spec Tryz.prog 167 [ae.v,sv dX] [iY ae bT] (fun _:Unit=>(sv R)) (fun _=>[]):=by
 unfold qg at hF
 split at hF
 · rename_i h
   cases hF
   exact Ue iF.h.sz (Go.Proofs.Any.strings_Join_none NS extra) (Go.Proofs.Any.strings_Join NS extra) h.1 h.2
 · simp at hF
def tN(je:List UInt8):List Int->Nat->(List (List UInt8))->Option ((List UInt8))
 |[],k8,c2=>(qg c2 je).bind fun fo=>
   some fo
 |gN::df,k8,c2=>(iI gN).bind fun ib=>
   (app c2 ([ib]:List (List UInt8))).bind fun z26=>
   tN je df (k8+1) z26
def vK(bf:List Int)(je:List UInt8):Option ((List UInt8)):=
 tN je bf 0 ([]:List (List UInt8))
theorem Gl{bf:List Int}{ae:Sv}{je:List UInt8}{R:(List UInt8)}(hF:vK bf je=some R):
   Fw.Spec Tryz.prog 109 [ae.v,(sv je)] [aC ae bf] (fun _:Unit=>(sv R)) (fun _=>[]):=by
 refine Se 24 Tryz.func109 [.tmp 4] ?_
 intro H0 F0
 unfold vK at hF
 refine aB ?_
 refine fI rfl (eH (g:=true) gY.h iF.h .nil (vs:=[]) rfl rfl rfl (by simp)) (fun k1=>?_)
 refine fT (.cons .h .nil) (eT (Ro:=(aR rdStr)) (E:=9) (F:=[]) (xs:=([]:List (List UInt8))) eQ rfl rfl) ?_
 refine dh ?_
 refine bI (bY (m:=bf.length) (fun m6 f' cs'=>∃(g:Fr)(k8:Nat)(df:List Int)(c2:List (List UInt8))(v3:Sv)(F4:List Nat),m6=df.length/\f'=aH g [(1,(sv je)),(5,v3.v),(9,ae.v),(10,(zi (bf.length:Int))),(11,(zi (k8:Int)))]/\List.drop k8 bf=df/\aF cs' [uL F4 v3 c2,aC ae bf]/\tN je df k8 c2=some R) ⟨_,0,_,_,⟨(some ⟨k1,0,none⟩),0,1⟩,(k1::[]),rfl,aN,rfl,aL,hF⟩ ?_)
 rintro m6 _ _ ⟨g7,k8,df,c2,v3,F4,rfl,rfl,jh,hE,hF⟩
 refine Kb hE bf (fun Ep=>?_)
 rcases df with _|⟨gN,df⟩
 · have rR:=dn jh
   rw[tN]at hF
   refine aB ?_
   refine dI ?_
   refine bU ?_
   refine bnd hF fun fo jC hF=>cB (.cons .h .nil) (gL dm (fun _=>.nil) (bZ El.h bJ (CX jC))) (fun _=>?_)
   exact ze hF
 obtain⟨rR,eD,rT⟩:=dC jh
 rw[tN]at hF
 refine aB ?_
 refine dH ?_
 refine ay ?_
 refine Ai eD (fun k20 FB=>?_)
 refine Al dw ?_
 refine aD ?_
 refine bnd hF fun ib jL hF=>aA (kC jL) (fun _=>?_)
 refine fI rfl (eH (g:=true) gY.h iF.h bJ (vs:=[(sv ib)]) rfl rfl rfl (by intro v hv; simp at hv; rcases hv with rfl<;>rfl)) (fun k25=>?_)
 refine fT (.cons .h .nil) (eT (Ro:=(aR rdStr)) (E:=9) (F:=([]++[])) (xs:=([ib]:List (List UInt8))) (fK (iL (fun _=>rfl)) eQ dE) rfl rfl) ?_
 refine bnd hF fun z26 hx27 hF=>cB (.cons .q2 (.cons .h .nil)) (iJ (Ro:=(aR rdStr)) gY.h A7 iF.h rfl rfl rfl (.tmp rfl rfl) (.tmp rfl rfl) hx27 iM) (fun p28=>?_)
 refine bC ?_
 rw[wk k8]
 exact⟨_,cK _,_,k8+1,df,_,p28.1,p28.2,rfl,aN,rT,aL,hF⟩
def u7(aJ:Method):Option ((List UInt8)):=
 ((nD aJ.Rel).bind fun r4=>
   bif (!r4)then (some true)
   else ((wZ aJ 3).bind fun r8=>
     some (!r8))).bind fun o2=>
 match o2 with
 |c11=>if c11 then (
     some [])
   else (
     if (decide ((0:Int)<(aJ.Inputs.length:Int)))then (
       (vK aJ.Inputs [44]).bind fun bO=>
       (iI aJ.Rel).bind fun dV=>
       (aO [114] dV).bind fun mY=>
       (aO mY [32,105,110,32]).bind fun sw=>
       (aO sw bO).bind fun lL=>
       (aO lL [32,108,105,109,105,116,32]).bind fun x30=>
       (iI aJ.Limit).bind fun Ct=>
       (aO x30 Ct).bind fun jo=>
       (aO jo [32,99,111,115,116,32]).bind fun x41=>
       (iI aJ.Cost).bind fun Cu=>
       (aO x41 Cu).bind fun rZ=>
       (aO rZ [32,113,117,111,116,97,32]).bind fun lQ=>
       (iI aJ.Quota).bind fun uR=>
       (aO lQ uR).bind fun Cv=>
       some Cv)
     else (
       (iI aJ.Rel).bind fun Kh=>
       (aO [114] Kh).bind fun x66=>
       (aO x66 [32,105,110,32]).bind fun FP=>
       (aO FP [102,114,101,101]).bind fun FQ=>
       (aO FQ [32,108,105,109,105,116,32]).bind fun FR=>
       (iI aJ.Limit).bind fun sG=>
       (aO FR sG).bind fun x85=>
       (aO x85 [32,99,111,115,116,32]).bind fun x89=>
       (iI aJ.Cost).bind fun uQ=>
       (aO x89 uQ).bind fun x96=>
       (aO x96 [32,113,117,111,116,97,32]).bind fun x100=>
       (iI aJ.Quota).bind fun Ji=>
       (aO x100 Ji).bind fun x107=>
       some x107))
theorem KU{aJ:Method}{bA:Sv}{R:(List UInt8)}(hF:u7 aJ=some R):
   Fw.Spec Tryz.prog 79 [(zg [(zi aJ.Rel),bA.v,(zi aJ.Limit),(zi aJ.Cost),(zi aJ.Quota)])] [aC bA aJ.Inputs] (fun _:Unit=>(sv R)) (fun _=>[]):=by
 refine Se 42 Tryz.func79 [.tmp 2] ?_
 intro H0 F0
 unfold u7 at hF
 refine au ?_
 refine fe (fun k1=>?_)
 refine ay ?_
 obtain⟨o2,fB,hO3⟩:=bind_some hF
 refine au ?_
 refine b_ (fun f' cs'=>∃(c11:Bool)(g:Fr),c11=o2/\f'=aH g [(1,(pz k1)),(12,(.bool c11))]/\aF cs' [cu k1 43 (zg [(zi aJ.Rel),bA.v,(zi aJ.Limit),(zi aJ.Cost),(zi aJ.Quota)]),aC bA aJ.Inputs]) ?_ ?_
 · replace hF:=fB
   refine aI ?_
   refine bnd hF fun r4 hx5 hF=>aA (zD hx5) (fun _=>?_)
   refine aI ?_
   rcases bi (!r4)with a_|a_
   · rw[a_]
     try rw[a_]at hF; dsimp only[ak,aj]at hF
     exact aP hF
   rw[a_]
   try rw[a_]at hF; dsimp only[ak,aj]at hF
   refine ay ?_
   refine bnd hF fun r8 bQ hF=>aA (K8 bQ) (fun _=>?_)
   exact aP hF
 rintro _ _ ⟨c11,aet,rfl,rfl,hE⟩
 replace hF:=hO3
 try dsimp only at hF
 refine bz hE ?_
 refine Ci hF (fun Yn hF=>?_) (fun Yn hF=>?_)
 · exact ze hF
 refine Au ?_
 refine Ci hF (fun Yo hF=>?_) (fun Yo hF=>?_)
 · refine ay ?_
   refine bnd hF fun bO eD hF=>aA (Gl eD) (fun _=>?_)
   refine aI ?_
   refine fV [0,1,5,8,9,13,14,18,19,2,3,4,6,7,10,11,12,15,16,17,20,21,22] [0,1,3,7,15,0,63,127,0,256,775,2047,4095,0,8192,26375,65535,131071,0,262144,845575,2097151,4194303] [2,10,15,20] mixed (by decide+kernel) ?_
   refine EA ?_
   refine bnd hF fun dV hx16 hF=>cZ (kC hx16) (fun _=>?_)
   refine bnd hF fun mY mK hF=>?_
   obtain⟨aeu,aev⟩:=bq mK
   refine bg rfl .no (fun ha=>bu (s:=[114]) (t:=dV) (u:=mY) (EN ha (.sv _) rfl) (EN ha (.tmp rfl rfl) rfl) mK) ?_
   refine bnd hF fun sw jL hF=>?_
   obtain⟨aew,aex⟩:=bq jL
   refine bg rfl .no (fun ha=>bu (s:=mY) (t:=[32,105,110,32]) (u:=sw) (EN ha (.tmp rfl rfl) rfl) (EN ha (.sv _) rfl) jL) ?_
   refine bnd hF fun lL hx27 hF=>?_
   obtain⟨Zz,ZA⟩:=bq hx27
   refine bg rfl .no (fun ha=>bu (s:=sw) (t:=bO) (u:=lL) (EN ha (.tmp rfl rfl) rfl) (EN ha (.tmp rfl rfl) rfl) hx27) ?_
   refine bnd hF fun x30 hx31 hF=>?_
   obtain⟨PX,hz32⟩:=bq hx31
   refine bg rfl .no (fun ha=>bu (s:=lL) (t:=[32,108,105,109,105,116,32]) (u:=x30) (EN ha (.tmp rfl rfl) rfl) (EN ha (.sv _) rfl) hx31) ?_
   refine bnd hF fun Ct kL hF=>cZ (kC kL) (fun _=>?_)
   refine bnd hF fun jo hx38 hF=>?_
   obtain⟨aey,aez⟩:=bq hx38
   refine bg rfl .no (fun ha=>bu (s:=x30) (t:=Ct) (u:=jo) (EN ha (.tmp rfl rfl) rfl) (EN ha (.tmp rfl rfl) rfl) hx38) ?_
   refine bnd hF fun x41 PY hF=>?_
   obtain⟨aeA,aeB⟩:=bq PY
   refine bg rfl .no (fun ha=>bu (s:=jo) (t:=[32,99,111,115,116,32]) (u:=x41) (EN ha (.tmp rfl rfl) rfl) (EN ha (.sv _) rfl) PY) ?_
   refine bnd hF fun Cu E_ hF=>cZ (kC E_) (fun _=>?_)
   refine bnd hF fun rZ lH hF=>?_
   obtain⟨aeC,aeD⟩:=bq lH
   refine bg rfl .no (fun ha=>bu (s:=x41) (t:=Cu) (u:=rZ) (EN ha (.tmp rfl rfl) rfl) (EN ha (.tmp rfl rfl) rfl) lH) ?_
   refine bnd hF fun lQ rQ hF=>?_
   obtain⟨aaq,aar⟩:=bq rQ
   refine bg rfl .no (fun ha=>bu (s:=rZ) (t:=[32,113,117,111,116,97,32]) (u:=lQ) (EN ha (.tmp rfl rfl) rfl) (EN ha (.sv _) rfl) rQ) ?_
   refine bnd hF fun uR yA hF=>cZ (kC yA) (fun _=>?_)
   refine bnd hF fun Cv yu hF=>?_
   obtain⟨aeE,aeF⟩:=bq yu
   refine bg rfl .no (fun ha=>bu (s:=lQ) (t:=uR) (u:=Cv) (EN ha (.tmp rfl rfl) rfl) (EN ha (.tmp rfl rfl) rfl) yu) ?_
   refine fA ?_
   exact ze hF
 refine au ?_
 refine fV [0,1,5,8,9,13,14,18,19,2,3,4,6,7,10,11,12,15,16,17,20,21,22] [0,1,3,7,15,0,63,127,0,256,775,2047,4095,0,8192,26375,65535,131071,0,262144,845575,2097151,4194303] [2,10,15,20] mixed (by decide+kernel) ?_
 refine EA ?_
 refine bnd hF fun Kh aaF hF=>cZ (kC aaF) (fun _=>?_)
 refine bnd hF fun x66 PZ hF=>?_
 obtain⟨aeG,aeH⟩:=bq PZ
 refine bg rfl .no (fun ha=>bu (s:=[114]) (t:=Kh) (u:=x66) (EN ha (.sv _) rfl) (EN ha (.tmp rfl rfl) rfl) PZ) ?_
 refine bnd hF fun FP P5 hF=>?_
 obtain⟨aeI,aeJ⟩:=bq P5
 refine bg rfl .no (fun ha=>bu (s:=x66) (t:=[32,105,110,32]) (u:=FP) (EN ha (.tmp rfl rfl) rfl) (EN ha (.sv _) rfl) P5) ?_
 refine bnd hF fun FQ ER hF=>?_
 obtain⟨aeK,aeL⟩:=bq ER
 refine bg rfl .no (fun ha=>bu (s:=FP) (t:=[102,114,101,101]) (u:=FQ) (EN ha (.tmp rfl rfl) rfl) (EN ha (.tmp rfl rfl) rfl) ER) ?_
 refine bnd hF fun FR Fe hF=>?_
 obtain⟨aeM,aeN⟩:=bq Fe
 refine bg rfl .no (fun ha=>bu (s:=FQ) (t:=[32,108,105,109,105,116,32]) (u:=FR) (EN ha (.tmp rfl rfl) rfl) (EN ha (.sv _) rfl) Fe) ?_
 refine bnd hF fun sG Jj hF=>cZ (kC Jj) (fun _=>?_)
 refine bnd hF fun x85 EQ hF=>?_
 obtain⟨aeO,aeP⟩:=bq EQ
 refine bg rfl .no (fun ha=>bu (s:=FR) (t:=sG) (u:=x85) (EN ha (.tmp rfl rfl) rfl) (EN ha (.tmp rfl rfl) rfl) EQ) ?_
 refine bnd hF fun x89 hx90 hF=>?_
 obtain⟨aeQ,hz91⟩:=bq hx90
 refine bg rfl .no (fun ha=>bu (s:=x85) (t:=[32,99,111,115,116,32]) (u:=x89) (EN ha (.tmp rfl rfl) rfl) (EN ha (.sv _) rfl) hx90) ?_
 refine bnd hF fun uQ IR hF=>cZ (kC IR) (fun _=>?_)
 refine bnd hF fun x96 P6 hF=>?_
 obtain⟨aeR,aeS⟩:=bq P6
 refine bg rfl .no (fun ha=>bu (s:=x89) (t:=uQ) (u:=x96) (EN ha (.tmp rfl rfl) rfl) (EN ha (.tmp rfl rfl) rfl) P6) ?_
 refine bnd hF fun x100 hx101 hF=>?_
 obtain⟨acC,acD⟩:=bq hx101
 refine bg rfl .no (fun ha=>bu (s:=x96) (t:=[32,113,117,111,116,97,32]) (u:=x100) (EN ha (.tmp rfl rfl) rfl) (EN ha (.sv _) rfl) hx101) ?_
 refine bnd hF fun Ji Yp hF=>cZ (kC Yp) (fun _=>?_)
 refine bnd hF fun x107 O3 hF=>?_
 obtain⟨acE,acF⟩:=bq O3
 refine bg rfl .no (fun ha=>bu (s:=x100) (t:=Ji) (u:=x107) (EN ha (.tmp rfl rfl) rfl) (EN ha (.tmp rfl rfl) rfl) O3) ?_
 refine fA ?_
 exact ze hF
def zf(aa:List Int)(aM:List UInt8):Option (Method×Bool):=
 (lS aM [32]).bind fun r2=>
 (bif (((r2.length:Int):Int)==9)then ((ix r2 2).bind fun x9=>
     some (true,(!(x9==[102,114,101,101]))))
   else (some (false,false))).bind fun o6=>
 match o6 with
 |(c15,c16)=>if c16 then (
     (ix r2 2).bind fun mP=>
     (lS mP [44]).bind fun Cw=>
     (tV Cw).bind fun oq=>
     if (!oq.2)then (
       some ((⟨0,[],0,0,0⟩:Method),false))
     else (
       (ix r2 0).bind fun x29=>
       (kR x29 [114]).bind fun jR=>
       (gK jR).bind fun jT=>
       (ix r2 (IntKind.i64.wrap ((IntKind.i64.wrap (2*0))+4))).bind fun QH=>
       (gK QH).bind fun iq=>
       (ix r2 (IntKind.i64.wrap ((IntKind.i64.wrap (2*(IntKind.i64.wrap (0+1))))+4))).bind fun x55=>
       (gK x55).bind fun pX=>
       (ix r2 (IntKind.i64.wrap ((IntKind.i64.wrap (2*(IntKind.i64.wrap ((IntKind.i64.wrap (0+1))+1))))+4))).bind fun x66=>
       (gK x66).bind fun sH=>
       (bif (!jT.2)then (some true)
         else ((vE aa (⟨jT.1,oq.1,iq.1,pX.1,sH.1⟩:Method)).bind fun Cx=>
           bif (!Cx)then (some true)
           else ((u7 (⟨jT.1,oq.1,iq.1,pX.1,sH.1⟩:Method)).bind fun sG=>
             some (!(sG==aM))))).bind fun Cy=>
       match Cy with
       |c85=>if c85 then (
           some ((⟨0,[],0,0,0⟩:Method),false))
         else (
           some ((⟨jT.1,oq.1,iq.1,pX.1,sH.1⟩:Method),true))))
   else (
     if (!c15)then (
       some ((⟨0,[],0,0,0⟩:Method),false))
     else (
       (ix r2 0).bind fun x89=>
       (kR x89 [114]).bind fun QI=>
       (gK QI).bind fun mZ=>
       (ix r2 (IntKind.i64.wrap ((IntKind.i64.wrap (2*0))+4))).bind fun x104=>
       (gK x104).bind fun rU=>
       (ix r2 (IntKind.i64.wrap ((IntKind.i64.wrap (2*(IntKind.i64.wrap (0+1))))+4))).bind fun x115=>
       (gK x115).bind fun uF=>
       (ix r2 (IntKind.i64.wrap ((IntKind.i64.wrap (2*(IntKind.i64.wrap ((IntKind.i64.wrap (0+1))+1))))+4))).bind fun P7=>
       (gK P7).bind fun ww=>
       (bif (!mZ.2)then (some true)
         else ((vE aa (⟨mZ.1,[],rU.1,uF.1,ww.1⟩:Method)).bind fun Jk=>
           bif (!Jk)then (some true)
           else ((u7 (⟨mZ.1,[],rU.1,uF.1,ww.1⟩:Method)).bind fun Jl=>
             some (!(Jl==aM))))).bind fun Jm=>
       match Jm with
       |c145=>if c145 then (
           some ((⟨0,[],0,0,0⟩:Method),false))
         else (
           some ((⟨mZ.1,[],rU.1,uF.1,ww.1⟩:Method),true))))
theorem RJ{aa:List Int}{ae:Sv}{aM:List UInt8}{R:Method×Bool}(hF:zf aa aM=some R):
   Fw.Spec Tryz.prog 50 [ae.v,(sv aM)] [aC ae aa] (fun p:Sv×List Nat=>(.tuple [(zg [(zi R.1.Rel),p.1.v,(zi R.1.Limit),(zi R.1.Cost),(zi R.1.Quota)]),(.bool R.2)].toArray)) (fun p=>[bR p.2 p.1 R.1.Inputs]):=by
 refine Se 84 Tryz.func50 [.cell 4 43,.tmp 5] ?_
 intro H0 F0
 unfold zf at hF
 refine au ?_
 refine fD (fun k1=>?_)
 refine aB ?_
 refine bnd hF fun r2 hx3 hF=>dM (sN hx3) (fun p4=>?_)
 refine ay ?_
 refine ai (fM iN.h rfl (vs:=[]) .nil (cells:=[(zi 0),(.slice none 0 0),(zi 0),(zi 0),(zi 0)]) rfl) ?_
 refine fD (fun k5=>?_)
 refine As (zg [(zi 0),(.slice none 0 0),(zi 0),(zi 0),(zi 0)]) ?_
 refine dh ?_
 obtain⟨o6,Jn,Ki⟩:=bind_some hF
 refine au ?_
 refine b_ (fun f' cs'=>∃(c15 c16:Bool)(g:Fr),o6=(c15,c16)/\f'=aH g [(0,ae.v),(1,(sv aM)),(4,(pz k1)),(6,p4.v),(7,(pz k5)),(8,(.bool c15)),(23,(.bool c16))]/\aF cs' [aC ae aa,bV k1 43 (zg [(zi 0),(.slice none 0 0),(zi 0),(zi 0),(zi 0)]),iY p4 r2,bV k5 43 (zg [(zi 0),(.slice none 0 0),(zi 0),(zi 0),(zi 0)])]) ?_ ?_
 · replace hF:=Jn
   refine aI ?_
   rcases bi (((r2.length:Int):Int)==9)with iH|iH
   · rw[iH]
     try rw[iH]at hF; dsimp only[ak,aj]at hF
     refine ay ?_
     refine zI hF fun x9 aaw lc hF=>?_
     refine Ai lc (fun k13 om=>?_)
     refine au ?_
     refine Al eZ ?_
     refine au ?_
     refine ai (jI (s:=x9) (t:=[102,114,101,101]) (.tmp rfl rfl) (.sv _)) ?_
     exact EB hF
   rw[iH]
   try rw[iH]at hF; dsimp only[ak,aj]at hF
   exact EB hF
 rintro _ _ ⟨c15,c16,aeT,rfl,rfl,hE⟩
 replace hF:=Ki
 try dsimp only at hF
 refine bz hE ?_
 refine Ci hF (fun Yq hF=>?_) (fun Yq hF=>?_)
 · refine aI ?_
   refine zI hF fun mP Ba ik hF=>?_
   refine Ai ik (fun k21 j22=>?_)
   refine Al eZ ?_
   refine bnd hF fun Cw hx24 hF=>dM (sN hx24) (fun p25=>?_)
   refine bnd hF fun oq hx27 hF=>dM (Gc hx27) (fun p28=>?_)
   refine au ?_
   refine zx ?_
   refine zx ?_
   refine au ?_
   refine As (zg [(zi 0),p28.1.v,(zi 0),(zi 0),(zi 0)]) ?_
   refine bU ?_
   refine Ci hF (fun aaG hF=>?_) (fun aaG hF=>?_)
   · refine au ?_
     refine ai (fM iN.h rfl (vs:=[]) .nil (cells:=[(zi 0),(.slice none 0 0),(zi 0),(zi 0),(zi 0)]) rfl) ?_
     refine As (zg [(zi 0),(.slice none 0 0),(zi 0),(zi 0),(zi 0)]) ?_
     refine ay ?_
     cases hF
     exact dO (⟨none,0,0⟩,[]) (.cellA rfl rfl .h rfl nN.h iN.h.sz rfl rfl (.tmp rfl rfl .nil)) rfl (.conv .nil (dK (Ro:=(aR aY)) (E:=3)) (.cons .nil) (.sel (.cons .h .nil)))
   refine ay ?_
   refine zI hF fun x29 aeU hx32 hF=>?_
   refine Ai hx32 (fun yI j34=>?_)
   refine Al eZ ?_
   refine bnd hF fun jR kZ hF=>aA (wU kZ) (fun _=>?_)
   refine bnd hF fun jT hx39 hF=>aA (kS hx39) (fun _=>?_)
   refine au ?_
   refine zx ?_
   refine zx ?_
   refine au ?_
   refine As (zg [(zi jT.1),p28.1.v,(zi 0),(zi 0),(zi 0)]) ?_
   refine bU ?_
   refine cB .nil (Ol (post':=fun rY:Nat=>[eF (cO 118 (lw 1)) (.slice (some ⟨rY,0,none⟩) 3 1) ([(.pointer (some ⟨k5,0,some 2⟩)),(.pointer (some ⟨k5,0,some 3⟩)),(.pointer (some ⟨k5,0,some 4⟩))]:List Value)]) (fun rY=>.conv (.cons .h .nil) (eT (Ro:=aR (lw 1)) (E:=118) (F:=([]++([]++([]++[])))) (xs:=([(.pointer (some ⟨k5,0,some 2⟩)),(.pointer (some ⟨k5,0,some 3⟩)),(.pointer (some ⟨k5,0,some 4⟩))]:List Value)) (fK (xV (s:=1) (e:=(.pointer (some ⟨k5,0,some 2⟩))) rfl rfl) (fK (xV (s:=1) (e:=(.pointer (some ⟨k5,0,some 3⟩))) rfl rfl) (fK (xV (s:=1) (e:=(.pointer (some ⟨k5,0,some 4⟩))) rfl rfl) eQ dE) dE) dE) rfl rfl) dE (.frz .h dm aL)) (NM rfl (eH (g:=true) oZ.h uy.h bJ (vs:=[(.pointer (some ⟨k5,0,some 2⟩)),(.pointer (some ⟨k5,0,some 3⟩)),(.pointer (some ⟨k5,0,some 4⟩))]) rfl rfl rfl (by intro v hv; simp at hv; rcases hv with rfl|rfl|rfl<;>rfl)))) (fun rY=>?_)
   refine ai (qJ (l:=3) oZ.h (.tmp rfl rfl) ⟨_,_,rfl⟩) ?_
   refine aI ?_
   refine bI (Nn (m:=4) ?_)
   refine NN ?_
   refine aB ?_
   refine Cc (fun _=>?_) (fun hb=>absurd ((by decide:(decide ((0:Int)<3))=true).symm.trans hb) (by decide))
   refine aB ?_
   refine oQ (R:=lw 1) (a:=(.pointer (some ⟨k5,0,some 2⟩))) oZ.h uy.h.sz (.tmp rfl rfl) (.tmp rfl rfl) .h (by decide) rfl (fun k42 j43=>?_)
   refine Al (xW rfl) ?_
   refine gq ?_
   refine zI hF fun QH aeV kK hF=>?_
   refine Ai kK (fun mX j49=>?_)
   refine Al eZ ?_
   refine bnd hF fun iq mO hF=>aA (kS mO) (fun _=>?_)
   refine au ?_
   refine zx ?_
   refine zx ?_
   refine ai (xn (v:=(.pointer (some ⟨k5,0,some 2⟩))) rfl (.tmp rfl rfl)) ?_
   refine As (zg [(zi jT.1),p28.1.v,(zi iq.1),(zi 0),(zi 0)]) ?_
   refine aD ?_
   refine xM ?_
   refine aB ?_
   refine Cc (fun _=>?_) (fun hb=>absurd ((by decide:(decide (((IntKind.i64.wrap (0+1)):Int)<3))=true).symm.trans hb) (by decide))
   refine aB ?_
   refine oQ (R:=lw 1) (a:=(.pointer (some ⟨k5,0,some 3⟩))) oZ.h uy.h.sz (.tmp rfl rfl) (.tmp rfl rfl) .q3 (by decide) rfl (fun k53 j54=>?_)
   refine Al (xW rfl) ?_
   refine gq ?_
   refine zI hF fun x55 aeW yw hF=>?_
   refine Ai yw (fun Kk j60=>?_)
   refine Al eZ ?_
   refine bnd hF fun pX EI hF=>aA (kS EI) (fun _=>?_)
   refine au ?_
   refine zx ?_
   refine zx ?_
   refine ai (xn (v:=(.pointer (some ⟨k5,0,some 3⟩))) rfl (.tmp rfl rfl)) ?_
   refine As (zg [(zi jT.1),p28.1.v,(zi iq.1),(zi pX.1),(zi 0)]) ?_
   refine aD ?_
   refine xM ?_
   refine aB ?_
   refine Cc (fun _=>?_) (fun hb=>absurd ((by decide:(decide (((IntKind.i64.wrap ((IntKind.i64.wrap (0+1))+1)):Int)<3))=true).symm.trans hb) (by decide))
   refine aB ?_
   refine oQ (R:=lw 1) (a:=(.pointer (some ⟨k5,0,some 4⟩))) oZ.h uy.h.sz (.tmp rfl rfl) (.tmp rfl rfl) .q5 (by decide) rfl (fun k64 j65=>?_)
   refine Al (xW rfl) ?_
   refine gq ?_
   refine zI hF fun x66 aeX yx hF=>?_
   refine Ai yx (fun pR j71=>?_)
   refine Al eZ ?_
   refine bnd hF fun sH EJ hF=>aA (kS EJ) (fun _=>?_)
   refine au ?_
   refine zx ?_
   refine zx ?_
   refine ai (xn (v:=(.pointer (some ⟨k5,0,some 4⟩))) rfl (.tmp rfl rfl)) ?_
   refine As (zg [(zi jT.1),p28.1.v,(zi iq.1),(zi pX.1),(zi sH.1)]) ?_
   refine aD ?_
   refine xM ?_
   refine aB ?_
   refine Cc (fun hb=>absurd ((by decide:(decide (((IntKind.i64.wrap ((IntKind.i64.wrap ((IntKind.i64.wrap (0+1))+1))+1)):Int)<3))=false).symm.trans hb) (by decide)) (fun _=>?_)
   refine aD ?_
   obtain⟨Cy,Yr,aaH⟩:=bind_some hF
   refine au ?_
   refine b_ (fun f' cs'=>∃(c85:Bool)(g:Fr),c85=Cy/\f'=aH g [(4,(pz k1)),(7,(pz k5)),(81,(.bool c85))]/\aF cs' [bV k1 43 (zg [(zi 0),(.slice none 0 0),(zi 0),(zi 0),(zi 0)]),bV k5 43 (zg [(zi jT.1),p28.1.v,(zi iq.1),(zi pX.1),(zi sH.1)]),bR p28.2 p28.1 oq.1]) ?_ ?_
   · replace hF:=Yr
     refine ay ?_
     rcases bi (!jT.2)with BP|BP
     · rw[BP]
       try rw[BP]at hF; dsimp only[ak,aj]at hF
       exact aP hF
     rw[BP]
     try rw[BP]at hF; dsimp only[ak,aj]at hF
     refine aD ?_
     refine bnd hF fun Cx Fe hF=>cB (.cons .q9 (.rd .q11 rfl .nil)) (gL dm (fun _=>.nil) (nE (.rd (.t .h) rfl (.rd .h rfl .nil)) (bZ Zm.h bJ (@LM aa ae (⟨jT.1,oq.1,iq.1,pX.1,sH.1⟩:Method) p28.1 _ Fe)))) (fun _=>?_)
     refine aB ?_
     rcases bi (!Cx)with BQ|BQ
     · rw[BQ]
       try rw[BQ]at hF; dsimp only[ak,aj]at hF
       exact aP hF
     rw[BQ]
     try rw[BQ]at hF; dsimp only[ak,aj]at hF
     refine ay ?_
     refine bnd hF fun sG Jj hF=>cB (.cons .h .nil) (gL dm (fun _=>.nil) (bZ Zn.h bJ (@KU (⟨jT.1,oq.1,iq.1,pX.1,sH.1⟩:Method) p28.1 _ Jj))) (fun _=>?_)
     refine ay ?_
     refine ai (jI (s:=sG) (t:=aM) (.tmp rfl rfl) (.tmp rfl rfl)) ?_
     exact aP hF
   rintro _ _ ⟨c85,g87,rfl,rfl,hE⟩
   replace hF:=aaH
   try dsimp only at hF
   refine bz hE ?_
   refine Ci hF (fun aaI hF=>?_) (fun aaI hF=>?_)
   · refine au ?_
     refine ai (fM iN.h rfl (vs:=[]) .nil (cells:=[(zi 0),(.slice none 0 0),(zi 0),(zi 0),(zi 0)]) rfl) ?_
     refine As (zg [(zi 0),(.slice none 0 0),(zi 0),(zi 0),(zi 0)]) ?_
     refine ay ?_
     cases hF
     exact dO (⟨none,0,0⟩,[]) (.cellA rfl rfl .h rfl nN.h iN.h.sz rfl rfl (.tmp rfl rfl .nil)) rfl (.conv .nil (dK (Ro:=(aR aY)) (E:=3)) (.cons .nil) (.sel (.cons .h .nil)))
   refine ay ?_
   refine As (zg [(zi jT.1),p28.1.v,(zi iq.1),(zi pX.1),(zi sH.1)]) ?_
   refine ay ?_
   cases hF
   exact dO (p28.1,p28.2) (.cellA rfl rfl .h rfl nN.h iN.h.sz rfl rfl (.tmp rfl rfl .nil)) rfl (.sel (.cons .q2 .nil))
 refine bC ?_
 refine Ci hF (fun Yt hF=>?_) (fun Yt hF=>?_)
 · refine au ?_
   refine ai (fM iN.h rfl (vs:=[]) .nil (cells:=[(zi 0),(.slice none 0 0),(zi 0),(zi 0),(zi 0)]) rfl) ?_
   refine As (zg [(zi 0),(.slice none 0 0),(zi 0),(zi 0),(zi 0)]) ?_
   refine ay ?_
   cases hF
   exact dO (⟨none,0,0⟩,[]) (.cellA rfl rfl .h rfl nN.h iN.h.sz rfl rfl (.tmp rfl rfl .nil)) rfl (.conv .nil (dK (Ro:=(aR aY)) (E:=3)) (.cons .nil) (.sel (.cons .h .nil)))
 refine ay ?_
 refine zI hF fun x89 aeY ET hF=>?_
 refine Ai ET (fun k93 j94=>?_)
 refine Al eZ ?_
 refine bnd hF fun QI hx96 hF=>aA (wU hx96) (fun _=>?_)
 refine bnd hF fun mZ hx99 hF=>aA (kS hx99) (fun _=>?_)
 refine au ?_
 refine zx ?_
 refine zx ?_
 refine au ?_
 refine As (zg [(zi mZ.1),(.slice none 0 0),(zi 0),(zi 0),(zi 0)]) ?_
 refine bU ?_
 refine cB .nil (Ol (post':=fun Jo:Nat=>[eF (cO 118 (lw 1)) (.slice (some ⟨Jo,0,none⟩) 3 1) ([(.pointer (some ⟨k5,0,some 2⟩)),(.pointer (some ⟨k5,0,some 3⟩)),(.pointer (some ⟨k5,0,some 4⟩))]:List Value)]) (fun Jo=>.conv (.cons .h .nil) (eT (Ro:=aR (lw 1)) (E:=118) (F:=([]++([]++([]++[])))) (xs:=([(.pointer (some ⟨k5,0,some 2⟩)),(.pointer (some ⟨k5,0,some 3⟩)),(.pointer (some ⟨k5,0,some 4⟩))]:List Value)) (fK (xV (s:=1) (e:=(.pointer (some ⟨k5,0,some 2⟩))) rfl rfl) (fK (xV (s:=1) (e:=(.pointer (some ⟨k5,0,some 3⟩))) rfl rfl) (fK (xV (s:=1) (e:=(.pointer (some ⟨k5,0,some 4⟩))) rfl rfl) eQ dE) dE) dE) rfl rfl) dE (.frz .h dm aL)) (NM rfl (eH (g:=true) oZ.h uy.h bJ (vs:=[(.pointer (some ⟨k5,0,some 2⟩)),(.pointer (some ⟨k5,0,some 3⟩)),(.pointer (some ⟨k5,0,some 4⟩))]) rfl rfl rfl (by intro v hv; simp at hv; rcases hv with rfl|rfl|rfl<;>rfl)))) (fun Jo=>?_)
 refine ai (qJ (l:=3) oZ.h (.tmp rfl rfl) ⟨_,_,rfl⟩) ?_
 refine aI ?_
 refine bI (Nn (m:=4) ?_)
 refine NN ?_
 refine aB ?_
 refine Cc (fun _=>?_) (fun hb=>absurd ((by decide:(decide ((0:Int)<3))=true).symm.trans hb) (by decide))
 refine aB ?_
 refine oQ (R:=lw 1) (a:=(.pointer (some ⟨k5,0,some 2⟩))) oZ.h uy.h.sz (.tmp rfl rfl) (.tmp rfl rfl) .h (by decide) rfl (fun aeZ ae0=>?_)
 refine Al (xW rfl) ?_
 refine gq ?_
 refine zI hF fun x104 acG Yu hF=>?_
 refine Ai Yu (fun ae1 ae2=>?_)
 refine Al eZ ?_
 refine bnd hF fun rU Yv hF=>aA (kS Yv) (fun _=>?_)
 refine au ?_
 refine zx ?_
 refine zx ?_
 refine ai (xn (v:=(.pointer (some ⟨k5,0,some 2⟩))) rfl (.tmp rfl rfl)) ?_
 refine As (zg [(zi mZ.1),(.slice none 0 0),(zi rU.1),(zi 0),(zi 0)]) ?_
 refine aD ?_
 refine xM ?_
 refine aB ?_
 refine Cc (fun _=>?_) (fun hb=>absurd ((by decide:(decide (((IntKind.i64.wrap (0+1)):Int)<3))=true).symm.trans hb) (by decide))
 refine aB ?_
 refine oQ (R:=lw 1) (a:=(.pointer (some ⟨k5,0,some 3⟩))) oZ.h uy.h.sz (.tmp rfl rfl) (.tmp rfl rfl) .q3 (by decide) rfl (fun ae3 ae4=>?_)
 refine Al (xW rfl) ?_
 refine gq ?_
 refine zI hF fun x115 acH Hf hF=>?_
 refine Ai Hf (fun ae5 ae6=>?_)
 refine Al eZ ?_
 refine bnd hF fun uF Hg hF=>aA (kS Hg) (fun _=>?_)
 refine au ?_
 refine zx ?_
 refine zx ?_
 refine ai (xn (v:=(.pointer (some ⟨k5,0,some 3⟩))) rfl (.tmp rfl rfl)) ?_
 refine As (zg [(zi mZ.1),(.slice none 0 0),(zi rU.1),(zi uF.1),(zi 0)]) ?_
 refine aD ?_
 refine xM ?_
 refine aB ?_
 refine Cc (fun _=>?_) (fun hb=>absurd ((by decide:(decide (((IntKind.i64.wrap ((IntKind.i64.wrap (0+1))+1)):Int)<3))=true).symm.trans hb) (by decide))
 refine aB ?_
 refine oQ (R:=lw 1) (a:=(.pointer (some ⟨k5,0,some 4⟩))) oZ.h uy.h.sz (.tmp rfl rfl) (.tmp rfl rfl) .q5 (by decide) rfl (fun ae7 ae8=>?_)
 refine Al (xW rfl) ?_
 refine gq ?_
 refine zI hF fun P7 acI Yw hF=>?_
 refine Ai Yw (fun ae9 ae_=>?_)
 refine Al eZ ?_
 refine bnd hF fun ww Hw hF=>aA (kS Hw) (fun _=>?_)
 refine au ?_
 refine zx ?_
 refine zx ?_
 refine ai (xn (v:=(.pointer (some ⟨k5,0,some 4⟩))) rfl (.tmp rfl rfl)) ?_
 refine As (zg [(zi mZ.1),(.slice none 0 0),(zi rU.1),(zi uF.1),(zi ww.1)]) ?_
 refine aD ?_
 refine xM ?_
 refine aB ?_
 refine Cc (fun hb=>absurd ((by decide:(decide (((IntKind.i64.wrap ((IntKind.i64.wrap ((IntKind.i64.wrap (0+1))+1))+1)):Int)<3))=false).symm.trans hb) (by decide)) (fun _=>?_)
 refine aD ?_
 obtain⟨Jm,VT,Yx⟩:=bind_some hF
 refine au ?_
 refine b_ (fun f' cs'=>∃(c145:Bool)(g:Fr),c145=Jm/\f'=aH g [(4,(pz k1)),(7,(pz k5)),(81,(.bool c145))]/\aF cs' [bV k1 43 (zg [(zi 0),(.slice none 0 0),(zi 0),(zi 0),(zi 0)]),bV k5 43 (zg [(zi mZ.1),(.slice none 0 0),(zi rU.1),(zi uF.1),(zi ww.1)])]) ?_ ?_
 · replace hF:=VT
   refine ay ?_
   rcases bi (!mZ.2)with AP|AP
   · rw[AP]
     try rw[AP]at hF; dsimp only[ak,aj]at hF
     exact aP hF
   rw[AP]
   try rw[AP]at hF; dsimp only[ak,aj]at hF
   refine aD ?_
   refine fT .nil (xS (R:=aY) (E:=3)) ?_
   refine bnd hF fun Jk Yy hF=>aA (@LM _ _ _ (⟨none,0,0⟩) _ Yy) (fun _=>?_)
   refine aB ?_
   rcases bi (!Jk)with AQ|AQ
   · rw[AQ]
     try rw[AQ]at hF; dsimp only[ak,aj]at hF
     exact aP hF
   rw[AQ]
   try rw[AQ]at hF; dsimp only[ak,aj]at hF
   refine ay ?_
   refine bnd hF fun Jl Yz hF=>aA (@KU _ (⟨none,0,0⟩) _ Yz) (fun _=>?_)
   refine ay ?_
   refine ai (jI (s:=Jl) (t:=aM) (.tmp rfl rfl) (.tmp rfl rfl)) ?_
   exact aP hF
 rintro _ _ ⟨c145,ae',rfl,rfl,hE⟩
 replace hF:=Yx
 try dsimp only at hF
 refine bz hE ?_
 refine Ci hF (fun YA hF=>?_) (fun YA hF=>?_)
 · refine au ?_
   refine ai (fM iN.h rfl (vs:=[]) .nil (cells:=[(zi 0),(.slice none 0 0),(zi 0),(zi 0),(zi 0)]) rfl) ?_
   refine As (zg [(zi 0),(.slice none 0 0),(zi 0),(zi 0),(zi 0)]) ?_
   refine ay ?_
   cases hF
   exact dO (⟨none,0,0⟩,[]) (.cellA rfl rfl .h rfl nN.h iN.h.sz rfl rfl (.tmp rfl rfl .nil)) rfl (.conv .nil (dK (Ro:=(aR aY)) (E:=3)) (.cons .nil) (.sel (.cons .h .nil)))
 refine ay ?_
 refine As (zg [(zi mZ.1),(.slice none 0 0),(zi rU.1),(zi uF.1),(zi ww.1)]) ?_
 refine ay ?_
 cases hF
 exact dO (⟨none,0,0⟩,[]) (.cellA rfl rfl .h rfl nN.h iN.h.sz rfl rfl (.tmp rfl rfl .nil)) rfl (.conv .nil (dK (Ro:=(aR aY)) (E:=3)) (.cons .nil) (.sel (.cons .h .nil)))
def yZ(sF:Int)(bD:Int):Option (Bool):=
 (gP sF 0 (IntKind.i64.wrap (bD-1))).bind fun r1=>
 some (!r1)
theorem Rs{sF:Int}{dJ:Nat}{bD:Int}{R:Bool}(hF:yZ sF bD=some R):
   Fw.Spec Tryz.prog 180 [(zi sF),(pz dJ)] [cu dJ 3 (zi bD)] (fun _:Unit=>(.bool R)) (fun _=>[]):=by
 refine Se 9 Tryz.func180 [.tmp 3] ?_
 intro H0 F0
 unfold yZ at hF
 refine bU ?_
 refine bnd hF fun r1 hx2 hF=>aA (jq hx2) (fun _=>?_)
 exact ze hF
def wO(bD:Int):List Int->Nat->Option (Int)
 |[],k4=>some (-1)
 |x6::aK,k4=>(yZ x6 bD).bind fun dV=>
   if dV then (
     some (k4:Int))
   else (
     wO bD aK (k4+1))
def CL(aa:List Int)(bD:Int):Option (Int):=
 wO bD aa 0
theorem QU{aa:List Int}{ae:Sv}{dJ:Nat}{bD R:Int}(hF:CL aa bD=some R):
   Fw.Spec Tryz.prog 228 [ae.v,(.func (.func 180) [].toArray [(pz dJ)].toArray)] [aC ae aa,cu dJ 3 (zi bD)] (fun _:Unit=>(zi R)) (fun _=>[]):=by
 refine Se 19 Tryz.func228 [.tmp 4] ?_
 intro H0 F0
 unfold CL at hF
 refine gq ?_
 refine bI (bY (m:=aa.length) (fun m2 f' cs'=>∃(g:Fr)(k4:Nat)(aK:List Int),m2=aK.length/\f'=aH g [(0,ae.v),(1,(.func (.func 180) [].toArray [(pz dJ)].toArray)),(7,(zi (aa.length:Int))),(8,(zi (k4:Int)))]/\List.drop k4 aa=aK/\aF cs' [aC ae aa,cu dJ 3 (zi bD)]/\wO bD aK k4=some R) ⟨_,0,_,rfl,aN,rfl,aL,hF⟩ ?_)
 rintro m2 _ _ ⟨g3,k4,aK,rfl,rfl,hd7,hE,hF⟩
 refine Kb hE aa (fun mF=>?_)
 rcases aK with _|⟨x6,aK⟩
 · have h_:=dn hd7
   rw[wO]at hF
   refine aB ?_
   refine dI ?_
   exact ze hF
 obtain⟨h_,bQ,g_⟩:=dC hd7
 rw[wO]at hF
 refine aB ?_
 refine dH ?_
 refine kG ?_
 refine Ai bQ (fun k13 om=>?_)
 refine Al dw ?_
 refine bnd hF fun dV hx16 hF=>mH (.rd .q2 rfl .nil) (ui WX.h (.tmp rfl rfl) bJ (Rs hx16)) (fun _=>?_)
 refine au ?_
 refine Ci hF (fun nZ hF=>?_) (fun nZ hF=>?_)
 · exact ze hF
 refine aD ?_
 rw[wk k4]
 exact⟨_,cK _,_,k4+1,aK,rfl,aN,g_,aL,hF⟩
def yM(aa:List Int)(bD:Int):Option (Bool):=
 (CL aa bD).bind fun r1=>
 some (decide ((0:Int)<=r1))
theorem QS{aa:List Int}{ae:Sv}{dJ:Nat}{bD:Int}{R:Bool}(hF:yM aa bD=some R):
   Fw.Spec Tryz.prog 164 [ae.v,(.func (.func 180) [].toArray [(pz dJ)].toArray)] [aC ae aa,cu dJ 3 (zi bD)] (fun _:Unit=>(.bool R)) (fun _=>[]):=by
 refine Se 9 Tryz.func164 [.tmp 4] ?_
 intro H0 F0
 unfold yM at hF
 refine bC ?_
 refine bnd hF fun r1 hx2 hF=>aA (QU hx2) (fun _=>?_)
 exact ze hF
def wW(bf:List Int)(qD:Int):Option (Bool):=
 (yM bf qD).bind fun r2=>
 some (!r2)
theorem KV{bf:List Int}{ae:Sv}{qD:Int}{R:Bool}(hF:wW bf qD=some R):
   Fw.Spec Tryz.prog 124 [ae.v,(zi qD)] [aC ae bf] (fun _:Unit=>(.bool R)) (fun _=>[]):=by
 refine Se 9 Tryz.func124 [.tmp 4] ?_
 intro H0 F0
 unfold wW at hF
 refine au ?_
 refine fe (fun k1=>?_)
 refine aB ?_
 refine ai (mh (fn:=.func 180) (vs:=[]) (us:=[(pz k1)]) .nil bJ) ?_
 refine bnd hF fun r2 hx3 hF=>aA (QS hx3) (fun _=>?_)
 exact ze hF
def zV(aa:List Int)(bE:eU):Option (Bool):=
 ((qw aa bE.From).bind fun r4=>
   bif r4 then ((qw aa bE.To).bind fun r8=>
     bif r8 then ((ix aa bE.To).bind fun sj=>
       bif (((bE.Map.length:Int):Int)==sj)then ((ix aa bE.From).bind fun kM=>
         (wW bE.Map kM).bind fun QJ=>
         some QJ)
       else (some false))
     else (some false))
   else (some false)).bind fun o2=>
 match o2 with
 |c28=>some c28
theorem Tx{aa:List Int}{ae:Sv}{bE:eU}{rM:Sv}{R:Bool}(hF:zV aa bE=some R):
   Fw.Spec Tryz.prog 83 [ae.v,(zg [(zi bE.From),(zi bE.To),rM.v])] [aC ae aa,aC rM bE.Map] (fun _:Unit=>(.bool R)) (fun _=>[]):=by
 refine Se 36 Tryz.func83 [.tmp 4] ?_
 intro H0 F0
 unfold zV at hF
 refine au ?_
 refine fe (fun k1=>?_)
 refine aI ?_
 obtain⟨o2,fB,hO3⟩:=bind_some hF
 refine fV [0,1,2,3,4,5,6,7,8,9,10,11,12,13,14,15,16,17,18,19,20,21,22,23,24,25,26,27,28,29,30,31] [0,0,2,7,15,31,31,95,255,511,1023,2047,4095,8191,2047,2047,34815,116735,247807,524287,1048575,2097151,4194303,8388607,4194303,4194303,37748735,121634815,255852543,536870911,1073741823,2147483647] [3,8,29] mixed (by decide+kernel) ?_
 refine oV (fun f' cs'=>∃(c28:Bool)(g:Fr),c28=o2/\f'=aH g [(4,(.bool c28))]/\aF cs' []) ?_ ?_
 · replace hF:=fB
   refine gZ ?_
   refine bnd hF fun r4 hx5 hF=>cZ (zw hx5) (fun _=>?_)
   refine du ?_
   rcases bi r4 with a_|a_
   · rw[a_]
     try rw[a_]at hF; dsimp only[ak,aj]at hF
     refine gZ ?_
     refine bnd hF fun r8 bQ hF=>cZ (zw bQ) (fun _=>?_)
     refine fA ?_
     rcases bi r8 with bM|bM
     · rw[bM]
       try rw[bM]at hF; dsimp only[ak,aj]at hF
       refine uE ?_
       refine zI hF fun sj EP jM hF=>?_
       refine Di jM (fun k16 Fz=>?_)
       refine Dl dw ?_
       refine gZ ?_
       rcases bi (((bE.Map.length:Int):Int)==sj)with BR|BR
       · rw[BR]
         try rw[BR]at hF; dsimp only[ak,aj]at hF
         refine A9 ?_
         refine zI hF fun kM afa rO hF=>?_
         refine Di rO (fun k23 j24=>?_)
         refine Dl dw ?_
         refine bnd hF fun QJ nP hF=>cZ (KV nP) (fun _=>?_)
         exact fP hF
       rw[BR]
       try rw[BR]at hF; dsimp only[ak,aj]at hF
       exact fP hF
     rw[bM]
     try rw[bM]at hF; dsimp only[ak,aj]at hF
     exact fP hF
   rw[a_]
   try rw[a_]at hF; dsimp only[ak,aj]at hF
   exact fP hF
 rintro _ _ ⟨c28,g29,rfl,rfl,hE⟩
 replace hF:=hO3
 try dsimp only at hF
 refine bz hE ?_
 exact ze hF
def zn(bE:eU):Option ((List UInt8)):=
 ((nD bE.From).bind fun r4=>
   bif (!r4)then (some true)
   else ((nD bE.To).bind fun r8=>
     bif (!r8)then (some true)
     else ((gP (bE.Map.length:Int) 1 3).bind fun bO=>
       bif (!bO)then (some true)
       else ((wW bE.Map 3).bind fun r16=>
         some (!r16))))).bind fun o2=>
 match o2 with
 |c19=>if c19 then (
     some [])
   else (
     (iI bE.From).bind fun fE=>
     (aO [114] fE).bind fun jS=>
     (aO jS [32,103,105,118,101,115,32,114]).bind fun x27=>
     (iI bE.To).bind fun jm=>
     (aO x27 jm).bind fun x34=>
     (aO x34 [32]).bind fun x38=>
     (vK bE.Map [44]).bind fun yK=>
     (aO x38 yK).bind fun Kl=>
     some Kl)
theorem RX{bE:eU}{nV:Sv}{R:(List UInt8)}(hF:zn bE=some R):
   Fw.Spec Tryz.prog 84 [(zg [(zi bE.From),(zi bE.To),nV.v])] [aC nV bE.Map] (fun _:Unit=>(sv R)) (fun _=>[]):=by
 refine Se 40 Tryz.func84 [.tmp 2] ?_
 intro H0 F0
 unfold zn at hF
 refine au ?_
 refine fe (fun k1=>?_)
 refine ay ?_
 obtain⟨o2,fB,hO3⟩:=bind_some hF
 refine au ?_
 refine b_ (fun f' cs'=>∃(c19:Bool)(g:Fr),c19=o2/\f'=aH g [(1,(pz k1)),(25,(.bool c19))]/\aF cs' [cu k1 47 (zg [(zi bE.From),(zi bE.To),nV.v]),aC nV bE.Map]) ?_ ?_
 · replace hF:=fB
   refine aI ?_
   refine bnd hF fun r4 hx5 hF=>aA (zD hx5) (fun _=>?_)
   refine aI ?_
   rcases bi (!r4)with a_|a_
   · rw[a_]
     try rw[a_]at hF; dsimp only[ak,aj]at hF
     exact aP hF
   rw[a_]
   try rw[a_]at hF; dsimp only[ak,aj]at hF
   refine aD ?_
   refine bnd hF fun r8 bQ hF=>aA (zD bQ) (fun _=>?_)
   refine aB ?_
   rcases bi (!r8)with bM|bM
   · rw[bM]
     try rw[bM]at hF; dsimp only[ak,aj]at hF
     exact aP hF
   rw[bM]
   try rw[bM]at hF; dsimp only[ak,aj]at hF
   refine bU ?_
   refine bnd hF fun bO eD hF=>aA (jq eD) (fun _=>?_)
   refine aB ?_
   rcases bi (!bO)with gy|gy
   · rw[gy]
     try rw[gy]at hF; dsimp only[ak,aj]at hF
     exact aP hF
   rw[gy]
   try rw[gy]at hF; dsimp only[ak,aj]at hF
   refine aD ?_
   refine bnd hF fun r16 jf hF=>aA (KV jf) (fun _=>?_)
   exact aP hF
 rintro _ _ ⟨c19,g50,rfl,rfl,hE⟩
 replace hF:=hO3
 try dsimp only at hF
 refine bz hE ?_
 refine Ci hF (fun Jf hF=>?_) (fun Jf hF=>?_)
 · exact ze hF
 refine au ?_
 refine fV [0,1,5,6,10,11,2,3,4,7,8,9,12,13,14] [0,1,3,7,15,0,32,103,255,511,0,1024,3303,8191,16383] [2,7,12] mixed (by decide+kernel) ?_
 refine uE ?_
 refine bnd hF fun fE j3 hF=>cZ (kC j3) (fun _=>?_)
 refine bnd hF fun jS hx24 hF=>?_
 obtain⟨P8,P9⟩:=bq hx24
 refine bg rfl .no (fun ha=>bu (s:=[114]) (t:=fE) (u:=jS) (EN ha (.sv _) rfl) (EN ha (.tmp rfl rfl) rfl) hx24) ?_
 refine bnd hF fun x27 hx28 hF=>?_
 obtain⟨IP,IQ⟩:=bq hx28
 refine bg rfl .no (fun ha=>bu (s:=jS) (t:=[32,103,105,118,101,115,32,114]) (u:=x27) (EN ha (.tmp rfl rfl) rfl) (EN ha (.sv _) rfl) hx28) ?_
 refine bnd hF fun jm hx32 hF=>cZ (kC hx32) (fun _=>?_)
 refine bnd hF fun x34 kL hF=>?_
 obtain⟨EC,ED⟩:=bq kL
 refine bg rfl .no (fun ha=>bu (s:=x27) (t:=jm) (u:=x34) (EN ha (.tmp rfl rfl) rfl) (EN ha (.tmp rfl rfl) rfl) kL) ?_
 refine bnd hF fun x38 hx39 hF=>?_
 obtain⟨Ij,Ik⟩:=bq hx39
 refine bg rfl .no (fun ha=>bu (s:=x34) (t:=[32]) (u:=x38) (EN ha (.tmp rfl rfl) rfl) (EN ha (.sv _) rfl) hx39) ?_
 refine bnd hF fun yK il hF=>cZ (Gl il) (fun _=>?_)
 refine bnd hF fun Kl E_ hF=>?_
 obtain⟨afb,afc⟩:=bq E_
 refine bg rfl .no (fun ha=>bu (s:=x38) (t:=yK) (u:=Kl) (EN ha (.tmp rfl rfl) rfl) (EN ha (.tmp rfl rfl) rfl) E_) ?_
 refine fA ?_
 exact ze hF
def zz(aa:List Int)(aM:List UInt8):Option (eU×Bool):=
 (lS aM [32]).bind fun r2=>
 if (((r2.length:Int):Int)!=4)then (
   some ((⟨0,0,[]⟩:eU),false))
 else (
   (ix r2 0).bind fun x6=>
   (kR x6 [114]).bind fun bO=>
   (gK bO).bind fun dV=>
   (ix r2 2).bind fun mY=>
   (kR mY [114]).bind fun gV=>
   (gK gV).bind fun kP=>
   (ix r2 3).bind fun x30=>
   (lS x30 [44]).bind fun gU=>
   (tV gU).bind fun eG=>
   ((zV aa (⟨dV.1,kP.1,eG.1⟩:eU)).bind fun Km=>
     bif (!Km)then (some true)
     else ((zn (⟨dV.1,kP.1,eG.1⟩:eU)).bind fun mU=>
       some (!(mU==aM)))).bind fun Kn=>
   match Kn with
   |c51=>if c51 then (
       some ((⟨0,0,[]⟩:eU),false))
     else (
       some ((⟨dV.1,kP.1,eG.1⟩:eU),true)))
theorem Sl{aa:List Int}{ae:Sv}{aM:List UInt8}{R:eU×Bool}(hF:zz aa aM=some R):
   Fw.Spec Tryz.prog 53 [ae.v,(sv aM)] [aC ae aa] (fun p:Sv×List Nat=>(.tuple [(zg [(zi R.1.From),(zi R.1.To),p.1.v]),(.bool R.2)].toArray)) (fun p=>[bR p.2 p.1 R.1.Map]):=by
 refine Se 54 Tryz.func53 [.cell 4 47,.tmp 5] ?_
 intro H0 F0
 unfold zz at hF
 refine au ?_
 refine fD (fun k1=>?_)
 refine aB ?_
 refine bnd hF fun r2 hx3 hF=>dM (sN hx3) (fun p4=>?_)
 refine dh ?_
 refine Ci hF (fun Jp hF=>?_) (fun Jp hF=>?_)
 · refine au ?_
   refine ai (fM lG.h rfl (vs:=[]) .nil (cells:=[(zi 0),(zi 0),(.slice none 0 0)]) rfl) ?_
   refine As (zg [(zi 0),(zi 0),(.slice none 0 0)]) ?_
   refine ay ?_
   cases hF
   exact dO (⟨none,0,0⟩,[]) (.cellA rfl rfl .h rfl yn.h lG.h.sz rfl rfl (.tmp rfl rfl .nil)) rfl (.conv .nil (dK (Ro:=(aR aY)) (E:=3)) (.cons .nil) (.sel (.cons .h .nil)))
 refine aI ?_
 refine ai (fM lG.h rfl (vs:=[]) .nil (cells:=[(zi 0),(zi 0),(.slice none 0 0)]) rfl) ?_
 refine fD (fun k5=>?_)
 refine As (zg [(zi 0),(zi 0),(.slice none 0 0)]) ?_
 refine ay ?_
 refine zI hF fun x6 hp8 bQ hF=>?_
 refine Ai bQ (fun k10 j11=>?_)
 refine Al eZ ?_
 refine bnd hF fun bO eD hF=>aA (wU eD) (fun _=>?_)
 refine bnd hF fun dV hx16 hF=>aA (kS hx16) (fun _=>?_)
 refine au ?_
 refine zx ?_
 refine zx ?_
 refine au ?_
 refine As (zg [(zi dV.1),(zi 0),(.slice none 0 0)]) ?_
 refine ay ?_
 refine zI hF fun mY H_ j3 hF=>?_
 refine Ai j3 (fun k22 j23=>?_)
 refine Al eZ ?_
 refine bnd hF fun gV hx25 hF=>aA (wU hx25) (fun _=>?_)
 refine bnd hF fun kP hx28 hF=>aA (kS hx28) (fun _=>?_)
 refine au ?_
 refine zx ?_
 refine zx ?_
 refine au ?_
 refine As (zg [(zi dV.1),(zi kP.1),(.slice none 0 0)]) ?_
 refine ay ?_
 refine zI hF fun x30 afd rH hF=>?_
 refine Ai rH (fun k34 j35=>?_)
 refine Al eZ ?_
 refine bnd hF fun gU A_ hF=>dM (sN A_) (fun p38=>?_)
 refine bnd hF fun eG kY hF=>dM (Gc kY) (fun p41=>?_)
 refine au ?_
 refine zx ?_
 refine zx ?_
 refine au ?_
 refine As (zg [(zi dV.1),(zi kP.1),p41.1.v]) ?_
 refine aI ?_
 obtain⟨Kn,YB,aaJ⟩:=bind_some hF
 refine au ?_
 refine b_ (fun f' cs'=>∃(c51:Bool)(g:Fr),c51=Kn/\f'=aH g [(4,(pz k1)),(7,(pz k5)),(51,(.bool c51))]/\aF cs' [bV k1 47 (zg [(zi 0),(zi 0),(.slice none 0 0)]),bV k5 47 (zg [(zi dV.1),(zi kP.1),p41.1.v]),bR p41.2 p41.1 eG.1]) ?_ ?_
 · replace hF:=YB
   refine aI ?_
   refine bnd hF fun Km Iy hF=>cB (.cons (.t .h) (.rd .q7 rfl .nil)) (gL dm (fun _=>.nil) (nE (.rd (.t .h) rfl (.rd .h rfl .nil)) (bZ Zo.h bJ (Tx Iy)))) (fun _=>?_)
   refine aI ?_
   rcases bi (!Km)with nQ|nQ
   · rw[nQ]
     try rw[nQ]at hF; dsimp only[ak,aj]at hF
     exact aP hF
   rw[nQ]
   try rw[nQ]at hF; dsimp only[ak,aj]at hF
   refine ay ?_
   refine bnd hF fun mU lH hF=>cB (.cons .h .nil) (gL dm (fun _=>.nil) (bZ Zp.h bJ (RX lH))) (fun _=>?_)
   refine ay ?_
   refine ai (jI (s:=mU) (t:=aM) (.tmp rfl rfl) (.tmp rfl rfl)) ?_
   exact aP hF
 rintro _ _ ⟨c51,g53,rfl,rfl,hE⟩
 replace hF:=aaJ
 try dsimp only at hF
 refine bz hE ?_
 refine Ci hF (fun Bw hF=>?_) (fun Bw hF=>?_)
 · refine au ?_
   refine ai (fM lG.h rfl (vs:=[]) .nil (cells:=[(zi 0),(zi 0),(.slice none 0 0)]) rfl) ?_
   refine As (zg [(zi 0),(zi 0),(.slice none 0 0)]) ?_
   refine ay ?_
   cases hF
   exact dO (⟨none,0,0⟩,[]) (.cellA rfl rfl .h rfl yn.h lG.h.sz rfl rfl (.tmp rfl rfl .nil)) rfl (.conv .nil (dK (Ro:=(aR aY)) (E:=3)) (.cons .nil) (.sel (.cons .h .nil)))
 refine ay ?_
 refine As (zg [(zi dV.1),(zi kP.1),p41.1.v]) ?_
 refine ay ?_
 cases hF
 exact dO (p41.1,p41.2) (.cellA rfl rfl .h rfl yn.h lG.h.sz rfl rfl (.tmp rfl rfl .nil)) rfl (.sel (.cons .q2 .nil))
def yU(aa dX:List UInt8):Option Int:=
 if aa.length<4294967281 then some (Lib.index aa dX)else none
theorem Rb{aa dX:List UInt8}{R:Int}(hF:yU aa dX=some R):
   Fw.Spec Tryz.prog 97 [sv aa,sv dX] [] (fun _:Unit=>(zi R)) (fun _=>[]):=by
 unfold yU at hF
 split at hF
 · rename_i h1
   cases hF
   exact Tk VH (fun _=>.int _ _) fun w hv=>by
     obtain⟨m,hm⟩:=(iB.cellI (P:=Tryz.prog) (fun w0 (h:aV.V Tryz.prog w0)=>And.right (And.right (And.right h))) hv.choose_spec)
     exact SN Ve aa dX m w h1 hm
 · simp at hF
def yV(aa:List UInt8)(dX:List UInt8):Option ((List UInt8)×(List UInt8)×Bool):=
 (yU aa dX).bind fun r1=>
 if (decide ((0:Int)<=r1))then (
   (kg (decide (0<=r1)&&decide (r1<=((aa).length:Int)))).bind fun u5=>
   (kg (decide (0<=(IntKind.i64.wrap (r1+(dX.length:Int))))&&decide ((IntKind.i64.wrap (r1+(dX.length:Int)))<=((aa).length:Int)))).bind fun u8=>
   some ((aa.take (r1).toNat),(aa.drop ((IntKind.i64.wrap (r1+(dX.length:Int)))).toNat),true))
 else (
   some (aa,[],false))
theorem Re{aa dX:List UInt8}{R:(List UInt8)×(List UInt8)×Bool}(hF:yV aa dX=some R):
   Fw.Spec Tryz.prog 66 [(sv aa),(sv dX)] [] (fun _:Unit=>(.tuple [(sv R.1),(sv R.2.1),(.bool R.2.2)].toArray)) (fun _=>[]):=by
 refine Se 23 Tryz.func66 [.tmp 4,.tmp 5,.tmp 6] ?_
 intro H0 F0
 unfold yV at hF
 refine gq ?_
 refine bnd hF fun r1 hx2 hF=>aA (Rb hx2) (fun _=>?_)
 refine bC ?_
 refine Ci hF (fun aaK hF=>?_) (fun aaK hF=>?_)
 · refine fV [0,1,2,3,4,5,6,7,8,9,10,11] [0,0,3,0,0,0,32,112,248,7,1023,2047] [] mixed (by decide+kernel) ?_
   refine fA ?_
   refine bnd hF fun u5 hx6 hF=>?_
   have hc4:=mi hx6
   simp only[Bool.and_eq_true,decide_eq_true_eq]at hc4
   refine bg rfl .no (fun ha=>Dt (s:=aa) (j:=r1) dN (EN ha (.tmp rfl rfl) rfl) (EN ha (.tmp rfl rfl) rfl) hc4.1 hc4.2) ?_
   refine gZ ?_
   refine bg rfl .no (fun ha=>iK (s:=dX) dN (EN ha (.tmp rfl rfl) rfl)) ?_
   refine du ?_
   refine bnd hF fun u8 bQ hF=>?_
   have Ko:=mi bQ
   simp only[Bool.and_eq_true,decide_eq_true_eq]at Ko
   refine bg rfl .no (fun ha=>zJ (s:=aa) (i:=(IntKind.i64.wrap (r1+(dX.length:Int)))) dN (EN ha (.tmp rfl rfl) rfl) (EN ha (.tmp rfl rfl) rfl) Ko.1 Ko.2) ?_
   refine rE ?_
   exact ze hF
 exact ze hF
def tF(aa:List UInt8)(dX:List UInt8):Option ((List UInt8)×(List UInt8)×Bool):=
 (yV aa dX).bind fun r1=>
 some (r1.1,r1.2.1,r1.2.2)
theorem K9{aa dX:List UInt8}{R:(List UInt8)×(List UInt8)×Bool}(hF:tF aa dX=some R):
   Fw.Spec Tryz.prog 29 [(sv aa),(sv dX)] [] (fun _:Unit=>(.tuple [(sv R.1),(sv R.2.1),(.bool R.2.2)].toArray)) (fun _=>[]):=by
 refine Se 13 Tryz.func29 [.tmp 4,.tmp 5,.tmp 6] ?_
 intro H0 F0
 unfold tF at hF
 refine dh ?_
 refine bnd hF fun r1 hx2 hF=>aA (Re hx2) (fun _=>?_)
 refine zx ?_
 refine zx ?_
 refine zx ?_
 exact ze hF
def qb(aa:List UInt8)(eO:List UInt8):Option (Bool):=
 (bif (decide (((eO.length:Int):Int)<=(aa.length:Int)))then ((kg (decide (0<=(IntKind.i64.wrap ((aa.length:Int)-(eO.length:Int))))&&decide ((IntKind.i64.wrap ((aa.length:Int)-(eO.length:Int)))<=((aa).length:Int)))).bind fun u5=>
     some ((aa.drop ((IntKind.i64.wrap ((aa.length:Int)-(eO.length:Int)))).toNat)==eO))
   else (some false)).bind fun o1=>
 match o1 with
 |c7=>some c7
theorem KF{aa eO:List UInt8}{R:Bool}(hF:qb aa eO=some R):
   Fw.Spec Tryz.prog 181 [(sv aa),(sv eO)] [] (fun _:Unit=>(.bool R)) (fun _=>[]):=by
 refine Se 21 Tryz.func181 [.tmp 4] ?_
 intro H0 F0
 unfold qb at hF
 refine ay ?_
 obtain⟨o1,jZ,hO2⟩:=bind_some hF
 refine au ?_
 refine b_ (fun f' cs'=>∃(c7:Bool)(g:Fr),c7=o1/\f'=aH g [(4,(.bool c7))]/\aF cs' []) ?_ ?_
 · replace hF:=jZ
   refine au ?_
   refine ai (iK (s:=aa) dN (.tmp rfl rfl)) ?_
   refine au ?_
   refine ai (iK (s:=eO) dN (.tmp rfl rfl)) ?_
   refine aI ?_
   rcases bi (decide (((eO.length:Int):Int)<=(aa.length:Int)))with hg3|hg3
   · rw[hg3]
     try rw[hg3]at hF; dsimp only[ak,aj]at hF
     refine aD ?_
     refine ai (iK (s:=aa) dN (.tmp rfl rfl)) ?_
     refine ay ?_
     refine ai (iK (s:=eO) dN (.tmp rfl rfl)) ?_
     refine ay ?_
     refine bnd hF fun u5 hx6 hF=>?_
     have hc4:0<=(IntKind.i64.wrap ((aa.length:Int)-(eO.length:Int)))/\(IntKind.i64.wrap ((aa.length:Int)-(eO.length:Int)))<=((aa).length:Int):=by (have hq:=mi hx6; clear hF; simp only[Bool.and_eq_true,decide_eq_true_eq]at*; omega)
     refine ai (zJ (s:=aa) (i:=(IntKind.i64.wrap ((aa.length:Int)-(eO.length:Int)))) dN (.tmp rfl rfl) (.tmp rfl rfl) hc4.1 hc4.2) ?_
     refine ay ?_
     refine ai (uu (s:=(aa.drop ((IntKind.i64.wrap ((aa.length:Int)-(eO.length:Int)))).toNat)) (t:=eO) (.tmp rfl rfl) (.tmp rfl rfl)) ?_
     exact aP hF
   rw[hg3]
   try rw[hg3]at hF; dsimp only[ak,aj]at hF
   exact aP hF
 rintro _ _ ⟨c7,g8,rfl,rfl,hE⟩
 replace hF:=hO2
 try dsimp only at hF
 refine bz hE ?_
 exact ze hF
def uX(aa:List UInt8)(eO:List UInt8):Option (Bool):=
 (qb aa eO).bind fun r1=>
 some r1
theorem Rn{aa eO:List UInt8}{R:Bool}(hF:uX aa eO=some R):
   Fw.Spec Tryz.prog 125 [(sv aa),(sv eO)] [] (fun _:Unit=>(.bool R)) (fun _=>[]):=by
 refine Se 8 Tryz.func125 [.tmp 4] ?_
 intro H0 F0
 unfold uX at hF
 refine bC ?_
 refine bnd hF fun r1 hx2 hF=>aA (KF hx2) (fun _=>?_)
 exact ze hF
def yS(aa:List UInt8)(eO:List UInt8):Option ((List UInt8)):=
 (qb aa eO).bind fun r1=>
 if r1 then (
   (kg (decide (0<=(IntKind.i64.wrap ((aa.length:Int)-(eO.length:Int))))&&decide ((IntKind.i64.wrap ((aa.length:Int)-(eO.length:Int)))<=((aa).length:Int)))).bind fun u5=>
   some (aa.take ((IntKind.i64.wrap ((aa.length:Int)-(eO.length:Int)))).toNat))
 else (
   some aa)
theorem Q9{aa eO:List UInt8}{R:(List UInt8)}(hF:yS aa eO=some R):
   Fw.Spec Tryz.prog 182 [(sv aa),(sv eO)] [] (fun _:Unit=>(sv R)) (fun _=>[]):=by
 refine Se 16 Tryz.func182 [.tmp 4] ?_
 intro H0 F0
 unfold yS at hF
 refine bU ?_
 refine bnd hF fun r1 hx2 hF=>aA (KF hx2) (fun _=>?_)
 refine au ?_
 refine Ci hF (fun Ke hF=>?_) (fun Ke hF=>?_)
 · refine ay ?_
   refine ai (iK (s:=aa) dN (.tmp rfl rfl)) ?_
   refine au ?_
   refine ai (iK (s:=eO) dN (.tmp rfl rfl)) ?_
   refine au ?_
   refine bnd hF fun u5 hx6 hF=>?_
   have hc4:=mi hx6
   simp only[Bool.and_eq_true,decide_eq_true_eq]at hc4
   refine ai (Dt (s:=aa) (j:=(IntKind.i64.wrap ((aa.length:Int)-(eO.length:Int)))) dN (.tmp rfl rfl) (.tmp rfl rfl) hc4.1 hc4.2) ?_
   exact ze hF
 exact ze hF
def sJ(aa:List UInt8)(eO:List UInt8):Option ((List UInt8)):=
 (yS aa eO).bind fun r1=>
 some r1
theorem Rm{aa eO:List UInt8}{R:(List UInt8)}(hF:sJ aa eO=some R):
   Fw.Spec Tryz.prog 126 [(sv aa),(sv eO)] [] (fun _:Unit=>(sv R)) (fun _=>[]):=by
 refine Se 8 Tryz.func126 [.tmp 4] ?_
 intro H0 F0
 unfold sJ at hF
 refine bC ?_
 refine bnd hF fun r1 hx2 hF=>aA (Q9 hx2) (fun _=>?_)
 exact ze hF
def tX(DI:List UInt8)(aM:List UInt8):Option (Int×(List (List UInt8))×Bool):=
 (tF aM [40]).bind fun r1=>
 (kR r1.1 DI).bind fun r4=>
 (gK r4).bind fun r7=>
 (bif (!r1.2.2)then (some true)
   else (bif (!r7.2)then (some true)
     else ((uX r1.2.1 [41]).bind fun ky=>
       some (!ky)))).bind fun wL=>
 match wL with
 |c17=>if c17 then (
     some (0,[],false))
   else (
     (sJ r1.2.1 [41]).bind fun gM=>
     if (gM==[])then (
       some (r7.1,[],true))
     else (
       (lS gM [44]).bind fun gD=>
       some (r7.1,gD,true)))
theorem LP{DI aM:List UInt8}{R:Int×(List (List UInt8))×Bool}(hF:tX DI aM=some R):
   Fw.Spec Tryz.prog 86 [(sv DI),(sv aM)] [] (fun p:Sv=>(.tuple [(zi R.1),p.v,(.bool R.2.2)].toArray)) (fun p=>[iY p R.2.1]):=by
 refine Se 45 Tryz.func86 [.tmp 4,.tmp 5,.tmp 6] ?_
 intro H0 F0
 unfold tX at hF
 refine bU ?_
 refine bnd hF fun r1 hx2 hF=>aA (K9 hx2) (fun _=>?_)
 refine au ?_
 refine zx ?_
 refine zx ?_
 refine zx ?_
 refine bU ?_
 refine bnd hF fun r4 hx5 hF=>aA (wU hx5) (fun _=>?_)
 refine bnd hF fun r7 iG hF=>aA (kS iG) (fun _=>?_)
 refine au ?_
 refine zx ?_
 refine zx ?_
 refine aB ?_
 obtain⟨wL,Hl,II⟩:=bind_some hF
 refine au ?_
 refine b_ (fun f' cs'=>∃(c17:Bool)(g:Fr),c17=wL/\f'=aH g [(8,(sv r1.2.1)),(10,(zi r7.1)),(36,(.bool c17))]/\aF cs' []) ?_ ?_
 · replace hF:=Hl
   refine ay ?_
   rcases bi (!r1.2.2)with gu|gu
   · rw[gu]
     try rw[gu]at hF; dsimp only[ak,aj]at hF
     exact aP hF
   rw[gu]
   try rw[gu]at hF; dsimp only[ak,aj]at hF
   refine bC ?_
   rcases bi (!r7.2)with BS|BS
   · rw[BS]
     try rw[BS]at hF; dsimp only[ak,aj]at hF
     exact aP hF
   rw[BS]
   try rw[BS]at hF; dsimp only[ak,aj]at hF
   refine ay ?_
   refine bnd hF fun ky jM hF=>aA (Rn jM) (fun _=>?_)
   exact aP hF
 rintro _ _ ⟨c17,g26,rfl,rfl,hE⟩
 replace hF:=II
 try dsimp only at hF
 refine bz hE ?_
 refine Ci hF (fun BB hF=>?_) (fun BB hF=>?_)
 · refine bC ?_
   cases hF
   exact dO (⟨none,0,0⟩) (.tmp rfl rfl (.tmp rfl rfl (.tmp rfl rfl .nil))) rfl (.conv .nil (xS (R:=rdStr) (E:=9)) (.cons .nil) (.sel (.rd .h rfl .nil)))
 refine ay ?_
 refine bnd hF fun gM mK hF=>aA (Rm mK) (fun _=>?_)
 refine aD ?_
 refine ai (uu (s:=gM) (t:=[]) (.tmp rfl rfl) (.sv _)) ?_
 refine au ?_
 refine Ci hF (fun H7 hF=>?_) (fun H7 hF=>?_)
 · refine bU ?_
   cases hF
   exact dO (⟨none,0,0⟩) (.tmp rfl rfl (.tmp rfl rfl (.tmp rfl rfl .nil))) rfl (.conv .nil (xS (R:=rdStr) (E:=9)) (.cons .nil) (.sel (.rd .h rfl .nil)))
 refine aB ?_
 refine bnd hF fun gD rO hF=>dM (sN rO) (fun p23=>?_)
 refine aD ?_
 cases hF
 exact Er p23
def zM(bX:Int):Option (Bool):=
 (gP bX 0 9).bind fun r1=>
 some r1
theorem Mc{bX:Int}{R:Bool}(hF:zM bX=some R):
   Fw.Spec Tryz.prog 184 [(zi bX)] [] (fun _:Unit=>(.bool R)) (fun _=>[]):=by
 refine Se 5 Tryz.func184 [.tmp 2] ?_
 intro H0 F0
 unfold zM at hF
 refine aD ?_
 refine bnd hF fun r1 hx2 hF=>aA (jq hx2) (fun _=>?_)
 exact ze hF
def Db(bX:Int):Option (Bool):=
 (zM bX).bind fun r1=>
 some (!r1)
theorem RL{bX:Int}{R:Bool}(hF:Db bX=some R):
   Fw.Spec Tryz.prog 183 [(zi bX)] [] (fun _:Unit=>(.bool R)) (fun _=>[]):=by
 refine Se 6 Tryz.func183 [.tmp 2] ?_
 intro H0 F0
 unfold Db at hF
 refine aD ?_
 refine bnd hF fun r1 hx2 hF=>aA (Mc hx2) (fun _=>?_)
 exact ze hF
def wQ:List Int->Nat->Option (Int)
 |[],k4=>some (-1)
 |x6::aK,k4=>(Db x6).bind fun dV=>
   if dV then (
     some (k4:Int))
   else (
     wQ aK (k4+1))
def CQ(aa:List Int):Option (Int):=
 wQ aa 0
theorem Q4{aa:List Int}{ae:Sv}{R:Int}(hF:CQ aa=some R):
   Fw.Spec Tryz.prog 228 [ae.v,(.func (.func 183) [].toArray [].toArray)] [aC ae aa] (fun _:Unit=>(zi R)) (fun _=>[]):=by
 refine Se 19 Tryz.func228 [.tmp 4] ?_
 intro H0 F0
 unfold CQ at hF
 refine gq ?_
 refine bI (bY (m:=aa.length) (fun m2 f' cs'=>∃(g:Fr)(k4:Nat)(aK:List Int),m2=aK.length/\f'=aH g [(0,ae.v),(1,(.func (.func 183) [].toArray [].toArray)),(7,(zi (aa.length:Int))),(8,(zi (k4:Int)))]/\List.drop k4 aa=aK/\aF cs' [aC ae aa]/\wQ aK k4=some R) ⟨_,0,_,rfl,aN,rfl,aL,hF⟩ ?_)
 rintro m2 _ _ ⟨g3,k4,aK,rfl,rfl,hd7,hE,hF⟩
 refine Kb hE aa (fun mF=>?_)
 rcases aK with _|⟨x6,aK⟩
 · have h_:=dn hd7
   rw[wQ]at hF
   refine aB ?_
   refine dI ?_
   exact ze hF
 obtain⟨h_,bQ,g_⟩:=dC hd7
 rw[wQ]at hF
 refine aB ?_
 refine dH ?_
 refine kG ?_
 refine Ai bQ (fun k13 om=>?_)
 refine Al dw ?_
 refine bnd hF fun dV hx16 hF=>mH .nil (ui WY.h (.tmp rfl rfl) bJ (RL hx16)) (fun _=>?_)
 refine au ?_
 refine Ci hF (fun nZ hF=>?_) (fun nZ hF=>?_)
 · exact ze hF
 refine aD ?_
 rw[wk k4]
 exact⟨_,cK _,_,k4+1,aK,rfl,aN,g_,aL,hF⟩
def yO(aa:List Int):Option (Bool):=
 (CQ aa).bind fun r1=>
 some (decide ((0:Int)<=r1))
theorem QV{aa:List Int}{ae:Sv}{R:Bool}(hF:yO aa=some R):
   Fw.Spec Tryz.prog 164 [ae.v,(.func (.func 183) [].toArray [].toArray)] [aC ae aa] (fun _:Unit=>(.bool R)) (fun _=>[]):=by
 refine Se 9 Tryz.func164 [.tmp 4] ?_
 intro H0 F0
 unfold yO at hF
 refine bC ?_
 refine bnd hF fun r1 hx2 hF=>aA (Q4 hx2) (fun _=>?_)
 exact ze hF
def xh(bf:List Int):Option (Bool):=
 (yO bf).bind fun r1=>
 some (!r1)
theorem Lj{bf:List Int}{ae:Sv}{R:Bool}(hF:xh bf=some R):
   Fw.Spec Tryz.prog 127 [ae.v] [aC ae bf] (fun _:Unit=>(.bool R)) (fun _=>[]):=by
 refine Se 6 Tryz.func127 [.tmp 2] ?_
 intro H0 F0
 unfold xh at hF
 refine aD ?_
 refine bnd hF fun r1 hx2 hF=>aA (QV hx2) (fun _=>?_)
 exact ze hF
def zW(aa:List Int)(bS:Fact):Option (Bool):=
 ((qw aa bS.Rel).bind fun r4=>
   bif r4 then ((ix aa bS.Rel).bind fun x8=>
     bif (((bS.Values.length:Int):Int)==x8)then ((xh bS.Values).bind fun dV=>
       some dV)
     else (some false))
   else (some false)).bind fun o2=>
 match o2 with
 |c18=>some c18
theorem Ty{aa:List Int}{ae:Sv}{bS:Fact}{dP:Sv}{R:Bool}(hF:zW aa bS=some R):
   Fw.Spec Tryz.prog 87 [ae.v,(zg [(zi bS.Rel),dP.v])] [aC ae aa,aC dP bS.Values] (fun _:Unit=>(.bool R)) (fun _=>[]):=by
 refine Se 25 Tryz.func87 [.tmp 4] ?_
 intro H0 F0
 unfold zW at hF
 refine au ?_
 refine fe (fun k1=>?_)
 refine aI ?_
 obtain⟨o2,fB,hO3⟩:=bind_some hF
 refine fV [0,1,2,3,4,5,6,7,8,9,10,11,12,13,14,15,16,17,18,19,20] [0,0,2,7,15,31,63,127,31,31,543,1823,3871,8191,16383,32767,65535,131071,262143,524287,1048575] [3,18] mixed (by decide+kernel) ?_
 refine oV (fun f' cs'=>∃(c18:Bool)(g:Fr),c18=o2/\f'=aH g [(4,(.bool c18))]/\aF cs' []) ?_ ?_
 · replace hF:=fB
   refine gZ ?_
   refine bnd hF fun r4 hx5 hF=>cZ (zw hx5) (fun _=>?_)
   refine du ?_
   rcases bi r4 with a_|a_
   · rw[a_]
     try rw[a_]at hF; dsimp only[ak,aj]at hF
     refine uE ?_
     refine zI hF fun x8 PW rF hF=>?_
     refine Di rF (fun k12 j13=>?_)
     refine Dl dw ?_
     refine gZ ?_
     rcases bi (((bS.Values.length:Int):Int)==x8)with n_|n_
     · rw[n_]
       try rw[n_]at hF; dsimp only[ak,aj]at hF
       refine fA ?_
       refine bnd hF fun dV hx16 hF=>cZ (Lj hx16) (fun _=>?_)
       exact fP hF
     rw[n_]
     try rw[n_]at hF; dsimp only[ak,aj]at hF
     exact fP hF
   rw[a_]
   try rw[a_]at hF; dsimp only[ak,aj]at hF
   exact fP hF
 rintro _ _ ⟨c18,g19,rfl,rfl,hE⟩
 replace hF:=hO3
 try dsimp only at hF
 refine bz hE ?_
 exact ze hF
def zo(bS:Fact):Option ((List UInt8)):=
 ((nD bS.Rel).bind fun r4=>
   bif (!r4)then (some true)
   else ((gP (bS.Values.length:Int) 1 3).bind fun r8=>
     bif (!r8)then (some true)
     else ((xh bS.Values).bind fun bO=>
       some (!bO)))).bind fun o2=>
 match o2 with
 |c15=>if c15 then (
     some [])
   else (
     (iI bS.Rel).bind fun r16=>
     (aO [114] r16).bind fun kM=>
     (aO kM [40]).bind fun jS=>
     (vK bS.Values [44]).bind fun kP=>
     (aO jS kP).bind fun x30=>
     (aO x30 [41]).bind fun x34=>
     some x34)
theorem RY{bS:Fact}{bA:Sv}{R:(List UInt8)}(hF:zo bS=some R):
   Fw.Spec Tryz.prog 88 [(zg [(zi bS.Rel),bA.v])] [aC bA bS.Values] (fun _:Unit=>(sv R)) (fun _=>[]):=by
 refine Se 30 Tryz.func88 [.tmp 2] ?_
 intro H0 F0
 unfold zo at hF
 refine au ?_
 refine fe (fun k1=>?_)
 refine ay ?_
 obtain⟨o2,fB,hO3⟩:=bind_some hF
 refine au ?_
 refine b_ (fun f' cs'=>∃(c15:Bool)(g:Fr),c15=o2/\f'=aH g [(1,(pz k1)),(19,(.bool c15))]/\aF cs' [cu k1 51 (zg [(zi bS.Rel),bA.v]),aC bA bS.Values]) ?_ ?_
 · replace hF:=fB
   refine aI ?_
   refine bnd hF fun r4 hx5 hF=>aA (zD hx5) (fun _=>?_)
   refine aI ?_
   rcases bi (!r4)with a_|a_
   · rw[a_]
     try rw[a_]at hF; dsimp only[ak,aj]at hF
     exact aP hF
   rw[a_]
   try rw[a_]at hF; dsimp only[ak,aj]at hF
   refine bU ?_
   refine bnd hF fun r8 bQ hF=>aA (jq bQ) (fun _=>?_)
   refine aB ?_
   rcases bi (!r8)with bM|bM
   · rw[bM]
     try rw[bM]at hF; dsimp only[ak,aj]at hF
     exact aP hF
   rw[bM]
   try rw[bM]at hF; dsimp only[ak,aj]at hF
   refine aD ?_
   refine bnd hF fun bO eD hF=>aA (Lj eD) (fun _=>?_)
   exact aP hF
 rintro _ _ ⟨c15,JV,rfl,rfl,hE⟩
 replace hF:=hO3
 try dsimp only at hF
 refine bz hE ?_
 refine Ci hF (fun nT hF=>?_) (fun nT hF=>?_)
 · exact ze hF
 refine au ?_
 refine fV [0,1,5,6,2,3,4,7,8,9,10] [0,1,3,7,15,0,32,103,255,511,1023] [2,7] mixed (by decide+kernel) ?_
 refine rE ?_
 refine bnd hF fun r16 jf hF=>cZ (kC jf) (fun _=>?_)
 refine bnd hF fun kM ik hF=>?_
 obtain⟨Pq,Ps⟩:=bq ik
 refine bg rfl .no (fun ha=>bu (s:=[114]) (t:=r16) (u:=kM) (EN ha (.sv _) rfl) (EN ha (.tmp rfl rfl) rfl) ik) ?_
 refine bnd hF fun jS hx24 hF=>?_
 obtain⟨P8,P9⟩:=bq hx24
 refine bg rfl .no (fun ha=>bu (s:=kM) (t:=[40]) (u:=jS) (EN ha (.tmp rfl rfl) rfl) (EN ha (.sv _) rfl) hx24) ?_
 refine bnd hF fun kP hx28 hF=>cZ (Gl hx28) (fun _=>?_)
 refine bnd hF fun x30 hx31 hF=>?_
 obtain⟨PX,hz32⟩:=bq hx31
 refine bg rfl .no (fun ha=>bu (s:=jS) (t:=kP) (u:=x30) (EN ha (.tmp rfl rfl) rfl) (EN ha (.tmp rfl rfl) rfl) hx31) ?_
 refine bnd hF fun x34 kL hF=>?_
 obtain⟨EC,ED⟩:=bq kL
 refine bg rfl .no (fun ha=>bu (s:=x30) (t:=[41]) (u:=x34) (EN ha (.tmp rfl rfl) rfl) (EN ha (.sv _) rfl) kL) ?_
 refine fA ?_
 exact ze hF
def xk(aa:List Int)(aM:List UInt8):Option (Fact×Bool):=
 (tX [114] aM).bind fun r2=>
 (tV r2.2.1).bind fun r5=>
 (bif (!r2.2.2)then (some true)
   else (bif (!r5.2)then (some true)
     else ((zW aa (⟨r2.1,r5.1⟩:Fact)).bind fun lM=>
       bif (!lM)then (some true)
       else ((zo (⟨r2.1,r5.1⟩:Fact)).bind fun fo=>
         some (!(fo==aM)))))).bind fun o9=>
 match o9 with
 |c20=>if c20 then (
     some ((⟨0,[]⟩:Fact),false))
   else (
     some ((⟨r2.1,r5.1⟩:Fact),true))
theorem Ll{aa:List Int}{ae:Sv}{aM:List UInt8}{R:Fact×Bool}(hF:xk aa aM=some R):
   Fw.Spec Tryz.prog 56 [ae.v,(sv aM)] [aC ae aa] (fun p:Sv×List Nat=>(.tuple [(zg [(zi R.1.Rel),p.1.v]),(.bool R.2)].toArray)) (fun p=>[bR p.2 p.1 R.1.Values]):=by
 refine Se 46 Tryz.func56 [.cell 4 51,.tmp 5] ?_
 intro H0 F0
 unfold xk at hF
 refine au ?_
 refine fD (fun k1=>?_)
 refine aB ?_
 refine bnd hF fun r2 hx3 hF=>dM (LP hx3) (fun p4=>?_)
 refine au ?_
 refine zx ?_
 refine zx ?_
 refine zx ?_
 refine bC ?_
 refine bnd hF fun r5 hx6 hF=>dM (Gc hx6) (fun p7=>?_)
 refine au ?_
 refine zx ?_
 refine zx ?_
 refine bC ?_
 refine ai (fM uD.h rfl (vs:=[(zi r2.1),p7.1.v]) bJ (cells:=[(zi r2.1),p7.1.v]) rfl) ?_
 refine fD (fun k8=>?_)
 refine As (zg [(zi r2.1),p7.1.v]) ?_
 refine aI ?_
 obtain⟨o9,aaL,aaM⟩:=bind_some hF
 refine au ?_
 refine b_ (fun f' cs'=>∃(c20:Bool)(g:Fr),c20=o9/\f'=aH g [(4,(pz k1)),(11,(pz k8)),(43,(.bool c20))]/\aF cs' [bV k1 51 (zg [(zi 0),(.slice none 0 0)]),bV k8 51 (zg [(zi r2.1),p7.1.v]),bR p7.2 p7.1 r5.1]) ?_ ?_
 · replace hF:=aaL
   refine ay ?_
   rcases bi (!r2.2.2)with bM|bM
   · rw[bM]
     try rw[bM]at hF; dsimp only[ak,aj]at hF
     exact aP hF
   rw[bM]
   try rw[bM]at hF; dsimp only[ak,aj]at hF
   refine bC ?_
   rcases bi (!r5.2)with gu|gu
   · rw[gu]
     try rw[gu]at hF; dsimp only[ak,aj]at hF
     exact aP hF
   rw[gu]
   try rw[gu]at hF; dsimp only[ak,aj]at hF
   refine aD ?_
   refine bnd hF fun lM j4 hF=>cB (.cons (.t .h) (.rd .q3 rfl .nil)) (gL dm (fun _=>.nil) (nE (.rd (.t .h) rfl (.rd .h rfl .nil)) (bZ Zq.h bJ (Ty j4)))) (fun _=>?_)
   refine aB ?_
   rcases bi (!lM)with gz|gz
   · rw[gz]
     try rw[gz]at hF; dsimp only[ak,aj]at hF
     exact aP hF
   rw[gz]
   try rw[gz]at hF; dsimp only[ak,aj]at hF
   refine ay ?_
   refine bnd hF fun fo jC hF=>cB (.cons .h .nil) (gL dm (fun _=>.nil) (bZ Zr.h bJ (RY jC))) (fun _=>?_)
   refine ay ?_
   refine ai (jI (s:=fo) (t:=aM) (.tmp rfl rfl) (.tmp rfl rfl)) ?_
   exact aP hF
 rintro _ _ ⟨c20,g22,rfl,rfl,hE⟩
 replace hF:=aaM
 try dsimp only at hF
 refine bz hE ?_
 refine Ci hF (fun aaN hF=>?_) (fun aaN hF=>?_)
 · refine au ?_
   refine ai (fM uD.h rfl (vs:=[]) .nil (cells:=[(zi 0),(.slice none 0 0)]) rfl) ?_
   refine As (zg [(zi 0),(.slice none 0 0)]) ?_
   refine ay ?_
   cases hF
   exact dO (⟨none,0,0⟩,[]) (.cellA rfl rfl .h rfl Ev.h uD.h.sz rfl rfl (.tmp rfl rfl .nil)) rfl (.conv .nil (dK (Ro:=(aR aY)) (E:=3)) (.cons .nil) (.sel (.cons .h .nil)))
 refine ay ?_
 refine As (zg [(zi r2.1),p7.1.v]) ?_
 refine ay ?_
 cases hF
 exact dO (p7.1,p7.2) (.cellA rfl rfl .h rfl Ev.h uD.h.sz rfl rfl (.tmp rfl rfl .nil)) rfl (.sel (.cons .q2 .nil))
def l_:List (List UInt8)->Nat->(List Int)->Option ((List Int)×Bool)
 |[],k8,c2=>some (c2,true)
 |gN::df,k8,c2=>(((kR gN [120]).bind fun gD=>
     (gK gD).bind fun gV=>
     if (!gV.2)then (
       some (.inl ([],false)))
     else (
       if (!(gD==gN))then (
         (app c2 ([(IntKind.i64.wrap (gV.1+10))]:List Int)).bind fun z28=>
         some (.inr z28))
       else (
         (app c2 ([gV.1]:List Int)).bind fun z32=>
         some (.inr z32)))):Option (Sum ((List Int)×Bool) ((List Int)))).bind fun Kq=>
   match Kq with
   | .inl r=>some r
   | .inr c37=>l_ df (k8+1) c37
def tO(iT:List (List UInt8)):Option ((List Int)×Bool):=
 l_ iT 0 ([]:List Int)
theorem Lm{iT:List (List UInt8)}{ae:Sv}{R:(List Int)×Bool}(hF:tO iT=some R):
   Fw.Spec Tryz.prog 139 [ae.v] [iY ae iT] (fun p:Sv×List Nat=>(.tuple [p.1.v,(.bool R.2)].toArray)) (fun p=>[bR p.2 p.1 R.1]):=by
 refine Se 37 Tryz.func139 [.tmp 2,.tmp 3] ?_
 intro H0 F0
 unfold tO at hF
 refine aD ?_
 refine fI rfl (eH (g:=true) eB.h dU.h .nil (vs:=[]) rfl rfl rfl (by simp)) (fun k1=>?_)
 refine fT (.cons .h .nil) (eT (Ro:=(aR aY)) (E:=3) (F:=[]) (xs:=([]:List Int)) eQ rfl rfl) ?_
 refine dh ?_
 refine bI (bY (m:=iT.length) (fun m6 f' cs'=>∃(g:Fr)(k8:Nat)(df:List (List UInt8))(c2:List Int)(v3:Sv)(F4:List Nat),m6=df.length/\f'=aH g [(4,v3.v),(11,ae.v),(12,(zi (iT.length:Int))),(13,(zi (k8:Int)))]/\List.drop k8 iT=df/\aF cs' [bR F4 v3 c2,iY ae iT]/\l_ df k8 c2=some R) ⟨_,0,_,_,⟨(some ⟨k1,0,none⟩),0,1⟩,(k1::[]),rfl,aN,rfl,aL,hF⟩ ?_)
 rintro m6 _ _ ⟨g7,k8,df,c2,v3,F4,rfl,rfl,jh,hE,hF⟩
 refine Kb hE iT (fun Ep=>?_)
 rcases df with _|⟨gN,df⟩
 · have rR:=dn jh
   rw[l_]at hF
   refine aB ?_
   refine dI ?_
   refine kG ?_
   cases hF
   exact Er (v3,F4)
 obtain⟨rR,eD,rT⟩:=dC jh
 rw[l_]at hF
 refine aB ?_
 refine dH ?_
 refine au ?_
 obtain⟨Kq,YC,P_⟩:=bind_some hF
 refine lu (fun f' cs'=>∃(c37:List Int)(v38:Sv)(Kr:List Nat)(g:Fr),Kq= .inr c37/\f'=aH g [(4,v38.v),(11,ae.v),(12,(zi (iT.length:Int))),(13,(zi (k8:Int)))]/\aF cs' [bR Kr v38 c37,iY ae iT]) ?_ ?_
 · replace hF:=YC
   refine bI (eu (oQ (a:=gN) gY.h iF.h.sz (.tmp rfl rfl) (.tmp rfl rfl) (.t .h) (Int.natCast_nonneg k8) eD (fun k19 j20=>?_)))
   refine Al eZ ?_
   refine aB ?_
   refine bnd hF fun gD rO hF=>aA (wU rO) (fun _=>?_)
   refine aB ?_
   refine bnd hF fun gV hx25 hF=>aA (kS hx25) (fun _=>?_)
   refine au ?_
   refine zx ?_
   refine zx ?_
   refine dh ?_
   refine Ci hF (fun Jq hF=>?_) (fun Jq hF=>?_)
   · refine aD ?_
     cases hF
     replace hF:=P_
     try dsimp only at hF
     cases hF
     exact dO (⟨none,0,0⟩,[]) (.tmp rfl rfl (.tmp rfl rfl .nil)) rfl (.conv .nil (dK (Ro:=(aR aY)) (E:=3)) (.cons .nil) (.sel (.cons .h .nil)))
   refine aD ?_
   refine ai (jI (s:=gD) (t:=gN) (.tmp rfl rfl) (.tmp rfl rfl)) ?_
   refine au ?_
   refine Ci hF (fun Jr hF=>?_) (fun Jr hF=>?_)
   · refine dh ?_
     refine fI rfl (eH (g:=true) eB.h dU.h bJ (vs:=[(zi (IntKind.i64.wrap (gV.1+10)))]) rfl rfl rfl (by intro v hv; simp at hv; rcases hv with rfl<;>rfl)) (fun k27=>?_)
     refine fT (.cons .h .nil) (eT (Ro:=(aR aY)) (E:=3) (F:=([]++[])) (xs:=([(IntKind.i64.wrap (gV.1+10))]:List Int)) (fK (iL (fun _=>rfl)) eQ dE) rfl rfl) ?_
     refine bnd hF fun z28 hx29 hF=>cB (.cons .q2 (.cons .h .nil)) (iJ (Ro:=(aR aY)) eB.h lY dU.h rfl rfl rfl (.tmp rfl rfl) (.tmp rfl rfl) hx29 iM) (fun p30=>?_)
     refine aI ?_
     cases hF
     exact⟨_,p30.1,p30.2,_,rfl,aN,aL⟩
   refine aB ?_
   refine fI rfl (eH (g:=true) eB.h dU.h bJ (vs:=[(zi gV.1)]) rfl rfl rfl (by intro v hv; simp at hv; rcases hv with rfl<;>rfl)) (fun JW=>?_)
   refine fT (.cons .h .nil) (eT (Ro:=(aR aY)) (E:=3) (F:=([]++[])) (xs:=([gV.1]:List Int)) (fK (iL (fun _=>rfl)) eQ dE) rfl rfl) ?_
   refine bnd hF fun z32 rH hF=>cB (.cons .q2 (.cons .h .nil)) (iJ (Ro:=(aR aY)) eB.h lY dU.h rfl rfl rfl (.tmp rfl rfl) (.tmp rfl rfl) rH iM) (fun p34=>?_)
   refine aI ?_
   cases hF
   exact⟨_,p34.1,p34.2,_,rfl,aN,aL⟩
 rintro _ _ ⟨c37,v38,Kr,JQ,rfl,rfl,hE⟩
 replace hF:=P_
 try dsimp only at hF
 refine bz hE ?_
 refine aB ?_
 rw[wk k8]
 exact⟨_,cK _,_,k8+1,df,_,v38,Kr,rfl,aN,rT,aL,hF⟩
def uW(fU:List UInt8):List (List UInt8)->Nat->Option (Int)
 |[],k4=>some (-1)
 |x6::aK,k4=>if (fU==x6)then (
     some (k4:Int))
   else (
     uW fU aK (k4+1))
def CU(aa:List (List UInt8))(fU:List UInt8):Option (Int):=
 uW fU aa 0
theorem Rc{aa:List (List UInt8)}{ae:Sv}{fU:List UInt8}{R:Int}(hF:CU aa fU=some R):
   Fw.Spec Tryz.prog 30 [ae.v,(sv fU)] [iY ae aa] (fun _:Unit=>(zi R)) (fun _=>[]):=by
 refine Se 19 Tryz.func30 [.tmp 4] ?_
 intro H0 F0
 unfold CU at hF
 refine gq ?_
 refine bI (bY (m:=aa.length) (fun m2 f' cs'=>∃(g:Fr)(k4:Nat)(aK:List (List UInt8)),m2=aK.length/\f'=aH g [(0,ae.v),(1,(sv fU)),(7,(zi (aa.length:Int))),(8,(zi (k4:Int)))]/\List.drop k4 aa=aK/\aF cs' [iY ae aa]/\uW fU aK k4=some R) ⟨_,0,_,rfl,aN,rfl,aL,hF⟩ ?_)
 rintro m2 _ _ ⟨g3,k4,aK,rfl,rfl,hd7,hE,hF⟩
 refine Kb hE aa (fun mF=>?_)
 rcases aK with _|⟨x6,aK⟩
 · have h_:=dn hd7
   rw[uW]at hF
   refine aB ?_
   refine dI ?_
   exact ze hF
 obtain⟨h_,bQ,g_⟩:=dC hd7
 rw[uW]at hF
 refine aB ?_
 refine dH ?_
 refine kG ?_
 refine Ai bQ (fun k13 om=>?_)
 refine Al eZ ?_
 refine ai (uu (s:=fU) (t:=x6) (.tmp rfl rfl) (.tmp rfl rfl)) ?_
 refine au ?_
 refine Ci hF (fun wm hF=>?_) (fun wm hF=>?_)
 · exact ze hF
 refine aD ?_
 rw[wk k4]
 exact⟨_,cK _,_,k4+1,aK,rfl,aN,g_,aL,hF⟩
def yT(aa:List (List UInt8))(fU:List UInt8):Option (Bool):=
 (CU aa fU).bind fun r1=>
 some (decide ((0:Int)<=r1))
theorem Ra{aa:List (List UInt8)}{ae:Sv}{fU:List UInt8}{R:Bool}(hF:yT aa fU=some R):
   Fw.Spec Tryz.prog 202 [ae.v,(sv fU)] [iY ae aa] (fun _:Unit=>(.bool R)) (fun _=>[]):=by
 refine Se 9 Tryz.func202 [.tmp 4] ?_
 intro H0 F0
 unfold yT at hF
 refine bC ?_
 refine bnd hF fun r1 hx2 hF=>aA (Rc hx2) (fun _=>?_)
 exact ze hF
def FZ(dA:List Int):Option (List Int):=
 some (dA.mergeSort fun x y=>decide (x<=y))
theorem Rl{dA:List Int}{ae:Sv}{rP:List Nat}{R:List Int}(hF:FZ dA=some R):
   Fw.Spec Tryz.prog 275 [ae.v] [bR rP ae dA] (fun _:List Nat=>(.tuple [].toArray)) (fun p=>[bR p ae R]):=by
 cases hF
 exact Ug dU.h (Go.Proofs.Any.slices_Sort_int_none NT) (Go.Proofs.Any.slices_Sort_int NT)
def FY(dA:List Int):Option (List Int):=
 some (Lib.compact dA)
theorem Ri{dA:List Int}{ae:Sv}{rP:List Nat}{R:List Int}(hF:FY dA=some R):
   Fw.Spec Tryz.prog 276 [ae.v] [bR rP ae dA] (fun p:Sv×List Nat=>p.1.v) (fun p=>[bR p.2 p.1 R]):=by
 cases hF
 exact SS dU.h TS rfl (Go.Proofs.Any.slices_Compact_int_empty Np) (Go.Proofs.Any.slices_Compact_int Np)
def xO(dG:Int):Option (Bool):=
 (gP dG 10 17).bind fun r1=>
 some r1
theorem Gw{dG:Int}{R:Bool}(hF:xO dG=some R):
   Fw.Spec Tryz.prog 246 [(zi dG)] [] (fun _:Unit=>(.bool R)) (fun _=>[]):=by
 refine Se 5 Tryz.func246 [.tmp 2] ?_
 intro H0 F0
 unfold xO at hF
 refine aD ?_
 refine bnd hF fun r1 hx2 hF=>aA (jq hx2) (fun _=>?_)
 exact ze hF
def sK:List Int->Nat->(List Int)->Option ((List Int))
 |[],ig,uS=>some uS
 |jo::jA,ig,uS=>((xO jo).bind fun mU=>
     if mU then (
       (app uS ([jo]:List Int)).bind fun z52=>
       some z52)
     else (
       some uS)).bind fun wM=>
   match wM with
   |Cz=>sK jA (ig+1) Cz
def sM:List aW->Nat->(List Int)->Option ((List Int))
 |[],k8,c2=>(FZ c2).bind fun fo=>
   (FY fo).bind fun fE=>
   some fE
 |gN::df,k8,c2=>(sK gN.Terms 0 c2).bind fun FT=>
   match FT with
   |CB=>sM df (k8+1) CB
def CY(kU:List aW):Option ((List Int)):=
 sM kU 0 ([]:List Int)
theorem Rt{kU:List aW}{ae:Sv}{R:(List Int)}(hF:CY kU=some R):
   Fw.Spec Tryz.prog 245 [ae.v,(.func (.func 246) [].toArray [].toArray)] [fQ ae kU] (fun p:Sv×List Nat=>p.1.v) (fun p=>[bR p.2 p.1 R]):=by
 refine Se 37 Tryz.func245 [.tmp 4] ?_
 intro H0 F0
 unfold CY at hF
 refine aB ?_
 refine fI rfl (eH (g:=true) eB.h dU.h .nil (vs:=[]) rfl rfl rfl (by simp)) (fun k1=>?_)
 refine fT (.cons .h .nil) (eT (Ro:=(aR aY)) (E:=3) (F:=[]) (xs:=([]:List Int)) eQ rfl rfl) ?_
 refine dh ?_
 refine bI (bY (m:=kU.length) (fun m6 f' cs'=>∃(g:Fr)(k8:Nat)(df:List aW)(c2:List Int)(v3:Sv)(F4:List Nat),m6=df.length/\f'=aH g [(1,(.func (.func 246) [].toArray [].toArray)),(5,v3.v),(11,ae.v),(12,(zi (kU.length:Int))),(13,(zi (k8:Int)))]/\List.drop k8 kU=df/\aF cs' [bR F4 v3 c2,fQ ae kU]/\sM df k8 c2=some R) ⟨_,0,_,_,⟨(some ⟨k1,0,none⟩),0,1⟩,(k1::[]),rfl,aN,rfl,aL,hF⟩ ?_)
 rintro m6 _ _ ⟨g7,k8,df,c2,v3,F4,rfl,rfl,jh,hE,hF⟩
 refine Kb hE kU (fun Ep=>?_)
 rcases df with _|⟨gN,df⟩
 · have rR:=dn jh
   rw[sM]at hF
   refine aB ?_
   refine dI ?_
   refine bC ?_
   refine bnd hF fun fo jC hF=>dM (Rl jC) (fun p19=>?_)
   refine ay ?_
   refine bnd hF fun fE j3 hF=>dM (Ri j3) (fun pW=>?_)
   refine ay ?_
   cases hF
   exact Er (pW.1,pW.2)
 obtain⟨rR,eD,rT⟩:=dC jh
 rw[sM]at hF
 refine aB ?_
 refine dH ?_
 refine au ?_
 obtain⟨FT,YD,aaO⟩:=bind_some hF
 refine lu (fun f' cs'=>∃(CB:List Int)(v62:Sv)(Kt:List Nat)(g:Fr),CB=FT/\f'=aH g [(1,(.func (.func 246) [].toArray [].toArray)),(5,v62.v),(11,ae.v),(12,(zi (kU.length:Int))),(13,(zi (k8:Int)))]/\aF cs' [bR Kt v62 CB,fQ ae kU]) ?_ ?_
 · replace hF:=YD
   refine bI (eu (oQ (a:=gN) rD.h mJ.h.sz (.tmp rfl rfl) (.tmp rfl rfl) (.t .h) (Int.natCast_nonneg k8) eD (fun k25 j26=>?_)))
   refine yl (vF gN) xy (fun p27=>?_)
   refine fD (fun k28=>?_)
   refine As (zg [(zi gN.Rel),p27.v]) ?_
   refine bU ?_
   refine bI (bY (m:=gN.Terms.length) (fun Cs f' cs'=>∃(g:Fr)(ig:Nat)(jA uS:List Int)(v30:Sv)(FU:List Nat),Cs=jA.length/\f'=aH g [(1,(.func (.func 246) [].toArray [].toArray)),(5,v30.v),(11,ae.v),(12,(zi (kU.length:Int))),(13,(zi (k8:Int))),(18,p27.v),(19,(zi (gN.Terms.length:Int))),(20,(zi (ig:Int)))]/\List.drop ig gN.Terms=jA/\aF cs' [bR FU v30 uS,fQ ae kU,aC p27 gN.Terms]/\sK jA ig uS=some FT) ⟨_,0,_,_,v3,F4,rfl,aN,rfl,aL,hF⟩ ?_)
   rintro Cs _ _ ⟨g34,ig,jA,uS,v30,FU,rfl,rfl,hd38,hE,hF⟩
   refine Kb hE gN.Terms (fun XV=>?_)
   rcases jA with _|⟨jo,jA⟩
   · have I9:=dn hd38
     rw[sK]at hF
     refine aB ?_
     refine dI ?_
     refine aB ?_
     cases hF
     exact⟨_,v30,FU,_,rfl,aN,aL⟩
   obtain⟨I9,kY,I_⟩:=dC hd38
   rw[sK]at hF
   refine aB ?_
   refine dH ?_
   refine au ?_
   obtain⟨wM,Hm,ES⟩:=bind_some hF
   refine lu (fun f' cs'=>∃(Cz:List Int)(v57:Sv)(Ku:List Nat)(g:Fr),Cz=wM/\f'=aH g [(1,(.func (.func 246) [].toArray [].toArray)),(5,v57.v),(11,ae.v),(12,(zi (kU.length:Int))),(13,(zi (k8:Int))),(18,p27.v),(19,(zi (gN.Terms.length:Int))),(20,(zi (ig:Int)))]/\aF cs' [bR Ku v57 Cz,fQ ae kU,aC p27 gN.Terms]) ?_ ?_
   · replace hF:=Hm
     refine bI (eu (oQ (a:=jo) eB.h dU.h.sz (.tmp rfl rfl) (.tmp rfl rfl) .q2 (Int.natCast_nonneg ig) kY (fun pQ FJ=>?_)))
     refine Al dw ?_
     refine aD ?_
     refine bnd hF fun mU lH hF=>mH .nil (ui W9.h (.tmp rfl rfl) bJ (Gw lH)) (fun _=>?_)
     refine au ?_
     refine Ci hF (fun I5 hF=>?_) (fun I5 hF=>?_)
     · refine ay ?_
       refine fI rfl (eH (g:=true) eB.h dU.h bJ (vs:=[(zi jo)]) rfl rfl rfl (by intro v hv; simp at hv; rcases hv with rfl<;>rfl)) (fun k51=>?_)
       refine fT (.cons .h .nil) (eT (Ro:=(aR aY)) (E:=3) (F:=([]++[])) (xs:=([jo]:List Int)) (fK (iL (fun _=>rfl)) eQ dE) rfl rfl) ?_
       refine bnd hF fun z52 rQ hF=>cB (.cons .q2 (.cons .h .nil)) (iJ (Ro:=(aR aY)) eB.h lY dU.h rfl rfl rfl (.tmp rfl rfl) (.tmp rfl rfl) rQ iM) (fun p54=>?_)
       refine aI ?_
       cases hF
       exact⟨_,p54.1,p54.2,_,rfl,aN,aL⟩
     refine au ?_
     cases hF
     exact⟨_,v30,FU,_,rfl,aN,aL⟩
   rintro _ _ ⟨Cz,v57,Ku,g60,rfl,rfl,hE⟩
   replace hF:=ES
   try dsimp only at hF
   refine bz hE ?_
   refine aB ?_
   rw[wk ig]
   exact⟨_,cK _,_,ig+1,jA,_,v57,Ku,rfl,aN,I_,aL,hF⟩
 rintro _ _ ⟨CB,v62,Kt,Qv,rfl,rfl,hE⟩
 replace hF:=aaO
 try dsimp only at hF
 refine bz hE ?_
 refine aB ?_
 rw[wk k8]
 exact⟨_,cK _,_,k8+1,df,_,v62,Kt,rfl,aN,rT,aL,hF⟩
def zX(aG:bG):Option ((List Int)):=
 (CY aG.Atoms).bind fun r2=>
 some r2
theorem Tz{aG:bG}{ae bA:Sv}{R:(List Int)}(hF:zX aG=some R):
   Fw.Spec Tryz.prog 207 [(zg [ae.v,bA.v])] [aC ae aG.Head,fQ bA aG.Atoms] (fun p:Sv×List Nat=>p.1.v) (fun p=>[bR p.2 p.1 R]):=by
 refine Se 6 Tryz.func207 [.tmp 2] ?_
 intro H0 F0
 unfold zX at hF
 refine au ?_
 refine fe (fun k1=>?_)
 refine aD ?_
 refine bnd hF fun r2 hx3 hF=>dM (Rt hx3) (fun p4=>?_)
 refine ay ?_
 cases hF
 exact Er (p4.1,p4.2)
def wT(fU:Int):List Int->Nat->Option (Int)
 |[],k4=>some (-1)
 |x6::aK,k4=>if ((fU:Int)==x6)then (
     some (k4:Int))
   else (
     wT fU aK (k4+1))
def yY(aa:List Int)(fU:Int):Option (Int):=
 wT fU aa 0
theorem Rj{aa:List Int}{ae:Sv}{fU R:Int}(hF:yY aa fU=some R):
   Fw.Spec Tryz.prog 247 [ae.v,(zi fU)] [aC ae aa] (fun _:Unit=>(zi R)) (fun _=>[]):=by
 refine Se 19 Tryz.func247 [.tmp 4] ?_
 intro H0 F0
 unfold yY at hF
 refine gq ?_
 refine bI (bY (m:=aa.length) (fun m2 f' cs'=>∃(g:Fr)(k4:Nat)(aK:List Int),m2=aK.length/\f'=aH g [(0,ae.v),(1,(zi fU)),(7,(zi (aa.length:Int))),(8,(zi (k4:Int)))]/\List.drop k4 aa=aK/\aF cs' [aC ae aa]/\wT fU aK k4=some R) ⟨_,0,_,rfl,aN,rfl,aL,hF⟩ ?_)
 rintro m2 _ _ ⟨g3,k4,aK,rfl,rfl,hd7,hE,hF⟩
 refine Kb hE aa (fun mF=>?_)
 rcases aK with _|⟨x6,aK⟩
 · have h_:=dn hd7
   rw[wT]at hF
   refine aB ?_
   refine dI ?_
   exact ze hF
 obtain⟨h_,bQ,g_⟩:=dC hd7
 rw[wT]at hF
 refine aB ?_
 refine dH ?_
 refine kG ?_
 refine Ai bQ (fun k13 om=>?_)
 refine Al dw ?_
 refine aI ?_
 refine Ci hF (fun wm hF=>?_) (fun wm hF=>?_)
 · exact ze hF
 refine aD ?_
 rw[wk k4]
 exact⟨_,cK _,_,k4+1,aK,rfl,aN,g_,aL,hF⟩
def yX(aa:List Int)(fU:Int):Option (Bool):=
 (yY aa fU).bind fun r1=>
 some (decide ((0:Int)<=r1))
theorem Rh{aa:List Int}{ae:Sv}{fU:Int}{R:Bool}(hF:yX aa fU=some R):
   Fw.Spec Tryz.prog 209 [ae.v,(zi fU)] [aC ae aa] (fun _:Unit=>(.bool R)) (fun _=>[]):=by
 refine Se 9 Tryz.func209 [.tmp 4] ?_
 intro H0 F0
 unfold yX at hF
 refine bC ?_
 refine bnd hF fun r1 hx2 hF=>aA (Rj hx2) (fun _=>?_)
 exact ze hF
def vz(dG:Int)(bD:List Int):Option (Bool):=
 (yX bD dG).bind fun r1=>
 some (!r1)
theorem Sm{dG:Int}{dJ:Nat}{bD:List Int}{iV:Sv}{R:Bool}(hF:vz dG bD=some R):
   Fw.Spec Tryz.prog 208 [(zi dG),(pz dJ)] [cu dJ 22 iV.v,aC iV bD] (fun _:Unit=>(.bool R)) (fun _=>[]):=by
 refine Se 8 Tryz.func208 [.tmp 3] ?_
 intro H0 F0
 unfold vz at hF
 refine bC ?_
 refine bnd hF fun r1 hx2 hF=>aA (Rh hx2) (fun _=>?_)
 exact ze hF
def uT(bD:List Int):List Int->Nat->Option (Int)
 |[],k4=>some (-1)
 |x6::aK,k4=>(vz x6 bD).bind fun dV=>
   if dV then (
     some (k4:Int))
   else (
     uT bD aK (k4+1))
def yQ(aa:List Int)(bD:List Int):Option (Int):=
 uT bD aa 0
theorem Q7{aa:List Int}{ae:Sv}{dJ:Nat}{bD:List Int}{iV:Sv}{R:Int}(hF:yQ aa bD=some R):
   Fw.Spec Tryz.prog 228 [ae.v,(.func (.func 208) [].toArray [(pz dJ)].toArray)] [aC ae aa,cu dJ 22 iV.v,aC iV bD] (fun _:Unit=>(zi R)) (fun _=>[]):=by
 refine Se 19 Tryz.func228 [.tmp 4] ?_
 intro H0 F0
 unfold yQ at hF
 refine gq ?_
 refine bI (bY (m:=aa.length) (fun m2 f' cs'=>∃(g:Fr)(k4:Nat)(aK:List Int),m2=aK.length/\f'=aH g [(0,ae.v),(1,(.func (.func 208) [].toArray [(pz dJ)].toArray)),(7,(zi (aa.length:Int))),(8,(zi (k4:Int)))]/\List.drop k4 aa=aK/\aF cs' [aC ae aa,cu dJ 22 iV.v,aC iV bD]/\uT bD aK k4=some R) ⟨_,0,_,rfl,aN,rfl,aL,hF⟩ ?_)
 rintro m2 _ _ ⟨g3,k4,aK,rfl,rfl,hd7,hE,hF⟩
 refine Kb hE aa (fun mF=>?_)
 rcases aK with _|⟨x6,aK⟩
 · have h_:=dn hd7
   rw[uT]at hF
   refine aB ?_
   refine dI ?_
   exact ze hF
 obtain⟨h_,bQ,g_⟩:=dC hd7
 rw[uT]at hF
 refine aB ?_
 refine dH ?_
 refine kG ?_
 refine Ai bQ (fun k13 om=>?_)
 refine Al dw ?_
 refine bnd hF fun dV hx16 hF=>mH (.rd .q2 rfl (.rd .q3 rfl .nil)) (ui W_.h (.tmp rfl rfl) bJ (Sm hx16)) (fun _=>?_)
 refine au ?_
 refine Ci hF (fun nZ hF=>?_) (fun nZ hF=>?_)
 · exact ze hF
 refine aD ?_
 rw[wk k4]
 exact⟨_,cK _,_,k4+1,aK,rfl,aN,g_,aL,hF⟩
def uU(aa:List Int)(bD:List Int):Option (Bool):=
 (yQ aa bD).bind fun r1=>
 some (decide ((0:Int)<=r1))
theorem Q3{aa:List Int}{ae:Sv}{dJ:Nat}{bD:List Int}{iV:Sv}{R:Bool}(hF:uU aa bD=some R):
   Fw.Spec Tryz.prog 164 [ae.v,(.func (.func 208) [].toArray [(pz dJ)].toArray)] [aC ae aa,cu dJ 22 iV.v,aC iV bD] (fun _:Unit=>(.bool R)) (fun _=>[]):=by
 refine Se 9 Tryz.func164 [.tmp 4] ?_
 intro H0 F0
 unfold uU at hF
 refine bC ?_
 refine bnd hF fun r1 hx2 hF=>aA (Q7 hx2) (fun _=>?_)
 exact ze hF
def vG(aG:bG):Option (Bool):=
 (zX aG).bind fun r2=>
 (bif (decide (((aG.Head.length:Int):Int)<=3))then ((uU aG.Head r2).bind fun iQ=>
     some (!iQ))
   else (some false)).bind fun o8=>
 match o8 with
 |c14=>some c14
theorem Md{aG:bG}{ae bA:Sv}{R:Bool}(hF:vG aG=some R):
   Fw.Spec Tryz.prog 146 [(zg [ae.v,bA.v])] [aC ae aG.Head,fQ bA aG.Atoms] (fun _:Unit=>(.bool R)) (fun _=>[]):=by
 refine Se 17 Tryz.func146 [.tmp 2] ?_
 intro H0 F0
 unfold vG at hF
 refine au ?_
 refine fe (fun k1=>?_)
 refine aB ?_
 refine bnd hF fun r2 hx3 hF=>dM (Tz hx3) (fun p4=>?_)
 refine fD (fun k5=>?_)
 refine As p4.1.v ?_
 refine au ?_
 refine nI .h U4 ?_
 refine nI (.t .h) dm ?_
 obtain⟨o8,Js,Kv⟩:=bind_some hF
 refine au ?_
 refine b_ (fun f' cs'=>∃(c14:Bool)(g:Fr),c14=o8/\f'=aH g [(2,(.bool c14))]/\aF cs' []) ?_ ?_
 · replace hF:=Js
   refine aD ?_
   rcases bi (decide (((aG.Head.length:Int):Int)<=3))with j6|j6
   · rw[j6]
     try rw[j6]at hF; dsimp only[ak,aj]at hF
     refine aD ?_
     refine ai (mh (fn:=.func 208) (vs:=[]) (us:=[(pz k5)]) .nil bJ) ?_
     refine au ?_
     refine bnd hF fun iQ lc hF=>aA (Q3 lc) (fun _=>?_)
     exact aP hF
   rw[j6]
   try rw[j6]at hF; dsimp only[ak,aj]at hF
   exact aP hF
 rintro _ _ ⟨c14,g15,rfl,rfl,hE⟩
 replace hF:=Kv
 try dsimp only at hF
 refine bz hE ?_
 exact ze hF
def zF(dG:Int):Option ((List UInt8)):=
 (xO dG).bind fun r1=>
 if r1 then (
   (iI (IntKind.i64.wrap (dG-10))).bind fun r4=>
   (aO [120] r4).bind fun x7=>
   some x7)
 else (
   (iI dG).bind fun iQ=>
   some iQ)
theorem SB{dG:Int}{R:(List UInt8)}(hF:zF dG=some R):
   Fw.Spec Tryz.prog 242 [(zi dG)] [] (fun _:Unit=>(sv R)) (fun _=>[]):=by
 refine Se 11 Tryz.func242 [.tmp 2] ?_
 intro H0 F0
 unfold zF at hF
 refine bC ?_
 refine bnd hF fun r1 hx2 hF=>aA (Gw hx2) (fun _=>?_)
 refine au ?_
 refine Ci hF (fun I6 hF=>?_) (fun I6 hF=>?_)
 · refine ay ?_
   refine bnd hF fun r4 hx5 hF=>aA (kC hx5) (fun _=>?_)
   refine bnd hF fun x7 iG hF=>?_
   obtain⟨aao,hz9⟩:=bq iG
   refine ai (bu (s:=[120]) (t:=r4) (u:=x7) (.sv _) (.tmp rfl rfl) iG) ?_
   exact ze hF
 refine ay ?_
 refine bnd hF fun iQ lc hF=>aA (kC lc) (fun _=>?_)
 exact ze hF
def tC:List Int->Nat->(List (List UInt8))->Option ((List UInt8))
 |[],k8,c2=>(qg c2 [44]).bind fun fo=>
   some fo
 |gN::df,k8,c2=>(zF gN).bind fun ib=>
   (app c2 ([ib]:List (List UInt8))).bind fun z26=>
   tC df (k8+1) z26
def zA(bf:List Int):Option ((List UInt8)):=
 tC bf 0 ([]:List (List UInt8))
theorem Lp{bf:List Int}{ae:Sv}{R:(List UInt8)}(hF:zA bf=some R):
   Fw.Spec Tryz.prog 203 [ae.v] [aC ae bf] (fun _:Unit=>(sv R)) (fun _=>[]):=by
 refine Se 21 Tryz.func203 [.tmp 2] ?_
 intro H0 F0
 unfold zA at hF
 refine aB ?_
 refine fI rfl (eH (g:=true) gY.h iF.h .nil (vs:=[]) rfl rfl rfl (by simp)) (fun k1=>?_)
 refine fT (.cons .h .nil) (eT (Ro:=(aR rdStr)) (E:=9) (F:=[]) (xs:=([]:List (List UInt8))) eQ rfl rfl) ?_
 refine dh ?_
 refine bI (bY (m:=bf.length) (fun m6 f' cs'=>∃(g:Fr)(k8:Nat)(df:List Int)(c2:List (List UInt8))(v3:Sv)(F4:List Nat),m6=df.length/\f'=aH g [(3,v3.v),(7,ae.v),(8,(zi (bf.length:Int))),(9,(zi (k8:Int)))]/\List.drop k8 bf=df/\aF cs' [uL F4 v3 c2,aC ae bf]/\tC df k8 c2=some R) ⟨_,0,_,_,⟨(some ⟨k1,0,none⟩),0,1⟩,(k1::[]),rfl,aN,rfl,aL,hF⟩ ?_)
 rintro m6 _ _ ⟨g7,k8,df,c2,v3,F4,rfl,rfl,jh,hE,hF⟩
 refine Kb hE bf (fun Ep=>?_)
 rcases df with _|⟨gN,df⟩
 · have rR:=dn jh
   rw[tC]at hF
   refine aB ?_
   refine dI ?_
   refine bC ?_
   refine bnd hF fun fo jC hF=>cB (.cons .h .nil) (gL dm (fun _=>.nil) (bZ El.h (.cons (.tmp rfl rfl) (.cons (.sv _) .nil)) (CX jC))) (fun _=>?_)
   exact ze hF
 obtain⟨rR,eD,rT⟩:=dC jh
 rw[tC]at hF
 refine aB ?_
 refine dH ?_
 refine ay ?_
 refine Ai eD (fun k20 FB=>?_)
 refine Al dw ?_
 refine aD ?_
 refine bnd hF fun ib jL hF=>aA (SB jL) (fun _=>?_)
 refine fI rfl (eH (g:=true) gY.h iF.h bJ (vs:=[(sv ib)]) rfl rfl rfl (by intro v hv; simp at hv; rcases hv with rfl<;>rfl)) (fun k25=>?_)
 refine fT (.cons .h .nil) (eT (Ro:=(aR rdStr)) (E:=9) (F:=([]++[])) (xs:=([ib]:List (List UInt8))) (fK (iL (fun _=>rfl)) eQ dE) rfl rfl) ?_
 refine bnd hF fun z26 hx27 hF=>cB (.cons .q2 (.cons .h .nil)) (iJ (Ro:=(aR rdStr)) gY.h A7 iF.h rfl rfl rfl (.tmp rfl rfl) (.tmp rfl rfl) hx27 iM) (fun p28=>?_)
 refine bC ?_
 rw[wk k8]
 exact⟨_,cK _,_,k8+1,df,_,p28.1,p28.2,rfl,aN,rT,aL,hF⟩
def zY(dG:Int):Option (Bool):=
 ((zM dG).bind fun r3=>
   bif r3 then (some true)
   else ((xO dG).bind fun r7=>
     some r7)).bind fun o1=>
 match o1 with
 |c10=>some c10
theorem TA{dG:Int}{R:Bool}(hF:zY dG=some R):
   Fw.Spec Tryz.prog 244 [(zi dG)] [] (fun _:Unit=>(.bool R)) (fun _=>[]):=by
 refine Se 9 Tryz.func244 [.tmp 2] ?_
 intro H0 F0
 unfold zY at hF
 refine ay ?_
 obtain⟨o1,jZ,hO2⟩:=bind_some hF
 refine au ?_
 refine b_ (fun f' cs'=>∃(c10:Bool)(g:Fr),c10=o1/\f'=aH g [(2,(.bool c10))]/\aF cs' []) ?_ ?_
 · replace hF:=jZ
   refine au ?_
   refine bnd hF fun r3 hx4 hF=>aA (Mc hx4) (fun _=>?_)
   refine au ?_
   rcases bi r3 with gF|gF
   · rw[gF]
     try rw[gF]at hF; dsimp only[ak,aj]at hF
     exact aP hF
   rw[gF]
   try rw[gF]at hF; dsimp only[ak,aj]at hF
   refine ay ?_
   refine bnd hF fun r7 iG hF=>aA (Gw iG) (fun _=>?_)
   exact aP hF
 rintro _ _ ⟨c10,g11,rfl,rfl,hE⟩
 replace hF:=hO2
 try dsimp only at hF
 refine bz hE ?_
 exact ze hF
def zq(dG:Int):Option (Bool):=
 (zY dG).bind fun r1=>
 some (!r1)
theorem RZ{dG:Int}{R:Bool}(hF:zq dG=some R):
   Fw.Spec Tryz.prog 243 [(zi dG)] [] (fun _:Unit=>(.bool R)) (fun _=>[]):=by
 refine Se 6 Tryz.func243 [.tmp 2] ?_
 intro H0 F0
 unfold zq at hF
 refine aD ?_
 refine bnd hF fun r1 hx2 hF=>aA (TA hx2) (fun _=>?_)
 exact ze hF
def wS:List Int->Nat->Option (Int)
 |[],k4=>some (-1)
 |x6::aK,k4=>(zq x6).bind fun dV=>
   if dV then (
     some (k4:Int))
   else (
     wS aK (k4+1))
def CS(aa:List Int):Option (Int):=
 wS aa 0
theorem Q6{aa:List Int}{ae:Sv}{R:Int}(hF:CS aa=some R):
   Fw.Spec Tryz.prog 228 [ae.v,(.func (.func 243) [].toArray [].toArray)] [aC ae aa] (fun _:Unit=>(zi R)) (fun _=>[]):=by
 refine Se 19 Tryz.func228 [.tmp 4] ?_
 intro H0 F0
 unfold CS at hF
 refine gq ?_
 refine bI (bY (m:=aa.length) (fun m2 f' cs'=>∃(g:Fr)(k4:Nat)(aK:List Int),m2=aK.length/\f'=aH g [(0,ae.v),(1,(.func (.func 243) [].toArray [].toArray)),(7,(zi (aa.length:Int))),(8,(zi (k4:Int)))]/\List.drop k4 aa=aK/\aF cs' [aC ae aa]/\wS aK k4=some R) ⟨_,0,_,rfl,aN,rfl,aL,hF⟩ ?_)
 rintro m2 _ _ ⟨g3,k4,aK,rfl,rfl,hd7,hE,hF⟩
 refine Kb hE aa (fun mF=>?_)
 rcases aK with _|⟨x6,aK⟩
 · have h_:=dn hd7
   rw[wS]at hF
   refine aB ?_
   refine dI ?_
   exact ze hF
 obtain⟨h_,bQ,g_⟩:=dC hd7
 rw[wS]at hF
 refine aB ?_
 refine dH ?_
 refine kG ?_
 refine Ai bQ (fun k13 om=>?_)
 refine Al dw ?_
 refine bnd hF fun dV hx16 hF=>mH .nil (ui Xa.h (.tmp rfl rfl) bJ (RZ hx16)) (fun _=>?_)
 refine au ?_
 refine Ci hF (fun nZ hF=>?_) (fun nZ hF=>?_)
 · exact ze hF
 refine aD ?_
 rw[wk k4]
 exact⟨_,cK _,_,k4+1,aK,rfl,aN,g_,aL,hF⟩
def CO(aa:List Int):Option (Bool):=
 (CS aa).bind fun r1=>
 some (decide ((0:Int)<=r1))
theorem QY{aa:List Int}{ae:Sv}{R:Bool}(hF:CO aa=some R):
   Fw.Spec Tryz.prog 164 [ae.v,(.func (.func 243) [].toArray [].toArray)] [aC ae aa] (fun _:Unit=>(.bool R)) (fun _=>[]):=by
 refine Se 9 Tryz.func164 [.tmp 4] ?_
 intro H0 F0
 unfold CO at hF
 refine bC ?_
 refine bnd hF fun r1 hx2 hF=>aA (Q6 hx2) (fun _=>?_)
 exact ze hF
def xx(bf:List Int):Option (Bool):=
 (CO bf).bind fun r1=>
 some (!r1)
theorem LQ{bf:List Int}{ae:Sv}{R:Bool}(hF:xx bf=some R):
   Fw.Spec Tryz.prog 206 [ae.v] [aC ae bf] (fun _:Unit=>(.bool R)) (fun _=>[]):=by
 refine Se 6 Tryz.func206 [.tmp 2] ?_
 intro H0 F0
 unfold xx at hF
 refine aD ?_
 refine bnd hF fun r1 hx2 hF=>aA (QY hx2) (fun _=>?_)
 exact ze hF
def zt(aX:aW):Option ((List UInt8)):=
 ((nD aX.Rel).bind fun r4=>
   bif (!r4)then (some true)
   else ((gP (aX.Terms.length:Int) 1 3).bind fun r8=>
     bif (!r8)then (some true)
     else ((xx aX.Terms).bind fun bO=>
       some (!bO)))).bind fun o2=>
 match o2 with
 |c15=>if c15 then (
     some [])
   else (
     (iI aX.Rel).bind fun r16=>
     (aO [114] r16).bind fun kM=>
     (aO kM [40]).bind fun jS=>
     (zA aX.Terms).bind fun kP=>
     (aO jS kP).bind fun x30=>
     (aO x30 [41]).bind fun x34=>
     some x34)
theorem R3{aX:aW}{bA:Sv}{R:(List UInt8)}(hF:zt aX=some R):
   Fw.Spec Tryz.prog 201 [(zg [(zi aX.Rel),bA.v])] [aC bA aX.Terms] (fun _:Unit=>(sv R)) (fun _=>[]):=by
 refine Se 30 Tryz.func201 [.tmp 2] ?_
 intro H0 F0
 unfold zt at hF
 refine au ?_
 refine fe (fun k1=>?_)
 refine ay ?_
 obtain⟨o2,fB,hO3⟩:=bind_some hF
 refine au ?_
 refine b_ (fun f' cs'=>∃(c15:Bool)(g:Fr),c15=o2/\f'=aH g [(1,(pz k1)),(19,(.bool c15))]/\aF cs' [cu k1 83 (zg [(zi aX.Rel),bA.v]),aC bA aX.Terms]) ?_ ?_
 · replace hF:=fB
   refine aI ?_
   refine bnd hF fun r4 hx5 hF=>aA (zD hx5) (fun _=>?_)
   refine aI ?_
   rcases bi (!r4)with a_|a_
   · rw[a_]
     try rw[a_]at hF; dsimp only[ak,aj]at hF
     exact aP hF
   rw[a_]
   try rw[a_]at hF; dsimp only[ak,aj]at hF
   refine bU ?_
   refine bnd hF fun r8 bQ hF=>aA (jq bQ) (fun _=>?_)
   refine aB ?_
   rcases bi (!r8)with bM|bM
   · rw[bM]
     try rw[bM]at hF; dsimp only[ak,aj]at hF
     exact aP hF
   rw[bM]
   try rw[bM]at hF; dsimp only[ak,aj]at hF
   refine aD ?_
   refine bnd hF fun bO eD hF=>aA (LQ eD) (fun _=>?_)
   exact aP hF
 rintro _ _ ⟨c15,JV,rfl,rfl,hE⟩
 replace hF:=hO3
 try dsimp only at hF
 refine bz hE ?_
 refine Ci hF (fun nT hF=>?_) (fun nT hF=>?_)
 · exact ze hF
 refine au ?_
 refine fV [0,1,5,6,2,3,4,7,8,9,10] [0,1,3,7,15,0,32,103,255,511,1023] [2,7] mixed (by decide+kernel) ?_
 refine rE ?_
 refine bnd hF fun r16 jf hF=>cZ (kC jf) (fun _=>?_)
 refine bnd hF fun kM ik hF=>?_
 obtain⟨Pq,Ps⟩:=bq ik
 refine bg rfl .no (fun ha=>bu (s:=[114]) (t:=r16) (u:=kM) (EN ha (.sv _) rfl) (EN ha (.tmp rfl rfl) rfl) ik) ?_
 refine bnd hF fun jS hx24 hF=>?_
 obtain⟨P8,P9⟩:=bq hx24
 refine bg rfl .no (fun ha=>bu (s:=kM) (t:=[40]) (u:=jS) (EN ha (.tmp rfl rfl) rfl) (EN ha (.sv _) rfl) hx24) ?_
 refine bnd hF fun kP hx28 hF=>cZ (Lp hx28) (fun _=>?_)
 refine bnd hF fun x30 hx31 hF=>?_
 obtain⟨PX,hz32⟩:=bq hx31
 refine bg rfl .no (fun ha=>bu (s:=jS) (t:=kP) (u:=x30) (EN ha (.tmp rfl rfl) rfl) (EN ha (.tmp rfl rfl) rfl) hx31) ?_
 refine bnd hF fun x34 kL hF=>?_
 obtain⟨EC,ED⟩:=bq kL
 refine bg rfl .no (fun ha=>bu (s:=x30) (t:=[41]) (u:=x34) (EN ha (.tmp rfl rfl) rfl) (EN ha (.sv _) rfl) kL) ?_
 refine fA ?_
 exact ze hF
def qf(aG:bG):List aW->Nat->(List (List UInt8))->Option ((List UInt8))
 |[],k9,c3=>((gP (c3.length:Int) 1 4).bind fun fE=>
     bif (!fE)then (some true)
     else ((yT c3 []).bind fun gV=>
       bif gV then (some true)
       else ((vG aG).bind fun mR=>
         some (!mR)))).bind fun mW=>
   match mW with
   |c31=>if c31 then (
       some [])
     else (
       if (decide ((0:Int)<(aG.Head.length:Int)))then (
         (zA aG.Head).bind fun r32=>
         (aO r32 [32,105,102,32]).bind fun r_=>
         (qg c3 [32,97,110,100,32]).bind fun eG=>
         (aO r_ eG).bind fun ic=>
         some ic)
       else (
         (aO [121,101,115] [32,105,102,32]).bind fun lN=>
         (qg c3 [32,97,110,100,32]).bind fun iq=>
         (aO lN iq).bind fun pM=>
         some pM))
 |iP::jy,k9,c3=>(zt iP).bind fun FV=>
   (app c3 ([FV]:List (List UInt8))).bind fun z68=>
   qf aG jy (k9+1) z68
def zh(aG:bG):Option ((List UInt8)):=
 qf aG aG.Atoms 0 ([]:List (List UInt8))
theorem K_{aG:bG}{ae bA:Sv}{R:(List UInt8)}(hF:zh aG=some R):
   Fw.Spec Tryz.prog 141 [(zg [ae.v,bA.v])] [aC ae aG.Head,fQ bA aG.Atoms] (fun _:Unit=>(sv R)) (fun _=>[]):=by
 refine Se 46 Tryz.func141 [.tmp 2] ?_
 intro H0 F0
 unfold zh at hF
 refine au ?_
 refine fe (fun k1=>?_)
 refine ay ?_
 refine fI rfl (eH (g:=true) gY.h iF.h .nil (vs:=[]) rfl rfl rfl (by simp)) (fun k2=>?_)
 refine fT (.cons .h .nil) (eT (Ro:=(aR rdStr)) (E:=9) (F:=[]) (xs:=([]:List (List UInt8))) eQ rfl rfl) ?_
 refine gq ?_
 refine bI (bY (m:=aG.Atoms.length) (fun m7 f' cs'=>∃(g:Fr)(k9:Nat)(jy:List aW)(c3:List (List UInt8))(v4:Sv)(F5:List Nat),m7=jy.length/\f'=aH g [(1,(pz k1)),(3,v4.v),(9,bA.v),(10,(zi (aG.Atoms.length:Int))),(11,(zi (k9:Int)))]/\List.drop k9 aG.Atoms=jy/\aF cs' [cu k1 59 (zg [ae.v,bA.v]),aC ae aG.Head,fQ bA aG.Atoms,uL F5 v4 c3]/\qf aG jy k9 c3=some R) ⟨_,0,_,_,⟨(some ⟨k2,0,none⟩),0,1⟩,(k2::[]),rfl,aN,rfl,aL,hF⟩ ?_)
 rintro m7 _ _ ⟨g8,k9,jy,c3,v4,F5,rfl,rfl,BD,hE,hF⟩
 refine Kb hE aG.Atoms (fun XP=>?_)
 rcases jy with _|⟨iP,jy⟩
 · have IZ:=dn BD
   rw[qf]at hF
   refine aB ?_
   refine dI ?_
   refine aD ?_
   obtain⟨mW,AJ,BC⟩:=bind_some hF
   refine au ?_
   refine b_ (fun f' cs'=>∃(c31:Bool)(g:Fr),c31=mW/\f'=aH g [(1,(pz k1)),(3,v4.v),(33,(.bool c31))]/\aF cs' [cu k1 59 (zg [ae.v,bA.v]),aC ae aG.Head,fQ bA aG.Atoms,uL F5 v4 c3]) ?_ ?_
   · replace hF:=AJ
     refine aI ?_
     refine bnd hF fun fE j3 hF=>aA (jq j3) (fun _=>?_)
     refine aI ?_
     rcases bi (!fE)with og|og
     · rw[og]
       try rw[og]at hF; dsimp only[ak,aj]at hF
       exact aP hF
     rw[og]
     try rw[og]at hF; dsimp only[ak,aj]at hF
     refine ay ?_
     refine bnd hF fun gV hx25 hF=>cB (.cons .q3 .nil) (gL dm (fun _=>.nil) (bZ WZ.h (.cons (.tmp rfl rfl) (.cons (.sv _) .nil)) (Ra hx25))) (fun _=>?_)
     refine aI ?_
     rcases bi gV with BU|BU
     · rw[BU]
       try rw[BU]at hF; dsimp only[ak,aj]at hF
       exact aP hF
     rw[BU]
     try rw[BU]at hF; dsimp only[ak,aj]at hF
     refine ay ?_
     refine bnd hF fun mR hx29 hF=>aA (Md hx29) (fun _=>?_)
     exact aP hF
   rintro _ _ ⟨c31,g59,rfl,rfl,hE⟩
   replace hF:=BC
   try dsimp only at hF
   refine bz hE ?_
   refine Ci hF (fun aaP hF=>?_) (fun aaP hF=>?_)
   · exact ze hF
   refine Au ?_
   refine Ci hF (fun IX hF=>?_) (fun IX hF=>?_)
   · refine ay ?_
     refine bnd hF fun r32 rH hF=>aA (Lp rH) (fun _=>?_)
     refine aB ?_
     refine bnd hF fun r_ kZ hF=>?_
     obtain⟨ZW,ZX⟩:=bq kZ
     refine ai (bu (s:=r32) (t:=[32,105,102,32]) (u:=r_) (.tmp rfl rfl) (.sv _) kZ) ?_
     refine au ?_
     refine bnd hF fun eG kY hF=>cB (.cons .q3 .nil) (gL dm (fun _=>.nil) (bZ El.h (.cons (.tmp rfl rfl) (.cons (.sv _) .nil)) (CX kY))) (fun _=>?_)
     refine bnd hF fun ic il hF=>?_
     obtain⟨EG,EH⟩:=bq il
     refine ai (bu (s:=r_) (t:=eG) (u:=ic) (.tmp rfl rfl) (.tmp rfl rfl) il) ?_
     exact ze hF
   refine ay ?_
   refine bnd hF fun lN kK hF=>?_
   obtain⟨Px,Py⟩:=bq kK
   refine ai (bu (s:=[121,101,115]) (t:=[32,105,102,32]) (u:=lN) (.tmp rfl rfl) (.sv _) kK) ?_
   refine au ?_
   refine bnd hF fun iq mO hF=>cB (.cons .q3 .nil) (gL dm (fun _=>.nil) (bZ El.h (.cons (.tmp rfl rfl) (.cons (.sv _) .nil)) (CX mO))) (fun _=>?_)
   refine bnd hF fun pM Bt hF=>?_
   obtain⟨ZY,ZZ⟩:=bq Bt
   refine ai (bu (s:=lN) (t:=iq) (u:=pM) (.tmp rfl rfl) (.tmp rfl rfl) Bt) ?_
   exact ze hF
 obtain⟨IZ,j4,I1⟩:=dC BD
 rw[qf]at hF
 refine aB ?_
 refine dH ?_
 refine ay ?_
 refine Ai j4 (fun k60 j61=>?_)
 refine yl (vF iP) xy (fun p62=>?_)
 refine fD (fun k63=>?_)
 refine As (zg [(zi iP.Rel),p62.v]) ?_
 refine aB ?_
 refine bnd hF fun FV aaQ hF=>aA (R3 aaQ) (fun _=>?_)
 refine fI rfl (eH (g:=true) gY.h iF.h bJ (vs:=[(sv FV)]) rfl rfl rfl (by intro v hv; simp at hv; rcases hv with rfl<;>rfl)) (fun k67=>?_)
 refine fT (.cons .h .nil) (eT (Ro:=(aR rdStr)) (E:=9) (F:=([]++[])) (xs:=([FV]:List (List UInt8))) (fK (iL (fun _=>rfl)) eQ dE) rfl rfl) ?_
 refine bnd hF fun z68 yx hF=>cB (.cons .q7 (.cons .h .nil)) (iJ (Ro:=(aR rdStr)) gY.h A7 iF.h rfl rfl rfl (.tmp rfl rfl) (.tmp rfl rfl) yx iM) (fun p70=>?_)
 refine bC ?_
 rw[wk k9]
 exact⟨_,cK _,_,k9+1,jy,_,p70.1,p70.2,rfl,aN,I1,aL,hF⟩
def tY(aM:List UInt8):Option (aW×Bool):=
 (tX [114] aM).bind fun r2=>
 (tO r2.2.1).bind fun r5=>
 (bif r2.2.2 then (some r5.2)
   else (some false)).bind fun o8=>
 match o8 with
 |c11=>some ((⟨r2.1,r5.1⟩:aW),c11)
theorem LU{aM:List UInt8}{R:aW×Bool}(hF:tY aM=some R):
   Fw.Spec Tryz.prog 140 [(sv aM)] [] (fun p:Sv×List Nat=>(.tuple [(zg [(zi R.1.Rel),p.1.v]),(.bool R.2)].toArray)) (fun p=>[bR p.2 p.1 R.1.Terms]):=by
 refine Se 27 Tryz.func140 [.cell 2 83,.tmp 3] ?_
 intro H0 F0
 unfold tY at hF
 refine au ?_
 refine fD (fun k1=>?_)
 refine aB ?_
 refine bnd hF fun r2 hx3 hF=>dM (LP hx3) (fun p4=>?_)
 refine au ?_
 refine zx ?_
 refine zx ?_
 refine zx ?_
 refine bC ?_
 refine bnd hF fun r5 hx6 hF=>dM (Lm hx6) (fun p7=>?_)
 refine au ?_
 refine zx ?_
 refine zx ?_
 refine ay ?_
 obtain⟨o8,Js,Kv⟩:=bind_some hF
 refine au ?_
 refine b_ (fun f' cs'=>∃(c11:Bool)(g:Fr),c11=o8/\f'=aH g [(2,(pz k1)),(3,(.bool c11))]/\aF cs' [bV k1 83 (zg [(zi r2.1),p7.1.v]),bR p7.2 p7.1 r5.1]) ?_ ?_
 · replace hF:=Js
   refine aI ?_
   refine ai (fM mJ.h rfl (vs:=[(zi r2.1),p7.1.v]) bJ (cells:=[(zi r2.1),p7.1.v]) rfl) ?_
   refine aI ?_
   rcases bi r2.2.2 with j6|j6
   · rw[j6]
     try rw[j6]at hF; dsimp only[ak,aj]at hF
     refine ay ?_
     refine As (zg [(zi r2.1),p7.1.v]) ?_
     exact aP hF
   rw[j6]
   try rw[j6]at hF; dsimp only[ak,aj]at hF
   refine aI ?_
   refine As (zg [(zi r2.1),p7.1.v]) ?_
   exact aP hF
 rintro _ _ ⟨c11,g12,rfl,rfl,hE⟩
 replace hF:=Kv
 try dsimp only at hF
 refine bz hE ?_
 refine au ?_
 cases hF
 exact dO (p7.1,p7.2) (.cellA rfl rfl .h rfl Zh.h mJ.h.sz rfl rfl (.tmp rfl rfl .nil)) rfl (.sel (.cons (.t .h) .nil))
def ma(aM:List UInt8)(r9:(List Int)×Bool):List (List UInt8)->Nat->(List aW)->Option (bG×Bool)
 |[],mX,m_=>(zh (⟨r9.1,m_⟩:bG)).bind fun Kw=>
   some ((⟨r9.1,m_⟩:bG),(Kw==aM))
 |wJ::qY,mX,m_=>(tY wJ).bind fun pY=>
   if ((!pY.2)||(((m_.length:Int):Int)==4))then (
     some ((⟨[],[]⟩:bG),false))
   else (
     (app m_ ([pY.1]:List aW)).bind fun z69=>
     ma aM r9 qY (mX+1) z69)
def mf(aM:List UInt8):List (List UInt8)->Nat->(List aW)->Option (bG×Bool)
 |[],pu,c105=>(zh (⟨[],c105⟩:bG)).bind fun Jt=>
   some ((⟨[],c105⟩:bG),(Jt==aM))
 |x113::qE,pu,c105=>(tY x113).bind fun pE=>
   if ((!pE.2)||(((c105.length:Int):Int)==4))then (
     some ((⟨[],[]⟩:bG),false))
   else (
     (app c105 ([pE.1]:List aW)).bind fun Qa=>
     mf aM qE (pu+1) Qa)
def oK(aM:List UInt8):Option (bG×Bool):=
 (tF aM [32,105,102,32]).bind fun r2=>
 if (!r2.2.2)then (
   some ((⟨[],[]⟩:bG),false))
 else (
   if (!(r2.1==[121,101,115]))then (
     (lS r2.1 [44]).bind fun r6=>
     (tO r6).bind fun r9=>
     if (!r9.2)then (
       some ((⟨[],[]⟩:bG),false))
     else (
       (lS r2.2.1 [32,97,110,100,32]).bind fun bO=>
       ma aM r9 bO 0 ([]:List aW)))
   else (
     (lS r2.2.1 [32,97,110,100,32]).bind fun sI=>
     mf aM sI 0 ([]:List aW)))
theorem Sn{aM:List UInt8}{R:bG×Bool}(hF:oK aM=some R):
   Fw.Spec Tryz.prog 93 [(sv aM)] [] (fun p:Sv×List Nat×Sv×List Nat=>(.tuple [(zg [p.1.v,p.2.2.1.v]),(.bool R.2)].toArray)) (fun p=>[bR p.2.1 p.1 R.1.Head,vW p.2.2.2 p.2.2.1 R.1.Atoms]):=by
 refine Se 70 Tryz.func93 [.cell 2 59,.tmp 3] ?_
 intro H0 F0
 unfold oK at hF
 refine au ?_
 refine fD (fun k1=>?_)
 refine aB ?_
 refine bnd hF fun r2 hx3 hF=>aA (K9 hx3) (fun _=>?_)
 refine au ?_
 refine zx ?_
 refine zx ?_
 refine zx ?_
 refine gq ?_
 refine Ci hF (fun YE hF=>?_) (fun YE hF=>?_)
 · refine au ?_
   refine ai (fM ek.h rfl (vs:=[]) .nil (cells:=[(.slice none 0 0),(.slice none 0 0)]) rfl) ?_
   refine As (.agg ([(.slice none 0 0),(.slice none 0 0)]:List Value).toArray) ?_
   refine ay ?_
   cases hF
   exact dO (⟨none,0,0⟩,[],⟨none,0,0⟩,[]) (.cellA rfl rfl .h rfl jd.h ek.h.sz rfl rfl (.tmp rfl rfl .nil)) rfl (.conv .nil (dK (Ro:=(aR aY)) (E:=3)) (.cons .nil) (.conv .nil (dK (Ro:=fJ) (E:=83)) (.cons .nil) (.sel (.cons (.t .h) (.cons .h .nil)))))
 refine aI ?_
 refine ai (fM ek.h rfl (vs:=[]) .nil (cells:=[(.slice none 0 0),(.slice none 0 0)]) rfl) ?_
 refine fD (fun k5=>?_)
 refine As (.agg ([(.slice none 0 0),(.slice none 0 0)]:List Value).toArray) ?_
 refine aB ?_
 refine ai (jI (s:=r2.1) (t:=[121,101,115]) (.tmp rfl rfl) (.sv _)) ?_
 refine au ?_
 refine Ci hF (fun He hF=>?_) (fun He hF=>?_)
 · refine aI ?_
   refine bnd hF fun r6 hx7 hF=>dM (sN hx7) (fun p8=>?_)
   refine bnd hF fun r9 jg hF=>dM (Lm jg) (fun l9=>?_)
   refine au ?_
   refine zx ?_
   refine zx ?_
   refine dh ?_
   refine Ci hF (fun aaR hF=>?_) (fun aaR hF=>?_)
   · refine au ?_
     refine ai (fM ek.h rfl (vs:=[]) .nil (cells:=[(.slice none 0 0),(.slice none 0 0)]) rfl) ?_
     refine As (.agg ([(.slice none 0 0),(.slice none 0 0)]:List Value).toArray) ?_
     refine ay ?_
     cases hF
     exact dO (⟨none,0,0⟩,[],⟨none,0,0⟩,[]) (.cellA rfl rfl .h rfl jd.h ek.h.sz rfl rfl (.tmp rfl rfl .nil)) rfl (.conv .nil (dK (Ro:=(aR aY)) (E:=3)) (.cons .nil) (.conv .nil (dK (Ro:=fJ) (E:=83)) (.cons .nil) (.sel (.cons (.t .h) (.cons .h .nil)))))
   refine aB ?_
   refine As (zg [l9.1.v,(.slice none 0 0)]) ?_
   refine aB ?_
   refine bnd hF fun bO eD hF=>dM (sN eD) (fun pV=>?_)
   refine ay ?_
   refine bI (bY (m:=bO.length) (fun QK f' cs'=>∃(g:Fr)(mX:Nat)(qY:List (List UInt8))(m_:List aW)(v43:Sv)(FW:List Nat),QK=qY.length/\f'=aH g [(0,(sv aM)),(2,(pz k1)),(7,(pz k5)),(38,pV.v),(39,(zi (bO.length:Int))),(40,(zi (mX:Int)))]/\List.drop mX bO=qY/\aF cs' [bV k1 59 (.agg ([(.slice none 0 0),(.slice none 0 0)]:List Value).toArray),bV k5 59 (zg [l9.1.v,v43.v]),bR l9.2 l9.1 r9.1,vW FW v43 m_,iY pV bO]/\ma aM r9 qY mX m_=some R) ⟨_,0,_,_,⟨none,0,0⟩,[],rfl,aN,rfl,(.conv .nil (dK (Ro:=fJ) (E:=83)) (.cons .nil) aL),hF⟩ ?_)
   rintro QK _ _ ⟨g47,mX,qY,m_,v43,FW,rfl,rfl,Qb,hE,hF⟩
   refine Kb hE bO (fun acJ=>?_)
   rcases qY with _|⟨wJ,qY⟩
   · have aaS:=dn Qb
     rw[ma]at hF
     refine aB ?_
     refine dI ?_
     refine aB ?_
     refine fV [0,1,3,2,4,5,6] [0,0,2,0,14,7,63] [2,5] mixed (by decide+kernel) ?_
     iterate 2 refine oU rfl .no (.t .h) (fun ha hp=>nu jd.h ek.h.sz rfl (EN ha (.tmp rfl rfl) rfl) hp.2 rfl) ?_
     refine du ?_
     refine bnd hF fun Kw yw hF=>VA rfl rfl .no (.cons .q3 (.cons .q2 .nil)) (.dep rfl (.own (.t .h) (fun _ h=>h) .nil)) (fun ha=>z_ (pre:=[]) (.cons dm (.cons dm .nil)) (fun _=>.nil) (bZ OV.h (.cons (EN ha (.tmp rfl rfl) rfl) .nil) (@K_ (⟨r9.1,m_⟩:bG) l9.1 v43 _ yw))) (fun _=>?_)
     refine bg rfl .no (fun ha=>uu (s:=Kw) (t:=aM) (EN ha (.tmp rfl rfl) rfl) (EN ha (.tmp rfl rfl) rfl)) ?_
     refine iw rfl rfl .no (.cons .q2 .nil) (.dep rfl (.dep rfl .nil)) (fun ha=>jV (e':=(zg [l9.1.v,v43.v])) (v:=(zg [l9.1.v,v43.v])) ek.h.sz (EN ha (.tmp rfl rfl) rfl) (EN ha (.tmp rfl rfl) rfl) rfl rfl rfl rfl rfl) (fun _=>?_)
     refine fA ?_
     refine au ?_
     cases hF
     exact dO (l9.1,l9.2,v43,FW) (.cellA rfl rfl .h rfl jd.h ek.h.sz rfl rfl (.tmp rfl rfl .nil)) rfl (.sel (.cons .q2 (.cons (.t .h) .nil)))
   obtain⟨aaS,rQ,aaT⟩:=dC Qb
   rw[ma]at hF
   refine aB ?_
   refine dH ?_
   refine ay ?_
   refine Ai rQ (fun k60 j61=>?_)
   refine Al eZ ?_
   refine aB ?_
   refine bnd hF fun pY IU hF=>dM (LU IU) (fun p64=>?_)
   refine au ?_
   refine zx ?_
   refine zx ?_
   refine fD (fun QL=>?_)
   refine As (zg [(zi pY.1.Rel),p64.1.v]) ?_
   refine aB ?_
   refine b_ (fun f' cs'=>∃(g:Fr),f'=aH g [(0,(sv aM)),(2,(pz k1)),(7,(pz k5)),(12,(pz QL)),(38,pV.v),(39,(zi (bO.length:Int))),(40,(zi (mX:Int))),(56,(.bool ((!pY.2)||(((m_.length:Int):Int)==4))))]/\aF cs' [bV k1 59 (.agg ([(.slice none 0 0),(.slice none 0 0)]:List Value).toArray),bV k5 59 (zg [l9.1.v,v43.v]),bR l9.2 l9.1 r9.1,vW FW v43 m_,bV QL 83 (zg [(zi pY.1.Rel),p64.1.v]),bR p64.2 p64.1 pY.1.Terms,iY pV bO]) ?_ ?_
   · refine ay ?_
     rcases bi (!pY.2)with BV|BV
     · rw[BV]
       try rw[BV]at hF; dsimp only[ak,aj]at hF
       refine bC ?_
       exact⟨_,aN,aL⟩
     rw[BV]
     try rw[BV]at hF; dsimp only[ak,aj]at hF
     refine kG ?_
     exact⟨_,aN,aL⟩
   rintro _ _ ⟨g67,rfl,hE⟩
   refine bz hE ?_
   refine Ci hF (fun aaU hF=>?_) (fun aaU hF=>?_)
   · refine au ?_
     refine ai (fM ek.h rfl (vs:=[]) .nil (cells:=[(.slice none 0 0),(.slice none 0 0)]) rfl) ?_
     refine As (.agg ([(.slice none 0 0),(.slice none 0 0)]:List Value).toArray) ?_
     refine ay ?_
     cases hF
     exact dO (⟨none,0,0⟩,[],⟨none,0,0⟩,[]) (.cellA rfl rfl .h rfl jd.h ek.h.sz rfl rfl (.tmp rfl rfl .nil)) rfl (.conv .nil (dK (Ro:=(aR aY)) (E:=3)) (.cons .nil) (.conv .nil (dK (Ro:=fJ) (E:=83)) (.cons .nil) (.sel (.cons (.t .h) (.cons .h .nil)))))
   refine aD ?_
   refine fI rfl (eH (g:=true) rD.h mJ.h bJ (vs:=[(zg [(zi pY.1.Rel),p64.1.v])]) rfl rfl rfl (by intro v hv; simp at hv; rcases hv with rfl<;>rfl)) (fun k68=>?_)
   refine fT (.cons .h (.cons .q5 .nil)) (eT (Ro:=fJ) (E:=83) (F:=(p64.2++[])) (xs:=([pY.1]:List aW)) (fK Ew eQ dE) rfl rfl) ?_
   refine bnd hF fun z69 IV hF=>cB (.cons .q4 (.cons .h .nil)) (iJ (Ro:=fJ) rD.h Ex mJ.h rfl rfl rfl (.tmp rfl rfl) (.tmp rfl rfl) IV iM) (fun p71=>?_)
   refine au ?_
   refine As (zg [l9.1.v,p71.1.v]) ?_
   refine aD ?_
   rw[wk mX]
   exact⟨_,cK _,_,mX+1,qY,_,p71.1,p71.2,rfl,aN,aaT,aL,hF⟩
 refine aB ?_
 refine bnd hF fun sI aaV hF=>dM (sN aaV) (fun FX=>?_)
 refine ay ?_
 refine bI (bY (m:=sI.length) (fun Qd f' cs'=>∃(g:Fr)(pu:Nat)(qE:List (List UInt8))(c105:List aW)(rV:Sv)(Ff:List Nat),Qd=qE.length/\f'=aH g [(0,(sv aM)),(2,(pz k1)),(7,(pz k5)),(38,FX.v),(39,(zi (sI.length:Int))),(40,(zi (pu:Int)))]/\List.drop pu sI=qE/\aF cs' [bV k1 59 (.agg ([(.slice none 0 0),(.slice none 0 0)]:List Value).toArray),bV k5 59 (zg [(.slice none 0 0),rV.v]),vW Ff rV c105,iY FX sI]/\mf aM qE pu c105=some R) ⟨_,0,_,_,⟨none,0,0⟩,[],rfl,aN,rfl,(.conv .nil (dK (Ro:=fJ) (E:=83)) (.cons .nil) aL),hF⟩ ?_)
 rintro Qd _ _ ⟨afe,pu,qE,c105,rV,Ff,rfl,rfl,hd114,hE,hF⟩
 refine Kb hE sI (fun aby=>?_)
 rcases qE with _|⟨x113,qE⟩
 · have YF:=dn hd114
   rw[mf]at hF
   refine aB ?_
   refine dI ?_
   refine aB ?_
   refine fV [0,1,3,2,4,5,6] [0,0,2,0,14,7,63] [2,5] mixed (by decide+kernel) ?_
   iterate 2 refine oU rfl .no (.t .h) (fun ha hp=>nu jd.h ek.h.sz rfl (EN ha (.tmp rfl rfl) rfl) hp.2 rfl) ?_
   refine du ?_
   refine B_ .nil (xS (R:=aY) (E:=3)) ?_
   refine bnd hF fun Jt vT hF=>iw rfl rfl .no (.cons .q3 (.rd .h rfl .nil)) (.dep rfl (.own .q2 (fun _ h=>h) .nil)) (fun ha=>gL dm (fun _=>.nil) (nE (.rd (.t .h) rfl (.rd .h rfl .nil)) (bZ OV.h (.cons (EN ha (.tmp rfl rfl) rfl) .nil) (@K_ (⟨[],c105⟩:bG) (⟨none,0,0⟩) rV _ vT)))) (fun _=>?_)
   refine bg rfl .no (fun ha=>uu (s:=Jt) (t:=aM) (EN ha (.tmp rfl rfl) rfl) (EN ha (.tmp rfl rfl) rfl)) ?_
   refine iw rfl rfl .no (.cons .q2 .nil) (.dep rfl (.dep rfl .nil)) (fun ha=>jV (e':=(zg [(.slice none 0 0),rV.v])) (v:=(zg [(.slice none 0 0),rV.v])) ek.h.sz (EN ha (.tmp rfl rfl) rfl) (EN ha (.tmp rfl rfl) rfl) rfl rfl rfl rfl rfl) (fun _=>?_)
   refine fA ?_
   refine au ?_
   cases hF
   exact dO (⟨none,0,0⟩,[],rV,Ff) (.cellA rfl rfl .h rfl jd.h ek.h.sz rfl rfl (.tmp rfl rfl .nil)) rfl (.conv .nil (dK (Ro:=(aR aY)) (E:=3)) (.cons .nil) (.sel (.cons .h (.cons (.t .h) .nil))))
 obtain⟨YF,YG,YH⟩:=dC hd114
 rw[mf]at hF
 refine aB ?_
 refine dH ?_
 refine ay ?_
 refine Ai YG (fun aff afg=>?_)
 refine Al eZ ?_
 refine aB ?_
 refine bnd hF fun pE YI hF=>dM (LU YI) (fun yD=>?_)
 refine au ?_
 refine zx ?_
 refine zx ?_
 refine fD (fun Qe=>?_)
 refine As (zg [(zi pE.1.Rel),yD.1.v]) ?_
 refine aB ?_
 refine b_ (fun f' cs'=>∃(g:Fr),f'=aH g [(0,(sv aM)),(2,(pz k1)),(7,(pz k5)),(12,(pz Qe)),(38,FX.v),(39,(zi (sI.length:Int))),(40,(zi (pu:Int))),(56,(.bool ((!pE.2)||(((c105.length:Int):Int)==4))))]/\aF cs' [bV k1 59 (.agg ([(.slice none 0 0),(.slice none 0 0)]:List Value).toArray),bV k5 59 (zg [(.slice none 0 0),rV.v]),vW Ff rV c105,bV Qe 83 (zg [(zi pE.1.Rel),yD.1.v]),bR yD.2 yD.1 pE.1.Terms,iY FX sI]) ?_ ?_
 · refine ay ?_
   rcases bi (!pE.2)with AR|AR
   · rw[AR]
     try rw[AR]at hF; dsimp only[ak,aj]at hF
     refine bC ?_
     exact⟨_,aN,aL⟩
   rw[AR]
   try rw[AR]at hF; dsimp only[ak,aj]at hF
   refine kG ?_
   exact⟨_,aN,aL⟩
 rintro _ _ ⟨afh,rfl,hE⟩
 refine bz hE ?_
 refine Ci hF (fun YJ hF=>?_) (fun YJ hF=>?_)
 · refine au ?_
   refine ai (fM ek.h rfl (vs:=[]) .nil (cells:=[(.slice none 0 0),(.slice none 0 0)]) rfl) ?_
   refine As (.agg ([(.slice none 0 0),(.slice none 0 0)]:List Value).toArray) ?_
   refine ay ?_
   cases hF
   exact dO (⟨none,0,0⟩,[],⟨none,0,0⟩,[]) (.cellA rfl rfl .h rfl jd.h ek.h.sz rfl rfl (.tmp rfl rfl .nil)) rfl (.conv .nil (dK (Ro:=(aR aY)) (E:=3)) (.cons .nil) (.conv .nil (dK (Ro:=fJ) (E:=83)) (.cons .nil) (.sel (.cons (.t .h) (.cons .h .nil)))))
 refine aD ?_
 refine fI rfl (eH (g:=true) rD.h mJ.h bJ (vs:=[(zg [(zi pE.1.Rel),yD.1.v])]) rfl rfl rfl (by intro v hv; simp at hv; rcases hv with rfl<;>rfl)) (fun afi=>?_)
 refine fT (.cons .h (.cons .q4 .nil)) (eT (Ro:=fJ) (E:=83) (F:=(yD.2++[])) (xs:=([pE.1]:List aW)) (fK Ew eQ dE) rfl rfl) ?_
 refine bnd hF fun Qa Hw hF=>cB (.cons .q3 (.cons .h .nil)) (iJ (Ro:=fJ) rD.h Ex mJ.h rfl rfl rfl (.tmp rfl rfl) (.tmp rfl rfl) Hw iM) (fun Ju=>?_)
 refine au ?_
 refine As (zg [(.slice none 0 0),Ju.1.v]) ?_
 refine aD ?_
 rw[wk pu]
 exact⟨_,cK _,_,pu+1,qE,_,Ju.1,Ju.2,rfl,aN,YH,aL,hF⟩
def zZ(aa:List Int)(aX:aW):Option (Bool):=
 ((qw aa aX.Rel).bind fun r4=>
   bif r4 then ((ix aa aX.Rel).bind fun x8=>
     bif (((aX.Terms.length:Int):Int)==x8)then ((xx aX.Terms).bind fun dV=>
       some dV)
     else (some false))
   else (some false)).bind fun o2=>
 match o2 with
 |c18=>some c18
theorem TC{aa:List Int}{ae:Sv}{aX:aW}{dP:Sv}{R:Bool}(hF:zZ aa aX=some R):
   Fw.Spec Tryz.prog 145 [ae.v,(zg [(zi aX.Rel),dP.v])] [aC ae aa,aC dP aX.Terms] (fun _:Unit=>(.bool R)) (fun _=>[]):=by
 refine Se 25 Tryz.func145 [.tmp 4] ?_
 intro H0 F0
 unfold zZ at hF
 refine au ?_
 refine fe (fun k1=>?_)
 refine aI ?_
 obtain⟨o2,fB,hO3⟩:=bind_some hF
 refine fV [0,1,2,3,4,5,6,7,8,9,10,11,12,13,14,15,16,17,18,19,20] [0,0,2,7,15,31,63,127,31,31,543,1823,3871,8191,16383,32767,65535,131071,262143,524287,1048575] [3,18] mixed (by decide+kernel) ?_
 refine oV (fun f' cs'=>∃(c18:Bool)(g:Fr),c18=o2/\f'=aH g [(4,(.bool c18))]/\aF cs' []) ?_ ?_
 · replace hF:=fB
   refine gZ ?_
   refine bnd hF fun r4 hx5 hF=>cZ (zw hx5) (fun _=>?_)
   refine du ?_
   rcases bi r4 with a_|a_
   · rw[a_]
     try rw[a_]at hF; dsimp only[ak,aj]at hF
     refine uE ?_
     refine zI hF fun x8 PW rF hF=>?_
     refine Di rF (fun k12 j13=>?_)
     refine Dl dw ?_
     refine gZ ?_
     rcases bi (((aX.Terms.length:Int):Int)==x8)with n_|n_
     · rw[n_]
       try rw[n_]at hF; dsimp only[ak,aj]at hF
       refine fA ?_
       refine bnd hF fun dV hx16 hF=>cZ (LQ hx16) (fun _=>?_)
       exact fP hF
     rw[n_]
     try rw[n_]at hF; dsimp only[ak,aj]at hF
     exact fP hF
   rw[a_]
   try rw[a_]at hF; dsimp only[ak,aj]at hF
   exact fP hF
 rintro _ _ ⟨c18,g19,rfl,rfl,hE⟩
 replace hF:=hO3
 try dsimp only at hF
 refine bz hE ?_
 exact ze hF
def zB(aX:aW)(bD:List Int):Option (Bool):=
 (zZ bD aX).bind fun r2=>
 some (!r2)
theorem Sq{aX:aW}{bA:Sv}{dJ:Nat}{bD:List Int}{iV:Sv}{R:Bool}(hF:zB aX bD=some R):
   Fw.Spec Tryz.prog 144 [(zg [(zi aX.Rel),bA.v]),(pz dJ)] [aC bA aX.Terms,cu dJ 22 iV.v,aC iV bD] (fun _:Unit=>(.bool R)) (fun _=>[]):=by
 refine Se 8 Tryz.func144 [.tmp 3] ?_
 intro H0 F0
 unfold zB at hF
 refine au ?_
 refine fe (fun k1=>?_)
 refine aD ?_
 refine bnd hF fun r2 hx3 hF=>aA (TC hx3) (fun _=>?_)
 exact ze hF
def wN(bD:List Int):List aW->Nat->Option (Int)
 |[],k4=>some (-1)
 |x6::aK,k4=>(zB x6 bD).bind fun r16=>
   if r16 then (
     some (k4:Int))
   else (
     wN bD aK (k4+1))
def CK(aa:List aW)(bD:List Int):Option (Int):=
 wN bD aa 0
theorem QR{aa:List aW}{ae:Sv}{dJ:Nat}{bD:List Int}{iV:Sv}{R:Int}(hF:CK aa bD=some R):
   Fw.Spec Tryz.prog 205 [ae.v,(.func (.func 144) [].toArray [(pz dJ)].toArray)] [fQ ae aa,cu dJ 22 iV.v,aC iV bD] (fun _:Unit=>(zi R)) (fun _=>[]):=by
 refine Se 19 Tryz.func205 [.tmp 4] ?_
 intro H0 F0
 unfold CK at hF
 refine gq ?_
 refine bI (bY (m:=aa.length) (fun m2 f' cs'=>∃(g:Fr)(k4:Nat)(aK:List aW),m2=aK.length/\f'=aH g [(0,ae.v),(1,(.func (.func 144) [].toArray [(pz dJ)].toArray)),(7,(zi (aa.length:Int))),(8,(zi (k4:Int)))]/\List.drop k4 aa=aK/\aF cs' [fQ ae aa,cu dJ 22 iV.v,aC iV bD]/\wN bD aK k4=some R) ⟨_,0,_,rfl,aN,rfl,aL,hF⟩ ?_)
 rintro m2 _ _ ⟨g3,k4,aK,rfl,rfl,hd7,hE,hF⟩
 refine Kb hE aa (fun mF=>?_)
 rcases aK with _|⟨x6,aK⟩
 · have h_:=dn hd7
   rw[wN]at hF
   refine aB ?_
   refine dI ?_
   exact ze hF
 obtain⟨h_,bQ,g_⟩:=dC hd7
 rw[wN]at hF
 refine aB ?_
 refine dH ?_
 refine kG ?_
 refine Ai bQ (fun k13 om=>?_)
 refine yl (vF x6) xy (fun p15=>?_)
 refine bnd hF fun r16 jf hF=>mH (.rd .h rfl (.rd .q3 rfl (.rd .q4 rfl .nil))) (ui Xb.h (.tmp rfl rfl) bJ (Sq jf)) (fun _=>?_)
 refine au ?_
 refine Ci hF (fun aaW hF=>?_) (fun aaW hF=>?_)
 · exact ze hF
 refine aD ?_
 rw[wk k4]
 exact⟨_,cK _,_,k4+1,aK,rfl,aN,g_,aL,hF⟩
def yL(aa:List aW)(bD:List Int):Option (Bool):=
 (CK aa bD).bind fun r1=>
 some (decide ((0:Int)<=r1))
theorem QQ{aa:List aW}{ae:Sv}{dJ:Nat}{bD:List Int}{iV:Sv}{R:Bool}(hF:yL aa bD=some R):
   Fw.Spec Tryz.prog 143 [ae.v,(.func (.func 144) [].toArray [(pz dJ)].toArray)] [fQ ae aa,cu dJ 22 iV.v,aC iV bD] (fun _:Unit=>(.bool R)) (fun _=>[]):=by
 refine Se 9 Tryz.func143 [.tmp 4] ?_
 intro H0 F0
 unfold yL at hF
 refine bC ?_
 refine bnd hF fun r1 hx2 hF=>aA (QR hx2) (fun _=>?_)
 exact ze hF
def zN(aa:List Int)(aG:bG):Option (Bool):=
 ((xw aa).bind fun r5=>
   bif r5 then ((gP (aG.Atoms.length:Int) 1 4).bind fun r9=>
     bif r9 then ((yL aG.Atoms aa).bind fun lM=>
       bif (!lM)then ((vG aG).bind fun fo=>
         some fo)
       else (some false))
     else (some false))
   else (some false)).bind fun o3=>
 match o3 with
 |c20=>some c20
theorem Ta{aa:List Int}{ae:Sv}{aG:bG}{j5 dP:Sv}{R:Bool}(hF:zN aa aG=some R):
   Fw.Spec Tryz.prog 94 [ae.v,(zg [j5.v,dP.v])] [aC ae aa,aC j5 aG.Head,fQ dP aG.Atoms] (fun _:Unit=>(.bool R)) (fun _=>[]):=by
 refine Se 24 Tryz.func94 [.tmp 4] ?_
 intro H0 F0
 unfold zN at hF
 refine au ?_
 refine fe (fun k1=>?_)
 refine fe (fun k2=>?_)
 refine aI ?_
 obtain⟨o3,Jh,hO4⟩:=bind_some hF
 refine au ?_
 refine b_ (fun f' cs'=>∃(c20:Bool)(g:Fr),c20=o3/\f'=aH g [(4,(.bool c20))]/\aF cs' []) ?_ ?_
 · replace hF:=Jh
   refine au ?_
   refine bnd hF fun r5 hx6 hF=>aA (LK hx6) (fun _=>?_)
   refine au ?_
   rcases bi r5 with iH|iH
   · rw[iH]
     try rw[iH]at hF; dsimp only[ak,aj]at hF
     refine bU ?_
     refine bnd hF fun r9 jg hF=>aA (jq jg) (fun _=>?_)
     refine aI ?_
     rcases bi r9 with gu|gu
     · rw[gu]
       try rw[gu]at hF; dsimp only[ak,aj]at hF
       refine aD ?_
       refine ai (mh (fn:=.func 144) (vs:=[]) (us:=[(pz k1)]) .nil bJ) ?_
       refine au ?_
       refine bnd hF fun lM j4 hF=>aA (QQ j4) (fun _=>?_)
       refine aB ?_
       rcases bi (!lM)with gz|gz
       · rw[gz]
         try rw[gz]at hF; dsimp only[ak,aj]at hF
         refine ay ?_
         refine bnd hF fun fo jC hF=>aA (Md jC) (fun _=>?_)
         exact aP hF
       rw[gz]
       try rw[gz]at hF; dsimp only[ak,aj]at hF
       exact aP hF
     rw[gu]
     try rw[gu]at hF; dsimp only[ak,aj]at hF
     exact aP hF
   rw[iH]
   try rw[iH]at hF; dsimp only[ak,aj]at hF
   exact aP hF
 rintro _ _ ⟨c20,g21,rfl,rfl,hE⟩
 replace hF:=hO4
 try dsimp only at hF
 refine bz hE ?_
 exact ze hF
def vg(aa:List Int)(aM:List UInt8):Option (bG×Bool):=
 (oK aM).bind fun r2=>
 (bif (!r2.2)then (some true)
   else ((zN aa r2.1).bind fun r9=>
     some (!r9))).bind fun o6=>
 match o6 with
 |c12=>if c12 then (
     some ((⟨[],[]⟩:bG),false))
   else (
     some (r2.1,true))
theorem Lf{aa:List Int}{ae:Sv}{aM:List UInt8}{R:bG×Bool}(hF:vg aa aM=some R):
   Fw.Spec Tryz.prog 63 [ae.v,(sv aM)] [aC ae aa] (fun p:Sv×List Nat×Sv×List Nat=>(.tuple [(zg [p.1.v,p.2.2.1.v]),(.bool R.2)].toArray)) (fun p=>[bR p.2.1 p.1 R.1.Head,vW p.2.2.2 p.2.2.1 R.1.Atoms]):=by
 refine Se 23 Tryz.func63 [.cell 4 59,.tmp 5] ?_
 intro H0 F0
 unfold vg at hF
 refine au ?_
 refine fD (fun k1=>?_)
 refine aB ?_
 refine bnd hF fun r2 hx3 hF=>BZ (Sn hx3) (fun p4=>?_)
 refine au ?_
 refine zx ?_
 refine zx ?_
 refine fD (fun k5=>?_)
 refine As (zg [p4.1.v,p4.2.2.1.v]) ?_
 refine ay ?_
 obtain⟨o6,Jn,Ki⟩:=bind_some hF
 refine au ?_
 refine b_ (fun f' cs'=>∃(c12:Bool)(g:Fr),c12=o6/\f'=aH g [(4,(pz k1)),(6,(pz k5)),(20,(.bool c12))]/\aF cs' [bV k1 59 (.agg ([(.slice none 0 0),(.slice none 0 0)]:List Value).toArray),bV k5 59 (zg [p4.1.v,p4.2.2.1.v]),bR p4.2.1 p4.1 r2.1.Head,vW p4.2.2.2 p4.2.2.1 r2.1.Atoms]) ?_ ?_
 · replace hF:=Jn
   refine ay ?_
   rcases bi (!r2.2)with iH|iH
   · rw[iH]
     try rw[iH]at hF; dsimp only[ak,aj]at hF
     exact aP hF
   rw[iH]
   try rw[iH]at hF; dsimp only[ak,aj]at hF
   refine aD ?_
   refine bnd hF fun r9 jg hF=>AY (.cons .q2 (.cons (.t .h) (.rd .q2 rfl .nil))) (z_ (pre:=_) (.cons dm (.cons dm .nil)) (fun _=>.nil) (nE (.rd .q2 rfl (.rd .h rfl (.rd (.t .h) rfl .nil))) (bZ Zt.h bJ (Ta jg)))) (fun _=>?_)
   exact aP hF
 rintro _ _ ⟨c12,g14,rfl,rfl,hE⟩
 replace hF:=Ki
 try dsimp only at hF
 refine bz hE ?_
 refine Ci hF (fun aaX hF=>?_) (fun aaX hF=>?_)
 · refine au ?_
   refine ai (fM ek.h rfl (vs:=[]) .nil (cells:=[(.slice none 0 0),(.slice none 0 0)]) rfl) ?_
   refine As (.agg ([(.slice none 0 0),(.slice none 0 0)]:List Value).toArray) ?_
   refine ay ?_
   cases hF
   exact dO (⟨none,0,0⟩,[],⟨none,0,0⟩,[]) (.cellA rfl rfl .h rfl jd.h ek.h.sz rfl rfl (.tmp rfl rfl .nil)) rfl (.conv .nil (dK (Ro:=(aR aY)) (E:=3)) (.cons .nil) (.conv .nil (dK (Ro:=fJ) (E:=83)) (.cons .nil) (.sel (.cons (.t .h) (.cons .h .nil)))))
 refine ay ?_
 refine As (zg [p4.1.v,p4.2.2.1.v]) ?_
 refine ay ?_
 cases hF
 exact dO (p4.1,p4.2.1,p4.2.2.1,p4.2.2.2) (.cellA rfl rfl .h rfl jd.h ek.h.sz rfl rfl (.tmp rfl rfl .nil)) rfl (.sel (.cons .q2 (.cons .q2 .nil)))
def Da(bT:Event)(aa:List Int):Option (Bool):=
 if ((bT.Kind:Int)==1)then (
   (zf aa bT.Text).bind fun r2=>
   if r2.2 then (
     some true)
   else (
     some false))
 else (
   if ((bT.Kind:Int)==2)then (
     (zz aa bT.Text).bind fun r7=>
     if r7.2 then (
       some true)
     else (
       some false))
   else (
     if ((bT.Kind:Int)==3)then (
       if ((bT.Kind:Int)==3)then (
         (xk aa bT.Text).bind fun bO=>
         if bO.2 then (
           some true)
         else (
           some false))
       else (
         if ((bT.Kind:Int)==5)then (
           (gK bT.Text).bind fun fo=>
           (bif fo.2 then ((gP fo.1 1 100).bind fun gV=>
               some gV)
             else (some false)).bind fun Ky=>
           match Ky with
           |jl=>if jl then (
               some true)
             else (
               some false))
         else (
           if ((bT.Kind:Int)==6)then (
             (vg aa bT.Text).bind fun fC=>
             if fC.2 then (
               some true)
             else (
               some false))
           else (
             some false))))
     else (
       if ((bT.Kind:Int)==4)then (
         (xk aa bT.Text).bind fun jT=>
         if jT.2 then (
           some true)
         else (
           some false))
       else (
         if ((bT.Kind:Int)==5)then (
           (gK bT.Text).bind fun mQ=>
           (bif mQ.2 then ((gP mQ.1 1 100).bind fun iq=>
               some iq)
             else (some false)).bind fun CE=>
           match CE with
           |c53=>if c53 then (
               some true)
             else (
               some false))
         else (
           if ((bT.Kind:Int)==6)then (
             (vg aa bT.Text).bind fun uR=>
             if uR.2 then (
               some true)
             else (
               some false))
           else (
             some false))))))
theorem RD{bT:Event}{aa:List Int}{j5:Sv}{R:Bool}(hF:Da bT aa=some R):
   Fw.Spec Tryz.prog 27 [(zg [(zi bT.Kind),(sv bT.Text)]),j5.v] [aC j5 aa] (fun p:Fs=>(Jz p R)) (fun _=>[]):=by
 refine Se 76 Tryz.func27 [.tmp 4] ?_
 intro H0 F0
 unfold Da at hF
 refine au ?_
 refine fe (fun k1=>?_)
 refine bU ?_
 refine bI (eu (ai (Eb (i:=bT.Kind) (j:=1) (.tmp rfl rfl) (.int _ _)) ?_))
 refine aI ?_
 refine Ci hF (fun I4 hF=>?_) (fun I4 hF=>?_)
 · refine aB ?_
   refine bnd hF fun r2 hx3 hF=>dM (RJ hx3) (fun p4=>?_)
   refine au ?_
   refine zx ?_
   refine zx ?_
   refine fD (fun k5=>?_)
   refine As (zg [(zi r2.1.Rel),p4.1.v,(zi r2.1.Limit),(zi r2.1.Cost),(zi r2.1.Quota)]) ?_
   refine aD ?_
   refine Ci hF (fun hb6 hF=>?_) (fun hb6 hF=>?_)
   · refine au ?_
     refine ai (mh (fn:=.func 51) (vs:=[]) (us:=[(pz k5)]) .nil bJ) ?_
     refine ay ?_
     cases hF
     exact Er (.func 51,[],[(pz k5)])
   refine aD ?_
   cases hF
   exact Er (.func 0,[],[])
 refine aB ?_
 refine Ci hF (fun Bc hF=>?_) (fun Bc hF=>?_)
 · refine aB ?_
   refine bnd hF fun r7 iG hF=>dM (Sl iG) (fun p9=>?_)
   refine au ?_
   refine zx ?_
   refine zx ?_
   refine fD (fun k10=>?_)
   refine As (zg [(zi r7.1.From),(zi r7.1.To),p9.1.v]) ?_
   refine aD ?_
   refine Ci hF (fun aaY hF=>?_) (fun aaY hF=>?_)
   · refine au ?_
     refine ai (mh (fn:=.func 54) (vs:=[]) (us:=[(pz k10)]) .nil bJ) ?_
     refine ay ?_
     cases hF
     exact Er (.func 54,[],[(pz k10)])
   refine aD ?_
   cases hF
   exact Er (.func 0,[],[])
 refine aD ?_
 refine Ci hF (fun Br hF=>?_) (fun Br hF=>?_)
 · refine au ?_
   refine Ci hF (fun Bu hF=>?_) (fun Bu hF=>?_)
   · refine aB ?_
     refine bnd hF fun bO eD hF=>dM (Ll eD) (fun pV=>?_)
     refine au ?_
     refine zx ?_
     refine zx ?_
     refine fD (fun k15=>?_)
     refine As (zg [(zi bO.1.Rel),pV.1.v]) ?_
     refine aD ?_
     refine Ci hF (fun wm hF=>?_) (fun wm hF=>?_)
     · refine au ?_
       refine ai (mh (fn:=.func 57) (vs:=[]) (us:=[(pz k1),(pz k15)]) .nil bJ) ?_
       refine ay ?_
       cases hF
       exact Er (.func 57,[],[(pz k1),(pz k15)])
     refine aD ?_
     cases hF
     exact Er (.func 0,[],[])
   refine aB ?_
   refine Ci hF (fun Jq hF=>?_) (fun Jq hF=>?_)
   · refine ay ?_
     refine bnd hF fun fo jC hF=>aA (kS jC) (fun _=>?_)
     refine au ?_
     refine zx ?_
     refine zx ?_
     refine fD (fun k20=>?_)
     refine As (zi fo.1) ?_
     refine aI ?_
     obtain⟨Ky,YK,aaZ⟩:=bind_some hF
     refine au ?_
     refine b_ (fun f' cs'=>∃(jl:Bool)(g:Fr),jl=Ky/\f'=aH g [(11,(pz k20)),(63,(.bool jl))]/\aF cs' [bV k20 3 (zi fo.1)]) ?_ ?_
     · replace hF:=YK
       refine aI ?_
       rcases bi fo.2 with og|og
       · rw[og]
         try rw[og]at hF; dsimp only[ak,aj]at hF
         refine ay ?_
         refine bnd hF fun gV hx25 hF=>aA (jq hx25) (fun _=>?_)
         exact aP hF
       rw[og]
       try rw[og]at hF; dsimp only[ak,aj]at hF
       exact aP hF
     rintro _ _ ⟨jl,g29,rfl,rfl,hE⟩
     replace hF:=aaZ
     try dsimp only at hF
     refine bz hE ?_
     refine Ci hF (fun aa0 hF=>?_) (fun aa0 hF=>?_)
     · refine au ?_
       refine ai (mh (fn:=.func 61) (vs:=[]) (us:=[(pz k20)]) .nil bJ) ?_
       refine ay ?_
       cases hF
       exact Er (.func 61,[],[(pz k20)])
     refine aD ?_
     cases hF
     exact Er (.func 0,[],[])
   refine aB ?_
   refine Ci hF (fun Jr hF=>?_) (fun Jr hF=>?_)
   · refine aB ?_
     refine bnd hF fun fC hx31 hF=>BZ (Lf hx31) (fun p32=>?_)
     refine au ?_
     refine zx ?_
     refine zx ?_
     refine fD (fun yI=>?_)
     refine As (zg [p32.1.v,p32.2.2.1.v]) ?_
     refine aD ?_
     refine Ci hF (fun IG hF=>?_) (fun IG hF=>?_)
     · refine au ?_
       refine ai (mh (fn:=.func 64) (vs:=[]) (us:=[(pz yI)]) .nil bJ) ?_
       refine ay ?_
       cases hF
       exact Er (.func 64,[],[(pz yI)])
     refine aD ?_
     cases hF
     exact Er (.func 0,[],[])
   refine aD ?_
   cases hF
   exact Er (.func 0,[],[])
 refine aB ?_
 refine Ci hF (fun vZ hF=>?_) (fun vZ hF=>?_)
 · refine aB ?_
   refine bnd hF fun jT hx39 hF=>dM (Ll hx39) (fun p40=>?_)
   refine au ?_
   refine zx ?_
   refine zx ?_
   refine fD (fun rY=>?_)
   refine As (zg [(zi jT.1.Rel),p40.1.v]) ?_
   refine aD ?_
   refine Ci hF (fun H6 hF=>?_) (fun H6 hF=>?_)
   · refine au ?_
     refine ai (mh (fn:=.func 57) (vs:=[]) (us:=[(pz k1),(pz rY)]) .nil bJ) ?_
     refine ay ?_
     cases hF
     exact Er (.func 57,[],[(pz k1),(pz rY)])
   refine aD ?_
   cases hF
   exact Er (.func 0,[],[])
 refine aB ?_
 refine Ci hF (fun aa1 hF=>?_) (fun aa1 hF=>?_)
 · refine ay ?_
   refine bnd hF fun mQ wh hF=>aA (kS wh) (fun _=>?_)
   refine au ?_
   refine zx ?_
   refine zx ?_
   refine fD (fun pQ=>?_)
   refine As (zi mQ.1) ?_
   refine aI ?_
   obtain⟨CE,YL,aa2⟩:=bind_some hF
   refine au ?_
   refine b_ (fun f' cs'=>∃(c53:Bool)(g:Fr),c53=CE/\f'=aH g [(11,(pz pQ)),(63,(.bool c53))]/\aF cs' [bV pQ 3 (zi mQ.1)]) ?_ ?_
   · replace hF:=YL
     refine aI ?_
     rcases bi mQ.2 with nR|nR
     · rw[nR]
       try rw[nR]at hF; dsimp only[ak,aj]at hF
       refine ay ?_
       refine bnd hF fun iq mO hF=>aA (jq mO) (fun _=>?_)
       exact aP hF
     rw[nR]
     try rw[nR]at hF; dsimp only[ak,aj]at hF
     exact aP hF
   rintro _ _ ⟨c53,g55,rfl,rfl,hE⟩
   replace hF:=aa2
   try dsimp only at hF
   refine bz hE ?_
   refine Ci hF (fun Jp hF=>?_) (fun Jp hF=>?_)
   · refine au ?_
     refine ai (mh (fn:=.func 61) (vs:=[]) (us:=[(pz pQ)]) .nil bJ) ?_
     refine ay ?_
     cases hF
     exact Er (.func 61,[],[(pz pQ)])
   refine aD ?_
   cases hF
   exact Er (.func 0,[],[])
 refine aB ?_
 refine Ci hF (fun Bl hF=>?_) (fun Bl hF=>?_)
 · refine aB ?_
   refine bnd hF fun uR yA hF=>BZ (Lf yA) (fun p58=>?_)
   refine au ?_
   refine zx ?_
   refine zx ?_
   refine fD (fun Kk=>?_)
   refine As (zg [p58.1.v,p58.2.2.1.v]) ?_
   refine aD ?_
   refine Ci hF (fun aa3 hF=>?_) (fun aa3 hF=>?_)
   · refine au ?_
     refine ai (mh (fn:=.func 64) (vs:=[]) (us:=[(pz Kk)]) .nil bJ) ?_
     refine ay ?_
     cases hF
     exact Er (.func 64,[],[(pz Kk)])
   refine aD ?_
   cases hF
   exact Er (.func 0,[],[])
 refine aD ?_
 cases hF
 exact Er (.func 0,[],[])
def zO(aa:List Int)(bT:Event):Option (Bool):=
 (Da bT aa).bind fun r2=>
 some r2
theorem Tc{aa:List Int}{ae:Sv}{bT:Event}{R:Bool}(hF:zO aa bT=some R):
   Fw.Spec Tryz.prog 10 [ae.v,(zg [(zi bT.Kind),(sv bT.Text)])] [aC ae aa] (fun _:Unit=>(.bool R)) (fun _=>[]):=by
 refine Se 9 Tryz.func10 [.tmp 4] ?_
 intro H0 F0
 unfold zO at hF
 refine au ?_
 refine fe (fun k1=>?_)
 refine aD ?_
 refine bnd hF fun r2 hx3 hF=>aA (RD hx3) (fun p4=>?_)
 refine ai (VG (p:=p4) (b:=r2) Xc (.tmp rfl rfl)) ?_
 exact ze hF
def xm(p_:List Int):List Int->Nat->Option (Bool)
 |[],k4=>some true
 |x6::aK,k4=>(ix p_ (k4:Int)).bind fun QM=>
   if ((x6:Int)!=QM)then (
     some false)
   else (
     xm p_ aK (k4+1))
def DJ(aX:List Int)(p_:List Int):Option (Bool):=
 if (((aX.length:Int):Int)!=(p_.length:Int))then (
   some false)
 else (
   xm p_ aX 0)
theorem TD{aX:List Int}{ae:Sv}{p_:List Int}{j5:Sv}{R:Bool}(hF:DJ aX p_=some R):
   Fw.Spec Tryz.prog 11 [ae.v,j5.v] [aC ae aX,aC j5 p_] (fun _:Unit=>(.bool R)) (fun _=>[]):=by
 refine Se 26 Tryz.func11 [.tmp 4] ?_
 intro H0 F0
 unfold DJ at hF
 refine Au ?_
 refine Ci hF (fun H8 hF=>?_) (fun H8 hF=>?_)
 · exact ze hF
 refine aD ?_
 refine bI (bY (m:=aX.length) (fun m2 f' cs'=>∃(g:Fr)(k4:Nat)(aK:List Int),m2=aK.length/\f'=aH g [(0,ae.v),(1,j5.v),(5,(zi (k4:Int)))]/\List.drop k4 aX=aK/\aF cs' [aC ae aX,aC j5 p_]/\xm p_ aK k4=some R) ⟨_,0,_,rfl,aN,rfl,aL,hF⟩ ?_)
 rintro m2 _ _ ⟨g3,k4,aK,rfl,rfl,hd7,hE,hF⟩
 refine Kb hE aX (fun mF=>?_)
 rcases aK with _|⟨x6,aK⟩
 · have h_:=dn hd7
   rw[xm]at hF
   refine bU ?_
   refine dI ?_
   exact ze hF
 obtain⟨h_,bQ,g_⟩:=dC hd7
 rw[xm]at hF
 refine bU ?_
 refine dH ?_
 refine aI ?_
 refine fV [0,1,2,3,4,5,6,7,8] [0,0,3,7,0,0,48,112,255] [] mixed (by decide+kernel) ?_
 refine fA ?_
 refine Di bQ (fun k13 om=>?_)
 refine Dl dw ?_
 refine fA ?_
 refine zI hF fun QM afj jC hF=>?_
 refine Di jC (fun k19 j20=>?_)
 refine Dl dw ?_
 refine fA ?_
 refine Ci hF (fun Ib hF=>?_) (fun Ib hF=>?_)
 · exact ze hF
 refine bC ?_
 rw[wk k4]
 exact⟨_,cK _,_,k4+1,aK,rfl,aN,g_,aL,hF⟩
def CZ(fuel:Nat)(wy:List Int)(wz:Event):Option (Bool):=
 if (decide ((1048576:Int)<(wy.length:Int)))then (
   some true)
 else (
   (Du wz 1048576).bind fun r2=>
   if (decide ((r2:Int)<0))then (
     some true)
   else (
     (xG wy).bind fun r5=>
     (xz wz).bind fun r8=>
     (zL fuel r5 r8).bind fun iQ=>
     (xG wy).bind fun ky=>
     (xz wz).bind fun fo=>
     (zO ky fo).bind fun fE=>
     if (!(fE==iQ))then (
       some false)
     else (
       (xG wy).bind fun Cw=>
       (DJ ky Cw).bind fun oq=>
       if (!oq)then (
         some false)
       else (
         some true))))
theorem Ru{fuel:Nat}{wy:List Int}{ae:Sv}{wz:Event}{R:Bool}(hF:CZ fuel wy wz=some R):
   Fw.Spec Tryz.prog 3 [ae.v,(zg [(zi wz.Kind),(sv wz.Text)])] [aC ae wy] (fun _:Unit=>(.bool R)) (fun _=>[]):=by
 refine Se 36 Tryz.func3 [.tmp 4] ?_
 intro H0 F0
 unfold CZ at hF
 refine au ?_
 refine fe (fun k1=>?_)
 refine dh ?_
 refine Ci hF (fun vX hF=>?_) (fun vX hF=>?_)
 · exact ze hF
 refine bU ?_
 refine bnd hF fun r2 hx3 hF=>aA (S9 hx3) (fun _=>?_)
 refine bU ?_
 refine Ci hF (fun IJ hF=>?_) (fun IJ hF=>?_)
 · exact ze hF
 refine au ?_
 refine fV [0,2,1,3,4,5] [0,1,0,7,15,31] [1,3,4] mixed (by decide+kernel) ?_
 refine fA ?_
 refine bnd hF fun r5 hx6 hF=>Qm (Gh hx6) (fun p7=>?_)
 refine bnd hF fun r8 bQ hF=>cZ (L9 bQ) (fun _=>?_)
 refine bnd hF fun iQ lc hF=>iw rfl rfl .no (.cons .h .nil) .nil (fun ha=>gL dm (fun _=>.nil) (bZ cf7.h (.cons (EN ha (.tmp rfl rfl) rfl) (.cons (EN ha (.tmp rfl rfl) rfl) .nil)) (S_ lc))) (fun _=>?_)
 refine fA ?_
 refine aI ?_
 refine bnd hF fun ky jM hF=>dM (Gh jM) (fun p16=>?_)
 refine aD ?_
 refine bnd hF fun fo jC hF=>aA (L9 jC) (fun _=>?_)
 refine bnd hF fun fE j3 hF=>cB (.cons .h .nil) (gL dm (fun _=>.nil) (bZ Zi.h bJ (Tc j3))) (fun _=>?_)
 refine bC ?_
 refine ai (Wi (a:=fE) (b:=iQ) Tryz.underlying4 (.tmp rfl rfl) (.tmp rfl rfl)) ?_
 refine au ?_
 refine Ci hF (fun H9 hF=>?_) (fun H9 hF=>?_)
 · exact ze hF
 refine aD ?_
 refine bnd hF fun Cw hx24 hF=>dM (Gh hx24) (fun p25=>?_)
 refine bnd hF fun oq hx27 hF=>AY (.cons .h (.cons .h .nil)) (z_ (pre:=[]) (.cons dm (.cons dm .nil)) (fun _=>.nil) (bZ Zu.h bJ (TD hx27))) (fun _=>?_)
 refine aI ?_
 refine Ci hF (fun aa4 hF=>?_) (fun aa4 hF=>?_)
 · exact ze hF
 exact ze hF
end Go.Proofs.YtcjkjmnbdlnojaaGreatDoor
