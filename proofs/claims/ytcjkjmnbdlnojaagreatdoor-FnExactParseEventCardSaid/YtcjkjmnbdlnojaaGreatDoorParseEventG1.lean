/-
  Functions of the program as Lean functions, and that the calls return what these say: part 2. No conditions.
-/
import Derived.Shelf.Strconv.Itoa3
import Derived.Shelf.Strings.OnBuilder
import Derived.Shelf.Sort.Plain
import Derived.Shelf.Slices.In.SortNone
import Derived.Shelf.Slices.CompactI
import Derived.Test.YtcjkjmnbdlnojaaGreatDoorParseEventG0
import Derived.KernelRfl
set_option maxRecDepth 100000
set_option maxHeartbeats 1000000
set_option linter.unusedVariables false
namespace Go.Proofs.YtcjkjmnbdlnojaaGreatDoor
open Go Go.Fw

def zw(aa:List UInt8)(d_:List UInt8):Option ((List UInt8)×(List UInt8)×Bool):=
 (zu aa d_).bind fun r1=>
 if (decide ((0:Int)<=r1))then (
   (jI (decide (0<=r1)&&decide (r1<=((aa).length:Int)))).bind fun u5=>
   (jI (decide (0<=(IntKind.i64.wrap (r1+(d_.length:Int))))&&decide ((IntKind.i64.wrap (r1+(d_.length:Int)))<=((aa).length:Int)))).bind fun u8=>
   some ((aa.take (r1).toNat),(aa.drop ((IntKind.i64.wrap (r1+(d_.length:Int)))).toNat),true))
 else (
   some (aa,[],false))
theorem RL{aa d_:List UInt8}{R:(List UInt8)×(List UInt8)×Bool}(hF:zw aa d_=some R):
   Fw.Spec Tryz.prog 66 [(sv aa),(sv d_)] [] (fun _:Unit=>(.tuple [(sv R.1),(sv R.2.1),(.bool R.2.2)].toArray)) (fun _=>[]):=by
 refine Se 23 Tryz.func66 [.tmp 4,.tmp 5,.tmp 6] ?_
 intro H0 F0
 unfold zw at hF
 refine f_ ?_
 refine bnd hF fun r1 hx2 hF=>az (RJ hx2) (fun _=>?_)
 refine bB ?_
 refine Ci hF (fun aa8 hF=>?_) (fun aa8 hF=>?_)
 · refine gN [0,1,2,3,4,5,6,7,8,9,10,11] [0,0,3,0,0,0,32,112,248,7,1023,2047] [] mixed (by decide+kernel) ?_
   refine fT ?_
   refine bnd hF fun u5 hx6 hF=>?_
   have hc4:=lH hx6
   simp only[Bool.and_eq_true,decide_eq_true_eq]at hc4
   refine bi rfl .no (fun ha=>Ah (s:=aa) (j:=r1) dz (EN ha (.tmp rfl rfl) rfl) (EN ha (.tmp rfl rfl) rfl) hc4.1 hc4.2) ?_
   refine iy ?_
   refine bi rfl .no (fun ha=>g_ (s:=d_) dz (EN ha (.tmp rfl rfl) rfl)) ?_
   refine du ?_
   refine bnd hF fun u8 bO hF=>?_
   have KM:=lH bO
   simp only[Bool.and_eq_true,decide_eq_true_eq]at KM
   refine bi rfl .no (fun ha=>xV (s:=aa) (i:=(IntKind.i64.wrap (r1+(d_.length:Int)))) dz (EN ha (.tmp rfl rfl) rfl) (EN ha (.tmp rfl rfl) rfl) KM.1 KM.2) ?_
   refine rW ?_
   exact ze hF
 exact ze hF
def qB(aa:List UInt8)(d_:List UInt8):Option ((List UInt8)×(List UInt8)×Bool):=
 (zw aa d_).bind fun r1=>
 some (r1.1,r1.2.1,r1.2.2)
theorem GA{aa d_:List UInt8}{R:(List UInt8)×(List UInt8)×Bool}(hF:qB aa d_=some R):
   Fw.Spec Tryz.prog 29 [(sv aa),(sv d_)] [] (fun _:Unit=>(.tuple [(sv R.1),(sv R.2.1),(.bool R.2.2)].toArray)) (fun _=>[]):=by
 refine Se 13 Tryz.func29 [.tmp 4,.tmp 5,.tmp 6] ?_
 intro H0 F0
 unfold qB at hF
 refine dB ?_
 refine bnd hF fun r1 hx2 hF=>az (RL hx2) (fun _=>?_)
 refine zx ?_
 refine zx ?_
 refine zx ?_
 exact ze hF
def zR:Option ((List (List UInt8))):=
 some ([[],[109,101,116,104,111,100],[114,117,108,101],[97,100,100],[100,114,111,112],[119,97,105,116],[97,115,107]]:List (List UInt8))
theorem LX{R:(List (List UInt8))}(hF:zR=some R):
   Fw.Spec Tryz.prog 31 [] [] (fun p:Sv×List Nat=>p.1.v) (fun p=>[sJ p.2 p.1 R]):=by
 refine Se 2 Tryz.func31 [.tmp 0] ?_
 intro H0 F0
 unfold zR at hF
 refine aB ?_
 refine fF rfl (eD (g:=true) gD.h gY.h (.cons (.sv _) (.cons (.sv _) (.cons (.sv _) (.cons (.sv _) (.cons (.sv _) (.cons (.sv _) (.cons (.sv _) .nil))))))) (vs:=[(sv []),(sv [109,101,116,104,111,100]),(sv [114,117,108,101]),(sv [97,100,100]),(sv [100,114,111,112]),(sv [119,97,105,116]),(sv [97,115,107])]) rfl rfl rfl (by intro v hv; simp at hv; rcases hv with rfl|rfl|rfl|rfl|rfl|rfl|rfl<;>rfl)) (fun k1=>?_)
 refine fK (.cons .h .nil) (eH (Ro:=(aR rdStr)) (E:=9) (F:=([]++([]++([]++([]++([]++([]++([]++[])))))))) (xs:=([[],[109,101,116,104,111,100],[114,117,108,101],[97,100,100],[100,114,111,112],[119,97,105,116],[97,115,107]]:List (List UInt8))) (dM (fq (fun _=>rfl)) (dM (fq (fun _=>rfl)) (dM (fq (fun _=>rfl)) (dM (fq (fun _=>rfl)) (dM (fq (fun _=>rfl)) (dM (fq (fun _=>rfl)) (dM (fq (fun _=>rfl)) eG bU) bU) bU) bU) bU) bU) bU) rfl rfl) ?_
 refine ax ?_
 cases hF
 exact Er (⟨(some ⟨k1,0,none⟩),7,1⟩,(k1::([]++([]++([]++([]++([]++([]++([]++[])))))))))
def oM(gu:List UInt8):List (List UInt8)->Nat->Option (Int)
 |[],k4=>some (-1)
 |x6::aM,k4=>if (gu==x6)then (
     some (k4:Int))
   else (
     oM gu aM (k4+1))
def qp(aa:List (List UInt8))(gu:List UInt8):Option (Int):=
 oM gu aa 0
theorem Lb{aa:List (List UInt8)}{ae:Sv}{gu:List UInt8}{R:Int}(hF:qp aa gu=some R):
   Fw.Spec Tryz.prog 30 [ae.v,(sv gu)] [jd ae aa] (fun _:Unit=>(zi R)) (fun _=>[]):=by
 refine Se 19 Tryz.func30 [.tmp 4] ?_
 intro H0 F0
 unfold qp at hF
 refine f_ ?_
 refine bH (bX (m:=aa.length) (fun m2 f' cs'=>∃(g:Fr)(k4:Nat)(aM:List (List UInt8)),m2=aM.length/\f'=aH g [(0,ae.v),(1,(sv gu)),(7,(zi (aa.length:Int))),(8,(zi (k4:Int)))]/\List.drop k4 aa=aM/\aF cs' [jd ae aa]/\oM gu aM k4=some R) ⟨_,0,_,rfl,aK,rfl,aJ,hF⟩ ?_)
 rintro m2 _ _ ⟨g3,k4,aM,rfl,rfl,hd7,hE,hF⟩
 refine Kb hE aa (fun mQ=>?_)
 rcases aM with _|⟨x6,aM⟩
 · have gZ:=dn hd7
   rw[oM]at hF
   refine aB ?_
   refine dL ?_
   exact ze hF
 obtain⟨gZ,bO,iA⟩:=dE hd7
 rw[oM]at hF
 refine aB ?_
 refine dK ?_
 refine j6 ?_
 refine Ai bO (fun k13 oI=>?_)
 refine Al fB ?_
 refine ai (nT (s:=gu) (t:=x6) (.tmp rfl rfl) (.tmp rfl rfl)) ?_
 refine au ?_
 refine Ci hF (fun wO hF=>?_) (fun wO hF=>?_)
 · exact ze hF
 refine aD ?_
 rw[wk k4]
 exact⟨_,cO _,_,k4+1,aM,rfl,aK,iA,aJ,hF⟩
def DF(aa d_:List UInt8)(FM cu:Int):Option (List (List UInt8)):=
 if FM=0/\cu= -1/\aa.length<4294967281/\1<=d_.length/\(Lib.split aa d_).length<4294967296 then some (Lib.split aa d_)else none
theorem RZ{aa d_:List UInt8}{FM cu:Int}{R:List (List UInt8)}(hF:DF aa d_ FM cu=some R):
   Fw.Spec Tryz.prog 68 [sv aa,sv d_,.int .i64 FM,.int .i64 cu] [] (fun p:Sv=>p.v) (fun p=>[jd p R]):=by
 unfold DF at hF
 split at hF
 · rename_i h
   obtain⟨rfl,rfl,h1,h3,h2⟩:=h
   cases hF
   exact Ua Wo gY.h.sz h2 fun w hv=>by
     obtain⟨m,hm⟩:=(iL.cellI (P:=Tryz.prog) (fun w0 (h:aV.V Tryz.prog w0)=>And.right (And.right (And.right h))) hv.choose_spec)
     exact TJ VM hi9 aa d_ m h1 h3 w hm
 · simp at hF
def l9(aa:List UInt8)(d_:List UInt8):Option ((List (List UInt8))):=
 (DF aa d_ 0 (-1)).bind fun r1=>
 some r1
theorem tJ{aa d_:List UInt8}{R:(List (List UInt8))}(hF:l9 aa d_=some R):
   Fw.Spec Tryz.prog 34 [(sv aa),(sv d_)] [] (fun p:Sv=>p.v) (fun p=>[jd p R]):=by
 refine Se 8 Tryz.func34 [.tmp 4] ?_
 intro H0 F0
 unfold l9 at hF
 refine bB ?_
 refine bnd hF fun r1 hx2 hF=>dI (RZ hx2) (fun p3=>?_)
 refine ax ?_
 cases hF
 exact Er p3
def DN(aa:List UInt8):Option (Int×Bool):=
 if aa.length<=281474976710656 then some (rP aa)else none
theorem R_{aa:List UInt8}{R:Int×Bool}(hF:DN aa=some R):
   Fw.Spec Tryz.prog 90 [sv aa] [] (fun p:Nat=>(.tuple [(zi R.1),(pO 219 p R.2)].toArray)) (fun _=>[]):=by
 unfold DN at hF
 split at hF
 · rename_i h
   cases hF
   exact UT fun w hv=>UC Vj aa h w (iL.varE (P:=Tryz.prog) (fun w0 (h:aV.V Tryz.prog w0)=>And.left (And.right h)) hv.choose_spec) (iL.varE (P:=Tryz.prog) (fun w0 (h:aV.V Tryz.prog w0)=>And.left (And.right (And.right h))) hv.choose_spec)
 · simp at hF
def gX(cu:Int)(mg:Int)(nP:Int):Option (Bool):=
 some ((decide ((mg:Int)<=cu))&&(decide ((cu:Int)<=nP)))
theorem je{cu mg nP:Int}{R:Bool}(hF:gX cu mg nP=some R):
   Fw.Spec Tryz.prog 60 [(zi cu),(zi mg),(zi nP)] [] (fun _:Unit=>(.bool R)) (fun _=>[]):=by
 refine Se 15 Tryz.func60 [.tmp 6] ?_
 intro H0 F0
 unfold gX at hF
 refine aB ?_
 refine bW (fun f' cs'=>∃(g:Fr),f'=aH g [(6,(.bool ((decide ((mg:Int)<=cu))&&(decide ((cu:Int)<=nP)))))]/\aF cs' []) ?_ ?_
 · refine aB ?_
   rcases bf (decide ((mg:Int)<=cu))with hg1|hg1
   · rw[hg1]
     try rw[hg1]at hF; dsimp only[ak,aj]at hF
     refine f_ ?_
     exact⟨_,aK,aJ⟩
   rw[hg1]
   try rw[hg1]at hF; dsimp only[ak,aj]at hF
   refine bB ?_
   exact⟨_,aK,aJ⟩
 rintro _ _ ⟨g2,rfl,hE⟩
 refine bn hE ?_
 exact ze hF
def zF(cu:Int):Option (List UInt8):=
 if -9223372036854775808<=cu/\cu<=9223372036854775807 then some (Lib.itoa cu)else none
theorem Sa{cu:Int}{R:List UInt8}(hF:zF cu=some R):
   Fw.Spec Tryz.prog 135 [.int .i64 cu] [] (fun _:Unit=>(sv R)) (fun _=>[]):=by
 unfold zF at hF
 split at hF
 · rename_i h
   cases hF
   exact UO fun w hv=>Go.Proofs.Any.strconv_Itoa Vk cu h.1 h.2 w (iL.var (fun w0 (h:aV.V Tryz.prog w0)=>And.left h) hv.choose_spec)
 · simp at hF
def iO(cu:Int):Option ((List UInt8)):=
 (zF cu).bind fun r1=>
 some r1
theorem kH{cu:Int}{R:(List UInt8)}(hF:iO cu=some R):
   Fw.Spec Tryz.prog 91 [(zi cu)] [] (fun _:Unit=>(sv R)) (fun _=>[]):=by
 refine Se 5 Tryz.func91 [.tmp 2] ?_
 intro H0 F0
 unfold iO at hF
 refine aD ?_
 refine bnd hF fun r1 hx2 hF=>az (Sa hx2) (fun _=>?_)
 exact ze hF
def gW(aa:List UInt8):Option (Int×Bool):=
 (DN aa).bind fun r1=>
 (bif (!r1.2)then (some true)
   else ((gX r1.1 (-999999999) 999999999).bind fun r7=>
     bif (!r7)then (some true)
     else ((iO r1.1).bind fun iD=>
       some (!(iD==aa))))).bind fun o4=>
 match o4 with
 |c14=>if c14 then (
     some (0,false))
   else (
     some (r1.1,true))
theorem kZ{aa:List UInt8}{R:Int×Bool}(hF:gW aa=some R):
   Fw.Spec Tryz.prog 59 [(sv aa)] [] (fun _:Unit=>(.tuple [(.int .i64 R.1),(.bool R.2)].toArray)) (fun _=>[]):=by
 refine G6 (n:=25) Tryz.func59 rfl rfl (rs:=[.tmp 2,.tmp 3]) rfl rfl rfl ?_
 intro H0 F0
 unfold gW at hF
 refine eF (ai (jZ (v:=(.int .i64 0)) (.int _ _)) ?_)
 refine ai (jZ (v:=(.bool false)) (.bool _)) ?_
 refine fP (eF (Cm (sv aa) rfl rfl ?_))
 obtain⟨r1,hx2,hF⟩:=bind_some hF
 refine mU .nil (bY ZW.h (.cons (.tmp rfl rfl) .nil) (@R_ aa _ hx2)) (fun p3=>?_)
 refine Cm (.tuple [(.int .i64 r1.1),(pO 219 p3 r1.2)].toArray) rfl rfl ?_
 refine ai (Ha (l:=[(.int .i64 r1.1),(pO 219 p3 r1.2)]) (v:=(.int .i64 r1.1)) (.tmp rfl rfl) rfl) ?_
 refine ai (Ha (l:=[(.int .i64 r1.1),(pO 219 p3 r1.2)]) (v:=(pO 219 p3 r1.2)) (.tmp rfl rfl) rfl) ?_
 refine Ca (.int .i64 r1.1) rfl rfl ?_
 refine Ca (pO 219 p3 r1.2) rfl rfl ?_
 refine fP (j_ ?_)
 obtain⟨o4,aa9,Q9⟩:=bind_some hF
 refine eF (bW (fun f' cs'=>∃(c14:Bool)(g:Fr),c14=o4/\f'=aH g [(4,(.int .i64 r1.1)),(23,(.bool c14))]/\aF cs' []) ?_ ?_)
 · replace hF:=aa9
   refine Cm (pO 219 p3 r1.2) rfl rfl ?_
   refine ai (VJ (k:=p3) (b:=r1.2) Wq (.tmp rfl rfl)) ?_
   refine Cm (.bool (!r1.2)) rfl rfl ?_
   rcases Bool.eq_false_or_eq_true (!r1.2)with gK|gK
   · rw[gK]
     try rw[gK]at hF; dsimp only[cond_true,cond_false]at hF
     iterate 3 refine yF (t:=13) rfl rfl rfl ?_
     refine ai (qR (b:=true) (u:=(.bool true)) (v:=undef) (.tmp rfl rfl) (.bool _) (.tmp rfl rfl)) ?_
     refine Cm (.bool true) rfl rfl ?_
     iterate 4 refine yF (t:=18) rfl rfl rfl ?_
     refine ai (qR (b:=true) (u:=(.bool true)) (v:=undef) (.tmp rfl rfl) (.bool _) (.tmp rfl rfl)) ?_
     refine fP ?_
     obtain rfl:=Option.some.inj hF
     exact⟨_,_,rfl,(bF.cons rfl (bF.cons rfl (bF.nil))).eq,(.sel .nil)⟩
   rw[gK]
   try rw[gK]at hF; dsimp only[cond_true,cond_false]at hF
   refine kN (t:=13) rfl rfl rfl ?_
   refine Cm (.int .i64 r1.1) rfl rfl ?_
   refine kN (t:=13) rfl rfl rfl ?_
   obtain⟨r7,ik,hF⟩:=bind_some hF
   refine mU .nil (bY ZX.h (.cons (.tmp rfl rfl) (.cons (.int _ _) (.cons (.int _ _) .nil))) (@je r1.1 (-999999999) 999999999 _ ik)) (fun _=>?_)
   refine kN (t:=13) rfl rfl rfl ?_
   refine ai (A8 (b:=r7) (.tmp rfl rfl)) ?_
   refine ai (qR (b:=false) (u:=(.bool true)) (v:=(.bool (!r7))) (.tmp rfl rfl) (.bool _) (.tmp rfl rfl)) ?_
   refine Cm (.bool (!r7)) rfl rfl ?_
   rcases Bool.eq_false_or_eq_true (!r7)with ku|ku
   · rw[ku]
     try rw[ku]at hF; dsimp only[cond_true,cond_false]at hF
     iterate 4 refine yF (t:=18) rfl rfl rfl ?_
     refine ai (qR (b:=true) (u:=(.bool true)) (v:=undef) (.tmp rfl rfl) (.bool _) (.tmp rfl rfl)) ?_
     refine fP ?_
     obtain rfl:=Option.some.inj hF
     exact⟨_,_,rfl,(bF.cons rfl (bF.cons rfl (bF.nil))).eq,(.sel .nil)⟩
   rw[ku]
   try rw[ku]at hF; dsimp only[cond_true,cond_false]at hF
   refine kN (t:=18) rfl rfl rfl ?_
   refine Cm (.int .i64 r1.1) rfl rfl ?_
   refine kN (t:=18) rfl rfl rfl ?_
   obtain⟨iD,jQ,hF⟩:=bind_some hF
   refine mU .nil (bY ZY.h (.cons (.tmp rfl rfl) .nil) (@kH r1.1 _ jQ)) (fun _=>?_)
   refine kN (t:=18) rfl rfl rfl ?_
   refine Cm (sv aa) rfl rfl ?_
   refine kN (t:=18) rfl rfl rfl ?_
   refine ai (ji (s:=iD) (t:=aa) (.tmp rfl rfl) (.tmp rfl rfl)) ?_
   refine ai (qR (b:=false) (u:=(.bool true)) (v:=(.bool (!(iD==aa)))) (.tmp rfl rfl) (.bool _) (.tmp rfl rfl)) ?_
   refine fP ?_
   obtain rfl:=Option.some.inj hF
   exact⟨_,_,rfl,(bF.cons rfl (bF.cons rfl (bF.nil))).eq,(.sel .nil)⟩
 rintro _ _ ⟨c14,g16,rfl,rfl,hE⟩
 replace hF:=Q9
 clear Q9
 try dsimp only at hF
 refine bn hE ?_
 refine mJ (b:=c14) (.tmp rfl rfl) (fun wL=>?_) (fun wL=>?_)
 · rw[if_pos wL]at hF
   refine eF (ai (jZ (v:=(.int .i64 0)) (.int _ _)) ?_)
   refine ai (jZ (v:=(.bool false)) (.bool _)) ?_
   refine fP (wu ?_)
   obtain rfl:=Option.some.inj hF
   exact dF () (.tmp rfl rfl (.tmp rfl rfl .nil)) rfl (.sel .nil)
 rw[if_neg (by rw[wL]; exact Bool.false_ne_true)]at hF
 refine uC (eF (Cm (.int .i64 r1.1) rfl rfl ?_))
 refine Ca (.int .i64 r1.1) rfl rfl ?_
 refine ai (jZ (v:=(.bool true)) (.bool _)) ?_
 refine fP (wu ?_)
 obtain rfl:=Option.some.inj hF
 exact dF () (.tmp rfl rfl (.tmp rfl rfl .nil)) rfl (.sel .nil)
def mH:List (List UInt8)->Nat->(List Int)->Option ((List Int)×Bool)
 |[],k8,c2=>some (c2,true)
 |fV::dh,k8,c2=>(gW fV).bind fun nk=>
   if (!nk.2)then (
     some ([],false))
   else (
     (app c2 ([nk.1]:List Int)).bind fun z23=>
     mH dh (k8+1) z23)
def uo(iY:List (List UInt8)):Option ((List Int)×Bool):=
 mH iY 0 ([]:List Int)
theorem GI{iY:List (List UInt8)}{ae:Sv}{R:(List Int)×Bool}(hF:uo iY=some R):
   Fw.Spec Tryz.prog 76 [ae.v] [jd ae iY] (fun p:Sv×List Nat=>(.tuple [p.1.v,(.bool R.2)].toArray)) (fun p=>[bT p.2 p.1 R.1]):=by
 refine Se 29 Tryz.func76 [.tmp 2,.tmp 3] ?_
 intro H0 F0
 unfold uo at hF
 refine aD ?_
 refine fF rfl (eD (g:=true) eP.h dX.h .nil (vs:=[]) rfl rfl rfl (by simp)) (fun k1=>?_)
 refine fK (.cons .h .nil) (eH (Ro:=(aR aX)) (E:=3) (F:=[]) (xs:=([]:List Int)) eG rfl rfl) ?_
 refine dB ?_
 refine bH (bX (m:=iY.length) (fun m6 f' cs'=>∃(g:Fr)(k8:Nat)(dh:List (List UInt8))(c2:List Int)(v3:Sv)(F4:List Nat),m6=dh.length/\f'=aH g [(4,v3.v),(10,ae.v),(11,(zi (iY.length:Int))),(12,(zi (k8:Int)))]/\List.drop k8 iY=dh/\aF cs' [bT F4 v3 c2,jd ae iY]/\mH dh k8 c2=some R) ⟨_,0,_,_,⟨(some ⟨k1,0,none⟩),0,1⟩,(k1::[]),rfl,aK,rfl,aJ,hF⟩ ?_)
 rintro m6 _ _ ⟨g7,k8,dh,c2,v3,F4,rfl,rfl,jv,hE,hF⟩
 refine Kb hE iY (fun EP=>?_)
 rcases dh with _|⟨fV,dh⟩
 · have sw:=dn jv
   rw[mH]at hF
   refine aB ?_
   refine dL ?_
   refine j6 ?_
   cases hF
   exact Er (v3,F4)
 obtain⟨sw,eB,sD⟩:=dE jv
 rw[mH]at hF
 refine aB ?_
 refine dK ?_
 refine ax ?_
 refine Ai eB (fun k17 j18=>?_)
 refine Al fB ?_
 refine aB ?_
 refine bnd hF fun nk iF hF=>az (kZ iF) (fun _=>?_)
 refine au ?_
 refine zx ?_
 refine zx ?_
 refine dB ?_
 refine Ci hF (fun JK hF=>?_) (fun JK hF=>?_)
 · refine aD ?_
   cases hF
   exact dF (⟨none,0,0⟩,[]) (.tmp rfl rfl (.tmp rfl rfl .nil)) rfl (.conv .nil (dP (Ro:=(aR aX)) (E:=3)) (.cons .nil) (.sel (.cons .h .nil)))
 refine aB ?_
 refine fF rfl (eD (g:=true) eP.h dX.h bI (vs:=[(zi nk.1)]) rfl rfl rfl (by intro v hv; simp at hv; rcases hv with rfl<;>rfl)) (fun k22=>?_)
 refine fK (.cons .h .nil) (eH (Ro:=(aR aX)) (E:=3) (F:=([]++[])) (xs:=([nk.1]:List Int)) (dM (fq (fun _=>rfl)) eG bU) rfl rfl) ?_
 refine bnd hF fun z23 hx24 hF=>cB (.cons .q2 (.cons .h .nil)) (iP (Ro:=(aR aX)) eP.h mh dX.h rfl rfl rfl (.tmp rfl rfl) (.tmp rfl rfl) hx24 iQ) (fun p25=>?_)
 refine bB ?_
 rw[wk k8]
 exact⟨_,cO _,_,k8+1,dh,_,p25.1,p25.2,rfl,aK,sD,aJ,hF⟩
def vB(aa:List UInt8)(fO:List UInt8):Option (Bool):=
 (bif (decide (((fO.length:Int):Int)<=(aa.length:Int)))then ((jI (decide (0<=(fO.length:Int))&&decide ((fO.length:Int)<=((aa).length:Int)))).bind fun u5=>
     some ((aa.take ((fO.length:Int)).toNat)==fO))
   else (some false)).bind fun o1=>
 match o1 with
 |c7=>some c7
theorem RH{aa fO:List UInt8}{R:Bool}(hF:vB aa fO=some R):
   Fw.Spec Tryz.prog 162 [(sv aa),(sv fO)] [] (fun _:Unit=>(.bool R)) (fun _=>[]):=by
 refine Se 18 Tryz.func162 [.tmp 4] ?_
 intro H0 F0
 unfold vB at hF
 refine ax ?_
 obtain⟨o1,kg,hO2⟩:=bind_some hF
 refine au ?_
 refine bW (fun f' cs'=>∃(c7:Bool)(g:Fr),c7=o1/\f'=aH g [(4,(.bool c7))]/\aF cs' []) ?_ ?_
 · replace hF:=kg
   refine au ?_
   refine ai (g_ (s:=aa) dz (.tmp rfl rfl)) ?_
   refine au ?_
   refine ai (g_ (s:=fO) dz (.tmp rfl rfl)) ?_
   refine aG ?_
   rcases bf (decide (((fO.length:Int):Int)<=(aa.length:Int)))with hg3|hg3
   · rw[hg3]
     try rw[hg3]at hF; dsimp only[ak,aj]at hF
     refine aD ?_
     refine ai (g_ (s:=fO) dz (.tmp rfl rfl)) ?_
     refine au ?_
     refine bnd hF fun u5 hx6 hF=>?_
     have hc4:0<=(fO.length:Int)/\(fO.length:Int)<=((aa).length:Int):=by (have hq:=lH hx6; clear hF; simp only[Bool.and_eq_true,decide_eq_true_eq]at*; omega)
     refine ai (Ah (s:=aa) (j:=(fO.length:Int)) dz (.tmp rfl rfl) (.tmp rfl rfl) hc4.1 hc4.2) ?_
     refine ax ?_
     refine ai (nT (s:=(aa.take ((fO.length:Int)).toNat)) (t:=fO) (.tmp rfl rfl) (.tmp rfl rfl)) ?_
     exact aO hF
   rw[hg3]
   try rw[hg3]at hF; dsimp only[ak,aj]at hF
   exact aO hF
 rintro _ _ ⟨c7,g8,rfl,rfl,hE⟩
 replace hF:=hO2
 try dsimp only at hF
 refine bn hE ?_
 exact ze hF
def zo(aa:List UInt8)(fO:List UInt8):Option ((List UInt8)):=
 (vB aa fO).bind fun r1=>
 if r1 then (
   (jI (decide (0<=(fO.length:Int))&&decide ((fO.length:Int)<=((aa).length:Int)))).bind fun u5=>
   some (aa.drop ((fO.length:Int)).toNat))
 else (
   some aa)
theorem RF{aa fO:List UInt8}{R:(List UInt8)}(hF:zo aa fO=some R):
   Fw.Spec Tryz.prog 105 [(sv aa),(sv fO)] [] (fun _:Unit=>(sv R)) (fun _=>[]):=by
 refine Se 13 Tryz.func105 [.tmp 4] ?_
 intro H0 F0
 unfold zo at hF
 refine bZ ?_
 refine bnd hF fun r1 hx2 hF=>az (RH hx2) (fun _=>?_)
 refine au ?_
 refine Ci hF (fun KN hF=>?_) (fun KN hF=>?_)
 · refine ax ?_
   refine ai (g_ (s:=fO) dz (.tmp rfl rfl)) ?_
   refine bnd hF fun u5 hx6 hF=>?_
   have hc4:=lH hx6
   simp only[Bool.and_eq_true,decide_eq_true_eq]at hc4
   refine ai (xV (s:=aa) (i:=(fO.length:Int)) dz (.tmp rfl rfl) (.tmp rfl rfl) hc4.1 hc4.2) ?_
   exact ze hF
 exact ze hF
def kY(aa:List UInt8)(fO:List UInt8):Option ((List UInt8)):=
 (zo aa fO).bind fun r1=>
 some r1
theorem xz{aa fO:List UInt8}{R:(List UInt8)}(hF:kY aa fO=some R):
   Fw.Spec Tryz.prog 77 [(sv aa),(sv fO)] [] (fun _:Unit=>(sv R)) (fun _=>[]):=by
 refine Se 8 Tryz.func77 [.tmp 4] ?_
 intro H0 F0
 unfold kY at hF
 refine bB ?_
 refine bnd hF fun r1 hx2 hF=>az (RF hx2) (fun _=>?_)
 exact ze hF
def DW(cu:Int):Option (Bool):=
 (gX cu 1 3).bind fun r1=>
 some (!r1)
theorem SA{cu:Int}{R:Bool}(hF:DW cu=some R):
   Fw.Spec Tryz.prog 204 [(zi cu)] [] (fun _:Unit=>(.bool R)) (fun _=>[]):=by
 refine Se 6 Tryz.func204 [.tmp 2] ?_
 intro H0 F0
 unfold DW at hF
 refine aD ?_
 refine bnd hF fun r1 hx2 hF=>az (je hx2) (fun _=>?_)
 exact ze hF
def xw:List Int->Nat->Option (Int)
 |[],k4=>some (-1)
 |x6::aM,k4=>(DW x6).bind fun dY=>
   if dY then (
     some (k4:Int))
   else (
     xw aM (k4+1))
def Dy(aa:List Int):Option (Int):=
 xw aa 0
theorem RA{aa:List Int}{ae:Sv}{R:Int}(hF:Dy aa=some R):
   Fw.Spec Tryz.prog 228 [ae.v,(.func (.func 204) [].toArray [].toArray)] [aC ae aa] (fun _:Unit=>(zi R)) (fun _=>[]):=by
 refine Se 19 Tryz.func228 [.tmp 4] ?_
 intro H0 F0
 unfold Dy at hF
 refine f_ ?_
 refine bH (bX (m:=aa.length) (fun m2 f' cs'=>∃(g:Fr)(k4:Nat)(aM:List Int),m2=aM.length/\f'=aH g [(0,ae.v),(1,(.func (.func 204) [].toArray [].toArray)),(7,(zi (aa.length:Int))),(8,(zi (k4:Int)))]/\List.drop k4 aa=aM/\aF cs' [aC ae aa]/\xw aM k4=some R) ⟨_,0,_,rfl,aK,rfl,aJ,hF⟩ ?_)
 rintro m2 _ _ ⟨g3,k4,aM,rfl,rfl,hd7,hE,hF⟩
 refine Kb hE aa (fun mQ=>?_)
 rcases aM with _|⟨x6,aM⟩
 · have gZ:=dn hd7
   rw[xw]at hF
   refine aB ?_
   refine dL ?_
   exact ze hF
 obtain⟨gZ,bO,iA⟩:=dE hd7
 rw[xw]at hF
 refine aB ?_
 refine dK ?_
 refine j6 ?_
 refine Ai bO (fun k13 oI=>?_)
 refine Al dw ?_
 refine bnd hF fun dY hx16 hF=>mU .nil (uB XE.h (.tmp rfl rfl) bI (SA hx16)) (fun _=>?_)
 refine au ?_
 refine Ci hF (fun oz hF=>?_) (fun oz hF=>?_)
 · exact ze hF
 refine aD ?_
 rw[wk k4]
 exact⟨_,cO _,_,k4+1,aM,rfl,aK,iA,aJ,hF⟩
def zm(aa:List Int):Option (Bool):=
 (Dy aa).bind fun r1=>
 some (decide ((0:Int)<=r1))
theorem Ru{aa:List Int}{ae:Sv}{R:Bool}(hF:zm aa=some R):
   Fw.Spec Tryz.prog 164 [ae.v,(.func (.func 204) [].toArray [].toArray)] [aC ae aa] (fun _:Unit=>(.bool R)) (fun _=>[]):=by
 refine Se 9 Tryz.func164 [.tmp 4] ?_
 intro H0 F0
 unfold zm at hF
 refine bB ?_
 refine bnd hF fun r1 hx2 hF=>az (RA hx2) (fun _=>?_)
 exact ze hF
def xS(aa:List Int):Option (Bool):=
 ((gX (aa.length:Int) 1 3).bind fun r3=>
   bif r3 then ((zm aa).bind fun r7=>
     some (!r7))
   else (some false)).bind fun o1=>
 match o1 with
 |c10=>some c10
theorem Mv{aa:List Int}{ae:Sv}{R:Bool}(hF:xS aa=some R):
   Fw.Spec Tryz.prog 142 [ae.v] [aC ae aa] (fun _:Unit=>(.bool R)) (fun _=>[]):=by
 refine Se 11 Tryz.func142 [.tmp 2] ?_
 intro H0 F0
 unfold xS at hF
 refine ax ?_
 obtain⟨o1,kg,hO2⟩:=bind_some hF
 refine au ?_
 refine bW (fun f' cs'=>∃(c10:Bool)(g:Fr),c10=o1/\f'=aH g [(2,(.bool c10))]/\aF cs' []) ?_ ?_
 · replace hF:=kg
   refine aG ?_
   refine bnd hF fun r3 hx4 hF=>az (je hx4) (fun _=>?_)
   refine au ?_
   rcases bf r3 with gK|gK
   · rw[gK]
     try rw[gK]at hF; dsimp only[ak,aj]at hF
     refine ax ?_
     refine bnd hF fun r7 ik hF=>az (Ru ik) (fun _=>?_)
     exact aO hF
   rw[gK]
   try rw[gK]at hF; dsimp only[ak,aj]at hF
   exact aO hF
 rintro _ _ ⟨c10,g11,rfl,rfl,hE⟩
 replace hF:=hO2
 try dsimp only at hF
 refine bn hE ?_
 exact ze hF
def qJ(aa:List Int)(rQ:Int):Option (Bool):=
 ((xS aa).bind fun r3=>
   bif r3 then ((gX rQ 0 (IntKind.i64.wrap ((aa.length:Int)-1))).bind fun r7=>
     some r7)
   else (some false)).bind fun o1=>
 match o1 with
 |c10=>some c10
theorem zY{aa:List Int}{ae:Sv}{rQ:Int}{R:Bool}(hF:qJ aa rQ=some R):
   Fw.Spec Tryz.prog 106 [ae.v,(zi rQ)] [aC ae aa] (fun _:Unit=>(.bool R)) (fun _=>[]):=by
 refine Se 14 Tryz.func106 [.tmp 4] ?_
 intro H0 F0
 unfold qJ at hF
 refine ax ?_
 obtain⟨o1,kg,hO2⟩:=bind_some hF
 refine au ?_
 refine bW (fun f' cs'=>∃(c10:Bool)(g:Fr),c10=o1/\f'=aH g [(4,(.bool c10))]/\aF cs' []) ?_ ?_
 · replace hF:=kg
   refine au ?_
   refine bnd hF fun r3 hx4 hF=>az (Mv hx4) (fun _=>?_)
   refine au ?_
   rcases bf r3 with gK|gK
   · rw[gK]
     try rw[gK]at hF; dsimp only[ak,aj]at hF
     refine f_ ?_
     refine bnd hF fun r7 ik hF=>az (je ik) (fun _=>?_)
     exact aO hF
   rw[gK]
   try rw[gK]at hF; dsimp only[ak,aj]at hF
   exact aO hF
 rintro _ _ ⟨c10,g11,rfl,rfl,hE⟩
 replace hF:=hO2
 try dsimp only at hF
 refine bn hE ?_
 exact ze hF
def vF(a_:List Int):List Int->Nat->Option (Bool)
 |[],k4=>some true
 |x6::aM,k4=>(bif (decide ((0:Int)<(k4:Int)))then ((ix a_ (IntKind.i64.wrap ((k4:Int)-1))).bind fun nz=>
       some (decide ((x6:Int)<=nz)))
     else (some false)).bind fun KO=>
   match KO with
   |c24=>if c24 then (
       some false)
     else (
       vF a_ aM (k4+1))
def zZ(a_:List Int):Option (Bool):=
 vF a_ a_ 0
theorem Tj{a_:List Int}{ae:Sv}{R:Bool}(hF:zZ a_=some R):
   Fw.Spec Tryz.prog 163 [ae.v] [aC ae a_] (fun _:Unit=>(.bool R)) (fun _=>[]):=by
 refine Se 24 Tryz.func163 [.tmp 2] ?_
 intro H0 F0
 unfold zZ at hF
 refine f_ ?_
 refine bH (bX (m:=a_.length) (fun m2 f' cs'=>∃(g:Fr)(k4:Nat)(aM:List Int),m2=aM.length/\f'=aH g [(0,ae.v),(5,(zi (a_.length:Int))),(6,(zi (k4:Int)))]/\List.drop k4 a_=aM/\aF cs' [aC ae a_]/\vF a_ aM k4=some R) ⟨_,0,_,rfl,aK,rfl,aJ,hF⟩ ?_)
 rintro m2 _ _ ⟨g3,k4,aM,rfl,rfl,hd7,hE,hF⟩
 refine Kb hE a_ (fun mQ=>?_)
 rcases aM with _|⟨x6,aM⟩
 · have gZ:=dn hd7
   rw[vF]at hF
   refine aB ?_
   refine dL ?_
   exact ze hF
 obtain⟨gZ,bO,iA⟩:=dE hd7
 rw[vF]at hF
 refine aB ?_
 refine dK ?_
 refine bB ?_
 obtain⟨KO,YV,aa_⟩:=bind_some hF
 refine gN [0,1,2,3,4,5,6,7,8,9,10,11,12,13] [0,1,3,7,7,31,63,7,7,263,903,1927,4095,8191] [] mixed (by decide+kernel) ?_
 refine pG (fun f' cs'=>∃(c24:Bool)(g:Fr),c24=KO/\f'=aH g [(0,ae.v),(5,(zi (a_.length:Int))),(6,(zi (k4:Int))),(22,(.bool c24))]/\aF cs' [aC ae a_]) ?_ ?_
 · replace hF:=YV
   refine iy ?_
   rcases bf (decide ((0:Int)<(k4:Int)))with gG|gG
   · rw[gG]
     try rw[gG]at hF; dsimp only[ak,aj]at hF
     refine fT ?_
     refine Di bO (fun k16 F6=>?_)
     refine Dl dw ?_
     refine iy ?_
     refine zI hF fun nz IR lw hF=>?_
     refine Di lw (fun k22 j23=>?_)
     refine Dl dw ?_
     exact gm hF
   rw[gG]
   try rw[gG]at hF; dsimp only[ak,aj]at hF
   exact gm hF
 rintro _ _ ⟨c24,g27,rfl,rfl,hE⟩
 replace hF:=aa_
 try dsimp only at hF
 refine bn hE ?_
 refine Ci hF (fun Cg hF=>?_) (fun Cg hF=>?_)
 · exact ze hF
 refine aD ?_
 rw[wk k4]
 exact⟨_,cO _,_,k4+1,aM,rfl,aK,iA,aJ,hF⟩
def zC(sV:Int)(bD:Int):Option (Bool):=
 (gX sV 0 (IntKind.i64.wrap (bD-1))).bind fun r1=>
 some (!r1)
theorem R7{sV:Int}{dO:Nat}{bD:Int}{R:Bool}(hF:zC sV bD=some R):
   Fw.Spec Tryz.prog 165 [(zi sV),(pz dO)] [cz dO 3 (zi bD)] (fun _:Unit=>(.bool R)) (fun _=>[]):=by
 refine Se 9 Tryz.func165 [.tmp 3] ?_
 intro H0 F0
 unfold zC at hF
 refine bZ ?_
 refine bnd hF fun r1 hx2 hF=>az (je hx2) (fun _=>?_)
 exact ze hF
def xq(bD:Int):List Int->Nat->Option (Int)
 |[],k4=>some (-1)
 |x6::aM,k4=>(zC x6 bD).bind fun dY=>
   if dY then (
     some (k4:Int))
   else (
     xq bD aM (k4+1))
def Dw(aa:List Int)(bD:Int):Option (Int):=
 xq bD aa 0
theorem Rx{aa:List Int}{ae:Sv}{dO:Nat}{bD R:Int}(hF:Dw aa bD=some R):
   Fw.Spec Tryz.prog 228 [ae.v,(.func (.func 165) [].toArray [(pz dO)].toArray)] [aC ae aa,cz dO 3 (zi bD)] (fun _:Unit=>(zi R)) (fun _=>[]):=by
 refine Se 19 Tryz.func228 [.tmp 4] ?_
 intro H0 F0
 unfold Dw at hF
 refine f_ ?_
 refine bH (bX (m:=aa.length) (fun m2 f' cs'=>∃(g:Fr)(k4:Nat)(aM:List Int),m2=aM.length/\f'=aH g [(0,ae.v),(1,(.func (.func 165) [].toArray [(pz dO)].toArray)),(7,(zi (aa.length:Int))),(8,(zi (k4:Int)))]/\List.drop k4 aa=aM/\aF cs' [aC ae aa,cz dO 3 (zi bD)]/\xq bD aM k4=some R) ⟨_,0,_,rfl,aK,rfl,aJ,hF⟩ ?_)
 rintro m2 _ _ ⟨g3,k4,aM,rfl,rfl,hd7,hE,hF⟩
 refine Kb hE aa (fun mQ=>?_)
 rcases aM with _|⟨x6,aM⟩
 · have gZ:=dn hd7
   rw[xq]at hF
   refine aB ?_
   refine dL ?_
   exact ze hF
 obtain⟨gZ,bO,iA⟩:=dE hd7
 rw[xq]at hF
 refine aB ?_
 refine dK ?_
 refine j6 ?_
 refine Ai bO (fun k13 oI=>?_)
 refine Al dw ?_
 refine bnd hF fun dY hx16 hF=>mU (.rd .q2 rfl .nil) (uB XF.h (.tmp rfl rfl) bI (R7 hx16)) (fun _=>?_)
 refine au ?_
 refine Ci hF (fun oz hF=>?_) (fun oz hF=>?_)
 · exact ze hF
 refine aD ?_
 rw[wk k4]
 exact⟨_,cO _,_,k4+1,aM,rfl,aK,iA,aJ,hF⟩
def zk(aa:List Int)(bD:Int):Option (Bool):=
 (Dw aa bD).bind fun r1=>
 some (decide ((0:Int)<=r1))
theorem Rp{aa:List Int}{ae:Sv}{dO:Nat}{bD:Int}{R:Bool}(hF:zk aa bD=some R):
   Fw.Spec Tryz.prog 164 [ae.v,(.func (.func 165) [].toArray [(pz dO)].toArray)] [aC ae aa,cz dO 3 (zi bD)] (fun _:Unit=>(.bool R)) (fun _=>[]):=by
 refine Se 9 Tryz.func164 [.tmp 4] ?_
 intro H0 F0
 unfold zk at hF
 refine bB ?_
 refine bnd hF fun r1 hx2 hF=>az (Rx hx2) (fun _=>?_)
 exact ze hF
def Ee(cu:Int):Option (Bool):=
 (gX cu 0 99).bind fun r1=>
 some r1
theorem Uh{cu:Int}{R:Bool}(hF:Ee cu=some R):
   Fw.Spec Tryz.prog 166 [(zi cu)] [] (fun _:Unit=>(.bool R)) (fun _=>[]):=by
 refine Se 5 Tryz.func166 [.tmp 2] ?_
 intro H0 F0
 unfold Ee at hF
 refine aD ?_
 refine bnd hF fun r1 hx2 hF=>az (je hx2) (fun _=>?_)
 exact ze hF
def xE(aL:Method)(qP:Int):Option (Bool):=
 ((zZ aL.Inputs).bind fun r5=>
   bif r5 then ((zk aL.Inputs qP).bind fun r9=>
     bif (!r9)then ((gX aL.Limit 0 9).bind fun jU=>
       bif jU then ((Ee aL.Cost).bind fun fw=>
         bif fw then ((gX aL.Quota 1 99).bind fun gJ=>
           some gJ)
         else (some false))
       else (some false))
     else (some false))
   else (some false)).bind fun o3=>
 match o3 with
 |c24=>some c24
theorem LK{aL:Method}{bA:Sv}{qP:Int}{R:Bool}(hF:xE aL qP=some R):
   Fw.Spec Tryz.prog 107 [(zg [(zi aL.Rel),bA.v,(zi aL.Limit),(zi aL.Cost),(zi aL.Quota)]),(zi qP)] [aC bA aL.Inputs] (fun _:Unit=>(.bool R)) (fun _=>[]):=by
 refine Se 30 Tryz.func107 [.tmp 4] ?_
 intro H0 F0
 unfold xE at hF
 refine au ?_
 refine fC (fun k1=>?_)
 refine fC (fun k2=>?_)
 refine aG ?_
 obtain⟨o3,JM,hO4⟩:=bind_some hF
 refine au ?_
 refine bW (fun f' cs'=>∃(c24:Bool)(g:Fr),c24=o3/\f'=aH g [(4,(.bool c24))]/\aF cs' []) ?_ ?_
 · replace hF:=JM
   refine aG ?_
   refine bnd hF fun r5 hx6 hF=>az (Tj hx6) (fun _=>?_)
   refine au ?_
   rcases bf r5 with iN|iN
   · rw[iN]
     try rw[iN]at hF; dsimp only[ak,aj]at hF
     refine aD ?_
     refine ai (mI (fn:=.func 165) (vs:=[]) (us:=[(pz k2)]) .nil bI) ?_
     refine au ?_
     refine bnd hF fun r9 jr hF=>az (Rp jr) (fun _=>?_)
     refine aB ?_
     rcases bf (!r9)with gF|gF
     · rw[gF]
       try rw[gF]at hF; dsimp only[ak,aj]at hF
       refine aD ?_
       refine bnd hF fun jU jG hF=>az (je jG) (fun _=>?_)
       refine aG ?_
       rcases bf jU with gH|gH
       · rw[gH]
         try rw[gH]at hF; dsimp only[ak,aj]at hF
         refine aD ?_
         refine bnd hF fun fw jH hF=>az (Uh jH) (fun _=>?_)
         refine aG ?_
         rcases bf fw with oC|oC
         · rw[oC]
           try rw[oC]at hF; dsimp only[ak,aj]at hF
           refine aD ?_
           refine bnd hF fun gJ si hF=>az (je si) (fun _=>?_)
           exact aO hF
         rw[oC]
         try rw[oC]at hF; dsimp only[ak,aj]at hF
         exact aO hF
       rw[gH]
       try rw[gH]at hF; dsimp only[ak,aj]at hF
       exact aO hF
     rw[gF]
     try rw[gF]at hF; dsimp only[ak,aj]at hF
     exact aO hF
   rw[iN]
   try rw[iN]at hF; dsimp only[ak,aj]at hF
   exact aO hF
 rintro _ _ ⟨c24,QT,rfl,rfl,hE⟩
 replace hF:=hO4
 try dsimp only at hF
 refine bn hE ?_
 exact ze hF
def vS(aa:List Int)(aL:Method):Option (Bool):=
 ((qJ aa aL.Rel).bind fun r4=>
   bif r4 then ((ix aa aL.Rel).bind fun x8=>
     (xE aL x8).bind fun kE=>
     some kE)
   else (some false)).bind fun o2=>
 match o2 with
 |c17=>some c17
theorem Mw{aa:List Int}{ae:Sv}{aL:Method}{dS:Sv}{R:Bool}(hF:vS aa aL=some R):
   Fw.Spec Tryz.prog 78 [ae.v,(zg [(zi aL.Rel),dS.v,(zi aL.Limit),(zi aL.Cost),(zi aL.Quota)])] [aC ae aa,aC dS aL.Inputs] (fun _:Unit=>(.bool R)) (fun _=>[]):=by
 refine Se 18 Tryz.func78 [.tmp 4] ?_
 intro H0 F0
 unfold vS at hF
 refine au ?_
 refine fC (fun k1=>?_)
 refine aG ?_
 obtain⟨o2,fH,hO3⟩:=bind_some hF
 refine gN [0,1,2,3,4,5,6,7,8,9,10,11,12,13] [0,0,2,7,15,31,31,31,159,479,991,2047,4095,8191] [3,11] mixed (by decide+kernel) ?_
 refine pG (fun f' cs'=>∃(c17:Bool)(g:Fr),c17=o2/\f'=aH g [(4,(.bool c17))]/\aF cs' []) ?_ ?_
 · replace hF:=fH
   refine iy ?_
   refine bnd hF fun r4 hx5 hF=>di (zY hx5) (fun _=>?_)
   refine du ?_
   rcases bf r4 with aZ|aZ
   · rw[aZ]
     try rw[aZ]at hF; dsimp only[ak,aj]at hF
     refine rW ?_
     refine zI hF fun x8 IJ lT hF=>?_
     refine Di lT (fun k12 j13=>?_)
     refine Dl dw ?_
     refine bnd hF fun kE jO hF=>di (LK jO) (fun _=>?_)
     exact gm hF
   rw[aZ]
   try rw[aZ]at hF; dsimp only[ak,aj]at hF
   exact gm hF
 rintro _ _ ⟨c17,g18,rfl,rfl,hE⟩
 replace hF:=hO3
 try dsimp only at hF
 refine bn hE ?_
 exact ze hF
def nN(rQ:Int):Option (Bool):=
 (gX rQ 0 2).bind fun r1=>
 some r1
theorem Ad{rQ:Int}{R:Bool}(hF:nN rQ=some R):
   Fw.Spec Tryz.prog 108 [(zi rQ)] [] (fun _:Unit=>(.bool R)) (fun _=>[]):=by
 refine Se 5 Tryz.func108 [.tmp 2] ?_
 intro H0 F0
 unfold nN at hF
 refine aD ?_
 refine bnd hF fun r1 hx2 hF=>az (je hx2) (fun _=>?_)
 exact ze hF
def qz(bK:List (List UInt8))(d_:List UInt8):Option (List UInt8):=
 if bK.length<4294967296/\(Lib.join bK d_).length<4294967296 then some (Lib.join bK d_)else none
theorem DI{bK:List (List UInt8)}{ae:Sv}{d_ R:List UInt8}(hF:qz bK d_=some R):
   Fw.Spec Tryz.prog 167 [ae.v,sv d_] [jd ae bK] (fun _:Unit=>(sv R)) (fun _=>[]):=by
 unfold qz at hF
 split at hF
 · rename_i h
   cases hF
   exact UQ gY.h.sz (Go.Proofs.Any.strings_Join_none Oz extra) (Go.Proofs.Any.strings_Join Oz extra) h.1 h.2
 · simp at hF
def ui(jo:List UInt8):List Int->Nat->(List (List UInt8))->Option ((List UInt8))
 |[],k8,c2=>(qz c2 jo).bind fun fw=>
   some fw
 |fV::dh,k8,c2=>(iO fV).bind fun gV=>
   (app c2 ([gV]:List (List UInt8))).bind fun z26=>
   ui jo dh (k8+1) z26
def vY(a_:List Int)(jo:List UInt8):Option ((List UInt8)):=
 ui jo a_ 0 ([]:List (List UInt8))
theorem GR{a_:List Int}{ae:Sv}{jo:List UInt8}{R:(List UInt8)}(hF:vY a_ jo=some R):
   Fw.Spec Tryz.prog 109 [ae.v,(sv jo)] [aC ae a_] (fun _:Unit=>(sv R)) (fun _=>[]):=by
 refine Se 24 Tryz.func109 [.tmp 4] ?_
 intro H0 F0
 unfold vY at hF
 refine aB ?_
 refine fF rfl (eD (g:=true) gD.h gY.h .nil (vs:=[]) rfl rfl rfl (by simp)) (fun k1=>?_)
 refine fK (.cons .h .nil) (eH (Ro:=(aR rdStr)) (E:=9) (F:=[]) (xs:=([]:List (List UInt8))) eG rfl rfl) ?_
 refine dB ?_
 refine bH (bX (m:=a_.length) (fun m6 f' cs'=>∃(g:Fr)(k8:Nat)(dh:List Int)(c2:List (List UInt8))(v3:Sv)(F4:List Nat),m6=dh.length/\f'=aH g [(1,(sv jo)),(5,v3.v),(9,ae.v),(10,(zi (a_.length:Int))),(11,(zi (k8:Int)))]/\List.drop k8 a_=dh/\aF cs' [sJ F4 v3 c2,aC ae a_]/\ui jo dh k8 c2=some R) ⟨_,0,_,_,⟨(some ⟨k1,0,none⟩),0,1⟩,(k1::[]),rfl,aK,rfl,aJ,hF⟩ ?_)
 rintro m6 _ _ ⟨g7,k8,dh,c2,v3,F4,rfl,rfl,jv,hE,hF⟩
 refine Kb hE a_ (fun EP=>?_)
 rcases dh with _|⟨fV,dh⟩
 · have sw:=dn jv
   rw[ui]at hF
   refine aB ?_
   refine dL ?_
   refine bZ ?_
   refine bnd hF fun fw jH hF=>cB (.cons .h .nil) (gP df (fun _=>.nil) (bY EK.h bI (DI jH))) (fun _=>?_)
   exact ze hF
 obtain⟨sw,eB,sD⟩:=dE jv
 rw[ui]at hF
 refine aB ?_
 refine dK ?_
 refine ax ?_
 refine Ai eB (fun k20 F8=>?_)
 refine Al dw ?_
 refine aD ?_
 refine bnd hF fun gV jq hF=>az (kH jq) (fun _=>?_)
 refine fF rfl (eD (g:=true) gD.h gY.h bI (vs:=[(sv gV)]) rfl rfl rfl (by intro v hv; simp at hv; rcases hv with rfl<;>rfl)) (fun k25=>?_)
 refine fK (.cons .h .nil) (eH (Ro:=(aR rdStr)) (E:=9) (F:=([]++[])) (xs:=([gV]:List (List UInt8))) (dM (fq (fun _=>rfl)) eG bU) rfl rfl) ?_
 refine bnd hF fun z26 hx27 hF=>cB (.cons .q2 (.cons .h .nil)) (iP (Ro:=(aR rdStr)) gD.h BA gY.h rfl rfl rfl (.tmp rfl rfl) (.tmp rfl rfl) hx27 iQ) (fun p28=>?_)
 refine bB ?_
 rw[wk k8]
 exact⟨_,cO _,_,k8+1,dh,_,p28.1,p28.2,rfl,aK,sD,aJ,hF⟩
def vG(aL:Method):Option ((List UInt8)):=
 ((nN aL.Rel).bind fun r4=>
   bif (!r4)then (some true)
   else ((xE aL 3).bind fun r8=>
     some (!r8))).bind fun o2=>
 match o2 with
 |c11=>if c11 then (
     some [])
   else (
     if (decide ((0:Int)<(aL.Inputs.length:Int)))then (
       (vY aL.Inputs [44]).bind fun bR=>
       (iO aL.Rel).bind fun dY=>
       (aP [114] dY).bind fun nz=>
       (aP nz [32,105,110,32]).bind fun sS=>
       (aP sS bR).bind fun lY=>
       (aP lY [32,108,105,109,105,116,32]).bind fun x30=>
       (iO aL.Limit).bind fun Dc=>
       (aP x30 Dc).bind fun jA=>
       (aP jA [32,99,111,115,116,32]).bind fun x41=>
       (iO aL.Cost).bind fun De=>
       (aP x41 De).bind fun sM=>
       (aP sM [32,113,117,111,116,97,32]).bind fun l8=>
       (iO aL.Quota).bind fun vg=>
       (aP l8 vg).bind fun Df=>
       some Df)
     else (
       (iO aL.Rel).bind fun KP=>
       (aP [114] KP).bind fun x66=>
       (aP x66 [32,105,110,32]).bind fun Gl=>
       (aP Gl [102,114,101,101]).bind fun Gm=>
       (aP Gm [32,108,105,109,105,116,32]).bind fun Gn=>
       (iO aL.Limit).bind fun sW=>
       (aP Gn sW).bind fun x85=>
       (aP x85 [32,99,111,115,116,32]).bind fun x89=>
       (iO aL.Cost).bind fun ve=>
       (aP x89 ve).bind fun x96=>
       (aP x96 [32,113,117,111,116,97,32]).bind fun x100=>
       (iO aL.Quota).bind fun JN=>
       (aP x100 JN).bind fun x107=>
       some x107))
theorem Lu{aL:Method}{bA:Sv}{R:(List UInt8)}(hF:vG aL=some R):
   Fw.Spec Tryz.prog 79 [(zg [(zi aL.Rel),bA.v,(zi aL.Limit),(zi aL.Cost),(zi aL.Quota)])] [aC bA aL.Inputs] (fun _:Unit=>(sv R)) (fun _=>[]):=by
 refine Se 42 Tryz.func79 [.tmp 2] ?_
 intro H0 F0
 unfold vG at hF
 refine au ?_
 refine fC (fun k1=>?_)
 refine ax ?_
 obtain⟨o2,fH,hO3⟩:=bind_some hF
 refine au ?_
 refine bW (fun f' cs'=>∃(c11:Bool)(g:Fr),c11=o2/\f'=aH g [(1,(pz k1)),(12,(.bool c11))]/\aF cs' [cz k1 43 (zg [(zi aL.Rel),bA.v,(zi aL.Limit),(zi aL.Cost),(zi aL.Quota)]),aC bA aL.Inputs]) ?_ ?_
 · replace hF:=fH
   refine aG ?_
   refine bnd hF fun r4 hx5 hF=>az (Ad hx5) (fun _=>?_)
   refine aG ?_
   rcases bf (!r4)with aZ|aZ
   · rw[aZ]
     try rw[aZ]at hF; dsimp only[ak,aj]at hF
     exact aO hF
   rw[aZ]
   try rw[aZ]at hF; dsimp only[ak,aj]at hF
   refine ax ?_
   refine bnd hF fun r8 bO hF=>az (LK bO) (fun _=>?_)
   exact aO hF
 rintro _ _ ⟨c11,aeY,rfl,rfl,hE⟩
 replace hF:=hO3
 try dsimp only at hF
 refine bn hE ?_
 refine Ci hF (fun YW hF=>?_) (fun YW hF=>?_)
 · exact ze hF
 refine Bc ?_
 refine Ci hF (fun YX hF=>?_) (fun YX hF=>?_)
 · refine ax ?_
   refine bnd hF fun bR eB hF=>az (GR eB) (fun _=>?_)
   refine aG ?_
   refine gN [0,1,5,8,9,13,14,18,19,2,3,4,6,7,10,11,12,15,16,17,20,21,22] [0,1,3,7,15,0,63,127,0,256,775,2047,4095,0,8192,26375,65535,131071,0,262144,845575,2097151,4194303] [2,10,15,20] mixed (by decide+kernel) ?_
   refine EY ?_
   refine bnd hF fun dY hx16 hF=>di (kH hx16) (fun _=>?_)
   refine bnd hF fun nz lU hF=>?_
   obtain⟨aeZ,ae0⟩:=bq lU
   refine bi rfl .no (fun ha=>bu (s:=[114]) (t:=dY) (u:=nz) (EN ha (.sv _) rfl) (EN ha (.tmp rfl rfl) rfl) lU) ?_
   refine bnd hF fun sS jq hF=>?_
   obtain⟨ae1,ae2⟩:=bq jq
   refine bi rfl .no (fun ha=>bu (s:=nz) (t:=[32,105,110,32]) (u:=sS) (EN ha (.tmp rfl rfl) rfl) (EN ha (.sv _) rfl) jq) ?_
   refine bnd hF fun lY hx27 hF=>?_
   obtain⟨aac,aad⟩:=bq hx27
   refine bi rfl .no (fun ha=>bu (s:=sS) (t:=bR) (u:=lY) (EN ha (.tmp rfl rfl) rfl) (EN ha (.tmp rfl rfl) rfl) hx27) ?_
   refine bnd hF fun x30 hx31 hF=>?_
   obtain⟨Qt,hz32⟩:=bq hx31
   refine bi rfl .no (fun ha=>bu (s:=lY) (t:=[32,108,105,109,105,116,32]) (u:=x30) (EN ha (.tmp rfl rfl) rfl) (EN ha (.sv _) rfl) hx31) ?_
   refine bnd hF fun Dc kR hF=>di (kH kR) (fun _=>?_)
   refine bnd hF fun jA hx38 hF=>?_
   obtain⟨ae3,ae4⟩:=bq hx38
   refine bi rfl .no (fun ha=>bu (s:=x30) (t:=Dc) (u:=jA) (EN ha (.tmp rfl rfl) rfl) (EN ha (.tmp rfl rfl) rfl) hx38) ?_
   refine bnd hF fun x41 Qu hF=>?_
   obtain⟨ae5,ae6⟩:=bq Qu
   refine bi rfl .no (fun ha=>bu (s:=jA) (t:=[32,99,111,115,116,32]) (u:=x41) (EN ha (.tmp rfl rfl) rfl) (EN ha (.sv _) rfl) Qu) ?_
   refine bnd hF fun De FN hF=>di (kH FN) (fun _=>?_)
   refine bnd hF fun sM lS hF=>?_
   obtain⟨ae7,ae8⟩:=bq lS
   refine bi rfl .no (fun ha=>bu (s:=x41) (t:=De) (u:=sM) (EN ha (.tmp rfl rfl) rfl) (EN ha (.tmp rfl rfl) rfl) lS) ?_
   refine bnd hF fun l8 su hF=>?_
   obtain⟨aaV,aaW⟩:=bq su
   refine bi rfl .no (fun ha=>bu (s:=sM) (t:=[32,113,117,111,116,97,32]) (u:=l8) (EN ha (.tmp rfl rfl) rfl) (EN ha (.sv _) rfl) su) ?_
   refine bnd hF fun vg yV hF=>di (kH yV) (fun _=>?_)
   refine bnd hF fun Df yR hF=>?_
   obtain⟨ae9,ae_⟩:=bq yR
   refine bi rfl .no (fun ha=>bu (s:=l8) (t:=vg) (u:=Df) (EN ha (.tmp rfl rfl) rfl) (EN ha (.tmp rfl rfl) rfl) yR) ?_
   refine fT ?_
   exact ze hF
 refine au ?_
 refine gN [0,1,5,8,9,13,14,18,19,2,3,4,6,7,10,11,12,15,16,17,20,21,22] [0,1,3,7,15,0,63,127,0,256,775,2047,4095,0,8192,26375,65535,131071,0,262144,845575,2097151,4194303] [2,10,15,20] mixed (by decide+kernel) ?_
 refine EY ?_
 refine bnd hF fun KP aa' hF=>di (kH aa') (fun _=>?_)
 refine bnd hF fun x66 Qv hF=>?_
 obtain⟨ae',afa⟩:=bq Qv
 refine bi rfl .no (fun ha=>bu (s:=[114]) (t:=KP) (u:=x66) (EN ha (.sv _) rfl) (EN ha (.tmp rfl rfl) rfl) Qv) ?_
 refine bnd hF fun Gl Qw hF=>?_
 obtain⟨afb,afc⟩:=bq Qw
 refine bi rfl .no (fun ha=>bu (s:=x66) (t:=[32,105,110,32]) (u:=Gl) (EN ha (.tmp rfl rfl) rfl) (EN ha (.sv _) rfl) Qw) ?_
 refine bnd hF fun Gm Fy hF=>?_
 obtain⟨afd,afe⟩:=bq Fy
 refine bi rfl .no (fun ha=>bu (s:=Gl) (t:=[102,114,101,101]) (u:=Gm) (EN ha (.tmp rfl rfl) rfl) (EN ha (.tmp rfl rfl) rfl) Fy) ?_
 refine bnd hF fun Gn FO hF=>?_
 obtain⟨aff,afg⟩:=bq FO
 refine bi rfl .no (fun ha=>bu (s:=Gm) (t:=[32,108,105,109,105,116,32]) (u:=Gn) (EN ha (.tmp rfl rfl) rfl) (EN ha (.sv _) rfl) FO) ?_
 refine bnd hF fun sW JO hF=>di (kH JO) (fun _=>?_)
 refine bnd hF fun x85 Fx hF=>?_
 obtain⟨afh,afi⟩:=bq Fx
 refine bi rfl .no (fun ha=>bu (s:=Gn) (t:=sW) (u:=x85) (EN ha (.tmp rfl rfl) rfl) (EN ha (.tmp rfl rfl) rfl) Fx) ?_
 refine bnd hF fun x89 hx90 hF=>?_
 obtain⟨afj,hz91⟩:=bq hx90
 refine bi rfl .no (fun ha=>bu (s:=x85) (t:=[32,99,111,115,116,32]) (u:=x89) (EN ha (.tmp rfl rfl) rfl) (EN ha (.sv _) rfl) hx90) ?_
 refine bnd hF fun ve Jo hF=>di (kH Jo) (fun _=>?_)
 refine bnd hF fun x96 Qx hF=>?_
 obtain⟨afk,afl⟩:=bq Qx
 refine bi rfl .no (fun ha=>bu (s:=x89) (t:=ve) (u:=x96) (EN ha (.tmp rfl rfl) rfl) (EN ha (.tmp rfl rfl) rfl) Qx) ?_
 refine bnd hF fun x100 hx101 hF=>?_
 obtain⟨ac5,ac6⟩:=bq hx101
 refine bi rfl .no (fun ha=>bu (s:=x96) (t:=[32,113,117,111,116,97,32]) (u:=x100) (EN ha (.tmp rfl rfl) rfl) (EN ha (.sv _) rfl) hx101) ?_
 refine bnd hF fun JN YY hF=>di (kH YY) (fun _=>?_)
 refine bnd hF fun x107 Pz hF=>?_
 obtain⟨ac7,ac8⟩:=bq Pz
 refine bi rfl .no (fun ha=>bu (s:=x100) (t:=JN) (u:=x107) (EN ha (.tmp rfl rfl) rfl) (EN ha (.tmp rfl rfl) rfl) Pz) ?_
 refine fT ?_
 exact ze hF
def zL(aa:List Int)(aN:List UInt8):Option (Method×Bool):=
 (l9 aN [32]).bind fun r2=>
 (bif (((r2.length:Int):Int)==9)then ((ix r2 2).bind fun x9=>
     some (true,(!(x9==[102,114,101,101]))))
   else (some (false,false))).bind fun o6=>
 match o6 with
 |(c15,c16)=>if c16 then (
     (ix r2 2).bind fun mZ=>
     (l9 mZ [44]).bind fun Q_=>
     (uo Q_).bind fun vo=>
     if (!vo.2)then (
       some ((⟨0,[],0,0,0⟩:Method),false))
     else (
       (ix r2 0).bind fun x29=>
       (kY x29 [114]).bind fun jV=>
       (gW jV).bind fun jX=>
       (ix r2 (IntKind.i64.wrap ((IntKind.i64.wrap (2*0))+4))).bind fun Ra=>
       (gW Ra).bind fun iH=>
       (ix r2 (IntKind.i64.wrap ((IntKind.i64.wrap (2*(IntKind.i64.wrap (0+1))))+4))).bind fun x55=>
       (gW x55).bind fun qj=>
       (ix r2 (IntKind.i64.wrap ((IntKind.i64.wrap (2*(IntKind.i64.wrap ((IntKind.i64.wrap (0+1))+1))))+4))).bind fun x66=>
       (gW x66).bind fun sZ=>
       (bif (!jX.2)then (some true)
         else ((vS aa (⟨jX.1,vo.1,iH.1,qj.1,sZ.1⟩:Method)).bind fun Dg=>
           bif (!Dg)then (some true)
           else ((vG (⟨jX.1,vo.1,iH.1,qj.1,sZ.1⟩:Method)).bind fun sW=>
             some (!(sW==aN))))).bind fun Dh=>
       match Dh with
       |c85=>if c85 then (
           some ((⟨0,[],0,0,0⟩:Method),false))
         else (
           some ((⟨jX.1,vo.1,iH.1,qj.1,sZ.1⟩:Method),true))))
   else (
     if (!c15)then (
       some ((⟨0,[],0,0,0⟩:Method),false))
     else (
       (ix r2 0).bind fun x89=>
       (kY x89 [114]).bind fun Rb=>
       (gW Rb).bind fun nA=>
       (ix r2 (IntKind.i64.wrap ((IntKind.i64.wrap (2*0))+4))).bind fun x104=>
       (gW x104).bind fun sF=>
       (ix r2 (IntKind.i64.wrap ((IntKind.i64.wrap (2*(IntKind.i64.wrap (0+1))))+4))).bind fun x115=>
       (gW x115).bind fun uS=>
       (ix r2 (IntKind.i64.wrap ((IntKind.i64.wrap (2*(IntKind.i64.wrap ((IntKind.i64.wrap (0+1))+1))))+4))).bind fun Qy=>
       (gW Qy).bind fun wR=>
       (bif (!nA.2)then (some true)
         else ((vS aa (⟨nA.1,[],sF.1,uS.1,wR.1⟩:Method)).bind fun JP=>
           bif (!JP)then (some true)
           else ((vG (⟨nA.1,[],sF.1,uS.1,wR.1⟩:Method)).bind fun JQ=>
             some (!(JQ==aN))))).bind fun JR=>
       match JR with
       |c145=>if c145 then (
           some ((⟨0,[],0,0,0⟩:Method),false))
         else (
           some ((⟨nA.1,[],sF.1,uS.1,wR.1⟩:Method),true))))
theorem Sj{aa:List Int}{ae:Sv}{aN:List UInt8}{R:Method×Bool}(hF:zL aa aN=some R):
   Fw.Spec Tryz.prog 50 [ae.v,(sv aN)] [aC ae aa] (fun p:Sv×List Nat=>(.tuple [(zg [(zi R.1.Rel),p.1.v,(zi R.1.Limit),(zi R.1.Cost),(zi R.1.Quota)]),(.bool R.2)].toArray)) (fun p=>[bT p.2 p.1 R.1.Inputs]):=by
 refine Se 84 Tryz.func50 [.cell 4 43,.tmp 5] ?_
 intro H0 F0
 unfold zL at hF
 refine au ?_
 refine fe (fun k1=>?_)
 refine aB ?_
 refine bnd hF fun r2 hx3 hF=>dI (tJ hx3) (fun p4=>?_)
 refine ax ?_
 refine ai (fA iT.h rfl (vs:=[]) .nil (cells:=[(zi 0),(.slice none 0 0),(zi 0),(zi 0),(zi 0)]) rfl) ?_
 refine fe (fun k5=>?_)
 refine As (zg [(zi 0),(.slice none 0 0),(zi 0),(zi 0),(zi 0)]) ?_
 refine dB ?_
 obtain⟨o6,JS,KQ⟩:=bind_some hF
 refine au ?_
 refine bW (fun f' cs'=>∃(c15 c16:Bool)(g:Fr),o6=(c15,c16)/\f'=aH g [(0,ae.v),(1,(sv aN)),(4,(pz k1)),(6,p4.v),(7,(pz k5)),(8,(.bool c15)),(23,(.bool c16))]/\aF cs' [aC ae aa,bQ k1 43 (zg [(zi 0),(.slice none 0 0),(zi 0),(zi 0),(zi 0)]),jd p4 r2,bQ k5 43 (zg [(zi 0),(.slice none 0 0),(zi 0),(zi 0),(zi 0)])]) ?_ ?_
 · replace hF:=JS
   refine aG ?_
   rcases bf (((r2.length:Int):Int)==9)with iN|iN
   · rw[iN]
     try rw[iN]at hF; dsimp only[ak,aj]at hF
     refine ax ?_
     refine zI hF fun x9 aa1 jQ hF=>?_
     refine Ai jQ (fun k13 oI=>?_)
     refine au ?_
     refine Al fB ?_
     refine au ?_
     refine ai (ji (s:=x9) (t:=[102,114,101,101]) (.tmp rfl rfl) (.sv _)) ?_
     exact EZ hF
   rw[iN]
   try rw[iN]at hF; dsimp only[ak,aj]at hF
   exact EZ hF
 rintro _ _ ⟨c15,c16,afm,rfl,rfl,hE⟩
 replace hF:=KQ
 try dsimp only at hF
 refine bn hE ?_
 refine Ci hF (fun YZ hF=>?_) (fun YZ hF=>?_)
 · refine aG ?_
   refine zI hF fun mZ BF iF hF=>?_
   refine Ai iF (fun k21 j22=>?_)
   refine Al fB ?_
   refine bnd hF fun Q_ hx24 hF=>dI (tJ hx24) (fun p25=>?_)
   refine bnd hF fun vo hx27 hF=>dI (GI hx27) (fun p28=>?_)
   refine au ?_
   refine zx ?_
   refine zx ?_
   refine au ?_
   refine As (zg [(zi 0),p28.1.v,(zi 0),(zi 0),(zi 0)]) ?_
   refine bZ ?_
   refine Ci hF (fun aba hF=>?_) (fun aba hF=>?_)
   · refine au ?_
     refine ai (fA iT.h rfl (vs:=[]) .nil (cells:=[(zi 0),(.slice none 0 0),(zi 0),(zi 0),(zi 0)]) rfl) ?_
     refine As (zg [(zi 0),(.slice none 0 0),(zi 0),(zi 0),(zi 0)]) ?_
     refine ax ?_
     cases hF
     exact dF (⟨none,0,0⟩,[]) (.cellA rfl rfl .h rfl n_.h iT.h.sz rfl rfl (.tmp rfl rfl .nil)) rfl (.conv .nil (dP (Ro:=(aR aX)) (E:=3)) (.cons .nil) (.sel (.cons .h .nil)))
   refine ax ?_
   refine zI hF fun x29 afn hx32 hF=>?_
   refine Ai hx32 (fun y_ j34=>?_)
   refine Al fB ?_
   refine bnd hF fun jV lC hF=>az (xz lC) (fun _=>?_)
   refine bnd hF fun jX hx39 hF=>az (kZ hx39) (fun _=>?_)
   refine au ?_
   refine zx ?_
   refine zx ?_
   refine au ?_
   refine As (zg [(zi jX.1),p28.1.v,(zi 0),(zi 0),(zi 0)]) ?_
   refine bZ ?_
   refine cB .nil (OW (post':=fun sK:Nat=>[eQ (cZ 118 (lK 1)) (.slice (some ⟨sK,0,none⟩) 3 1) ([(.pointer (some ⟨k5,0,some 2⟩)),(.pointer (some ⟨k5,0,some 3⟩)),(.pointer (some ⟨k5,0,some 4⟩))]:List Value)]) (fun sK=>.conv (.cons .h .nil) (eH (Ro:=aR (lK 1)) (E:=118) (F:=([]++([]++([]++[])))) (xs:=([(.pointer (some ⟨k5,0,some 2⟩)),(.pointer (some ⟨k5,0,some 3⟩)),(.pointer (some ⟨k5,0,some 4⟩))]:List Value)) (dM (yB (s:=1) (e:=(.pointer (some ⟨k5,0,some 2⟩))) rfl rfl) (dM (yB (s:=1) (e:=(.pointer (some ⟨k5,0,some 3⟩))) rfl rfl) (dM (yB (s:=1) (e:=(.pointer (some ⟨k5,0,some 4⟩))) rfl rfl) eG bU) bU) bU) rfl rfl) bU (.frz .h df aJ)) (Ou rfl (eD (g:=true) pI.h uK.h bI (vs:=[(.pointer (some ⟨k5,0,some 2⟩)),(.pointer (some ⟨k5,0,some 3⟩)),(.pointer (some ⟨k5,0,some 4⟩))]) rfl rfl rfl (by intro v hv; simp at hv; rcases hv with rfl|rfl|rfl<;>rfl)))) (fun sK=>?_)
   refine ai (qX (l:=3) pI.h (.tmp rfl rfl) ⟨_,_,rfl⟩) ?_
   refine aG ?_
   refine bH (NU (m:=4) ?_)
   refine Ov ?_
   refine aB ?_
   refine Cc (fun _=>?_) (fun hb=>absurd ((by decide:(decide ((0:Int)<3))=true).symm.trans hb) (by decide))
   refine aB ?_
   refine pE (R:=lK 1) (a:=(.pointer (some ⟨k5,0,some 2⟩))) pI.h uK.h.sz (.tmp rfl rfl) (.tmp rfl rfl) .h (by decide) rfl (fun k42 j43=>?_)
   refine Al (yC rfl) ?_
   refine f_ ?_
   refine zI hF fun Ra afo kQ hF=>?_
   refine Ai kQ (fun ny j49=>?_)
   refine Al fB ?_
   refine bnd hF fun iH mY hF=>az (kZ mY) (fun _=>?_)
   refine au ?_
   refine zx ?_
   refine zx ?_
   refine ai (xP (v:=(.pointer (some ⟨k5,0,some 2⟩))) rfl (.tmp rfl rfl)) ?_
   refine As (zg [(zi jX.1),p28.1.v,(zi iH.1),(zi 0),(zi 0)]) ?_
   refine aD ?_
   refine yo ?_
   refine aB ?_
   refine Cc (fun _=>?_) (fun hb=>absurd ((by decide:(decide (((IntKind.i64.wrap (0+1)):Int)<3))=true).symm.trans hb) (by decide))
   refine aB ?_
   refine pE (R:=lK 1) (a:=(.pointer (some ⟨k5,0,some 3⟩))) pI.h uK.h.sz (.tmp rfl rfl) (.tmp rfl rfl) .q3 (by decide) rfl (fun k53 j54=>?_)
   refine Al (yC rfl) ?_
   refine f_ ?_
   refine zI hF fun x55 afp yS hF=>?_
   refine Ai yS (fun KR j60=>?_)
   refine Al fB ?_
   refine bnd hF fun qj Fg hF=>az (kZ Fg) (fun _=>?_)
   refine au ?_
   refine zx ?_
   refine zx ?_
   refine ai (xP (v:=(.pointer (some ⟨k5,0,some 3⟩))) rfl (.tmp rfl rfl)) ?_
   refine As (zg [(zi jX.1),p28.1.v,(zi iH.1),(zi qj.1),(zi 0)]) ?_
   refine aD ?_
   refine yo ?_
   refine aB ?_
   refine Cc (fun _=>?_) (fun hb=>absurd ((by decide:(decide (((IntKind.i64.wrap ((IntKind.i64.wrap (0+1))+1)):Int)<3))=true).symm.trans hb) (by decide))
   refine aB ?_
   refine pE (R:=lK 1) (a:=(.pointer (some ⟨k5,0,some 4⟩))) pI.h uK.h.sz (.tmp rfl rfl) (.tmp rfl rfl) .q5 (by decide) rfl (fun k64 j65=>?_)
   refine Al (yC rfl) ?_
   refine f_ ?_
   refine zI hF fun x66 afq yT hF=>?_
   refine Ai yT (fun qf j71=>?_)
   refine Al fB ?_
   refine bnd hF fun sZ Fh hF=>az (kZ Fh) (fun _=>?_)
   refine au ?_
   refine zx ?_
   refine zx ?_
   refine ai (xP (v:=(.pointer (some ⟨k5,0,some 4⟩))) rfl (.tmp rfl rfl)) ?_
   refine As (zg [(zi jX.1),p28.1.v,(zi iH.1),(zi qj.1),(zi sZ.1)]) ?_
   refine aD ?_
   refine yo ?_
   refine aB ?_
   refine Cc (fun hb=>absurd ((by decide:(decide (((IntKind.i64.wrap ((IntKind.i64.wrap ((IntKind.i64.wrap (0+1))+1))+1)):Int)<3))=false).symm.trans hb) (by decide)) (fun _=>?_)
   refine aD ?_
   obtain⟨Dh,Y0,abb⟩:=bind_some hF
   refine au ?_
   refine bW (fun f' cs'=>∃(c85:Bool)(g:Fr),c85=Dh/\f'=aH g [(4,(pz k1)),(7,(pz k5)),(81,(.bool c85))]/\aF cs' [bQ k1 43 (zg [(zi 0),(.slice none 0 0),(zi 0),(zi 0),(zi 0)]),bQ k5 43 (zg [(zi jX.1),p28.1.v,(zi iH.1),(zi qj.1),(zi sZ.1)]),bT p28.2 p28.1 vo.1]) ?_ ?_
   · replace hF:=Y0
     refine ax ?_
     rcases bf (!jX.2)with Cz|Cz
     · rw[Cz]
       try rw[Cz]at hF; dsimp only[ak,aj]at hF
       exact aO hF
     rw[Cz]
     try rw[Cz]at hF; dsimp only[ak,aj]at hF
     refine aD ?_
     refine bnd hF fun Dg FO hF=>cB (.cons .q9 (.rd .q11 rfl .nil)) (gP df (fun _=>.nil) (nO (.rd (.t .h) rfl (.rd .h rfl .nil)) (bY ZZ.h bI (@Mw aa ae (⟨jX.1,vo.1,iH.1,qj.1,sZ.1⟩:Method) p28.1 _ FO)))) (fun _=>?_)
     refine aB ?_
     rcases bf (!Dg)with CB|CB
     · rw[CB]
       try rw[CB]at hF; dsimp only[ak,aj]at hF
       exact aO hF
     rw[CB]
     try rw[CB]at hF; dsimp only[ak,aj]at hF
     refine ax ?_
     refine bnd hF fun sW JO hF=>cB (.cons .h .nil) (gP df (fun _=>.nil) (bY Z0.h bI (@Lu (⟨jX.1,vo.1,iH.1,qj.1,sZ.1⟩:Method) p28.1 _ JO))) (fun _=>?_)
     refine ax ?_
     refine ai (ji (s:=sW) (t:=aN) (.tmp rfl rfl) (.tmp rfl rfl)) ?_
     exact aO hF
   rintro _ _ ⟨c85,g87,rfl,rfl,hE⟩
   replace hF:=abb
   try dsimp only at hF
   refine bn hE ?_
   refine Ci hF (fun abd hF=>?_) (fun abd hF=>?_)
   · refine au ?_
     refine ai (fA iT.h rfl (vs:=[]) .nil (cells:=[(zi 0),(.slice none 0 0),(zi 0),(zi 0),(zi 0)]) rfl) ?_
     refine As (zg [(zi 0),(.slice none 0 0),(zi 0),(zi 0),(zi 0)]) ?_
     refine ax ?_
     cases hF
     exact dF (⟨none,0,0⟩,[]) (.cellA rfl rfl .h rfl n_.h iT.h.sz rfl rfl (.tmp rfl rfl .nil)) rfl (.conv .nil (dP (Ro:=(aR aX)) (E:=3)) (.cons .nil) (.sel (.cons .h .nil)))
   refine ax ?_
   refine As (zg [(zi jX.1),p28.1.v,(zi iH.1),(zi qj.1),(zi sZ.1)]) ?_
   refine ax ?_
   cases hF
   exact dF (p28.1,p28.2) (.cellA rfl rfl .h rfl n_.h iT.h.sz rfl rfl (.tmp rfl rfl .nil)) rfl (.sel (.cons .q2 .nil))
 refine bB ?_
 refine Ci hF (fun Y1 hF=>?_) (fun Y1 hF=>?_)
 · refine au ?_
   refine ai (fA iT.h rfl (vs:=[]) .nil (cells:=[(zi 0),(.slice none 0 0),(zi 0),(zi 0),(zi 0)]) rfl) ?_
   refine As (zg [(zi 0),(.slice none 0 0),(zi 0),(zi 0),(zi 0)]) ?_
   refine ax ?_
   cases hF
   exact dF (⟨none,0,0⟩,[]) (.cellA rfl rfl .h rfl n_.h iT.h.sz rfl rfl (.tmp rfl rfl .nil)) rfl (.conv .nil (dP (Ro:=(aR aX)) (E:=3)) (.cons .nil) (.sel (.cons .h .nil)))
 refine ax ?_
 refine zI hF fun x89 afr FB hF=>?_
 refine Ai FB (fun k93 j94=>?_)
 refine Al fB ?_
 refine bnd hF fun Rb hx96 hF=>az (xz hx96) (fun _=>?_)
 refine bnd hF fun nA hx99 hF=>az (kZ hx99) (fun _=>?_)
 refine au ?_
 refine zx ?_
 refine zx ?_
 refine au ?_
 refine As (zg [(zi nA.1),(.slice none 0 0),(zi 0),(zi 0),(zi 0)]) ?_
 refine bZ ?_
 refine cB .nil (OW (post':=fun JU:Nat=>[eQ (cZ 118 (lK 1)) (.slice (some ⟨JU,0,none⟩) 3 1) ([(.pointer (some ⟨k5,0,some 2⟩)),(.pointer (some ⟨k5,0,some 3⟩)),(.pointer (some ⟨k5,0,some 4⟩))]:List Value)]) (fun JU=>.conv (.cons .h .nil) (eH (Ro:=aR (lK 1)) (E:=118) (F:=([]++([]++([]++[])))) (xs:=([(.pointer (some ⟨k5,0,some 2⟩)),(.pointer (some ⟨k5,0,some 3⟩)),(.pointer (some ⟨k5,0,some 4⟩))]:List Value)) (dM (yB (s:=1) (e:=(.pointer (some ⟨k5,0,some 2⟩))) rfl rfl) (dM (yB (s:=1) (e:=(.pointer (some ⟨k5,0,some 3⟩))) rfl rfl) (dM (yB (s:=1) (e:=(.pointer (some ⟨k5,0,some 4⟩))) rfl rfl) eG bU) bU) bU) rfl rfl) bU (.frz .h df aJ)) (Ou rfl (eD (g:=true) pI.h uK.h bI (vs:=[(.pointer (some ⟨k5,0,some 2⟩)),(.pointer (some ⟨k5,0,some 3⟩)),(.pointer (some ⟨k5,0,some 4⟩))]) rfl rfl rfl (by intro v hv; simp at hv; rcases hv with rfl|rfl|rfl<;>rfl)))) (fun JU=>?_)
 refine ai (qX (l:=3) pI.h (.tmp rfl rfl) ⟨_,_,rfl⟩) ?_
 refine aG ?_
 refine bH (NU (m:=4) ?_)
 refine Ov ?_
 refine aB ?_
 refine Cc (fun _=>?_) (fun hb=>absurd ((by decide:(decide ((0:Int)<3))=true).symm.trans hb) (by decide))
 refine aB ?_
 refine pE (R:=lK 1) (a:=(.pointer (some ⟨k5,0,some 2⟩))) pI.h uK.h.sz (.tmp rfl rfl) (.tmp rfl rfl) .h (by decide) rfl (fun afs aft=>?_)
 refine Al (yC rfl) ?_
 refine f_ ?_
 refine zI hF fun x104 ac9 Y2 hF=>?_
 refine Ai Y2 (fun afu afv=>?_)
 refine Al fB ?_
 refine bnd hF fun sF Y3 hF=>az (kZ Y3) (fun _=>?_)
 refine au ?_
 refine zx ?_
 refine zx ?_
 refine ai (xP (v:=(.pointer (some ⟨k5,0,some 2⟩))) rfl (.tmp rfl rfl)) ?_
 refine As (zg [(zi nA.1),(.slice none 0 0),(zi sF.1),(zi 0),(zi 0)]) ?_
 refine aD ?_
 refine yo ?_
 refine aB ?_
 refine Cc (fun _=>?_) (fun hb=>absurd ((by decide:(decide (((IntKind.i64.wrap (0+1)):Int)<3))=true).symm.trans hb) (by decide))
 refine aB ?_
 refine pE (R:=lK 1) (a:=(.pointer (some ⟨k5,0,some 3⟩))) pI.h uK.h.sz (.tmp rfl rfl) (.tmp rfl rfl) .q3 (by decide) rfl (fun afw afx=>?_)
 refine Al (yC rfl) ?_
 refine f_ ?_
 refine zI hF fun x115 ac_ Ij hF=>?_
 refine Ai Ij (fun afy afz=>?_)
 refine Al fB ?_
 refine bnd hF fun uS Ik hF=>az (kZ Ik) (fun _=>?_)
 refine au ?_
 refine zx ?_
 refine zx ?_
 refine ai (xP (v:=(.pointer (some ⟨k5,0,some 3⟩))) rfl (.tmp rfl rfl)) ?_
 refine As (zg [(zi nA.1),(.slice none 0 0),(zi sF.1),(zi uS.1),(zi 0)]) ?_
 refine aD ?_
 refine yo ?_
 refine aB ?_
 refine Cc (fun _=>?_) (fun hb=>absurd ((by decide:(decide (((IntKind.i64.wrap ((IntKind.i64.wrap (0+1))+1)):Int)<3))=true).symm.trans hb) (by decide))
 refine aB ?_
 refine pE (R:=lK 1) (a:=(.pointer (some ⟨k5,0,some 4⟩))) pI.h uK.h.sz (.tmp rfl rfl) (.tmp rfl rfl) .q5 (by decide) rfl (fun afA afB=>?_)
 refine Al (yC rfl) ?_
 refine f_ ?_
 refine zI hF fun Qy ac' Y4 hF=>?_
 refine Ai Y4 (fun afC afD=>?_)
 refine Al fB ?_
 refine bnd hF fun wR Iy hF=>az (kZ Iy) (fun _=>?_)
 refine au ?_
 refine zx ?_
 refine zx ?_
 refine ai (xP (v:=(.pointer (some ⟨k5,0,some 4⟩))) rfl (.tmp rfl rfl)) ?_
 refine As (zg [(zi nA.1),(.slice none 0 0),(zi sF.1),(zi uS.1),(zi wR.1)]) ?_
 refine aD ?_
 refine yo ?_
 refine aB ?_
 refine Cc (fun hb=>absurd ((by decide:(decide (((IntKind.i64.wrap ((IntKind.i64.wrap ((IntKind.i64.wrap (0+1))+1))+1)):Int)<3))=false).symm.trans hb) (by decide)) (fun _=>?_)
 refine aD ?_
 obtain⟨JR,WA,Y5⟩:=bind_some hF
 refine au ?_
 refine bW (fun f' cs'=>∃(c145:Bool)(g:Fr),c145=JR/\f'=aH g [(4,(pz k1)),(7,(pz k5)),(81,(.bool c145))]/\aF cs' [bQ k1 43 (zg [(zi 0),(.slice none 0 0),(zi 0),(zi 0),(zi 0)]),bQ k5 43 (zg [(zi nA.1),(.slice none 0 0),(zi sF.1),(zi uS.1),(zi wR.1)])]) ?_ ?_
 · replace hF:=WA
   refine ax ?_
   rcases bf (!nA.2)with Bo|Bo
   · rw[Bo]
     try rw[Bo]at hF; dsimp only[ak,aj]at hF
     exact aO hF
   rw[Bo]
   try rw[Bo]at hF; dsimp only[ak,aj]at hF
   refine aD ?_
   refine fK .nil (yA (R:=aX) (E:=3)) ?_
   refine bnd hF fun JP Y6 hF=>az (@Mw _ _ _ (⟨none,0,0⟩) _ Y6) (fun _=>?_)
   refine aB ?_
   rcases bf (!JP)with Bp|Bp
   · rw[Bp]
     try rw[Bp]at hF; dsimp only[ak,aj]at hF
     exact aO hF
   rw[Bp]
   try rw[Bp]at hF; dsimp only[ak,aj]at hF
   refine ax ?_
   refine bnd hF fun JQ Y7 hF=>az (@Lu _ (⟨none,0,0⟩) _ Y7) (fun _=>?_)
   refine ax ?_
   refine ai (ji (s:=JQ) (t:=aN) (.tmp rfl rfl) (.tmp rfl rfl)) ?_
   exact aO hF
 rintro _ _ ⟨c145,afE,rfl,rfl,hE⟩
 replace hF:=Y5
 try dsimp only at hF
 refine bn hE ?_
 refine Ci hF (fun Y8 hF=>?_) (fun Y8 hF=>?_)
 · refine au ?_
   refine ai (fA iT.h rfl (vs:=[]) .nil (cells:=[(zi 0),(.slice none 0 0),(zi 0),(zi 0),(zi 0)]) rfl) ?_
   refine As (zg [(zi 0),(.slice none 0 0),(zi 0),(zi 0),(zi 0)]) ?_
   refine ax ?_
   cases hF
   exact dF (⟨none,0,0⟩,[]) (.cellA rfl rfl .h rfl n_.h iT.h.sz rfl rfl (.tmp rfl rfl .nil)) rfl (.conv .nil (dP (Ro:=(aR aX)) (E:=3)) (.cons .nil) (.sel (.cons .h .nil)))
 refine ax ?_
 refine As (zg [(zi nA.1),(.slice none 0 0),(zi sF.1),(zi uS.1),(zi wR.1)]) ?_
 refine ax ?_
 cases hF
 exact dF (⟨none,0,0⟩,[]) (.cellA rfl rfl .h rfl n_.h iT.h.sz rfl rfl (.tmp rfl rfl .nil)) rfl (.conv .nil (dP (Ro:=(aR aX)) (E:=3)) (.cons .nil) (.sel (.cons .h .nil)))
def zA(sV:Int)(bD:Int):Option (Bool):=
 (gX sV 0 (IntKind.i64.wrap (bD-1))).bind fun r1=>
 some (!r1)
theorem R4{sV:Int}{dO:Nat}{bD:Int}{R:Bool}(hF:zA sV bD=some R):
   Fw.Spec Tryz.prog 180 [(zi sV),(pz dO)] [cz dO 3 (zi bD)] (fun _:Unit=>(.bool R)) (fun _=>[]):=by
 refine Se 9 Tryz.func180 [.tmp 3] ?_
 intro H0 F0
 unfold zA at hF
 refine bZ ?_
 refine bnd hF fun r1 hx2 hF=>az (je hx2) (fun _=>?_)
 exact ze hF
def xn(bD:Int):List Int->Nat->Option (Int)
 |[],k4=>some (-1)
 |x6::aM,k4=>(zA x6 bD).bind fun dY=>
   if dY then (
     some (k4:Int))
   else (
     xn bD aM (k4+1))
def Du(aa:List Int)(bD:Int):Option (Int):=
 xn bD aa 0
theorem Rq{aa:List Int}{ae:Sv}{dO:Nat}{bD R:Int}(hF:Du aa bD=some R):
   Fw.Spec Tryz.prog 228 [ae.v,(.func (.func 180) [].toArray [(pz dO)].toArray)] [aC ae aa,cz dO 3 (zi bD)] (fun _:Unit=>(zi R)) (fun _=>[]):=by
 refine Se 19 Tryz.func228 [.tmp 4] ?_
 intro H0 F0
 unfold Du at hF
 refine f_ ?_
 refine bH (bX (m:=aa.length) (fun m2 f' cs'=>∃(g:Fr)(k4:Nat)(aM:List Int),m2=aM.length/\f'=aH g [(0,ae.v),(1,(.func (.func 180) [].toArray [(pz dO)].toArray)),(7,(zi (aa.length:Int))),(8,(zi (k4:Int)))]/\List.drop k4 aa=aM/\aF cs' [aC ae aa,cz dO 3 (zi bD)]/\xn bD aM k4=some R) ⟨_,0,_,rfl,aK,rfl,aJ,hF⟩ ?_)
 rintro m2 _ _ ⟨g3,k4,aM,rfl,rfl,hd7,hE,hF⟩
 refine Kb hE aa (fun mQ=>?_)
 rcases aM with _|⟨x6,aM⟩
 · have gZ:=dn hd7
   rw[xn]at hF
   refine aB ?_
   refine dL ?_
   exact ze hF
 obtain⟨gZ,bO,iA⟩:=dE hd7
 rw[xn]at hF
 refine aB ?_
 refine dK ?_
 refine j6 ?_
 refine Ai bO (fun k13 oI=>?_)
 refine Al dw ?_
 refine bnd hF fun dY hx16 hF=>mU (.rd .q2 rfl .nil) (uB XG.h (.tmp rfl rfl) bI (R4 hx16)) (fun _=>?_)
 refine au ?_
 refine Ci hF (fun oz hF=>?_) (fun oz hF=>?_)
 · exact ze hF
 refine aD ?_
 rw[wk k4]
 exact⟨_,cO _,_,k4+1,aM,rfl,aK,iA,aJ,hF⟩
def zh(aa:List Int)(bD:Int):Option (Bool):=
 (Du aa bD).bind fun r1=>
 some (decide ((0:Int)<=r1))
theorem Rn{aa:List Int}{ae:Sv}{dO:Nat}{bD:Int}{R:Bool}(hF:zh aa bD=some R):
   Fw.Spec Tryz.prog 164 [ae.v,(.func (.func 180) [].toArray [(pz dO)].toArray)] [aC ae aa,cz dO 3 (zi bD)] (fun _:Unit=>(.bool R)) (fun _=>[]):=by
 refine Se 9 Tryz.func164 [.tmp 4] ?_
 intro H0 F0
 unfold zh at hF
 refine bB ?_
 refine bnd hF fun r1 hx2 hF=>az (Rq hx2) (fun _=>?_)
 exact ze hF
def xB(a_:List Int)(qP:Int):Option (Bool):=
 (zh a_ qP).bind fun r2=>
 some (!r2)
theorem Lv{a_:List Int}{ae:Sv}{qP:Int}{R:Bool}(hF:xB a_ qP=some R):
   Fw.Spec Tryz.prog 124 [ae.v,(zi qP)] [aC ae a_] (fun _:Unit=>(.bool R)) (fun _=>[]):=by
 refine Se 9 Tryz.func124 [.tmp 4] ?_
 intro H0 F0
 unfold xB at hF
 refine au ?_
 refine fC (fun k1=>?_)
 refine aB ?_
 refine ai (mI (fn:=.func 180) (vs:=[]) (us:=[(pz k1)]) .nil bI) ?_
 refine bnd hF fun r2 hx3 hF=>az (Rn hx3) (fun _=>?_)
 exact ze hF
def Ay(aa:List Int)(bE:eZ):Option (Bool):=
 ((qJ aa bE.From).bind fun r4=>
   bif r4 then ((qJ aa bE.To).bind fun r8=>
     bif r8 then ((ix aa bE.To).bind fun sP=>
       bif (((bE.Map.length:Int):Int)==sP)then ((ix aa bE.From).bind fun kU=>
         (xB bE.Map kU).bind fun Dj=>
         some Dj)
       else (some false))
     else (some false))
   else (some false)).bind fun o2=>
 match o2 with
 |c28=>some c28
theorem Ui{aa:List Int}{ae:Sv}{bE:eZ}{r_:Sv}{R:Bool}(hF:Ay aa bE=some R):
   Fw.Spec Tryz.prog 83 [ae.v,(zg [(zi bE.From),(zi bE.To),r_.v])] [aC ae aa,aC r_ bE.Map] (fun _:Unit=>(.bool R)) (fun _=>[]):=by
 refine Se 36 Tryz.func83 [.tmp 4] ?_
 intro H0 F0
 unfold Ay at hF
 refine au ?_
 refine fC (fun k1=>?_)
 refine aG ?_
 obtain⟨o2,fH,hO3⟩:=bind_some hF
 refine gN [0,1,2,3,4,5,6,7,8,9,10,11,12,13,14,15,16,17,18,19,20,21,22,23,24,25,26,27,28,29,30,31] [0,0,2,7,15,31,31,95,255,511,1023,2047,4095,8191,2047,2047,34815,116735,247807,524287,1048575,2097151,4194303,8388607,4194303,4194303,37748735,121634815,255852543,536870911,1073741823,2147483647] [3,8,29] mixed (by decide+kernel) ?_
 refine pG (fun f' cs'=>∃(c28:Bool)(g:Fr),c28=o2/\f'=aH g [(4,(.bool c28))]/\aF cs' []) ?_ ?_
 · replace hF:=fH
   refine iy ?_
   refine bnd hF fun r4 hx5 hF=>di (zY hx5) (fun _=>?_)
   refine du ?_
   rcases bf r4 with aZ|aZ
   · rw[aZ]
     try rw[aZ]at hF; dsimp only[ak,aj]at hF
     refine iy ?_
     refine bnd hF fun r8 bO hF=>di (zY bO) (fun _=>?_)
     refine fT ?_
     rcases bf r8 with bN|bN
     · rw[bN]
       try rw[bN]at hF; dsimp only[ak,aj]at hF
       refine uR ?_
       refine zI hF fun sP Fv jO hF=>?_
       refine Di jO (fun k16 F6=>?_)
       refine Dl dw ?_
       refine iy ?_
       rcases bf (((bE.Map.length:Int):Int)==sP)with CE|CE
       · rw[CE]
         try rw[CE]at hF; dsimp only[ak,aj]at hF
         refine BC ?_
         refine zI hF fun kU afF si hF=>?_
         refine Di si (fun k23 j24=>?_)
         refine Dl dw ?_
         refine bnd hF fun Dj mi hF=>di (Lv mi) (fun _=>?_)
         exact gm hF
       rw[CE]
       try rw[CE]at hF; dsimp only[ak,aj]at hF
       exact gm hF
     rw[bN]
     try rw[bN]at hF; dsimp only[ak,aj]at hF
     exact gm hF
   rw[aZ]
   try rw[aZ]at hF; dsimp only[ak,aj]at hF
   exact gm hF
 rintro _ _ ⟨c28,g29,rfl,rfl,hE⟩
 replace hF:=hO3
 try dsimp only at hF
 refine bn hE ?_
 exact ze hF
def zS(bE:eZ):Option ((List UInt8)):=
 ((nN bE.From).bind fun r4=>
   bif (!r4)then (some true)
   else ((nN bE.To).bind fun r8=>
     bif (!r8)then (some true)
     else ((gX (bE.Map.length:Int) 1 3).bind fun bR=>
       bif (!bR)then (some true)
       else ((xB bE.Map 3).bind fun r16=>
         some (!r16))))).bind fun o2=>
 match o2 with
 |c19=>if c19 then (
     some [])
   else (
     (iO bE.From).bind fun gU=>
     (aP [114] gU).bind fun jW=>
     (aP jW [32,103,105,118,101,115,32,114]).bind fun x27=>
     (iO bE.To).bind fun iM=>
     (aP x27 iM).bind fun x34=>
     (aP x34 [32]).bind fun x38=>
     (vY bE.Map [44]).bind fun zb=>
     (aP x38 zb).bind fun KS=>
     some KS)
theorem SB{bE:eZ}{om:Sv}{R:(List UInt8)}(hF:zS bE=some R):
   Fw.Spec Tryz.prog 84 [(zg [(zi bE.From),(zi bE.To),om.v])] [aC om bE.Map] (fun _:Unit=>(sv R)) (fun _=>[]):=by
 refine Se 40 Tryz.func84 [.tmp 2] ?_
 intro H0 F0
 unfold zS at hF
 refine au ?_
 refine fC (fun k1=>?_)
 refine ax ?_
 obtain⟨o2,fH,hO3⟩:=bind_some hF
 refine au ?_
 refine bW (fun f' cs'=>∃(c19:Bool)(g:Fr),c19=o2/\f'=aH g [(1,(pz k1)),(25,(.bool c19))]/\aF cs' [cz k1 47 (zg [(zi bE.From),(zi bE.To),om.v]),aC om bE.Map]) ?_ ?_
 · replace hF:=fH
   refine aG ?_
   refine bnd hF fun r4 hx5 hF=>az (Ad hx5) (fun _=>?_)
   refine aG ?_
   rcases bf (!r4)with aZ|aZ
   · rw[aZ]
     try rw[aZ]at hF; dsimp only[ak,aj]at hF
     exact aO hF
   rw[aZ]
   try rw[aZ]at hF; dsimp only[ak,aj]at hF
   refine aD ?_
   refine bnd hF fun r8 bO hF=>az (Ad bO) (fun _=>?_)
   refine aB ?_
   rcases bf (!r8)with bN|bN
   · rw[bN]
     try rw[bN]at hF; dsimp only[ak,aj]at hF
     exact aO hF
   rw[bN]
   try rw[bN]at hF; dsimp only[ak,aj]at hF
   refine bZ ?_
   refine bnd hF fun bR eB hF=>az (je eB) (fun _=>?_)
   refine aB ?_
   rcases bf (!bR)with gG|gG
   · rw[gG]
     try rw[gG]at hF; dsimp only[ak,aj]at hF
     exact aO hF
   rw[gG]
   try rw[gG]at hF; dsimp only[ak,aj]at hF
   refine aD ?_
   refine bnd hF fun r16 iJ hF=>az (Lv iJ) (fun _=>?_)
   exact aO hF
 rintro _ _ ⟨c19,g50,rfl,rfl,hE⟩
 replace hF:=hO3
 try dsimp only at hF
 refine bn hE ?_
 refine Ci hF (fun JJ hF=>?_) (fun JJ hF=>?_)
 · exact ze hF
 refine au ?_
 refine gN [0,1,5,6,10,11,2,3,4,7,8,9,12,13,14] [0,1,3,7,15,0,32,103,255,511,0,1024,3303,8191,16383] [2,7,12] mixed (by decide+kernel) ?_
 refine uR ?_
 refine bnd hF fun gU lw hF=>di (kH lw) (fun _=>?_)
 refine bnd hF fun jW hx24 hF=>?_
 obtain⟨Qz,QA⟩:=bq hx24
 refine bi rfl .no (fun ha=>bu (s:=[114]) (t:=gU) (u:=jW) (EN ha (.sv _) rfl) (EN ha (.tmp rfl rfl) rfl) hx24) ?_
 refine bnd hF fun x27 hx28 hF=>?_
 obtain⟨Jm,Jn⟩:=bq hx28
 refine bi rfl .no (fun ha=>bu (s:=jW) (t:=[32,103,105,118,101,115,32,114]) (u:=x27) (EN ha (.tmp rfl rfl) rfl) (EN ha (.sv _) rfl) hx28) ?_
 refine bnd hF fun iM hx32 hF=>di (kH hx32) (fun _=>?_)
 refine bnd hF fun x34 kR hF=>?_
 obtain⟨E5,E8⟩:=bq kR
 refine bi rfl .no (fun ha=>bu (s:=x27) (t:=iM) (u:=x34) (EN ha (.tmp rfl rfl) rfl) (EN ha (.tmp rfl rfl) rfl) kR) ?_
 refine bnd hF fun x38 hx39 hF=>?_
 obtain⟨I1,I4⟩:=bq hx39
 refine bi rfl .no (fun ha=>bu (s:=x34) (t:=[32]) (u:=x38) (EN ha (.tmp rfl rfl) rfl) (EN ha (.sv _) rfl) hx39) ?_
 refine bnd hF fun zb iG hF=>di (GR iG) (fun _=>?_)
 refine bnd hF fun KS FN hF=>?_
 obtain⟨afG,afH⟩:=bq FN
 refine bi rfl .no (fun ha=>bu (s:=x38) (t:=zb) (u:=KS) (EN ha (.tmp rfl rfl) rfl) (EN ha (.tmp rfl rfl) rfl) FN) ?_
 refine fT ?_
 exact ze hF
def z8(aa:List Int)(aN:List UInt8):Option (eZ×Bool):=
 (l9 aN [32]).bind fun r2=>
 if (((r2.length:Int):Int)!=4)then (
   some ((⟨0,0,[]⟩:eZ),false))
 else (
   (ix r2 0).bind fun x6=>
   (kY x6 [114]).bind fun bR=>
   (gW bR).bind fun dY=>
   (ix r2 2).bind fun nz=>
   (kY nz [114]).bind fun il=>
   (gW il).bind fun kW=>
   (ix r2 3).bind fun x30=>
   (l9 x30 [44]).bind fun ic=>
   (uo ic).bind fun eT=>
   ((Ay aa (⟨dY.1,kW.1,eT.1⟩:eZ)).bind fun KT=>
     bif (!KT)then (some true)
     else ((zS (⟨dY.1,kW.1,eT.1⟩:eZ)).bind fun ni=>
       some (!(ni==aN)))).bind fun KU=>
   match KU with
   |c51=>if c51 then (
       some ((⟨0,0,[]⟩:eZ),false))
     else (
       some ((⟨dY.1,kW.1,eT.1⟩:eZ),true)))
theorem Tk{aa:List Int}{ae:Sv}{aN:List UInt8}{R:eZ×Bool}(hF:z8 aa aN=some R):
   Fw.Spec Tryz.prog 53 [ae.v,(sv aN)] [aC ae aa] (fun p:Sv×List Nat=>(.tuple [(zg [(zi R.1.From),(zi R.1.To),p.1.v]),(.bool R.2)].toArray)) (fun p=>[bT p.2 p.1 R.1.Map]):=by
 refine Se 54 Tryz.func53 [.cell 4 47,.tmp 5] ?_
 intro H0 F0
 unfold z8 at hF
 refine au ?_
 refine fe (fun k1=>?_)
 refine aB ?_
 refine bnd hF fun r2 hx3 hF=>dI (tJ hx3) (fun p4=>?_)
 refine dB ?_
 refine Ci hF (fun JV hF=>?_) (fun JV hF=>?_)
 · refine au ?_
   refine ai (fA lQ.h rfl (vs:=[]) .nil (cells:=[(zi 0),(zi 0),(.slice none 0 0)]) rfl) ?_
   refine As (zg [(zi 0),(zi 0),(.slice none 0 0)]) ?_
   refine ax ?_
   cases hF
   exact dF (⟨none,0,0⟩,[]) (.cellA rfl rfl .h rfl yO.h lQ.h.sz rfl rfl (.tmp rfl rfl .nil)) rfl (.conv .nil (dP (Ro:=(aR aX)) (E:=3)) (.cons .nil) (.sel (.cons .h .nil)))
 refine aG ?_
 refine ai (fA lQ.h rfl (vs:=[]) .nil (cells:=[(zi 0),(zi 0),(.slice none 0 0)]) rfl) ?_
 refine fe (fun k5=>?_)
 refine As (zg [(zi 0),(zi 0),(.slice none 0 0)]) ?_
 refine ax ?_
 refine zI hF fun x6 hp8 bO hF=>?_
 refine Ai bO (fun k10 j11=>?_)
 refine Al fB ?_
 refine bnd hF fun bR eB hF=>az (xz eB) (fun _=>?_)
 refine bnd hF fun dY hx16 hF=>az (kZ hx16) (fun _=>?_)
 refine au ?_
 refine zx ?_
 refine zx ?_
 refine au ?_
 refine As (zg [(zi dY.1),(zi 0),(.slice none 0 0)]) ?_
 refine ax ?_
 refine zI hF fun nz IR lw hF=>?_
 refine Ai lw (fun k22 j23=>?_)
 refine Al fB ?_
 refine bnd hF fun il hx25 hF=>az (xz hx25) (fun _=>?_)
 refine bnd hF fun kW hx28 hF=>az (kZ hx28) (fun _=>?_)
 refine au ?_
 refine zx ?_
 refine zx ?_
 refine au ?_
 refine As (zg [(zi dY.1),(zi kW.1),(.slice none 0 0)]) ?_
 refine ax ?_
 refine zI hF fun x30 afI rY hF=>?_
 refine Ai rY (fun k34 j35=>?_)
 refine Al fB ?_
 refine bnd hF fun ic BD hF=>dI (tJ BD) (fun p38=>?_)
 refine bnd hF fun eT lu hF=>dI (GI lu) (fun p41=>?_)
 refine au ?_
 refine zx ?_
 refine zx ?_
 refine au ?_
 refine As (zg [(zi dY.1),(zi kW.1),p41.1.v]) ?_
 refine aG ?_
 obtain⟨KU,Y9,abe⟩:=bind_some hF
 refine au ?_
 refine bW (fun f' cs'=>∃(c51:Bool)(g:Fr),c51=KU/\f'=aH g [(4,(pz k1)),(7,(pz k5)),(51,(.bool c51))]/\aF cs' [bQ k1 47 (zg [(zi 0),(zi 0),(.slice none 0 0)]),bQ k5 47 (zg [(zi dY.1),(zi kW.1),p41.1.v]),bT p41.2 p41.1 eT.1]) ?_ ?_
 · replace hF:=Y9
   refine aG ?_
   refine bnd hF fun KT Jc hF=>cB (.cons (.t .h) (.rd .q7 rfl .nil)) (gP df (fun _=>.nil) (nO (.rd (.t .h) rfl (.rd .h rfl .nil)) (bY Z4.h bI (Ui Jc)))) (fun _=>?_)
   refine aG ?_
   rcases bf (!KT)with og|og
   · rw[og]
     try rw[og]at hF; dsimp only[ak,aj]at hF
     exact aO hF
   rw[og]
   try rw[og]at hF; dsimp only[ak,aj]at hF
   refine ax ?_
   refine bnd hF fun ni lS hF=>cB (.cons .h .nil) (gP df (fun _=>.nil) (bY Z5.h bI (SB lS))) (fun _=>?_)
   refine ax ?_
   refine ai (ji (s:=ni) (t:=aN) (.tmp rfl rfl) (.tmp rfl rfl)) ?_
   exact aO hF
 rintro _ _ ⟨c51,g53,rfl,rfl,hE⟩
 replace hF:=abe
 try dsimp only at hF
 refine bn hE ?_
 refine Ci hF (fun Ce hF=>?_) (fun Ce hF=>?_)
 · refine au ?_
   refine ai (fA lQ.h rfl (vs:=[]) .nil (cells:=[(zi 0),(zi 0),(.slice none 0 0)]) rfl) ?_
   refine As (zg [(zi 0),(zi 0),(.slice none 0 0)]) ?_
   refine ax ?_
   cases hF
   exact dF (⟨none,0,0⟩,[]) (.cellA rfl rfl .h rfl yO.h lQ.h.sz rfl rfl (.tmp rfl rfl .nil)) rfl (.conv .nil (dP (Ro:=(aR aX)) (E:=3)) (.cons .nil) (.sel (.cons .h .nil)))
 refine ax ?_
 refine As (zg [(zi dY.1),(zi kW.1),p41.1.v]) ?_
 refine ax ?_
 cases hF
 exact dF (p41.1,p41.2) (.cellA rfl rfl .h rfl yO.h lQ.h.sz rfl rfl (.tmp rfl rfl .nil)) rfl (.sel (.cons .q2 .nil))
def qo(aa:List UInt8)(eX:List UInt8):Option (Bool):=
 (bif (decide (((eX.length:Int):Int)<=(aa.length:Int)))then ((jI (decide (0<=(IntKind.i64.wrap ((aa.length:Int)-(eX.length:Int))))&&decide ((IntKind.i64.wrap ((aa.length:Int)-(eX.length:Int)))<=((aa).length:Int)))).bind fun u5=>
     some ((aa.drop ((IntKind.i64.wrap ((aa.length:Int)-(eX.length:Int)))).toNat)==eX))
   else (some false)).bind fun o1=>
 match o1 with
 |c7=>some c7
theorem La{aa eX:List UInt8}{R:Bool}(hF:qo aa eX=some R):
   Fw.Spec Tryz.prog 181 [(sv aa),(sv eX)] [] (fun _:Unit=>(.bool R)) (fun _=>[]):=by
 refine Se 21 Tryz.func181 [.tmp 4] ?_
 intro H0 F0
 unfold qo at hF
 refine ax ?_
 obtain⟨o1,kg,hO2⟩:=bind_some hF
 refine au ?_
 refine bW (fun f' cs'=>∃(c7:Bool)(g:Fr),c7=o1/\f'=aH g [(4,(.bool c7))]/\aF cs' []) ?_ ?_
 · replace hF:=kg
   refine au ?_
   refine ai (g_ (s:=aa) dz (.tmp rfl rfl)) ?_
   refine au ?_
   refine ai (g_ (s:=eX) dz (.tmp rfl rfl)) ?_
   refine aG ?_
   rcases bf (decide (((eX.length:Int):Int)<=(aa.length:Int)))with hg3|hg3
   · rw[hg3]
     try rw[hg3]at hF; dsimp only[ak,aj]at hF
     refine aD ?_
     refine ai (g_ (s:=aa) dz (.tmp rfl rfl)) ?_
     refine ax ?_
     refine ai (g_ (s:=eX) dz (.tmp rfl rfl)) ?_
     refine ax ?_
     refine bnd hF fun u5 hx6 hF=>?_
     have hc4:0<=(IntKind.i64.wrap ((aa.length:Int)-(eX.length:Int)))/\(IntKind.i64.wrap ((aa.length:Int)-(eX.length:Int)))<=((aa).length:Int):=by (have hq:=lH hx6; clear hF; simp only[Bool.and_eq_true,decide_eq_true_eq]at*; omega)
     refine ai (xV (s:=aa) (i:=(IntKind.i64.wrap ((aa.length:Int)-(eX.length:Int)))) dz (.tmp rfl rfl) (.tmp rfl rfl) hc4.1 hc4.2) ?_
     refine ax ?_
     refine ai (nT (s:=(aa.drop ((IntKind.i64.wrap ((aa.length:Int)-(eX.length:Int)))).toNat)) (t:=eX) (.tmp rfl rfl) (.tmp rfl rfl)) ?_
     exact aO hF
   rw[hg3]
   try rw[hg3]at hF; dsimp only[ak,aj]at hF
   exact aO hF
 rintro _ _ ⟨c7,g8,rfl,rfl,hE⟩
 replace hF:=hO2
 try dsimp only at hF
 refine bn hE ?_
 exact ze hF
def vC(aa:List UInt8)(eX:List UInt8):Option (Bool):=
 (qo aa eX).bind fun r1=>
 some r1
theorem RV{aa eX:List UInt8}{R:Bool}(hF:vC aa eX=some R):
   Fw.Spec Tryz.prog 125 [(sv aa),(sv eX)] [] (fun _:Unit=>(.bool R)) (fun _=>[]):=by
 refine Se 8 Tryz.func125 [.tmp 4] ?_
 intro H0 F0
 unfold vC at hF
 refine bB ?_
 refine bnd hF fun r1 hx2 hF=>az (La hx2) (fun _=>?_)
 exact ze hF
def zq(aa:List UInt8)(eX:List UInt8):Option ((List UInt8)):=
 (qo aa eX).bind fun r1=>
 if r1 then (
   (jI (decide (0<=(IntKind.i64.wrap ((aa.length:Int)-(eX.length:Int))))&&decide ((IntKind.i64.wrap ((aa.length:Int)-(eX.length:Int)))<=((aa).length:Int)))).bind fun u5=>
   some (aa.take ((IntKind.i64.wrap ((aa.length:Int)-(eX.length:Int)))).toNat))
 else (
   some aa)
theorem RG{aa eX:List UInt8}{R:(List UInt8)}(hF:zq aa eX=some R):
   Fw.Spec Tryz.prog 182 [(sv aa),(sv eX)] [] (fun _:Unit=>(sv R)) (fun _=>[]):=by
 refine Se 16 Tryz.func182 [.tmp 4] ?_
 intro H0 F0
 unfold zq at hF
 refine bZ ?_
 refine bnd hF fun r1 hx2 hF=>az (La hx2) (fun _=>?_)
 refine au ?_
 refine Ci hF (fun KN hF=>?_) (fun KN hF=>?_)
 · refine ax ?_
   refine ai (g_ (s:=aa) dz (.tmp rfl rfl)) ?_
   refine au ?_
   refine ai (g_ (s:=eX) dz (.tmp rfl rfl)) ?_
   refine au ?_
   refine bnd hF fun u5 hx6 hF=>?_
   have hc4:=lH hx6
   simp only[Bool.and_eq_true,decide_eq_true_eq]at hc4
   refine ai (Ah (s:=aa) (j:=(IntKind.i64.wrap ((aa.length:Int)-(eX.length:Int)))) dz (.tmp rfl rfl) (.tmp rfl rfl) hc4.1 hc4.2) ?_
   exact ze hF
 exact ze hF
def tC(aa:List UInt8)(eX:List UInt8):Option ((List UInt8)):=
 (zq aa eX).bind fun r1=>
 some r1
theorem RU{aa eX:List UInt8}{R:(List UInt8)}(hF:tC aa eX=some R):
   Fw.Spec Tryz.prog 126 [(sv aa),(sv eX)] [] (fun _:Unit=>(sv R)) (fun _=>[]):=by
 refine Se 8 Tryz.func126 [.tmp 4] ?_
 intro H0 F0
 unfold tC at hF
 refine bB ?_
 refine bnd hF fun r1 hx2 hF=>az (RG hx2) (fun _=>?_)
 exact ze hF
def uq(Ef:List UInt8)(aN:List UInt8):Option (Int×(List (List UInt8))×Bool):=
 (qB aN [40]).bind fun r1=>
 (kY r1.1 Ef).bind fun r4=>
 (gW r4).bind fun r7=>
 (bif (!r1.2.2)then (some true)
   else (bif (!r7.2)then (some true)
     else ((vC r1.2.1 [41]).bind fun kE=>
       some (!kE)))).bind fun xg=>
 match xg with
 |c17=>if c17 then (
     some (0,[],false))
   else (
     (tC r1.2.1 [41]).bind fun fU=>
     if (fU==[])then (
       some (r7.1,[],true))
     else (
       (l9 fU [44]).bind fun gJ=>
       some (r7.1,gJ,true)))
theorem Mx{Ef aN:List UInt8}{R:Int×(List (List UInt8))×Bool}(hF:uq Ef aN=some R):
   Fw.Spec Tryz.prog 86 [(sv Ef),(sv aN)] [] (fun p:Sv=>(.tuple [(zi R.1),p.v,(.bool R.2.2)].toArray)) (fun p=>[jd p R.2.1]):=by
 refine Se 45 Tryz.func86 [.tmp 4,.tmp 5,.tmp 6] ?_
 intro H0 F0
 unfold uq at hF
 refine bZ ?_
 refine bnd hF fun r1 hx2 hF=>az (GA hx2) (fun _=>?_)
 refine au ?_
 refine zx ?_
 refine zx ?_
 refine zx ?_
 refine bZ ?_
 refine bnd hF fun r4 hx5 hF=>az (xz hx5) (fun _=>?_)
 refine bnd hF fun r7 ik hF=>az (kZ ik) (fun _=>?_)
 refine au ?_
 refine zx ?_
 refine zx ?_
 refine aB ?_
 obtain⟨xg,Il,Ji⟩:=bind_some hF
 refine au ?_
 refine bW (fun f' cs'=>∃(c17:Bool)(g:Fr),c17=xg/\f'=aH g [(8,(sv r1.2.1)),(10,(zi r7.1)),(36,(.bool c17))]/\aF cs' []) ?_ ?_
 · replace hF:=Il
   refine ax ?_
   rcases bf (!r1.2.2)with gF|gF
   · rw[gF]
     try rw[gF]at hF; dsimp only[ak,aj]at hF
     exact aO hF
   rw[gF]
   try rw[gF]at hF; dsimp only[ak,aj]at hF
   refine bB ?_
   rcases bf (!r7.2)with CG|CG
   · rw[CG]
     try rw[CG]at hF; dsimp only[ak,aj]at hF
     exact aO hF
   rw[CG]
   try rw[CG]at hF; dsimp only[ak,aj]at hF
   refine ax ?_
   refine bnd hF fun kE jO hF=>az (RV jO) (fun _=>?_)
   exact aO hF
 rintro _ _ ⟨c17,g26,rfl,rfl,hE⟩
 replace hF:=Ji
 try dsimp only at hF
 refine bn hE ?_
 refine Ci hF (fun Ch hF=>?_) (fun Ch hF=>?_)
 · refine bB ?_
   cases hF
   exact dF (⟨none,0,0⟩) (.tmp rfl rfl (.tmp rfl rfl (.tmp rfl rfl .nil))) rfl (.conv .nil (yA (R:=rdStr) (E:=9)) (.cons .nil) (.sel (.rd .h rfl .nil)))
 refine ax ?_
 refine bnd hF fun fU lU hF=>az (RU lU) (fun _=>?_)
 refine aD ?_
 refine ai (nT (s:=fU) (t:=[]) (.tmp rfl rfl) (.sv _)) ?_
 refine au ?_
 refine Ci hF (fun IP hF=>?_) (fun IP hF=>?_)
 · refine bZ ?_
   cases hF
   exact dF (⟨none,0,0⟩) (.tmp rfl rfl (.tmp rfl rfl (.tmp rfl rfl .nil))) rfl (.conv .nil (yA (R:=rdStr) (E:=9)) (.cons .nil) (.sel (.rd .h rfl .nil)))
 refine aB ?_
 refine bnd hF fun gJ si hF=>dI (tJ si) (fun p23=>?_)
 refine aD ?_
 cases hF
 exact Er p23
def Ak(cu:Int):Option (Bool):=
 (gX cu 0 9).bind fun r1=>
 some r1
theorem MN{cu:Int}{R:Bool}(hF:Ak cu=some R):
   Fw.Spec Tryz.prog 184 [(zi cu)] [] (fun _:Unit=>(.bool R)) (fun _=>[]):=by
 refine Se 5 Tryz.func184 [.tmp 2] ?_
 intro H0 F0
 unfold Ak at hF
 refine aD ?_
 refine bnd hF fun r1 hx2 hF=>az (je hx2) (fun _=>?_)
 exact ze hF
def DR(cu:Int):Option (Bool):=
 (Ak cu).bind fun r1=>
 some (!r1)
theorem Sk{cu:Int}{R:Bool}(hF:DR cu=some R):
   Fw.Spec Tryz.prog 183 [(zi cu)] [] (fun _:Unit=>(.bool R)) (fun _=>[]):=by
 refine Se 6 Tryz.func183 [.tmp 2] ?_
 intro H0 F0
 unfold DR at hF
 refine aD ?_
 refine bnd hF fun r1 hx2 hF=>az (MN hx2) (fun _=>?_)
 exact ze hF
def xu:List Int->Nat->Option (Int)
 |[],k4=>some (-1)
 |x6::aM,k4=>(DR x6).bind fun dY=>
   if dY then (
     some (k4:Int))
   else (
     xu aM (k4+1))
def Dx(aa:List Int):Option (Int):=
 xu aa 0
theorem Rz{aa:List Int}{ae:Sv}{R:Int}(hF:Dx aa=some R):
   Fw.Spec Tryz.prog 228 [ae.v,(.func (.func 183) [].toArray [].toArray)] [aC ae aa] (fun _:Unit=>(zi R)) (fun _=>[]):=by
 refine Se 19 Tryz.func228 [.tmp 4] ?_
 intro H0 F0
 unfold Dx at hF
 refine f_ ?_
 refine bH (bX (m:=aa.length) (fun m2 f' cs'=>∃(g:Fr)(k4:Nat)(aM:List Int),m2=aM.length/\f'=aH g [(0,ae.v),(1,(.func (.func 183) [].toArray [].toArray)),(7,(zi (aa.length:Int))),(8,(zi (k4:Int)))]/\List.drop k4 aa=aM/\aF cs' [aC ae aa]/\xu aM k4=some R) ⟨_,0,_,rfl,aK,rfl,aJ,hF⟩ ?_)
 rintro m2 _ _ ⟨g3,k4,aM,rfl,rfl,hd7,hE,hF⟩
 refine Kb hE aa (fun mQ=>?_)
 rcases aM with _|⟨x6,aM⟩
 · have gZ:=dn hd7
   rw[xu]at hF
   refine aB ?_
   refine dL ?_
   exact ze hF
 obtain⟨gZ,bO,iA⟩:=dE hd7
 rw[xu]at hF
 refine aB ?_
 refine dK ?_
 refine j6 ?_
 refine Ai bO (fun k13 oI=>?_)
 refine Al dw ?_
 refine bnd hF fun dY hx16 hF=>mU .nil (uB XH.h (.tmp rfl rfl) bI (Sk hx16)) (fun _=>?_)
 refine au ?_
 refine Ci hF (fun oz hF=>?_) (fun oz hF=>?_)
 · exact ze hF
 refine aD ?_
 rw[wk k4]
 exact⟨_,cO _,_,k4+1,aM,rfl,aK,iA,aJ,hF⟩
def zl(aa:List Int):Option (Bool):=
 (Dx aa).bind fun r1=>
 some (decide ((0:Int)<=r1))
theorem Rs{aa:List Int}{ae:Sv}{R:Bool}(hF:zl aa=some R):
   Fw.Spec Tryz.prog 164 [ae.v,(.func (.func 183) [].toArray [].toArray)] [aC ae aa] (fun _:Unit=>(.bool R)) (fun _=>[]):=by
 refine Se 9 Tryz.func164 [.tmp 4] ?_
 intro H0 F0
 unfold zl at hF
 refine bB ?_
 refine bnd hF fun r1 hx2 hF=>az (Rz hx2) (fun _=>?_)
 exact ze hF
def xM(a_:List Int):Option (Bool):=
 (zl a_).bind fun r1=>
 some (!r1)
theorem L9{a_:List Int}{ae:Sv}{R:Bool}(hF:xM a_=some R):
   Fw.Spec Tryz.prog 127 [ae.v] [aC ae a_] (fun _:Unit=>(.bool R)) (fun _=>[]):=by
 refine Se 6 Tryz.func127 [.tmp 2] ?_
 intro H0 F0
 unfold xM at hF
 refine aD ?_
 refine bnd hF fun r1 hx2 hF=>az (Rs hx2) (fun _=>?_)
 exact ze hF
def Az(aa:List Int)(bV:Fact):Option (Bool):=
 ((qJ aa bV.Rel).bind fun r4=>
   bif r4 then ((ix aa bV.Rel).bind fun x8=>
     bif (((bV.Values.length:Int):Int)==x8)then ((xM bV.Values).bind fun dY=>
       some dY)
     else (some false))
   else (some false)).bind fun o2=>
 match o2 with
 |c18=>some c18
theorem Uj{aa:List Int}{ae:Sv}{bV:Fact}{dS:Sv}{R:Bool}(hF:Az aa bV=some R):
   Fw.Spec Tryz.prog 87 [ae.v,(zg [(zi bV.Rel),dS.v])] [aC ae aa,aC dS bV.Values] (fun _:Unit=>(.bool R)) (fun _=>[]):=by
 refine Se 25 Tryz.func87 [.tmp 4] ?_
 intro H0 F0
 unfold Az at hF
 refine au ?_
 refine fC (fun k1=>?_)
 refine aG ?_
 obtain⟨o2,fH,hO3⟩:=bind_some hF
 refine gN [0,1,2,3,4,5,6,7,8,9,10,11,12,13,14,15,16,17,18,19,20] [0,0,2,7,15,31,63,127,31,31,543,1823,3871,8191,16383,32767,65535,131071,262143,524287,1048575] [3,18] mixed (by decide+kernel) ?_
 refine pG (fun f' cs'=>∃(c18:Bool)(g:Fr),c18=o2/\f'=aH g [(4,(.bool c18))]/\aF cs' []) ?_ ?_
 · replace hF:=fH
   refine iy ?_
   refine bnd hF fun r4 hx5 hF=>di (zY hx5) (fun _=>?_)
   refine du ?_
   rcases bf r4 with aZ|aZ
   · rw[aZ]
     try rw[aZ]at hF; dsimp only[ak,aj]at hF
     refine uR ?_
     refine zI hF fun x8 IJ lT hF=>?_
     refine Di lT (fun k12 j13=>?_)
     refine Dl dw ?_
     refine iy ?_
     rcases bf (((bV.Values.length:Int):Int)==x8)with oD|oD
     · rw[oD]
       try rw[oD]at hF; dsimp only[ak,aj]at hF
       refine fT ?_
       refine bnd hF fun dY hx16 hF=>di (L9 hx16) (fun _=>?_)
       exact gm hF
     rw[oD]
     try rw[oD]at hF; dsimp only[ak,aj]at hF
     exact gm hF
   rw[aZ]
   try rw[aZ]at hF; dsimp only[ak,aj]at hF
   exact gm hF
 rintro _ _ ⟨c18,g19,rfl,rfl,hE⟩
 replace hF:=hO3
 try dsimp only at hF
 refine bn hE ?_
 exact ze hF
def zT(bV:Fact):Option ((List UInt8)):=
 ((nN bV.Rel).bind fun r4=>
   bif (!r4)then (some true)
   else ((gX (bV.Values.length:Int) 1 3).bind fun r8=>
     bif (!r8)then (some true)
     else ((xM bV.Values).bind fun bR=>
       some (!bR)))).bind fun o2=>
 match o2 with
 |c15=>if c15 then (
     some [])
   else (
     (iO bV.Rel).bind fun r16=>
     (aP [114] r16).bind fun kU=>
     (aP kU [40]).bind fun jW=>
     (vY bV.Values [44]).bind fun kW=>
     (aP jW kW).bind fun x30=>
     (aP x30 [41]).bind fun x34=>
     some x34)
theorem SC{bV:Fact}{bA:Sv}{R:(List UInt8)}(hF:zT bV=some R):
   Fw.Spec Tryz.prog 88 [(zg [(zi bV.Rel),bA.v])] [aC bA bV.Values] (fun _:Unit=>(sv R)) (fun _=>[]):=by
 refine Se 30 Tryz.func88 [.tmp 2] ?_
 intro H0 F0
 unfold zT at hF
 refine au ?_
 refine fC (fun k1=>?_)
 refine ax ?_
 obtain⟨o2,fH,hO3⟩:=bind_some hF
 refine au ?_
 refine bW (fun f' cs'=>∃(c15:Bool)(g:Fr),c15=o2/\f'=aH g [(1,(pz k1)),(19,(.bool c15))]/\aF cs' [cz k1 51 (zg [(zi bV.Rel),bA.v]),aC bA bV.Values]) ?_ ?_
 · replace hF:=fH
   refine aG ?_
   refine bnd hF fun r4 hx5 hF=>az (Ad hx5) (fun _=>?_)
   refine aG ?_
   rcases bf (!r4)with aZ|aZ
   · rw[aZ]
     try rw[aZ]at hF; dsimp only[ak,aj]at hF
     exact aO hF
   rw[aZ]
   try rw[aZ]at hF; dsimp only[ak,aj]at hF
   refine bZ ?_
   refine bnd hF fun r8 bO hF=>az (je bO) (fun _=>?_)
   refine aB ?_
   rcases bf (!r8)with bN|bN
   · rw[bN]
     try rw[bN]at hF; dsimp only[ak,aj]at hF
     exact aO hF
   rw[bN]
   try rw[bN]at hF; dsimp only[ak,aj]at hF
   refine aD ?_
   refine bnd hF fun bR eB hF=>az (L9 eB) (fun _=>?_)
   exact aO hF
 rintro _ _ ⟨c15,Kt,rfl,rfl,hE⟩
 replace hF:=hO3
 try dsimp only at hF
 refine bn hE ?_
 refine Ci hF (fun mo hF=>?_) (fun mo hF=>?_)
 · exact ze hF
 refine au ?_
 refine gN [0,1,5,6,2,3,4,7,8,9,10] [0,1,3,7,15,0,32,103,255,511,1023] [2,7] mixed (by decide+kernel) ?_
 refine rW ?_
 refine bnd hF fun r16 iJ hF=>di (kH iJ) (fun _=>?_)
 refine bnd hF fun kU iF hF=>?_
 obtain⟨PV,PW⟩:=bq iF
 refine bi rfl .no (fun ha=>bu (s:=[114]) (t:=r16) (u:=kU) (EN ha (.sv _) rfl) (EN ha (.tmp rfl rfl) rfl) iF) ?_
 refine bnd hF fun jW hx24 hF=>?_
 obtain⟨Qz,QA⟩:=bq hx24
 refine bi rfl .no (fun ha=>bu (s:=kU) (t:=[40]) (u:=jW) (EN ha (.tmp rfl rfl) rfl) (EN ha (.sv _) rfl) hx24) ?_
 refine bnd hF fun kW hx28 hF=>di (GR hx28) (fun _=>?_)
 refine bnd hF fun x30 hx31 hF=>?_
 obtain⟨Qt,hz32⟩:=bq hx31
 refine bi rfl .no (fun ha=>bu (s:=jW) (t:=kW) (u:=x30) (EN ha (.tmp rfl rfl) rfl) (EN ha (.tmp rfl rfl) rfl) hx31) ?_
 refine bnd hF fun x34 kR hF=>?_
 obtain⟨E5,E8⟩:=bq kR
 refine bi rfl .no (fun ha=>bu (s:=x30) (t:=[41]) (u:=x34) (EN ha (.tmp rfl rfl) rfl) (EN ha (.sv _) rfl) kR) ?_
 refine fT ?_
 exact ze hF
def xN(aa:List Int)(aN:List UInt8):Option (Fact×Bool):=
 (uq [114] aN).bind fun r2=>
 (uo r2.2.1).bind fun r5=>
 (bif (!r2.2.2)then (some true)
   else (bif (!r5.2)then (some true)
     else ((Az aa (⟨r2.1,r5.1⟩:Fact)).bind fun jU=>
       bif (!jU)then (some true)
       else ((zT (⟨r2.1,r5.1⟩:Fact)).bind fun fw=>
         some (!(fw==aN)))))).bind fun o9=>
 match o9 with
 |c20=>if c20 then (
     some ((⟨0,[]⟩:Fact),false))
   else (
     some ((⟨r2.1,r5.1⟩:Fact),true))
theorem L_{aa:List Int}{ae:Sv}{aN:List UInt8}{R:Fact×Bool}(hF:xN aa aN=some R):
   Fw.Spec Tryz.prog 56 [ae.v,(sv aN)] [aC ae aa] (fun p:Sv×List Nat=>(.tuple [(zg [(zi R.1.Rel),p.1.v]),(.bool R.2)].toArray)) (fun p=>[bT p.2 p.1 R.1.Values]):=by
 refine Se 46 Tryz.func56 [.cell 4 51,.tmp 5] ?_
 intro H0 F0
 unfold xN at hF
 refine au ?_
 refine fe (fun k1=>?_)
 refine aB ?_
 refine bnd hF fun r2 hx3 hF=>dI (Mx hx3) (fun p4=>?_)
 refine au ?_
 refine zx ?_
 refine zx ?_
 refine zx ?_
 refine bB ?_
 refine bnd hF fun r5 hx6 hF=>dI (GI hx6) (fun p7=>?_)
 refine au ?_
 refine zx ?_
 refine zx ?_
 refine bB ?_
 refine ai (fA uQ.h rfl (vs:=[(zi r2.1),p7.1.v]) bI (cells:=[(zi r2.1),p7.1.v]) rfl) ?_
 refine fe (fun k8=>?_)
 refine As (zg [(zi r2.1),p7.1.v]) ?_
 refine aG ?_
 obtain⟨o9,abf,abg⟩:=bind_some hF
 refine au ?_
 refine bW (fun f' cs'=>∃(c20:Bool)(g:Fr),c20=o9/\f'=aH g [(4,(pz k1)),(11,(pz k8)),(43,(.bool c20))]/\aF cs' [bQ k1 51 (zg [(zi 0),(.slice none 0 0)]),bQ k8 51 (zg [(zi r2.1),p7.1.v]),bT p7.2 p7.1 r5.1]) ?_ ?_
 · replace hF:=abf
   refine ax ?_
   rcases bf (!r2.2.2)with bN|bN
   · rw[bN]
     try rw[bN]at hF; dsimp only[ak,aj]at hF
     exact aO hF
   rw[bN]
   try rw[bN]at hF; dsimp only[ak,aj]at hF
   refine bB ?_
   rcases bf (!r5.2)with gF|gF
   · rw[gF]
     try rw[gF]at hF; dsimp only[ak,aj]at hF
     exact aO hF
   rw[gF]
   try rw[gF]at hF; dsimp only[ak,aj]at hF
   refine aD ?_
   refine bnd hF fun jU jG hF=>cB (.cons (.t .h) (.rd .q3 rfl .nil)) (gP df (fun _=>.nil) (nO (.rd (.t .h) rfl (.rd .h rfl .nil)) (bY Z6.h bI (Uj jG)))) (fun _=>?_)
   refine aB ?_
   rcases bf (!jU)with gH|gH
   · rw[gH]
     try rw[gH]at hF; dsimp only[ak,aj]at hF
     exact aO hF
   rw[gH]
   try rw[gH]at hF; dsimp only[ak,aj]at hF
   refine ax ?_
   refine bnd hF fun fw jH hF=>cB (.cons .h .nil) (gP df (fun _=>.nil) (bY Z7.h bI (SC jH))) (fun _=>?_)
   refine ax ?_
   refine ai (ji (s:=fw) (t:=aN) (.tmp rfl rfl) (.tmp rfl rfl)) ?_
   exact aO hF
 rintro _ _ ⟨c20,g22,rfl,rfl,hE⟩
 replace hF:=abg
 try dsimp only at hF
 refine bn hE ?_
 refine Ci hF (fun abh hF=>?_) (fun abh hF=>?_)
 · refine au ?_
   refine ai (fA uQ.h rfl (vs:=[]) .nil (cells:=[(zi 0),(.slice none 0 0)]) rfl) ?_
   refine As (zg [(zi 0),(.slice none 0 0)]) ?_
   refine ax ?_
   cases hF
   exact dF (⟨none,0,0⟩,[]) (.cellA rfl rfl .h rfl ET.h uQ.h.sz rfl rfl (.tmp rfl rfl .nil)) rfl (.conv .nil (dP (Ro:=(aR aX)) (E:=3)) (.cons .nil) (.sel (.cons .h .nil)))
 refine ax ?_
 refine As (zg [(zi r2.1),p7.1.v]) ?_
 refine ax ?_
 cases hF
 exact dF (p7.1,p7.2) (.cellA rfl rfl .h rfl ET.h uQ.h.sz rfl rfl (.tmp rfl rfl .nil)) rfl (.sel (.cons .q2 .nil))
def mE:List (List UInt8)->Nat->(List Int)->Option ((List Int)×Bool)
 |[],k8,c2=>some (c2,true)
 |fV::dh,k8,c2=>(((kY fV [120]).bind fun gJ=>
     (gW gJ).bind fun il=>
     if (!il.2)then (
       some (.inl ([],false)))
     else (
       if (!(gJ==fV))then (
         (app c2 ([(IntKind.i64.wrap (il.1+10))]:List Int)).bind fun z28=>
         some (.inr z28))
       else (
         (app c2 ([il.1]:List Int)).bind fun z32=>
         some (.inr z32)))):Option (Sum ((List Int)×Bool) ((List Int)))).bind fun KV=>
   match KV with
   | .inl r=>some r
   | .inr c37=>mE dh (k8+1) c37
def uj(iY:List (List UInt8)):Option ((List Int)×Bool):=
 mE iY 0 ([]:List Int)
theorem Ma{iY:List (List UInt8)}{ae:Sv}{R:(List Int)×Bool}(hF:uj iY=some R):
   Fw.Spec Tryz.prog 139 [ae.v] [jd ae iY] (fun p:Sv×List Nat=>(.tuple [p.1.v,(.bool R.2)].toArray)) (fun p=>[bT p.2 p.1 R.1]):=by
 refine Se 37 Tryz.func139 [.tmp 2,.tmp 3] ?_
 intro H0 F0
 unfold uj at hF
 refine aD ?_
 refine fF rfl (eD (g:=true) eP.h dX.h .nil (vs:=[]) rfl rfl rfl (by simp)) (fun k1=>?_)
 refine fK (.cons .h .nil) (eH (Ro:=(aR aX)) (E:=3) (F:=[]) (xs:=([]:List Int)) eG rfl rfl) ?_
 refine dB ?_
 refine bH (bX (m:=iY.length) (fun m6 f' cs'=>∃(g:Fr)(k8:Nat)(dh:List (List UInt8))(c2:List Int)(v3:Sv)(F4:List Nat),m6=dh.length/\f'=aH g [(4,v3.v),(11,ae.v),(12,(zi (iY.length:Int))),(13,(zi (k8:Int)))]/\List.drop k8 iY=dh/\aF cs' [bT F4 v3 c2,jd ae iY]/\mE dh k8 c2=some R) ⟨_,0,_,_,⟨(some ⟨k1,0,none⟩),0,1⟩,(k1::[]),rfl,aK,rfl,aJ,hF⟩ ?_)
 rintro m6 _ _ ⟨g7,k8,dh,c2,v3,F4,rfl,rfl,jv,hE,hF⟩
 refine Kb hE iY (fun EP=>?_)
 rcases dh with _|⟨fV,dh⟩
 · have sw:=dn jv
   rw[mE]at hF
   refine aB ?_
   refine dL ?_
   refine j6 ?_
   cases hF
   exact Er (v3,F4)
 obtain⟨sw,eB,sD⟩:=dE jv
 rw[mE]at hF
 refine aB ?_
 refine dK ?_
 refine au ?_
 obtain⟨KV,Y_,QB⟩:=bind_some hF
 refine ll (fun f' cs'=>∃(c37:List Int)(v38:Sv)(KW:List Nat)(g:Fr),KV= .inr c37/\f'=aH g [(4,v38.v),(11,ae.v),(12,(zi (iY.length:Int))),(13,(zi (k8:Int)))]/\aF cs' [bT KW v38 c37,jd ae iY]) ?_ ?_
 · replace hF:=Y_
   refine bH (eF (pE (a:=fV) gD.h gY.h.sz (.tmp rfl rfl) (.tmp rfl rfl) (.t .h) (Int.natCast_nonneg k8) eB (fun k19 j20=>?_)))
   refine Al fB ?_
   refine aB ?_
   refine bnd hF fun gJ si hF=>az (xz si) (fun _=>?_)
   refine aB ?_
   refine bnd hF fun il hx25 hF=>az (kZ hx25) (fun _=>?_)
   refine au ?_
   refine zx ?_
   refine zx ?_
   refine dB ?_
   refine Ci hF (fun JW hF=>?_) (fun JW hF=>?_)
   · refine aD ?_
     cases hF
     replace hF:=QB
     try dsimp only at hF
     cases hF
     exact dF (⟨none,0,0⟩,[]) (.tmp rfl rfl (.tmp rfl rfl .nil)) rfl (.conv .nil (dP (Ro:=(aR aX)) (E:=3)) (.cons .nil) (.sel (.cons .h .nil)))
   refine aD ?_
   refine ai (ji (s:=gJ) (t:=fV) (.tmp rfl rfl) (.tmp rfl rfl)) ?_
   refine au ?_
   refine Ci hF (fun Cy hF=>?_) (fun Cy hF=>?_)
   · refine dB ?_
     refine fF rfl (eD (g:=true) eP.h dX.h bI (vs:=[(zi (IntKind.i64.wrap (il.1+10)))]) rfl rfl rfl (by intro v hv; simp at hv; rcases hv with rfl<;>rfl)) (fun k27=>?_)
     refine fK (.cons .h .nil) (eH (Ro:=(aR aX)) (E:=3) (F:=([]++[])) (xs:=([(IntKind.i64.wrap (il.1+10))]:List Int)) (dM (fq (fun _=>rfl)) eG bU) rfl rfl) ?_
     refine bnd hF fun z28 hx29 hF=>cB (.cons .q2 (.cons .h .nil)) (iP (Ro:=(aR aX)) eP.h mh dX.h rfl rfl rfl (.tmp rfl rfl) (.tmp rfl rfl) hx29 iQ) (fun p30=>?_)
     refine aG ?_
     cases hF
     exact⟨_,p30.1,p30.2,_,rfl,aK,aJ⟩
   refine aB ?_
   refine fF rfl (eD (g:=true) eP.h dX.h bI (vs:=[(zi il.1)]) rfl rfl rfl (by intro v hv; simp at hv; rcases hv with rfl<;>rfl)) (fun Ku=>?_)
   refine fK (.cons .h .nil) (eH (Ro:=(aR aX)) (E:=3) (F:=([]++[])) (xs:=([il.1]:List Int)) (dM (fq (fun _=>rfl)) eG bU) rfl rfl) ?_
   refine bnd hF fun z32 rY hF=>cB (.cons .q2 (.cons .h .nil)) (iP (Ro:=(aR aX)) eP.h mh dX.h rfl rfl rfl (.tmp rfl rfl) (.tmp rfl rfl) rY iQ) (fun p34=>?_)
   refine aG ?_
   cases hF
   exact⟨_,p34.1,p34.2,_,rfl,aK,aJ⟩
 rintro _ _ ⟨c37,v38,KW,Kn,rfl,rfl,hE⟩
 replace hF:=QB
 try dsimp only at hF
 refine bn hE ?_
 refine aB ?_
 rw[wk k8]
 exact⟨_,cO _,_,k8+1,dh,_,v38,KW,rfl,aK,sD,aJ,hF⟩
def zt(aa:List (List UInt8))(gu:List UInt8):Option (Bool):=
 (qp aa gu).bind fun r1=>
 some (decide ((0:Int)<=r1))
theorem RI{aa:List (List UInt8)}{ae:Sv}{gu:List UInt8}{R:Bool}(hF:zt aa gu=some R):
   Fw.Spec Tryz.prog 202 [ae.v,(sv gu)] [jd ae aa] (fun _:Unit=>(.bool R)) (fun _=>[]):=by
 refine Se 9 Tryz.func202 [.tmp 4] ?_
 intro H0 F0
 unfold zt at hF
 refine bB ?_
 refine bnd hF fun r1 hx2 hF=>az (Lb hx2) (fun _=>?_)
 exact ze hF
def Gv(dC:List Int):Option (List Int):=
 some (dC.mergeSort fun x y=>decide (x<=y))
theorem RS{dC:List Int}{ae:Sv}{sj:List Nat}{R:List Int}(hF:Gv dC=some R):
   Fw.Spec Tryz.prog 275 [ae.v] [bT sj ae dC] (fun _:List Nat=>(.tuple [].toArray)) (fun p=>[bT p ae R]):=by
 cases hF
 exact UU dX.h (Go.Proofs.Any.slices_Sort_int_none OA) (Go.Proofs.Any.slices_Sort_int OA)
def Gu(dC:List Int):Option (List Int):=
 some (Lib.compact dC)
theorem RO{dC:List Int}{ae:Sv}{sj:List Nat}{R:List Int}(hF:Gu dC=some R):
   Fw.Spec Tryz.prog 276 [ae.v] [bT sj ae dC] (fun p:Sv×List Nat=>p.1.v) (fun p=>[bT p.2 p.1 R]):=by
 cases hF
 exact TK dX.h UD rfl (Go.Proofs.Any.slices_Compact_int_empty NV) (Go.Proofs.Any.slices_Compact_int NV)
def yu(dJ:Int):Option (Bool):=
 (gX dJ 10 17).bind fun r1=>
 some r1
theorem G9{dJ:Int}{R:Bool}(hF:yu dJ=some R):
   Fw.Spec Tryz.prog 246 [(zi dJ)] [] (fun _:Unit=>(.bool R)) (fun _=>[]):=by
 refine Se 5 Tryz.func246 [.tmp 2] ?_
 intro H0 F0
 unfold yu at hF
 refine aD ?_
 refine bnd hF fun r1 hx2 hF=>az (je hx2) (fun _=>?_)
 exact ze hF
def tF:List Int->Nat->(List Int)->Option ((List Int))
 |[],iC,vv=>some vv
 |jA::jE,iC,vv=>((yu jA).bind fun ni=>
     if ni then (
       (app vv ([jA]:List Int)).bind fun z52=>
       some z52)
     else (
       some vv)).bind fun xk=>
   match xk with
   |Dk=>tF jE (iC+1) Dk
def tH:List aW->Nat->(List Int)->Option ((List Int))
 |[],k8,c2=>(Gv c2).bind fun fw=>
   (Gu fw).bind fun gU=>
   some gU
 |fV::dh,k8,c2=>(tF fV.Terms 0 c2).bind fun Gp=>
   match Gp with
   |Dn=>tH dh (k8+1) Dn
def DJ(lg:List aW):Option ((List Int)):=
 tH lg 0 ([]:List Int)
theorem R5{lg:List aW}{ae:Sv}{R:(List Int)}(hF:DJ lg=some R):
   Fw.Spec Tryz.prog 245 [ae.v,(.func (.func 246) [].toArray [].toArray)] [gq ae lg] (fun p:Sv×List Nat=>p.1.v) (fun p=>[bT p.2 p.1 R]):=by
 refine Se 37 Tryz.func245 [.tmp 4] ?_
 intro H0 F0
 unfold DJ at hF
 refine aB ?_
 refine fF rfl (eD (g:=true) eP.h dX.h .nil (vs:=[]) rfl rfl rfl (by simp)) (fun k1=>?_)
 refine fK (.cons .h .nil) (eH (Ro:=(aR aX)) (E:=3) (F:=[]) (xs:=([]:List Int)) eG rfl rfl) ?_
 refine dB ?_
 refine bH (bX (m:=lg.length) (fun m6 f' cs'=>∃(g:Fr)(k8:Nat)(dh:List aW)(c2:List Int)(v3:Sv)(F4:List Nat),m6=dh.length/\f'=aH g [(1,(.func (.func 246) [].toArray [].toArray)),(5,v3.v),(11,ae.v),(12,(zi (lg.length:Int))),(13,(zi (k8:Int)))]/\List.drop k8 lg=dh/\aF cs' [bT F4 v3 c2,gq ae lg]/\tH dh k8 c2=some R) ⟨_,0,_,_,⟨(some ⟨k1,0,none⟩),0,1⟩,(k1::[]),rfl,aK,rfl,aJ,hF⟩ ?_)
 rintro m6 _ _ ⟨g7,k8,dh,c2,v3,F4,rfl,rfl,jv,hE,hF⟩
 refine Kb hE lg (fun EP=>?_)
 rcases dh with _|⟨fV,dh⟩
 · have sw:=dn jv
   rw[tH]at hF
   refine aB ?_
   refine dL ?_
   refine bB ?_
   refine bnd hF fun fw jH hF=>dI (RS jH) (fun p19=>?_)
   refine ax ?_
   refine bnd hF fun gU lw hF=>dI (RO lw) (fun qi=>?_)
   refine ax ?_
   cases hF
   exact Er (qi.1,qi.2)
 obtain⟨sw,eB,sD⟩:=dE jv
 rw[tH]at hF
 refine aB ?_
 refine dK ?_
 refine au ?_
 obtain⟨Gp,Za,abj⟩:=bind_some hF
 refine ll (fun f' cs'=>∃(Dn:List Int)(v62:Sv)(KX:List Nat)(g:Fr),Dn=Gp/\f'=aH g [(1,(.func (.func 246) [].toArray [].toArray)),(5,v62.v),(11,ae.v),(12,(zi (lg.length:Int))),(13,(zi (k8:Int)))]/\aF cs' [bT KX v62 Dn,gq ae lg]) ?_ ?_
 · replace hF:=Za
   refine bH (eF (pE (a:=fV) rV.h mW.h.sz (.tmp rfl rfl) (.tmp rfl rfl) (.t .h) (Int.natCast_nonneg k8) eB (fun k25 j26=>?_)))
   refine yM (vT fV) xW (fun p27=>?_)
   refine fe (fun k28=>?_)
   refine As (zg [(zi fV.Rel),p27.v]) ?_
   refine bZ ?_
   refine bH (bX (m:=fV.Terms.length) (fun Da f' cs'=>∃(g:Fr)(iC:Nat)(jE vv:List Int)(v30:Sv)(Gq:List Nat),Da=jE.length/\f'=aH g [(1,(.func (.func 246) [].toArray [].toArray)),(5,v30.v),(11,ae.v),(12,(zi (lg.length:Int))),(13,(zi (k8:Int))),(18,p27.v),(19,(zi (fV.Terms.length:Int))),(20,(zi (iC:Int)))]/\List.drop iC fV.Terms=jE/\aF cs' [bT Gq v30 vv,gq ae lg,aC p27 fV.Terms]/\tF jE iC vv=some Gp) ⟨_,0,_,_,v3,F4,rfl,aK,rfl,aJ,hF⟩ ?_)
   rintro Da _ _ ⟨g34,iC,jE,vv,v30,Gq,rfl,rfl,hd38,hE,hF⟩
   refine Kb hE fV.Terms (fun Yu=>?_)
   rcases jE with _|⟨jA,jE⟩
   · have JC:=dn hd38
     rw[tF]at hF
     refine aB ?_
     refine dL ?_
     refine aB ?_
     cases hF
     exact⟨_,v30,Gq,_,rfl,aK,aJ⟩
   obtain⟨JC,lu,JD⟩:=dE hd38
   rw[tF]at hF
   refine aB ?_
   refine dK ?_
   refine au ?_
   obtain⟨xk,Io,Fz⟩:=bind_some hF
   refine ll (fun f' cs'=>∃(Dk:List Int)(v57:Sv)(KY:List Nat)(g:Fr),Dk=xk/\f'=aH g [(1,(.func (.func 246) [].toArray [].toArray)),(5,v57.v),(11,ae.v),(12,(zi (lg.length:Int))),(13,(zi (k8:Int))),(18,p27.v),(19,(zi (fV.Terms.length:Int))),(20,(zi (iC:Int)))]/\aF cs' [bT KY v57 Dk,gq ae lg,aC p27 fV.Terms]) ?_ ?_
   · replace hF:=Io
     refine bH (eF (pE (a:=jA) eP.h dX.h.sz (.tmp rfl rfl) (.tmp rfl rfl) .q2 (Int.natCast_nonneg iC) lu (fun qd Gc=>?_)))
     refine Al dw ?_
     refine aD ?_
     refine bnd hF fun ni lS hF=>mU .nil (uB XJ.h (.tmp rfl rfl) bI (G9 lS)) (fun _=>?_)
     refine au ?_
     refine Ci hF (fun Jz hF=>?_) (fun Jz hF=>?_)
     · refine ax ?_
       refine fF rfl (eD (g:=true) eP.h dX.h bI (vs:=[(zi jA)]) rfl rfl rfl (by intro v hv; simp at hv; rcases hv with rfl<;>rfl)) (fun k51=>?_)
       refine fK (.cons .h .nil) (eH (Ro:=(aR aX)) (E:=3) (F:=([]++[])) (xs:=([jA]:List Int)) (dM (fq (fun _=>rfl)) eG bU) rfl rfl) ?_
       refine bnd hF fun z52 su hF=>cB (.cons .q2 (.cons .h .nil)) (iP (Ro:=(aR aX)) eP.h mh dX.h rfl rfl rfl (.tmp rfl rfl) (.tmp rfl rfl) su iQ) (fun p54=>?_)
       refine aG ?_
       cases hF
       exact⟨_,p54.1,p54.2,_,rfl,aK,aJ⟩
     refine au ?_
     cases hF
     exact⟨_,v30,Gq,_,rfl,aK,aJ⟩
   rintro _ _ ⟨Dk,v57,KY,g60,rfl,rfl,hE⟩
   replace hF:=Fz
   try dsimp only at hF
   refine bn hE ?_
   refine aB ?_
   rw[wk iC]
   exact⟨_,cO _,_,iC+1,jE,_,v57,KY,rfl,aK,JD,aJ,hF⟩
 rintro _ _ ⟨Dn,v62,KX,QV,rfl,rfl,hE⟩
 replace hF:=abj
 try dsimp only at hF
 refine bn hE ?_
 refine aB ?_
 rw[wk k8]
 exact⟨_,cO _,_,k8+1,dh,_,v62,KX,rfl,aK,sD,aJ,hF⟩
def AA(aI:bG):Option ((List Int)):=
 (DJ aI.Atoms).bind fun r2=>
 some r2
theorem Uk{aI:bG}{ae bA:Sv}{R:(List Int)}(hF:AA aI=some R):
   Fw.Spec Tryz.prog 207 [(zg [ae.v,bA.v])] [aC ae aI.Head,gq bA aI.Atoms] (fun p:Sv×List Nat=>p.1.v) (fun p=>[bT p.2 p.1 R]):=by
 refine Se 6 Tryz.func207 [.tmp 2] ?_
 intro H0 F0
 unfold AA at hF
 refine au ?_
 refine fC (fun k1=>?_)
 refine aD ?_
 refine bnd hF fun r2 hx3 hF=>dI (R5 hx3) (fun p4=>?_)
 refine ax ?_
 cases hF
 exact Er (p4.1,p4.2)
def xy(gu:Int):List Int->Nat->Option (Int)
 |[],k4=>some (-1)
 |x6::aM,k4=>if ((gu:Int)==x6)then (
     some (k4:Int))
   else (
     xy gu aM (k4+1))
def zz(aa:List Int)(gu:Int):Option (Int):=
 xy gu aa 0
theorem RP{aa:List Int}{ae:Sv}{gu R:Int}(hF:zz aa gu=some R):
   Fw.Spec Tryz.prog 247 [ae.v,(zi gu)] [aC ae aa] (fun _:Unit=>(zi R)) (fun _=>[]):=by
 refine Se 19 Tryz.func247 [.tmp 4] ?_
 intro H0 F0
 unfold zz at hF
 refine f_ ?_
 refine bH (bX (m:=aa.length) (fun m2 f' cs'=>∃(g:Fr)(k4:Nat)(aM:List Int),m2=aM.length/\f'=aH g [(0,ae.v),(1,(zi gu)),(7,(zi (aa.length:Int))),(8,(zi (k4:Int)))]/\List.drop k4 aa=aM/\aF cs' [aC ae aa]/\xy gu aM k4=some R) ⟨_,0,_,rfl,aK,rfl,aJ,hF⟩ ?_)
 rintro m2 _ _ ⟨g3,k4,aM,rfl,rfl,hd7,hE,hF⟩
 refine Kb hE aa (fun mQ=>?_)
 rcases aM with _|⟨x6,aM⟩
 · have gZ:=dn hd7
   rw[xy]at hF
   refine aB ?_
   refine dL ?_
   exact ze hF
 obtain⟨gZ,bO,iA⟩:=dE hd7
 rw[xy]at hF
 refine aB ?_
 refine dK ?_
 refine j6 ?_
 refine Ai bO (fun k13 oI=>?_)
 refine Al dw ?_
 refine aG ?_
 refine Ci hF (fun wO hF=>?_) (fun wO hF=>?_)
 · exact ze hF
 refine aD ?_
 rw[wk k4]
 exact⟨_,cO _,_,k4+1,aM,rfl,aK,iA,aJ,hF⟩
def zy(aa:List Int)(gu:Int):Option (Bool):=
 (zz aa gu).bind fun r1=>
 some (decide ((0:Int)<=r1))
theorem RN{aa:List Int}{ae:Sv}{gu:Int}{R:Bool}(hF:zy aa gu=some R):
   Fw.Spec Tryz.prog 209 [ae.v,(zi gu)] [aC ae aa] (fun _:Unit=>(.bool R)) (fun _=>[]):=by
 refine Se 9 Tryz.func209 [.tmp 4] ?_
 intro H0 F0
 unfold zy at hF
 refine bB ?_
 refine bnd hF fun r1 hx2 hF=>az (RP hx2) (fun _=>?_)
 exact ze hF
def vO(dJ:Int)(bD:List Int):Option (Bool):=
 (zy bD dJ).bind fun r1=>
 some (!r1)
theorem Tm{dJ:Int}{dO:Nat}{bD:List Int}{ja:Sv}{R:Bool}(hF:vO dJ bD=some R):
   Fw.Spec Tryz.prog 208 [(zi dJ),(pz dO)] [cz dO 22 ja.v,aC ja bD] (fun _:Unit=>(.bool R)) (fun _=>[]):=by
 refine Se 8 Tryz.func208 [.tmp 3] ?_
 intro H0 F0
 unfold vO at hF
 refine bB ?_
 refine bnd hF fun r1 hx2 hF=>az (RN hx2) (fun _=>?_)
 exact ze hF
def vw(bD:List Int):List Int->Nat->Option (Int)
 |[],k4=>some (-1)
 |x6::aM,k4=>(vO x6 bD).bind fun dY=>
   if dY then (
     some (k4:Int))
   else (
     vw bD aM (k4+1))
def zn(aa:List Int)(bD:List Int):Option (Int):=
 vw bD aa 0
theorem RD{aa:List Int}{ae:Sv}{dO:Nat}{bD:List Int}{ja:Sv}{R:Int}(hF:zn aa bD=some R):
   Fw.Spec Tryz.prog 228 [ae.v,(.func (.func 208) [].toArray [(pz dO)].toArray)] [aC ae aa,cz dO 22 ja.v,aC ja bD] (fun _:Unit=>(zi R)) (fun _=>[]):=by
 refine Se 19 Tryz.func228 [.tmp 4] ?_
 intro H0 F0
 unfold zn at hF
 refine f_ ?_
 refine bH (bX (m:=aa.length) (fun m2 f' cs'=>∃(g:Fr)(k4:Nat)(aM:List Int),m2=aM.length/\f'=aH g [(0,ae.v),(1,(.func (.func 208) [].toArray [(pz dO)].toArray)),(7,(zi (aa.length:Int))),(8,(zi (k4:Int)))]/\List.drop k4 aa=aM/\aF cs' [aC ae aa,cz dO 22 ja.v,aC ja bD]/\vw bD aM k4=some R) ⟨_,0,_,rfl,aK,rfl,aJ,hF⟩ ?_)
 rintro m2 _ _ ⟨g3,k4,aM,rfl,rfl,hd7,hE,hF⟩
 refine Kb hE aa (fun mQ=>?_)
 rcases aM with _|⟨x6,aM⟩
 · have gZ:=dn hd7
   rw[vw]at hF
   refine aB ?_
   refine dL ?_
   exact ze hF
 obtain⟨gZ,bO,iA⟩:=dE hd7
 rw[vw]at hF
 refine aB ?_
 refine dK ?_
 refine j6 ?_
 refine Ai bO (fun k13 oI=>?_)
 refine Al dw ?_
 refine bnd hF fun dY hx16 hF=>mU (.rd .q2 rfl (.rd .q3 rfl .nil)) (uB XK.h (.tmp rfl rfl) bI (Tm hx16)) (fun _=>?_)
 refine au ?_
 refine Ci hF (fun oz hF=>?_) (fun oz hF=>?_)
 · exact ze hF
 refine aD ?_
 rw[wk k4]
 exact⟨_,cO _,_,k4+1,aM,rfl,aK,iA,aJ,hF⟩
def vz(aa:List Int)(bD:List Int):Option (Bool):=
 (zn aa bD).bind fun r1=>
 some (decide ((0:Int)<=r1))
theorem Ry{aa:List Int}{ae:Sv}{dO:Nat}{bD:List Int}{ja:Sv}{R:Bool}(hF:vz aa bD=some R):
   Fw.Spec Tryz.prog 164 [ae.v,(.func (.func 208) [].toArray [(pz dO)].toArray)] [aC ae aa,cz dO 22 ja.v,aC ja bD] (fun _:Unit=>(.bool R)) (fun _=>[]):=by
 refine Se 9 Tryz.func164 [.tmp 4] ?_
 intro H0 F0
 unfold vz at hF
 refine bB ?_
 refine bnd hF fun r1 hx2 hF=>az (RD hx2) (fun _=>?_)
 exact ze hF
def vU(aI:bG):Option (Bool):=
 (AA aI).bind fun r2=>
 (bif (decide (((aI.Head.length:Int):Int)<=3))then ((vz aI.Head r2).bind fun iD=>
     some (!iD))
   else (some false)).bind fun o8=>
 match o8 with
 |c14=>some c14
theorem MO{aI:bG}{ae bA:Sv}{R:Bool}(hF:vU aI=some R):
   Fw.Spec Tryz.prog 146 [(zg [ae.v,bA.v])] [aC ae aI.Head,gq bA aI.Atoms] (fun _:Unit=>(.bool R)) (fun _=>[]):=by
 refine Se 17 Tryz.func146 [.tmp 2] ?_
 intro H0 F0
 unfold vU at hF
 refine au ?_
 refine fC (fun k1=>?_)
 refine aB ?_
 refine bnd hF fun r2 hx3 hF=>dI (Uk hx3) (fun p4=>?_)
 refine fe (fun k5=>?_)
 refine As p4.1.v ?_
 refine au ?_
 refine nU .h VD ?_
 refine nU (.t .h) df ?_
 obtain⟨o8,JX,KZ⟩:=bind_some hF
 refine au ?_
 refine bW (fun f' cs'=>∃(c14:Bool)(g:Fr),c14=o8/\f'=aH g [(2,(.bool c14))]/\aF cs' []) ?_ ?_
 · replace hF:=JX
   refine aD ?_
   rcases bf (decide (((aI.Head.length:Int):Int)<=3))with ku|ku
   · rw[ku]
     try rw[ku]at hF; dsimp only[ak,aj]at hF
     refine aD ?_
     refine ai (mI (fn:=.func 208) (vs:=[]) (us:=[(pz k5)]) .nil bI) ?_
     refine au ?_
     refine bnd hF fun iD jQ hF=>az (Ry jQ) (fun _=>?_)
     exact aO hF
   rw[ku]
   try rw[ku]at hF; dsimp only[ak,aj]at hF
   exact aO hF
 rintro _ _ ⟨c14,g15,rfl,rfl,hE⟩
 replace hF:=KZ
 try dsimp only at hF
 refine bn hE ?_
 exact ze hF
def Ae(dJ:Int):Option ((List UInt8)):=
 (yu dJ).bind fun r1=>
 if r1 then (
   (iO (IntKind.i64.wrap (dJ-10))).bind fun r4=>
   (aP [120] r4).bind fun x7=>
   some x7)
 else (
   (iO dJ).bind fun iD=>
   some iD)
theorem Tz{dJ:Int}{R:(List UInt8)}(hF:Ae dJ=some R):
   Fw.Spec Tryz.prog 242 [(zi dJ)] [] (fun _:Unit=>(sv R)) (fun _=>[]):=by
 refine Se 11 Tryz.func242 [.tmp 2] ?_
 intro H0 F0
 unfold Ae at hF
 refine bB ?_
 refine bnd hF fun r1 hx2 hF=>az (G9 hx2) (fun _=>?_)
 refine au ?_
 refine Ci hF (fun Cq hF=>?_) (fun Cq hF=>?_)
 · refine ax ?_
   refine bnd hF fun r4 hx5 hF=>az (kH hx5) (fun _=>?_)
   refine bnd hF fun x7 ik hF=>?_
   obtain⟨Qj,Q4⟩:=bq ik
   refine ai (bu (s:=[120]) (t:=r4) (u:=x7) (.sv _) (.tmp rfl rfl) ik) ?_
   exact ze hF
 refine ax ?_
 refine bnd hF fun iD jQ hF=>az (kH jQ) (fun _=>?_)
 exact ze hF
def tZ:List Int->Nat->(List (List UInt8))->Option ((List UInt8))
 |[],k8,c2=>(qz c2 [44]).bind fun fw=>
   some fw
 |fV::dh,k8,c2=>(Ae fV).bind fun gV=>
   (app c2 ([gV]:List (List UInt8))).bind fun z26=>
   tZ dh (k8+1) z26
def z_(a_:List Int):Option ((List UInt8)):=
 tZ a_ 0 ([]:List (List UInt8))
theorem Mc{a_:List Int}{ae:Sv}{R:(List UInt8)}(hF:z_ a_=some R):
   Fw.Spec Tryz.prog 203 [ae.v] [aC ae a_] (fun _:Unit=>(sv R)) (fun _=>[]):=by
 refine Se 21 Tryz.func203 [.tmp 2] ?_
 intro H0 F0
 unfold z_ at hF
 refine aB ?_
 refine fF rfl (eD (g:=true) gD.h gY.h .nil (vs:=[]) rfl rfl rfl (by simp)) (fun k1=>?_)
 refine fK (.cons .h .nil) (eH (Ro:=(aR rdStr)) (E:=9) (F:=[]) (xs:=([]:List (List UInt8))) eG rfl rfl) ?_
 refine dB ?_
 refine bH (bX (m:=a_.length) (fun m6 f' cs'=>∃(g:Fr)(k8:Nat)(dh:List Int)(c2:List (List UInt8))(v3:Sv)(F4:List Nat),m6=dh.length/\f'=aH g [(3,v3.v),(7,ae.v),(8,(zi (a_.length:Int))),(9,(zi (k8:Int)))]/\List.drop k8 a_=dh/\aF cs' [sJ F4 v3 c2,aC ae a_]/\tZ dh k8 c2=some R) ⟨_,0,_,_,⟨(some ⟨k1,0,none⟩),0,1⟩,(k1::[]),rfl,aK,rfl,aJ,hF⟩ ?_)
 rintro m6 _ _ ⟨g7,k8,dh,c2,v3,F4,rfl,rfl,jv,hE,hF⟩
 refine Kb hE a_ (fun EP=>?_)
 rcases dh with _|⟨fV,dh⟩
 · have sw:=dn jv
   rw[tZ]at hF
   refine aB ?_
   refine dL ?_
   refine bB ?_
   refine bnd hF fun fw jH hF=>cB (.cons .h .nil) (gP df (fun _=>.nil) (bY EK.h (.cons (.tmp rfl rfl) (.cons (.sv _) .nil)) (DI jH))) (fun _=>?_)
   exact ze hF
 obtain⟨sw,eB,sD⟩:=dE jv
 rw[tZ]at hF
 refine aB ?_
 refine dK ?_
 refine ax ?_
 refine Ai eB (fun k20 F8=>?_)
 refine Al dw ?_
 refine aD ?_
 refine bnd hF fun gV jq hF=>az (Tz jq) (fun _=>?_)
 refine fF rfl (eD (g:=true) gD.h gY.h bI (vs:=[(sv gV)]) rfl rfl rfl (by intro v hv; simp at hv; rcases hv with rfl<;>rfl)) (fun k25=>?_)
 refine fK (.cons .h .nil) (eH (Ro:=(aR rdStr)) (E:=9) (F:=([]++[])) (xs:=([gV]:List (List UInt8))) (dM (fq (fun _=>rfl)) eG bU) rfl rfl) ?_
 refine bnd hF fun z26 hx27 hF=>cB (.cons .q2 (.cons .h .nil)) (iP (Ro:=(aR rdStr)) gD.h BA gY.h rfl rfl rfl (.tmp rfl rfl) (.tmp rfl rfl) hx27 iQ) (fun p28=>?_)
 refine bB ?_
 rw[wk k8]
 exact⟨_,cO _,_,k8+1,dh,_,p28.1,p28.2,rfl,aK,sD,aJ,hF⟩
def AB(dJ:Int):Option (Bool):=
 ((Ak dJ).bind fun r3=>
   bif r3 then (some true)
   else ((yu dJ).bind fun r7=>
     some r7)).bind fun o1=>
 match o1 with
 |c10=>some c10
theorem Ul{dJ:Int}{R:Bool}(hF:AB dJ=some R):
   Fw.Spec Tryz.prog 244 [(zi dJ)] [] (fun _:Unit=>(.bool R)) (fun _=>[]):=by
 refine Se 9 Tryz.func244 [.tmp 2] ?_
 intro H0 F0
 unfold AB at hF
 refine ax ?_
 obtain⟨o1,kg,hO2⟩:=bind_some hF
 refine au ?_
 refine bW (fun f' cs'=>∃(c10:Bool)(g:Fr),c10=o1/\f'=aH g [(2,(.bool c10))]/\aF cs' []) ?_ ?_
 · replace hF:=kg
   refine au ?_
   refine bnd hF fun r3 hx4 hF=>az (MN hx4) (fun _=>?_)
   refine au ?_
   rcases bf r3 with gK|gK
   · rw[gK]
     try rw[gK]at hF; dsimp only[ak,aj]at hF
     exact aO hF
   rw[gK]
   try rw[gK]at hF; dsimp only[ak,aj]at hF
   refine ax ?_
   refine bnd hF fun r7 ik hF=>az (G9 ik) (fun _=>?_)
   exact aO hF
 rintro _ _ ⟨c10,g11,rfl,rfl,hE⟩
 replace hF:=hO2
 try dsimp only at hF
 refine bn hE ?_
 exact ze hF
def zU(dJ:Int):Option (Bool):=
 (AB dJ).bind fun r1=>
 some (!r1)
theorem SE{dJ:Int}{R:Bool}(hF:zU dJ=some R):
   Fw.Spec Tryz.prog 243 [(zi dJ)] [] (fun _:Unit=>(.bool R)) (fun _=>[]):=by
 refine Se 6 Tryz.func243 [.tmp 2] ?_
 intro H0 F0
 unfold zU at hF
 refine aD ?_
 refine bnd hF fun r1 hx2 hF=>az (Ul hx2) (fun _=>?_)
 exact ze hF
def xx:List Int->Nat->Option (Int)
 |[],k4=>some (-1)
 |x6::aM,k4=>(zU x6).bind fun dY=>
   if dY then (
     some (k4:Int))
   else (
     xx aM (k4+1))
def Dz(aa:List Int):Option (Int):=
 xx aa 0
theorem RB{aa:List Int}{ae:Sv}{R:Int}(hF:Dz aa=some R):
   Fw.Spec Tryz.prog 228 [ae.v,(.func (.func 243) [].toArray [].toArray)] [aC ae aa] (fun _:Unit=>(zi R)) (fun _=>[]):=by
 refine Se 19 Tryz.func228 [.tmp 4] ?_
 intro H0 F0
 unfold Dz at hF
 refine f_ ?_
 refine bH (bX (m:=aa.length) (fun m2 f' cs'=>∃(g:Fr)(k4:Nat)(aM:List Int),m2=aM.length/\f'=aH g [(0,ae.v),(1,(.func (.func 243) [].toArray [].toArray)),(7,(zi (aa.length:Int))),(8,(zi (k4:Int)))]/\List.drop k4 aa=aM/\aF cs' [aC ae aa]/\xx aM k4=some R) ⟨_,0,_,rfl,aK,rfl,aJ,hF⟩ ?_)
 rintro m2 _ _ ⟨g3,k4,aM,rfl,rfl,hd7,hE,hF⟩
 refine Kb hE aa (fun mQ=>?_)
 rcases aM with _|⟨x6,aM⟩
 · have gZ:=dn hd7
   rw[xx]at hF
   refine aB ?_
   refine dL ?_
   exact ze hF
 obtain⟨gZ,bO,iA⟩:=dE hd7
 rw[xx]at hF
 refine aB ?_
 refine dK ?_
 refine j6 ?_
 refine Ai bO (fun k13 oI=>?_)
 refine Al dw ?_
 refine bnd hF fun dY hx16 hF=>mU .nil (uB XL.h (.tmp rfl rfl) bI (SE hx16)) (fun _=>?_)
 refine au ?_
 refine Ci hF (fun oz hF=>?_) (fun oz hF=>?_)
 · exact ze hF
 refine aD ?_
 rw[wk k4]
 exact⟨_,cO _,_,k4+1,aM,rfl,aK,iA,aJ,hF⟩
def Dv(aa:List Int):Option (Bool):=
 (Dz aa).bind fun r1=>
 some (decide ((0:Int)<=r1))
theorem Rv{aa:List Int}{ae:Sv}{R:Bool}(hF:Dv aa=some R):
   Fw.Spec Tryz.prog 164 [ae.v,(.func (.func 243) [].toArray [].toArray)] [aC ae aa] (fun _:Unit=>(.bool R)) (fun _=>[]):=by
 refine Se 9 Tryz.func164 [.tmp 4] ?_
 intro H0 F0
 unfold Dv at hF
 refine bB ?_
 refine bnd hF fun r1 hx2 hF=>az (RB hx2) (fun _=>?_)
 exact ze hF
def xU(a_:List Int):Option (Bool):=
 (Dv a_).bind fun r1=>
 some (!r1)
theorem MB{a_:List Int}{ae:Sv}{R:Bool}(hF:xU a_=some R):
   Fw.Spec Tryz.prog 206 [ae.v] [aC ae a_] (fun _:Unit=>(.bool R)) (fun _=>[]):=by
 refine Se 6 Tryz.func206 [.tmp 2] ?_
 intro H0 F0
 unfold xU at hF
 refine aD ?_
 refine bnd hF fun r1 hx2 hF=>az (Rv hx2) (fun _=>?_)
 exact ze hF
def zV(bg:aW):Option ((List UInt8)):=
 ((nN bg.Rel).bind fun r4=>
   bif (!r4)then (some true)
   else ((gX (bg.Terms.length:Int) 1 3).bind fun r8=>
     bif (!r8)then (some true)
     else ((xU bg.Terms).bind fun bR=>
       some (!bR)))).bind fun o2=>
 match o2 with
 |c15=>if c15 then (
     some [])
   else (
     (iO bg.Rel).bind fun r16=>
     (aP [114] r16).bind fun kU=>
     (aP kU [40]).bind fun jW=>
     (z_ bg.Terms).bind fun kW=>
     (aP jW kW).bind fun x30=>
     (aP x30 [41]).bind fun x34=>
     some x34)
theorem SF{bg:aW}{bA:Sv}{R:(List UInt8)}(hF:zV bg=some R):
   Fw.Spec Tryz.prog 201 [(zg [(zi bg.Rel),bA.v])] [aC bA bg.Terms] (fun _:Unit=>(sv R)) (fun _=>[]):=by
 refine Se 30 Tryz.func201 [.tmp 2] ?_
 intro H0 F0
 unfold zV at hF
 refine au ?_
 refine fC (fun k1=>?_)
 refine ax ?_
 obtain⟨o2,fH,hO3⟩:=bind_some hF
 refine au ?_
 refine bW (fun f' cs'=>∃(c15:Bool)(g:Fr),c15=o2/\f'=aH g [(1,(pz k1)),(19,(.bool c15))]/\aF cs' [cz k1 83 (zg [(zi bg.Rel),bA.v]),aC bA bg.Terms]) ?_ ?_
 · replace hF:=fH
   refine aG ?_
   refine bnd hF fun r4 hx5 hF=>az (Ad hx5) (fun _=>?_)
   refine aG ?_
   rcases bf (!r4)with aZ|aZ
   · rw[aZ]
     try rw[aZ]at hF; dsimp only[ak,aj]at hF
     exact aO hF
   rw[aZ]
   try rw[aZ]at hF; dsimp only[ak,aj]at hF
   refine bZ ?_
   refine bnd hF fun r8 bO hF=>az (je bO) (fun _=>?_)
   refine aB ?_
   rcases bf (!r8)with bN|bN
   · rw[bN]
     try rw[bN]at hF; dsimp only[ak,aj]at hF
     exact aO hF
   rw[bN]
   try rw[bN]at hF; dsimp only[ak,aj]at hF
   refine aD ?_
   refine bnd hF fun bR eB hF=>az (MB eB) (fun _=>?_)
   exact aO hF
 rintro _ _ ⟨c15,Kt,rfl,rfl,hE⟩
 replace hF:=hO3
 try dsimp only at hF
 refine bn hE ?_
 refine Ci hF (fun mo hF=>?_) (fun mo hF=>?_)
 · exact ze hF
 refine au ?_
 refine gN [0,1,5,6,2,3,4,7,8,9,10] [0,1,3,7,15,0,32,103,255,511,1023] [2,7] mixed (by decide+kernel) ?_
 refine rW ?_
 refine bnd hF fun r16 iJ hF=>di (kH iJ) (fun _=>?_)
 refine bnd hF fun kU iF hF=>?_
 obtain⟨PV,PW⟩:=bq iF
 refine bi rfl .no (fun ha=>bu (s:=[114]) (t:=r16) (u:=kU) (EN ha (.sv _) rfl) (EN ha (.tmp rfl rfl) rfl) iF) ?_
 refine bnd hF fun jW hx24 hF=>?_
 obtain⟨Qz,QA⟩:=bq hx24
 refine bi rfl .no (fun ha=>bu (s:=kU) (t:=[40]) (u:=jW) (EN ha (.tmp rfl rfl) rfl) (EN ha (.sv _) rfl) hx24) ?_
 refine bnd hF fun kW hx28 hF=>di (Mc hx28) (fun _=>?_)
 refine bnd hF fun x30 hx31 hF=>?_
 obtain⟨Qt,hz32⟩:=bq hx31
 refine bi rfl .no (fun ha=>bu (s:=jW) (t:=kW) (u:=x30) (EN ha (.tmp rfl rfl) rfl) (EN ha (.tmp rfl rfl) rfl) hx31) ?_
 refine bnd hF fun x34 kR hF=>?_
 obtain⟨E5,E8⟩:=bq kR
 refine bi rfl .no (fun ha=>bu (s:=x30) (t:=[41]) (u:=x34) (EN ha (.tmp rfl rfl) rfl) (EN ha (.sv _) rfl) kR) ?_
 refine fT ?_
 exact ze hF
def qy(aI:bG):List aW->Nat->(List (List UInt8))->Option ((List UInt8))
 |[],k9,c3=>((gX (c3.length:Int) 1 4).bind fun gU=>
     bif (!gU)then (some true)
     else ((zt c3 []).bind fun il=>
       bif il then (some true)
       else ((vU aI).bind fun ng=>
         some (!ng)))).bind fun nu=>
   match nu with
   |c31=>if c31 then (
       some [])
     else (
       if (decide ((0:Int)<(aI.Head.length:Int)))then (
         (z_ aI.Head).bind fun r32=>
         (aP r32 [32,105,102,32]).bind fun sN=>
         (qz c3 [32,97,110,100,32]).bind fun eT=>
         (aP sN eT).bind fun iB=>
         some iB)
       else (
         (aP [121,101,115] [32,105,102,32]).bind fun lZ=>
         (qz c3 [32,97,110,100,32]).bind fun iH=>
         (aP lZ iH).bind fun qb=>
         some qb))
 |ig::jD,k9,c3=>(zV ig).bind fun Gr=>
   (app c3 ([Gr]:List (List UInt8))).bind fun z68=>
   qy aI jD (k9+1) z68
def zM(aI:bG):Option ((List UInt8)):=
 qy aI aI.Atoms 0 ([]:List (List UInt8))
theorem LM{aI:bG}{ae bA:Sv}{R:(List UInt8)}(hF:zM aI=some R):
   Fw.Spec Tryz.prog 141 [(zg [ae.v,bA.v])] [aC ae aI.Head,gq bA aI.Atoms] (fun _:Unit=>(sv R)) (fun _=>[]):=by
 refine Se 46 Tryz.func141 [.tmp 2] ?_
 intro H0 F0
 unfold zM at hF
 refine au ?_
 refine fC (fun k1=>?_)
 refine ax ?_
 refine fF rfl (eD (g:=true) gD.h gY.h .nil (vs:=[]) rfl rfl rfl (by simp)) (fun k2=>?_)
 refine fK (.cons .h .nil) (eH (Ro:=(aR rdStr)) (E:=9) (F:=[]) (xs:=([]:List (List UInt8))) eG rfl rfl) ?_
 refine f_ ?_
 refine bH (bX (m:=aI.Atoms.length) (fun m7 f' cs'=>∃(g:Fr)(k9:Nat)(jD:List aW)(c3:List (List UInt8))(v4:Sv)(F5:List Nat),m7=jD.length/\f'=aH g [(1,(pz k1)),(3,v4.v),(9,bA.v),(10,(zi (aI.Atoms.length:Int))),(11,(zi (k9:Int)))]/\List.drop k9 aI.Atoms=jD/\aF cs' [cz k1 59 (zg [ae.v,bA.v]),aC ae aI.Head,gq bA aI.Atoms,sJ F5 v4 c3]/\qy aI jD k9 c3=some R) ⟨_,0,_,_,⟨(some ⟨k2,0,none⟩),0,1⟩,(k2::[]),rfl,aK,rfl,aJ,hF⟩ ?_)
 rintro m7 _ _ ⟨g8,k9,jD,c3,v4,F5,rfl,rfl,Ck,hE,hF⟩
 refine Kb hE aI.Atoms (fun Yo=>?_)
 rcases jD with _|⟨ig,jD⟩
 · have Jv:=dn Ck
   rw[qy]at hF
   refine aB ?_
   refine dL ?_
   refine aD ?_
   obtain⟨nu,Bj,Cj⟩:=bind_some hF
   refine au ?_
   refine bW (fun f' cs'=>∃(c31:Bool)(g:Fr),c31=nu/\f'=aH g [(1,(pz k1)),(3,v4.v),(33,(.bool c31))]/\aF cs' [cz k1 59 (zg [ae.v,bA.v]),aC ae aI.Head,gq bA aI.Atoms,sJ F5 v4 c3]) ?_ ?_
   · replace hF:=Bj
     refine aG ?_
     refine bnd hF fun gU lw hF=>az (je lw) (fun _=>?_)
     refine aG ?_
     rcases bf (!gU)with oF|oF
     · rw[oF]
       try rw[oF]at hF; dsimp only[ak,aj]at hF
       exact aO hF
     rw[oF]
     try rw[oF]at hF; dsimp only[ak,aj]at hF
     refine ax ?_
     refine bnd hF fun il hx25 hF=>cB (.cons .q3 .nil) (gP df (fun _=>.nil) (bY XI.h (.cons (.tmp rfl rfl) (.cons (.sv _) .nil)) (RI hx25))) (fun _=>?_)
     refine aG ?_
     rcases bf il with CJ|CJ
     · rw[CJ]
       try rw[CJ]at hF; dsimp only[ak,aj]at hF
       exact aO hF
     rw[CJ]
     try rw[CJ]at hF; dsimp only[ak,aj]at hF
     refine ax ?_
     refine bnd hF fun ng hx29 hF=>az (MO hx29) (fun _=>?_)
     exact aO hF
   rintro _ _ ⟨c31,g59,rfl,rfl,hE⟩
   replace hF:=Cj
   try dsimp only at hF
   refine bn hE ?_
   refine Ci hF (fun abk hF=>?_) (fun abk hF=>?_)
   · exact ze hF
   refine Bc ?_
   refine Ci hF (fun Jt hF=>?_) (fun Jt hF=>?_)
   · refine ax ?_
     refine bnd hF fun r32 rY hF=>az (Mc rY) (fun _=>?_)
     refine aB ?_
     refine bnd hF fun sN lC hF=>?_
     obtain⟨aav,aaw⟩:=bq lC
     refine ai (bu (s:=r32) (t:=[32,105,102,32]) (u:=sN) (.tmp rfl rfl) (.sv _) lC) ?_
     refine au ?_
     refine bnd hF fun eT lu hF=>cB (.cons .q3 .nil) (gP df (fun _=>.nil) (bY EK.h (.cons (.tmp rfl rfl) (.cons (.sv _) .nil)) (DI lu))) (fun _=>?_)
     refine bnd hF fun iB iG hF=>?_
     obtain⟨Fe,Ff⟩:=bq iG
     refine ai (bu (s:=sN) (t:=eT) (u:=iB) (.tmp rfl rfl) (.tmp rfl rfl) iG) ?_
     exact ze hF
   refine ax ?_
   refine bnd hF fun lZ kQ hF=>?_
   obtain⟨P7,P8⟩:=bq kQ
   refine ai (bu (s:=[121,101,115]) (t:=[32,105,102,32]) (u:=lZ) (.tmp rfl rfl) (.sv _) kQ) ?_
   refine au ?_
   refine bnd hF fun iH mY hF=>cB (.cons .q3 .nil) (gP df (fun _=>.nil) (bY EK.h (.cons (.tmp rfl rfl) (.cons (.sv _) .nil)) (DI mY))) (fun _=>?_)
   refine bnd hF fun qb BX hF=>?_
   obtain⟨aax,aay⟩:=bq BX
   refine ai (bu (s:=lZ) (t:=iH) (u:=qb) (.tmp rfl rfl) (.tmp rfl rfl) BX) ?_
   exact ze hF
 obtain⟨Jv,jG,Jw⟩:=dE Ck
 rw[qy]at hF
 refine aB ?_
 refine dK ?_
 refine ax ?_
 refine Ai jG (fun k60 j61=>?_)
 refine yM (vT ig) xW (fun p62=>?_)
 refine fe (fun k63=>?_)
 refine As (zg [(zi ig.Rel),p62.v]) ?_
 refine aB ?_
 refine bnd hF fun Gr abl hF=>az (SF abl) (fun _=>?_)
 refine fF rfl (eD (g:=true) gD.h gY.h bI (vs:=[(sv Gr)]) rfl rfl rfl (by intro v hv; simp at hv; rcases hv with rfl<;>rfl)) (fun k67=>?_)
 refine fK (.cons .h .nil) (eH (Ro:=(aR rdStr)) (E:=9) (F:=([]++[])) (xs:=([Gr]:List (List UInt8))) (dM (fq (fun _=>rfl)) eG bU) rfl rfl) ?_
 refine bnd hF fun z68 yT hF=>cB (.cons .q7 (.cons .h .nil)) (iP (Ro:=(aR rdStr)) gD.h BA gY.h rfl rfl rfl (.tmp rfl rfl) (.tmp rfl rfl) yT iQ) (fun p70=>?_)
 refine bB ?_
 rw[wk k9]
 exact⟨_,cO _,_,k9+1,jD,_,p70.1,p70.2,rfl,aK,Jw,aJ,hF⟩
def ut(aN:List UInt8):Option (aW×Bool):=
 (uq [114] aN).bind fun r2=>
 (uj r2.2.1).bind fun r5=>
 (bif r2.2.2 then (some r5.2)
   else (some false)).bind fun o8=>
 match o8 with
 |c11=>some ((⟨r2.1,r5.1⟩:aW),c11)
theorem MC{aN:List UInt8}{R:aW×Bool}(hF:ut aN=some R):
   Fw.Spec Tryz.prog 140 [(sv aN)] [] (fun p:Sv×List Nat=>(.tuple [(zg [(zi R.1.Rel),p.1.v]),(.bool R.2)].toArray)) (fun p=>[bT p.2 p.1 R.1.Terms]):=by
 refine Se 27 Tryz.func140 [.cell 2 83,.tmp 3] ?_
 intro H0 F0
 unfold ut at hF
 refine au ?_
 refine fe (fun k1=>?_)
 refine aB ?_
 refine bnd hF fun r2 hx3 hF=>dI (Mx hx3) (fun p4=>?_)
 refine au ?_
 refine zx ?_
 refine zx ?_
 refine zx ?_
 refine bB ?_
 refine bnd hF fun r5 hx6 hF=>dI (Ma hx6) (fun p7=>?_)
 refine au ?_
 refine zx ?_
 refine zx ?_
 refine ax ?_
 obtain⟨o8,JX,KZ⟩:=bind_some hF
 refine au ?_
 refine bW (fun f' cs'=>∃(c11:Bool)(g:Fr),c11=o8/\f'=aH g [(2,(pz k1)),(3,(.bool c11))]/\aF cs' [bQ k1 83 (zg [(zi r2.1),p7.1.v]),bT p7.2 p7.1 r5.1]) ?_ ?_
 · replace hF:=JX
   refine aG ?_
   refine ai (fA mW.h rfl (vs:=[(zi r2.1),p7.1.v]) bI (cells:=[(zi r2.1),p7.1.v]) rfl) ?_
   refine aG ?_
   rcases bf r2.2.2 with ku|ku
   · rw[ku]
     try rw[ku]at hF; dsimp only[ak,aj]at hF
     refine ax ?_
     refine As (zg [(zi r2.1),p7.1.v]) ?_
     exact aO hF
   rw[ku]
   try rw[ku]at hF; dsimp only[ak,aj]at hF
   refine aG ?_
   refine As (zg [(zi r2.1),p7.1.v]) ?_
   exact aO hF
 rintro _ _ ⟨c11,g12,rfl,rfl,hE⟩
 replace hF:=KZ
 try dsimp only at hF
 refine bn hE ?_
 refine au ?_
 cases hF
 exact dF (p7.1,p7.2) (.cellA rfl rfl .h rfl ZT.h mW.h.sz rfl rfl (.tmp rfl rfl .nil)) rfl (.sel (.cons (.t .h) .nil))
def mF(aN:List UInt8)(r9:(List Int)×Bool):List (List UInt8)->Nat->(List aW)->Option (bG×Bool)
 |[],ny,nC=>(zM (⟨r9.1,nC⟩:bG)).bind fun K3=>
   some ((⟨r9.1,nC⟩:bG),(K3==aN))
 |xc::rH,ny,nC=>(ut xc).bind fun ql=>
   if ((!ql.2)||(((nC.length:Int):Int)==4))then (
     some ((⟨[],[]⟩:bG),false))
   else (
     (app nC ([ql.1]:List aW)).bind fun z69=>
     mF aN r9 rH (ny+1) z69)
def mG(aN:List UInt8):List (List UInt8)->Nat->(List aW)->Option (bG×Bool)
 |[],pR,c105=>(zM (⟨[],c105⟩:bG)).bind fun JY=>
   some ((⟨[],c105⟩:bG),(JY==aN))
 |x113::qQ,pR,c105=>(ut x113).bind fun pU=>
   if ((!pU.2)||(((c105.length:Int):Int)==4))then (
     some ((⟨[],[]⟩:bG),false))
   else (
     (app c105 ([pU.1]:List aW)).bind fun QC=>
     mG aN qQ (pR+1) QC)
def o5(aN:List UInt8):Option (bG×Bool):=
 (qB aN [32,105,102,32]).bind fun r2=>
 if (!r2.2.2)then (
   some ((⟨[],[]⟩:bG),false))
 else (
   if (!(r2.1==[121,101,115]))then (
     (l9 r2.1 [44]).bind fun r6=>
     (uj r6).bind fun r9=>
     if (!r9.2)then (
       some ((⟨[],[]⟩:bG),false))
     else (
       (l9 r2.2.1 [32,97,110,100,32]).bind fun bR=>
       mF aN r9 bR 0 ([]:List aW)))
   else (
     (l9 r2.2.1 [32,97,110,100,32]).bind fun tu=>
     mG aN tu 0 ([]:List aW)))
theorem Tn{aN:List UInt8}{R:bG×Bool}(hF:o5 aN=some R):
   Fw.Spec Tryz.prog 93 [(sv aN)] [] (fun p:Sv×List Nat×Sv×List Nat=>(.tuple [(zg [p.1.v,p.2.2.1.v]),(.bool R.2)].toArray)) (fun p=>[bT p.2.1 p.1 R.1.Head,wH p.2.2.2 p.2.2.1 R.1.Atoms]):=by
 refine Se 70 Tryz.func93 [.cell 2 59,.tmp 3] ?_
 intro H0 F0
 unfold o5 at hF
 refine au ?_
 refine fe (fun k1=>?_)
 refine aB ?_
 refine bnd hF fun r2 hx3 hF=>az (GA hx3) (fun _=>?_)
 refine au ?_
 refine zx ?_
 refine zx ?_
 refine zx ?_
 refine f_ ?_
 refine Ci hF (fun Zb hF=>?_) (fun Zb hF=>?_)
 · refine au ?_
   refine ai (fA eO.h rfl (vs:=[]) .nil (cells:=[(.slice none 0 0),(.slice none 0 0)]) rfl) ?_
   refine As (.agg ([(.slice none 0 0),(.slice none 0 0)]:List Value).toArray) ?_
   refine ax ?_
   cases hF
   exact dF (⟨none,0,0⟩,[],⟨none,0,0⟩,[]) (.cellA rfl rfl .h rfl jm.h eO.h.sz rfl rfl (.tmp rfl rfl .nil)) rfl (.conv .nil (dP (Ro:=(aR aX)) (E:=3)) (.cons .nil) (.conv .nil (dP (Ro:=fQ) (E:=83)) (.cons .nil) (.sel (.cons (.t .h) (.cons .h .nil)))))
 refine aG ?_
 refine ai (fA eO.h rfl (vs:=[]) .nil (cells:=[(.slice none 0 0),(.slice none 0 0)]) rfl) ?_
 refine fe (fun k5=>?_)
 refine As (.agg ([(.slice none 0 0),(.slice none 0 0)]:List Value).toArray) ?_
 refine aB ?_
 refine ai (ji (s:=r2.1) (t:=[121,101,115]) (.tmp rfl rfl) (.sv _)) ?_
 refine au ?_
 refine Ci hF (fun Ii hF=>?_) (fun Ii hF=>?_)
 · refine aG ?_
   refine bnd hF fun r6 hx7 hF=>dI (tJ hx7) (fun p8=>?_)
   refine bnd hF fun r9 jr hF=>dI (Ma jr) (fun mD=>?_)
   refine au ?_
   refine zx ?_
   refine zx ?_
   refine dB ?_
   refine Ci hF (fun abm hF=>?_) (fun abm hF=>?_)
   · refine au ?_
     refine ai (fA eO.h rfl (vs:=[]) .nil (cells:=[(.slice none 0 0),(.slice none 0 0)]) rfl) ?_
     refine As (.agg ([(.slice none 0 0),(.slice none 0 0)]:List Value).toArray) ?_
     refine ax ?_
     cases hF
     exact dF (⟨none,0,0⟩,[],⟨none,0,0⟩,[]) (.cellA rfl rfl .h rfl jm.h eO.h.sz rfl rfl (.tmp rfl rfl .nil)) rfl (.conv .nil (dP (Ro:=(aR aX)) (E:=3)) (.cons .nil) (.conv .nil (dP (Ro:=fQ) (E:=83)) (.cons .nil) (.sel (.cons (.t .h) (.cons .h .nil)))))
   refine aB ?_
   refine As (zg [mD.1.v,(.slice none 0 0)]) ?_
   refine aB ?_
   refine bnd hF fun bR eB hF=>dI (tJ eB) (fun qh=>?_)
   refine ax ?_
   refine bH (bX (m:=bR.length) (fun Rc f' cs'=>∃(g:Fr)(ny:Nat)(rH:List (List UInt8))(nC:List aW)(v43:Sv)(Gs:List Nat),Rc=rH.length/\f'=aH g [(0,(sv aN)),(2,(pz k1)),(7,(pz k5)),(38,qh.v),(39,(zi (bR.length:Int))),(40,(zi (ny:Int)))]/\List.drop ny bR=rH/\aF cs' [bQ k1 59 (.agg ([(.slice none 0 0),(.slice none 0 0)]:List Value).toArray),bQ k5 59 (zg [mD.1.v,v43.v]),bT mD.2 mD.1 r9.1,wH Gs v43 nC,jd qh bR]/\mF aN r9 rH ny nC=some R) ⟨_,0,_,_,⟨none,0,0⟩,[],rfl,aK,rfl,(.conv .nil (dP (Ro:=fQ) (E:=83)) (.cons .nil) aJ),hF⟩ ?_)
   rintro Rc _ _ ⟨g47,ny,rH,nC,v43,Gs,rfl,rfl,QD,hE,hF⟩
   refine Kb hE bR (fun ada=>?_)
   rcases rH with _|⟨xc,rH⟩
   · have abn:=dn QD
     rw[mF]at hF
     refine aB ?_
     refine dL ?_
     refine aB ?_
     refine gN [0,1,3,2,4,5,6] [0,0,2,0,14,7,63] [2,5] mixed (by decide+kernel) ?_
     iterate 2 refine pF rfl .no (.t .h) (fun ha hp=>nH jm.h eO.h.sz rfl (EN ha (.tmp rfl rfl) rfl) hp.2 rfl) ?_
     refine du ?_
     refine bnd hF fun K3 yS hF=>Wd rfl rfl .no (.cons .q3 (.cons .q2 .nil)) (.dep rfl (.own (.t .h) (fun _ h=>h) .nil)) (fun ha=>AO (pre:=[]) (.cons df (.cons df .nil)) (fun _=>.nil) (bY Pq.h (.cons (EN ha (.tmp rfl rfl) rfl) .nil) (@LM (⟨r9.1,nC⟩:bG) mD.1 v43 _ yS))) (fun _=>?_)
     refine bi rfl .no (fun ha=>nT (s:=K3) (t:=aN) (EN ha (.tmp rfl rfl) rfl) (EN ha (.tmp rfl rfl) rfl)) ?_
     refine iR rfl rfl .no (.cons .q2 .nil) (.dep rfl (.dep rfl .nil)) (fun ha=>j3 (e':=(zg [mD.1.v,v43.v])) (v:=(zg [mD.1.v,v43.v])) eO.h.sz (EN ha (.tmp rfl rfl) rfl) (EN ha (.tmp rfl rfl) rfl) rfl rfl rfl rfl rfl) (fun _=>?_)
     refine fT ?_
     refine au ?_
     cases hF
     exact dF (mD.1,mD.2,v43,Gs) (.cellA rfl rfl .h rfl jm.h eO.h.sz rfl rfl (.tmp rfl rfl .nil)) rfl (.sel (.cons .q2 (.cons (.t .h) .nil)))
   obtain⟨abn,su,abo⟩:=dE QD
   rw[mF]at hF
   refine aB ?_
   refine dK ?_
   refine ax ?_
   refine Ai su (fun k60 j61=>?_)
   refine Al fB ?_
   refine aB ?_
   refine bnd hF fun ql Jp hF=>dI (MC Jp) (fun p64=>?_)
   refine au ?_
   refine zx ?_
   refine zx ?_
   refine fe (fun Re=>?_)
   refine As (zg [(zi ql.1.Rel),p64.1.v]) ?_
   refine aB ?_
   refine bW (fun f' cs'=>∃(g:Fr),f'=aH g [(0,(sv aN)),(2,(pz k1)),(7,(pz k5)),(12,(pz Re)),(38,qh.v),(39,(zi (bR.length:Int))),(40,(zi (ny:Int))),(56,(.bool ((!ql.2)||(((nC.length:Int):Int)==4))))]/\aF cs' [bQ k1 59 (.agg ([(.slice none 0 0),(.slice none 0 0)]:List Value).toArray),bQ k5 59 (zg [mD.1.v,v43.v]),bT mD.2 mD.1 r9.1,wH Gs v43 nC,bQ Re 83 (zg [(zi ql.1.Rel),p64.1.v]),bT p64.2 p64.1 ql.1.Terms,jd qh bR]) ?_ ?_
   · refine ax ?_
     rcases bf (!ql.2)with CK|CK
     · rw[CK]
       try rw[CK]at hF; dsimp only[ak,aj]at hF
       refine bB ?_
       exact⟨_,aK,aJ⟩
     rw[CK]
     try rw[CK]at hF; dsimp only[ak,aj]at hF
     refine j6 ?_
     exact⟨_,aK,aJ⟩
   rintro _ _ ⟨g67,rfl,hE⟩
   refine bn hE ?_
   refine Ci hF (fun abp hF=>?_) (fun abp hF=>?_)
   · refine au ?_
     refine ai (fA eO.h rfl (vs:=[]) .nil (cells:=[(.slice none 0 0),(.slice none 0 0)]) rfl) ?_
     refine As (.agg ([(.slice none 0 0),(.slice none 0 0)]:List Value).toArray) ?_
     refine ax ?_
     cases hF
     exact dF (⟨none,0,0⟩,[],⟨none,0,0⟩,[]) (.cellA rfl rfl .h rfl jm.h eO.h.sz rfl rfl (.tmp rfl rfl .nil)) rfl (.conv .nil (dP (Ro:=(aR aX)) (E:=3)) (.cons .nil) (.conv .nil (dP (Ro:=fQ) (E:=83)) (.cons .nil) (.sel (.cons (.t .h) (.cons .h .nil)))))
   refine aD ?_
   refine fF rfl (eD (g:=true) rV.h mW.h bI (vs:=[(zg [(zi ql.1.Rel),p64.1.v])]) rfl rfl rfl (by intro v hv; simp at hv; rcases hv with rfl<;>rfl)) (fun k68=>?_)
   refine fK (.cons .h (.cons .q5 .nil)) (eH (Ro:=fQ) (E:=83) (F:=(p64.2++[])) (xs:=([ql.1]:List aW)) (dM EU eG bU) rfl rfl) ?_
   refine bnd hF fun z69 Jq hF=>cB (.cons .q4 (.cons .h .nil)) (iP (Ro:=fQ) rV.h EW mW.h rfl rfl rfl (.tmp rfl rfl) (.tmp rfl rfl) Jq iQ) (fun p71=>?_)
   refine au ?_
   refine As (zg [mD.1.v,p71.1.v]) ?_
   refine aD ?_
   rw[wk ny]
   exact⟨_,cO _,_,ny+1,rH,_,p71.1,p71.2,rfl,aK,abo,aJ,hF⟩
 refine aB ?_
 refine bnd hF fun tu abq hF=>dI (tJ abq) (fun Gt=>?_)
 refine ax ?_
 refine bH (bX (m:=tu.length) (fun QE f' cs'=>∃(g:Fr)(pR:Nat)(qQ:List (List UInt8))(c105:List aW)(sG:Sv)(FP:List Nat),QE=qQ.length/\f'=aH g [(0,(sv aN)),(2,(pz k1)),(7,(pz k5)),(38,Gt.v),(39,(zi (tu.length:Int))),(40,(zi (pR:Int)))]/\List.drop pR tu=qQ/\aF cs' [bQ k1 59 (.agg ([(.slice none 0 0),(.slice none 0 0)]:List Value).toArray),bQ k5 59 (zg [(.slice none 0 0),sG.v]),wH FP sG c105,jd Gt tu]/\mG aN qQ pR c105=some R) ⟨_,0,_,_,⟨none,0,0⟩,[],rfl,aK,rfl,(.conv .nil (dP (Ro:=fQ) (E:=83)) (.cons .nil) aJ),hF⟩ ?_)
 rintro QE _ _ ⟨afJ,pR,qQ,c105,sG,FP,rfl,rfl,hd114,hE,hF⟩
 refine Kb hE tu (fun ab1=>?_)
 rcases qQ with _|⟨x113,qQ⟩
 · have Zc:=dn hd114
   rw[mG]at hF
   refine aB ?_
   refine dL ?_
   refine aB ?_
   refine gN [0,1,3,2,4,5,6] [0,0,2,0,14,7,63] [2,5] mixed (by decide+kernel) ?_
   iterate 2 refine pF rfl .no (.t .h) (fun ha hp=>nH jm.h eO.h.sz rfl (EN ha (.tmp rfl rfl) rfl) hp.2 rfl) ?_
   refine du ?_
   refine CQ .nil (yA (R:=aX) (E:=3)) ?_
   refine bnd hF fun JY wE hF=>iR rfl rfl .no (.cons .q3 (.rd .h rfl .nil)) (.dep rfl (.own .q2 (fun _ h=>h) .nil)) (fun ha=>gP df (fun _=>.nil) (nO (.rd (.t .h) rfl (.rd .h rfl .nil)) (bY Pq.h (.cons (EN ha (.tmp rfl rfl) rfl) .nil) (@LM (⟨[],c105⟩:bG) (⟨none,0,0⟩) sG _ wE)))) (fun _=>?_)
   refine bi rfl .no (fun ha=>nT (s:=JY) (t:=aN) (EN ha (.tmp rfl rfl) rfl) (EN ha (.tmp rfl rfl) rfl)) ?_
   refine iR rfl rfl .no (.cons .q2 .nil) (.dep rfl (.dep rfl .nil)) (fun ha=>j3 (e':=(zg [(.slice none 0 0),sG.v])) (v:=(zg [(.slice none 0 0),sG.v])) eO.h.sz (EN ha (.tmp rfl rfl) rfl) (EN ha (.tmp rfl rfl) rfl) rfl rfl rfl rfl rfl) (fun _=>?_)
   refine fT ?_
   refine au ?_
   cases hF
   exact dF (⟨none,0,0⟩,[],sG,FP) (.cellA rfl rfl .h rfl jm.h eO.h.sz rfl rfl (.tmp rfl rfl .nil)) rfl (.conv .nil (dP (Ro:=(aR aX)) (E:=3)) (.cons .nil) (.sel (.cons .h (.cons (.t .h) .nil))))
 obtain⟨Zc,Zd,Ze⟩:=dE hd114
 rw[mG]at hF
 refine aB ?_
 refine dK ?_
 refine ax ?_
 refine Ai Zd (fun afK afL=>?_)
 refine Al fB ?_
 refine aB ?_
 refine bnd hF fun pU Zf hF=>dI (MC Zf) (fun yZ=>?_)
 refine au ?_
 refine zx ?_
 refine zx ?_
 refine fe (fun QF=>?_)
 refine As (zg [(zi pU.1.Rel),yZ.1.v]) ?_
 refine aB ?_
 refine bW (fun f' cs'=>∃(g:Fr),f'=aH g [(0,(sv aN)),(2,(pz k1)),(7,(pz k5)),(12,(pz QF)),(38,Gt.v),(39,(zi (tu.length:Int))),(40,(zi (pR:Int))),(56,(.bool ((!pU.2)||(((c105.length:Int):Int)==4))))]/\aF cs' [bQ k1 59 (.agg ([(.slice none 0 0),(.slice none 0 0)]:List Value).toArray),bQ k5 59 (zg [(.slice none 0 0),sG.v]),wH FP sG c105,bQ QF 83 (zg [(zi pU.1.Rel),yZ.1.v]),bT yZ.2 yZ.1 pU.1.Terms,jd Gt tu]) ?_ ?_
 · refine ax ?_
   rcases bf (!pU.2)with Bq|Bq
   · rw[Bq]
     try rw[Bq]at hF; dsimp only[ak,aj]at hF
     refine bB ?_
     exact⟨_,aK,aJ⟩
   rw[Bq]
   try rw[Bq]at hF; dsimp only[ak,aj]at hF
   refine j6 ?_
   exact⟨_,aK,aJ⟩
 rintro _ _ ⟨afM,rfl,hE⟩
 refine bn hE ?_
 refine Ci hF (fun Zg hF=>?_) (fun Zg hF=>?_)
 · refine au ?_
   refine ai (fA eO.h rfl (vs:=[]) .nil (cells:=[(.slice none 0 0),(.slice none 0 0)]) rfl) ?_
   refine As (.agg ([(.slice none 0 0),(.slice none 0 0)]:List Value).toArray) ?_
   refine ax ?_
   cases hF
   exact dF (⟨none,0,0⟩,[],⟨none,0,0⟩,[]) (.cellA rfl rfl .h rfl jm.h eO.h.sz rfl rfl (.tmp rfl rfl .nil)) rfl (.conv .nil (dP (Ro:=(aR aX)) (E:=3)) (.cons .nil) (.conv .nil (dP (Ro:=fQ) (E:=83)) (.cons .nil) (.sel (.cons (.t .h) (.cons .h .nil)))))
 refine aD ?_
 refine fF rfl (eD (g:=true) rV.h mW.h bI (vs:=[(zg [(zi pU.1.Rel),yZ.1.v])]) rfl rfl rfl (by intro v hv; simp at hv; rcases hv with rfl<;>rfl)) (fun afN=>?_)
 refine fK (.cons .h (.cons .q4 .nil)) (eH (Ro:=fQ) (E:=83) (F:=(yZ.2++[])) (xs:=([pU.1]:List aW)) (dM EU eG bU) rfl rfl) ?_
 refine bnd hF fun QC Iy hF=>cB (.cons .q3 (.cons .h .nil)) (iP (Ro:=fQ) rV.h EW mW.h rfl rfl rfl (.tmp rfl rfl) (.tmp rfl rfl) Iy iQ) (fun JZ=>?_)
 refine au ?_
 refine As (zg [(.slice none 0 0),JZ.1.v]) ?_
 refine aD ?_
 rw[wk pR]
 exact⟨_,cO _,_,pR+1,qQ,_,JZ.1,JZ.2,rfl,aK,Ze,aJ,hF⟩
def AJ(aa:List Int)(bg:aW):Option (Bool):=
 ((qJ aa bg.Rel).bind fun r4=>
   bif r4 then ((ix aa bg.Rel).bind fun x8=>
     bif (((bg.Terms.length:Int):Int)==x8)then ((xU bg.Terms).bind fun dY=>
       some dY)
     else (some false))
   else (some false)).bind fun o2=>
 match o2 with
 |c18=>some c18
theorem Um{aa:List Int}{ae:Sv}{bg:aW}{dS:Sv}{R:Bool}(hF:AJ aa bg=some R):
   Fw.Spec Tryz.prog 145 [ae.v,(zg [(zi bg.Rel),dS.v])] [aC ae aa,aC dS bg.Terms] (fun _:Unit=>(.bool R)) (fun _=>[]):=by
 refine Se 25 Tryz.func145 [.tmp 4] ?_
 intro H0 F0
 unfold AJ at hF
 refine au ?_
 refine fC (fun k1=>?_)
 refine aG ?_
 obtain⟨o2,fH,hO3⟩:=bind_some hF
 refine gN [0,1,2,3,4,5,6,7,8,9,10,11,12,13,14,15,16,17,18,19,20] [0,0,2,7,15,31,63,127,31,31,543,1823,3871,8191,16383,32767,65535,131071,262143,524287,1048575] [3,18] mixed (by decide+kernel) ?_
 refine pG (fun f' cs'=>∃(c18:Bool)(g:Fr),c18=o2/\f'=aH g [(4,(.bool c18))]/\aF cs' []) ?_ ?_
 · replace hF:=fH
   refine iy ?_
   refine bnd hF fun r4 hx5 hF=>di (zY hx5) (fun _=>?_)
   refine du ?_
   rcases bf r4 with aZ|aZ
   · rw[aZ]
     try rw[aZ]at hF; dsimp only[ak,aj]at hF
     refine uR ?_
     refine zI hF fun x8 IJ lT hF=>?_
     refine Di lT (fun k12 j13=>?_)
     refine Dl dw ?_
     refine iy ?_
     rcases bf (((bg.Terms.length:Int):Int)==x8)with oD|oD
     · rw[oD]
       try rw[oD]at hF; dsimp only[ak,aj]at hF
       refine fT ?_
       refine bnd hF fun dY hx16 hF=>di (MB hx16) (fun _=>?_)
       exact gm hF
     rw[oD]
     try rw[oD]at hF; dsimp only[ak,aj]at hF
     exact gm hF
   rw[aZ]
   try rw[aZ]at hF; dsimp only[ak,aj]at hF
   exact gm hF
 rintro _ _ ⟨c18,g19,rfl,rfl,hE⟩
 replace hF:=hO3
 try dsimp only at hF
 refine bn hE ?_
 exact ze hF
def Aa(bg:aW)(bD:List Int):Option (Bool):=
 (AJ bD bg).bind fun r2=>
 some (!r2)
theorem Tp{bg:aW}{bA:Sv}{dO:Nat}{bD:List Int}{ja:Sv}{R:Bool}(hF:Aa bg bD=some R):
   Fw.Spec Tryz.prog 144 [(zg [(zi bg.Rel),bA.v]),(pz dO)] [aC bA bg.Terms,cz dO 22 ja.v,aC ja bD] (fun _:Unit=>(.bool R)) (fun _=>[]):=by
 refine Se 8 Tryz.func144 [.tmp 3] ?_
 intro H0 F0
 unfold Aa at hF
 refine au ?_
 refine fC (fun k1=>?_)
 refine aD ?_
 refine bnd hF fun r2 hx3 hF=>az (Um hx3) (fun _=>?_)
 exact ze hF
def xm(bD:List Int):List aW->Nat->Option (Int)
 |[],k4=>some (-1)
 |x6::aM,k4=>(Aa x6 bD).bind fun r16=>
   if r16 then (
     some (k4:Int))
   else (
     xm bD aM (k4+1))
def Dt(aa:List aW)(bD:List Int):Option (Int):=
 xm bD aa 0
theorem Rm{aa:List aW}{ae:Sv}{dO:Nat}{bD:List Int}{ja:Sv}{R:Int}(hF:Dt aa bD=some R):
   Fw.Spec Tryz.prog 205 [ae.v,(.func (.func 144) [].toArray [(pz dO)].toArray)] [gq ae aa,cz dO 22 ja.v,aC ja bD] (fun _:Unit=>(zi R)) (fun _=>[]):=by
 refine Se 19 Tryz.func205 [.tmp 4] ?_
 intro H0 F0
 unfold Dt at hF
 refine f_ ?_
 refine bH (bX (m:=aa.length) (fun m2 f' cs'=>∃(g:Fr)(k4:Nat)(aM:List aW),m2=aM.length/\f'=aH g [(0,ae.v),(1,(.func (.func 144) [].toArray [(pz dO)].toArray)),(7,(zi (aa.length:Int))),(8,(zi (k4:Int)))]/\List.drop k4 aa=aM/\aF cs' [gq ae aa,cz dO 22 ja.v,aC ja bD]/\xm bD aM k4=some R) ⟨_,0,_,rfl,aK,rfl,aJ,hF⟩ ?_)
 rintro m2 _ _ ⟨g3,k4,aM,rfl,rfl,hd7,hE,hF⟩
 refine Kb hE aa (fun mQ=>?_)
 rcases aM with _|⟨x6,aM⟩
 · have gZ:=dn hd7
   rw[xm]at hF
   refine aB ?_
   refine dL ?_
   exact ze hF
 obtain⟨gZ,bO,iA⟩:=dE hd7
 rw[xm]at hF
 refine aB ?_
 refine dK ?_
 refine j6 ?_
 refine Ai bO (fun k13 oI=>?_)
 refine yM (vT x6) xW (fun p15=>?_)
 refine bnd hF fun r16 iJ hF=>mU (.rd .h rfl (.rd .q3 rfl (.rd .q4 rfl .nil))) (uB XM.h (.tmp rfl rfl) bI (Tp iJ)) (fun _=>?_)
 refine au ?_
 refine Ci hF (fun abr hF=>?_) (fun abr hF=>?_)
 · exact ze hF
 refine aD ?_
 rw[wk k4]
 exact⟨_,cO _,_,k4+1,aM,rfl,aK,iA,aJ,hF⟩
def zf(aa:List aW)(bD:List Int):Option (Bool):=
 (Dt aa bD).bind fun r1=>
 some (decide ((0:Int)<=r1))
theorem Rl{aa:List aW}{ae:Sv}{dO:Nat}{bD:List Int}{ja:Sv}{R:Bool}(hF:zf aa bD=some R):
   Fw.Spec Tryz.prog 143 [ae.v,(.func (.func 144) [].toArray [(pz dO)].toArray)] [gq ae aa,cz dO 22 ja.v,aC ja bD] (fun _:Unit=>(.bool R)) (fun _=>[]):=by
 refine Se 9 Tryz.func143 [.tmp 4] ?_
 intro H0 F0
 unfold zf at hF
 refine bB ?_
 refine bnd hF fun r1 hx2 hF=>az (Rm hx2) (fun _=>?_)
 exact ze hF
def Am(aa:List Int)(aI:bG):Option (Bool):=
 ((xS aa).bind fun r5=>
   bif r5 then ((gX (aI.Atoms.length:Int) 1 4).bind fun r9=>
     bif r9 then ((zf aI.Atoms aa).bind fun jU=>
       bif (!jU)then ((vU aI).bind fun fw=>
         some fw)
       else (some false))
     else (some false))
   else (some false)).bind fun o3=>
 match o3 with
 |c20=>some c20
theorem TQ{aa:List Int}{ae:Sv}{aI:bG}{kr dS:Sv}{R:Bool}(hF:Am aa aI=some R):
   Fw.Spec Tryz.prog 94 [ae.v,(zg [kr.v,dS.v])] [aC ae aa,aC kr aI.Head,gq dS aI.Atoms] (fun _:Unit=>(.bool R)) (fun _=>[]):=by
 refine Se 24 Tryz.func94 [.tmp 4] ?_
 intro H0 F0
 unfold Am at hF
 refine au ?_
 refine fC (fun k1=>?_)
 refine fC (fun k2=>?_)
 refine aG ?_
 obtain⟨o3,JM,hO4⟩:=bind_some hF
 refine au ?_
 refine bW (fun f' cs'=>∃(c20:Bool)(g:Fr),c20=o3/\f'=aH g [(4,(.bool c20))]/\aF cs' []) ?_ ?_
 · replace hF:=JM
   refine au ?_
   refine bnd hF fun r5 hx6 hF=>az (Mv hx6) (fun _=>?_)
   refine au ?_
   rcases bf r5 with iN|iN
   · rw[iN]
     try rw[iN]at hF; dsimp only[ak,aj]at hF
     refine bZ ?_
     refine bnd hF fun r9 jr hF=>az (je jr) (fun _=>?_)
     refine aG ?_
     rcases bf r9 with gF|gF
     · rw[gF]
       try rw[gF]at hF; dsimp only[ak,aj]at hF
       refine aD ?_
       refine ai (mI (fn:=.func 144) (vs:=[]) (us:=[(pz k1)]) .nil bI) ?_
       refine au ?_
       refine bnd hF fun jU jG hF=>az (Rl jG) (fun _=>?_)
       refine aB ?_
       rcases bf (!jU)with gH|gH
       · rw[gH]
         try rw[gH]at hF; dsimp only[ak,aj]at hF
         refine ax ?_
         refine bnd hF fun fw jH hF=>az (MO jH) (fun _=>?_)
         exact aO hF
       rw[gH]
       try rw[gH]at hF; dsimp only[ak,aj]at hF
       exact aO hF
     rw[gF]
     try rw[gF]at hF; dsimp only[ak,aj]at hF
     exact aO hF
   rw[iN]
   try rw[iN]at hF; dsimp only[ak,aj]at hF
   exact aO hF
 rintro _ _ ⟨c20,g21,rfl,rfl,hE⟩
 replace hF:=hO4
 try dsimp only at hF
 refine bn hE ?_
 exact ze hF
def vK(aa:List Int)(aN:List UInt8):Option (bG×Bool):=
 (o5 aN).bind fun r2=>
 (bif (!r2.2)then (some true)
   else ((Am aa r2.1).bind fun r9=>
     some (!r9))).bind fun o6=>
 match o6 with
 |c12=>if c12 then (
     some ((⟨[],[]⟩:bG),false))
   else (
     some (r2.1,true))
theorem LY{aa:List Int}{ae:Sv}{aN:List UInt8}{R:bG×Bool}(hF:vK aa aN=some R):
   Fw.Spec Tryz.prog 63 [ae.v,(sv aN)] [aC ae aa] (fun p:Sv×List Nat×Sv×List Nat=>(.tuple [(zg [p.1.v,p.2.2.1.v]),(.bool R.2)].toArray)) (fun p=>[bT p.2.1 p.1 R.1.Head,wH p.2.2.2 p.2.2.1 R.1.Atoms]):=by
 refine Se 23 Tryz.func63 [.cell 4 59,.tmp 5] ?_
 intro H0 F0
 unfold vK at hF
 refine au ?_
 refine fe (fun k1=>?_)
 refine aB ?_
 refine bnd hF fun r2 hx3 hF=>CP (Tn hx3) (fun p4=>?_)
 refine au ?_
 refine zx ?_
 refine zx ?_
 refine fe (fun k5=>?_)
 refine As (zg [p4.1.v,p4.2.2.1.v]) ?_
 refine ax ?_
 obtain⟨o6,JS,KQ⟩:=bind_some hF
 refine au ?_
 refine bW (fun f' cs'=>∃(c12:Bool)(g:Fr),c12=o6/\f'=aH g [(4,(pz k1)),(6,(pz k5)),(20,(.bool c12))]/\aF cs' [bQ k1 59 (.agg ([(.slice none 0 0),(.slice none 0 0)]:List Value).toArray),bQ k5 59 (zg [p4.1.v,p4.2.2.1.v]),bT p4.2.1 p4.1 r2.1.Head,wH p4.2.2.2 p4.2.2.1 r2.1.Atoms]) ?_ ?_
 · replace hF:=JS
   refine ax ?_
   rcases bf (!r2.2)with iN|iN
   · rw[iN]
     try rw[iN]at hF; dsimp only[ak,aj]at hF
     exact aO hF
   rw[iN]
   try rw[iN]at hF; dsimp only[ak,aj]at hF
   refine aD ?_
   refine bnd hF fun r9 jr hF=>Bw (.cons .q2 (.cons (.t .h) (.rd .q2 rfl .nil))) (AO (pre:=_) (.cons df (.cons df .nil)) (fun _=>.nil) (nO (.rd .q2 rfl (.rd .h rfl (.rd (.t .h) rfl .nil))) (bY Z8.h bI (TQ jr)))) (fun _=>?_)
   exact aO hF
 rintro _ _ ⟨c12,g14,rfl,rfl,hE⟩
 replace hF:=KQ
 try dsimp only at hF
 refine bn hE ?_
 refine Ci hF (fun abt hF=>?_) (fun abt hF=>?_)
 · refine au ?_
   refine ai (fA eO.h rfl (vs:=[]) .nil (cells:=[(.slice none 0 0),(.slice none 0 0)]) rfl) ?_
   refine As (.agg ([(.slice none 0 0),(.slice none 0 0)]:List Value).toArray) ?_
   refine ax ?_
   cases hF
   exact dF (⟨none,0,0⟩,[],⟨none,0,0⟩,[]) (.cellA rfl rfl .h rfl jm.h eO.h.sz rfl rfl (.tmp rfl rfl .nil)) rfl (.conv .nil (dP (Ro:=(aR aX)) (E:=3)) (.cons .nil) (.conv .nil (dP (Ro:=fQ) (E:=83)) (.cons .nil) (.sel (.cons (.t .h) (.cons .h .nil)))))
 refine ax ?_
 refine As (zg [p4.1.v,p4.2.2.1.v]) ?_
 refine ax ?_
 cases hF
 exact dF (p4.1,p4.2.1,p4.2.2.1,p4.2.2.2) (.cellA rfl rfl .h rfl jm.h eO.h.sz rfl rfl (.tmp rfl rfl .nil)) rfl (.sel (.cons .q2 (.cons .q2 .nil)))
def zG(bK:Event)(aa:List Int):Option (Bool):=
 if ((bK.Kind:Int)==1)then (
   (zL aa bK.Text).bind fun r2=>
   if r2.2 then (
     some true)
   else (
     some false))
 else (
   if ((bK.Kind:Int)==2)then (
     (z8 aa bK.Text).bind fun r7=>
     if r7.2 then (
       some true)
     else (
       some false))
   else (
     if ((bK.Kind:Int)==3)then (
       if ((bK.Kind:Int)==3)then (
         (xN aa bK.Text).bind fun bR=>
         if bR.2 then (
           some true)
         else (
           some false))
       else (
         if ((bK.Kind:Int)==5)then (
           (gW bK.Text).bind fun fw=>
           (bif fw.2 then ((gX fw.1 1 100).bind fun il=>
               some il)
             else (some false)).bind fun K4=>
           match K4 with
           |jy=>if jy then (
               some true)
             else (
               some false))
         else (
           if ((bK.Kind:Int)==6)then (
             (vK aa bK.Text).bind fun fI=>
             if fI.2 then (
               some true)
             else (
               some false))
           else (
             some false))))
     else (
       if ((bK.Kind:Int)==4)then (
         (xN aa bK.Text).bind fun jX=>
         if jX.2 then (
           some true)
         else (
           some false))
       else (
         if ((bK.Kind:Int)==5)then (
           (gW bK.Text).bind fun m_=>
           (bif m_.2 then ((gX m_.1 1 100).bind fun iH=>
               some iH)
             else (some false)).bind fun Dp=>
           match Dp with
           |c53=>if c53 then (
               some true)
             else (
               some false))
         else (
           if ((bK.Kind:Int)==6)then (
             (vK aa bK.Text).bind fun vg=>
             if vg.2 then (
               some true)
             else (
               some false))
           else (
             some false))))))
theorem Sb{bK:Event}{aa:List Int}{kr:Sv}{R:Bool}(hF:zG bK aa=some R):
   Fw.Spec Tryz.prog 27 [(zg [(zi bK.Kind),(sv bK.Text)]),kr.v] [aC kr aa] (fun p:FV=>(J6 p R)) (fun _=>[]):=by
 refine Se 76 Tryz.func27 [.tmp 4] ?_
 intro H0 F0
 unfold zG at hF
 refine au ?_
 refine fC (fun k1=>?_)
 refine bZ ?_
 refine bH (eF (ai (EB (i:=bK.Kind) (j:=1) (.tmp rfl rfl) (.int _ _)) ?_))
 refine aG ?_
 refine Ci hF (fun Jy hF=>?_) (fun Jy hF=>?_)
 · refine aB ?_
   refine bnd hF fun r2 hx3 hF=>dI (Sj hx3) (fun p4=>?_)
   refine au ?_
   refine zx ?_
   refine zx ?_
   refine fe (fun k5=>?_)
   refine As (zg [(zi r2.1.Rel),p4.1.v,(zi r2.1.Limit),(zi r2.1.Cost),(zi r2.1.Quota)]) ?_
   refine aD ?_
   refine Ci hF (fun hb6 hF=>?_) (fun hb6 hF=>?_)
   · refine au ?_
     refine ai (mI (fn:=.func 51) (vs:=[]) (us:=[(pz k5)]) .nil bI) ?_
     refine ax ?_
     cases hF
     exact Er (.func 51,[],[(pz k5)])
   refine aD ?_
   cases hF
   exact Er (.func 0,[],[])
 refine aB ?_
 refine Ci hF (fun BH hF=>?_) (fun BH hF=>?_)
 · refine aB ?_
   refine bnd hF fun r7 ik hF=>dI (Tk ik) (fun p9=>?_)
   refine au ?_
   refine zx ?_
   refine zx ?_
   refine fe (fun k10=>?_)
   refine As (zg [(zi r7.1.From),(zi r7.1.To),p9.1.v]) ?_
   refine aD ?_
   refine Ci hF (fun abu hF=>?_) (fun abu hF=>?_)
   · refine au ?_
     refine ai (mI (fn:=.func 54) (vs:=[]) (us:=[(pz k10)]) .nil bI) ?_
     refine ax ?_
     cases hF
     exact Er (.func 54,[],[(pz k10)])
   refine aD ?_
   cases hF
   exact Er (.func 0,[],[])
 refine aD ?_
 refine Ci hF (fun BV hF=>?_) (fun BV hF=>?_)
 · refine au ?_
   refine Ci hF (fun B_ hF=>?_) (fun B_ hF=>?_)
   · refine aB ?_
     refine bnd hF fun bR eB hF=>dI (L_ eB) (fun qh=>?_)
     refine au ?_
     refine zx ?_
     refine zx ?_
     refine fe (fun k15=>?_)
     refine As (zg [(zi bR.1.Rel),qh.1.v]) ?_
     refine aD ?_
     refine Ci hF (fun wO hF=>?_) (fun wO hF=>?_)
     · refine au ?_
       refine ai (mI (fn:=.func 57) (vs:=[]) (us:=[(pz k1),(pz k15)]) .nil bI) ?_
       refine ax ?_
       cases hF
       exact Er (.func 57,[],[(pz k1),(pz k15)])
     refine aD ?_
     cases hF
     exact Er (.func 0,[],[])
   refine aB ?_
   refine Ci hF (fun JW hF=>?_) (fun JW hF=>?_)
   · refine ax ?_
     refine bnd hF fun fw jH hF=>az (kZ jH) (fun _=>?_)
     refine au ?_
     refine zx ?_
     refine zx ?_
     refine fe (fun k20=>?_)
     refine As (zi fw.1) ?_
     refine aG ?_
     obtain⟨K4,Zh,abv⟩:=bind_some hF
     refine au ?_
     refine bW (fun f' cs'=>∃(jy:Bool)(g:Fr),jy=K4/\f'=aH g [(11,(pz k20)),(63,(.bool jy))]/\aF cs' [bQ k20 3 (zi fw.1)]) ?_ ?_
     · replace hF:=Zh
       refine aG ?_
       rcases bf fw.2 with oF|oF
       · rw[oF]
         try rw[oF]at hF; dsimp only[ak,aj]at hF
         refine ax ?_
         refine bnd hF fun il hx25 hF=>az (je hx25) (fun _=>?_)
         exact aO hF
       rw[oF]
       try rw[oF]at hF; dsimp only[ak,aj]at hF
       exact aO hF
     rintro _ _ ⟨jy,g29,rfl,rfl,hE⟩
     replace hF:=abv
     try dsimp only at hF
     refine bn hE ?_
     refine Ci hF (fun J2 hF=>?_) (fun J2 hF=>?_)
     · refine au ?_
       refine ai (mI (fn:=.func 61) (vs:=[]) (us:=[(pz k20)]) .nil bI) ?_
       refine ax ?_
       cases hF
       exact Er (.func 61,[],[(pz k20)])
     refine aD ?_
     cases hF
     exact Er (.func 0,[],[])
   refine aB ?_
   refine Ci hF (fun Cy hF=>?_) (fun Cy hF=>?_)
   · refine aB ?_
     refine bnd hF fun fI hx31 hF=>CP (LY hx31) (fun p32=>?_)
     refine au ?_
     refine zx ?_
     refine zx ?_
     refine fe (fun y_=>?_)
     refine As (zg [p32.1.v,p32.2.2.1.v]) ?_
     refine aD ?_
     refine Ci hF (fun BZ hF=>?_) (fun BZ hF=>?_)
     · refine au ?_
       refine ai (mI (fn:=.func 64) (vs:=[]) (us:=[(pz y_)]) .nil bI) ?_
       refine ax ?_
       cases hF
       exact Er (.func 64,[],[(pz y_)])
     refine aD ?_
     cases hF
     exact Er (.func 0,[],[])
   refine aD ?_
   cases hF
   exact Er (.func 0,[],[])
 refine aB ?_
 refine Ci hF (fun wK hF=>?_) (fun wK hF=>?_)
 · refine aB ?_
   refine bnd hF fun jX hx39 hF=>dI (L_ hx39) (fun p40=>?_)
   refine au ?_
   refine zx ?_
   refine zx ?_
   refine fe (fun sK=>?_)
   refine As (zg [(zi jX.1.Rel),p40.1.v]) ?_
   refine aD ?_
   refine Ci hF (fun IL hF=>?_) (fun IL hF=>?_)
   · refine au ?_
     refine ai (mI (fn:=.func 57) (vs:=[]) (us:=[(pz k1),(pz sK)]) .nil bI) ?_
     refine ax ?_
     cases hF
     exact Er (.func 57,[],[(pz k1),(pz sK)])
   refine aD ?_
   cases hF
   exact Er (.func 0,[],[])
 refine aB ?_
 refine Ci hF (fun abw hF=>?_) (fun abw hF=>?_)
 · refine ax ?_
   refine bnd hF fun m_ wN hF=>az (kZ wN) (fun _=>?_)
   refine au ?_
   refine zx ?_
   refine zx ?_
   refine fe (fun qd=>?_)
   refine As (zi m_.1) ?_
   refine aG ?_
   obtain⟨Dp,Zi,abx⟩:=bind_some hF
   refine au ?_
   refine bW (fun f' cs'=>∃(c53:Bool)(g:Fr),c53=Dp/\f'=aH g [(11,(pz qd)),(63,(.bool c53))]/\aF cs' [bQ qd 3 (zi m_.1)]) ?_ ?_
   · replace hF:=Zi
     refine aG ?_
     rcases bf m_.2 with oh|oh
     · rw[oh]
       try rw[oh]at hF; dsimp only[ak,aj]at hF
       refine ax ?_
       refine bnd hF fun iH mY hF=>az (je mY) (fun _=>?_)
       exact aO hF
     rw[oh]
     try rw[oh]at hF; dsimp only[ak,aj]at hF
     exact aO hF
   rintro _ _ ⟨c53,g55,rfl,rfl,hE⟩
   replace hF:=abx
   try dsimp only at hF
   refine bn hE ?_
   refine Ci hF (fun JV hF=>?_) (fun JV hF=>?_)
   · refine au ?_
     refine ai (mI (fn:=.func 61) (vs:=[]) (us:=[(pz qd)]) .nil bI) ?_
     refine ax ?_
     cases hF
     exact Er (.func 61,[],[(pz qd)])
   refine aD ?_
   cases hF
   exact Er (.func 0,[],[])
 refine aB ?_
 refine Ci hF (fun BP hF=>?_) (fun BP hF=>?_)
 · refine aB ?_
   refine bnd hF fun vg yV hF=>CP (LY yV) (fun p58=>?_)
   refine au ?_
   refine zx ?_
   refine zx ?_
   refine fe (fun KR=>?_)
   refine As (zg [p58.1.v,p58.2.2.1.v]) ?_
   refine aD ?_
   refine Ci hF (fun aby hF=>?_) (fun aby hF=>?_)
   · refine au ?_
     refine ai (mI (fn:=.func 64) (vs:=[]) (us:=[(pz KR)]) .nil bI) ?_
     refine ax ?_
     cases hF
     exact Er (.func 64,[],[(pz KR)])
   refine aD ?_
   cases hF
   exact Er (.func 0,[],[])
 refine aD ?_
 cases hF
 exact Er (.func 0,[],[])
def qH(aa:List Int)(bK:Event):Option (Bool):=
 (zG bK aa).bind fun r2=>
 some r2
theorem TR{aa:List Int}{ae:Sv}{bK:Event}{R:Bool}(hF:qH aa bK=some R):
   Fw.Spec Tryz.prog 10 [ae.v,(zg [(zi bK.Kind),(sv bK.Text)])] [aC ae aa] (fun _:Unit=>(.bool R)) (fun _=>[]):=by
 refine Se 9 Tryz.func10 [.tmp 4] ?_
 intro H0 F0
 unfold qH at hF
 refine au ?_
 refine fC (fun k1=>?_)
 refine aD ?_
 refine bnd hF fun r2 hx3 hF=>az (Sb hx3) (fun p4=>?_)
 refine ai (Wm (p:=p4) (b:=r2) XN (.tmp rfl rfl)) ?_
 exact ze hF
def Ab(nQ:Int):Option ((List UInt8)):=
 (gX nQ 1 6).bind fun r1=>
 if (!r1)then (
   some [])
 else (
   (zR).bind fun r4=>
   (ix r4 nQ).bind fun fV=>
   some fV)
theorem Tq{nQ:Int}{R:(List UInt8)}(hF:Ab nQ=some R):
   Fw.Spec Tryz.prog 67 [(zi nQ)] [] (fun _:Unit=>(sv R)) (fun _=>[]):=by
 refine Se 10 Tryz.func67 [.tmp 2] ?_
 intro H0 F0
 unfold Ab at hF
 refine bB ?_
 refine bnd hF fun r1 hx2 hF=>az (je hx2) (fun _=>?_)
 refine aG ?_
 refine Ci hF (fun Cq hF=>?_) (fun Cq hF=>?_)
 · exact ze hF
 refine aG ?_
 refine bnd hF fun r4 hx5 hF=>dI (LX hx5) (fun p6=>?_)
 refine au ?_
 refine bnd hF fun fV lT hF=>?_
 have hi9:=ww lT
 obtain⟨afO,eB⟩:=nK lT
 refine uH gD.h gY.h.sz (.tmp rfl rfl) (.tmp rfl rfl) .h hi9 (fun k7 gZ=>?_)
 refine wC (w:=(sv fV)) wX.h (.tmp rfl rfl) .h gZ eB EI ?_
 exact ze hF
def zN(bK:Event):Option ((List UInt8)):=
 (Ab bK.Kind).bind fun r2=>
 if ((r2==[])||(bK.Text==[]))then (
   some [])
 else (
   (aP r2 [32]).bind fun x7=>
   (aP x7 bK.Text).bind fun ig=>
   some ig)
theorem Sl{bK:Event}{R:(List UInt8)}(hF:zN bK=some R):
   Fw.Spec Tryz.prog 32 [(zg [(zi bK.Kind),(sv bK.Text)])] [] (fun _:Unit=>(sv R)) (fun _=>[]):=by
 refine Se 19 Tryz.func32 [.tmp 2] ?_
 intro H0 F0
 unfold zN at hF
 refine au ?_
 refine fC (fun k1=>?_)
 refine aD ?_
 refine bnd hF fun r2 hx3 hF=>az (Tq hx3) (fun _=>?_)
 refine aB ?_
 refine bW (fun f' cs'=>∃(g:Fr),f'=aH g [(1,(pz k1)),(3,(sv r2)),(13,(.bool ((r2==[])||(bK.Text==[]))))]/\aF cs' [cz k1 28 (zg [(zi bK.Kind),(sv bK.Text)])]) ?_ ?_
 · refine au ?_
   refine ai (nT (s:=r2) (t:=[]) (.tmp rfl rfl) (.sv _)) ?_
   refine au ?_
   rcases bf (r2==[])with hg5|hg5
   · rw[hg5]
     try rw[hg5]at hF; dsimp only[ak,aj]at hF
     refine aD ?_
     exact⟨_,aK,aJ⟩
   rw[hg5]
   try rw[hg5]at hF; dsimp only[ak,aj]at hF
   refine aD ?_
   refine ai (nT (s:=bK.Text) (t:=[]) (.tmp rfl rfl) (.sv _)) ?_
   refine aG ?_
   exact⟨_,aK,aJ⟩
 rintro _ _ ⟨g6,rfl,hE⟩
 refine bn hE ?_
 refine Ci hF (fun wL hF=>?_) (fun wL hF=>?_)
 · exact ze hF
 refine ax ?_
 refine bnd hF fun x7 ik hF=>?_
 obtain⟨Qj,Q4⟩:=bq ik
 refine ai (bu (s:=r2) (t:=[32]) (u:=x7) (.tmp rfl rfl) (.sv _) ik) ?_
 refine aG ?_
 refine bnd hF fun ig jQ hF=>?_
 obtain⟨afP,afQ⟩:=bq jQ
 refine ai (bu (s:=x7) (t:=bK.Text) (u:=ig) (.tmp rfl rfl) (.tmp rfl rfl) jQ) ?_
 exact ze hF
def xI(aa:List Int)(fJ:List UInt8):Option (Event×Bool):=
 (qB fJ [32]).bind fun r2=>
 (zR).bind fun r5=>
 (qp r5 r2.1).bind fun r8=>
 ((qH aa (⟨r8,r2.2.1⟩:Event)).bind fun kE=>
   bif (!kE)then (some true)
   else ((zN (⟨r8,r2.2.1⟩:Event)).bind fun fU=>
     some (!(fU==fJ)))).bind fun K5=>
 match K5 with
 |c21=>if c21 then (
     some ((⟨0,[]⟩:Event),false))
   else (
     some ((⟨r8,r2.2.1⟩:Event),true))
theorem SG{aa:List Int}{ae:Sv}{fJ:List UInt8}{R:Event×Bool}(hF:xI aa fJ=some R):
   Fw.Spec Tryz.prog 13 [ae.v,(sv fJ)] [aC ae aa] (fun _:Unit=>(.tuple [(zg [(zi R.1.Kind),(sv R.1.Text)]),(.bool R.2)].toArray)) (fun _=>[]):=by
 refine Se 33 Tryz.func13 [.cell 4 28,.tmp 5] ?_
 intro H0 F0
 unfold xI at hF
 refine au ?_
 refine fe (fun k1=>?_)
 refine aB ?_
 refine bnd hF fun r2 hx3 hF=>az (GA hx3) (fun _=>?_)
 refine au ?_
 refine zx ?_
 refine zx ?_
 refine zx ?_
 refine aD ?_
 refine bnd hF fun r5 hx6 hF=>dI (LX hx6) (fun p7=>?_)
 refine au ?_
 refine bnd hF fun r8 bO hF=>cB (.cons .h .nil) (gP df (fun _=>.nil) (bY ZV.h bI (Lb bO))) (fun _=>?_)
 refine au ?_
 refine ai (fA uO.h rfl (vs:=[(zi r8),(sv r2.2.1)]) bI (cells:=[(zi r8),(sv r2.2.1)]) rfl) ?_
 refine fe (fun k11=>?_)
 refine As (zg [(zi r8),(sv r2.2.1)]) ?_
 refine aG ?_
 obtain⟨K5,Zj,abz⟩:=bind_some hF
 refine au ?_
 refine bW (fun f' cs'=>∃(c21:Bool)(g:Fr),c21=K5/\f'=aH g [(4,(pz k1)),(9,(pz k11)),(30,(.bool c21))]/\aF cs' [bQ k1 28 (zg [(zi 0),(sv [])]),bQ k11 28 (zg [(zi r8),(sv r2.2.1)])]) ?_ ?_
 · replace hF:=Zj
   refine aG ?_
   refine bnd hF fun kE jO hF=>az (TR jO) (fun _=>?_)
   refine aG ?_
   rcases bf (!kE)with CL|CL
   · rw[CL]
     try rw[CL]at hF; dsimp only[ak,aj]at hF
     exact aO hF
   rw[CL]
   try rw[CL]at hF; dsimp only[ak,aj]at hF
   refine ax ?_
   refine bnd hF fun fU lU hF=>az (Sl lU) (fun _=>?_)
   refine ax ?_
   refine ai (ji (s:=fU) (t:=fJ) (.tmp rfl rfl) (.tmp rfl rfl)) ?_
   exact aO hF
 rintro _ _ ⟨c21,g23,rfl,rfl,hE⟩
 replace hF:=abz
 try dsimp only at hF
 refine bn hE ?_
 refine Ci hF (fun BM hF=>?_) (fun BM hF=>?_)
 · refine au ?_
   refine ai (fA uO.h rfl (vs:=[]) .nil (cells:=[(zi 0),(sv [])]) rfl) ?_
   refine As (zg [(zi 0),(sv [])]) ?_
   refine ax ?_
   cases hF
   exact dF () (.cellA rfl rfl .h rfl ES.h uO.h.sz rfl rfl (.tmp rfl rfl .nil)) rfl (.sel .nil)
 refine ax ?_
 refine As (zg [(zi r8),(sv r2.2.1)]) ?_
 refine ax ?_
 cases hF
 exact dF () (.cellA rfl rfl .h rfl ES.h uO.h.sz rfl rfl (.tmp rfl rfl .nil)) rfl (.sel .nil)
def Ao(bg:Event)(jY:Event):Option (Bool):=
 if ((bg.Kind:Int)!=jY.Kind)then (
   some false)
 else (
   if (!(bg.Text==jY.Text))then (
     some false)
   else (
     some true))
theorem TS{bg jY:Event}{R:Bool}(hF:Ao bg jY=some R):
   Fw.Spec Tryz.prog 14 [(zg [(zi bg.Kind),(sv bg.Text)]),(zg [(zi jY.Kind),(sv jY.Text)])] [] (fun _:Unit=>(.bool R)) (fun _=>[]):=by
 refine Se 15 Tryz.func14 [.tmp 4] ?_
 intro H0 F0
 unfold Ao at hF
 refine au ?_
 refine fC (fun k1=>?_)
 refine fC (fun k2=>?_)
 refine j6 ?_
 refine Ci hF (fun hb4 hF=>?_) (fun hb4 hF=>?_)
 · exact ze hF
 refine bZ ?_
 refine ai (ji (s:=bg.Text) (t:=jY.Text) (.tmp rfl rfl) (.tmp rfl rfl)) ?_
 refine au ?_
 refine Ci hF (fun hb3 hF=>?_) (fun hb3 hF=>?_)
 · exact ze hF
 exact ze hF
def xO(jY:List Int):List Int->Nat->Option (Bool)
 |[],k4=>some true
 |x6::aM,k4=>(ix jY (k4:Int)).bind fun Rh=>
   if ((x6:Int)!=Rh)then (
     some false)
   else (
     xO jY aM (k4+1))
def Eg(bg:List Int)(jY:List Int):Option (Bool):=
 if (((bg.length:Int):Int)!=(jY.length:Int))then (
   some false)
 else (
   xO jY bg 0)
theorem Uo{bg:List Int}{ae:Sv}{jY:List Int}{kr:Sv}{R:Bool}(hF:Eg bg jY=some R):
   Fw.Spec Tryz.prog 11 [ae.v,kr.v] [aC ae bg,aC kr jY] (fun _:Unit=>(.bool R)) (fun _=>[]):=by
 refine Se 26 Tryz.func11 [.tmp 4] ?_
 intro H0 F0
 unfold Eg at hF
 refine Bc ?_
 refine Ci hF (fun IQ hF=>?_) (fun IQ hF=>?_)
 · exact ze hF
 refine aD ?_
 refine bH (bX (m:=bg.length) (fun m2 f' cs'=>∃(g:Fr)(k4:Nat)(aM:List Int),m2=aM.length/\f'=aH g [(0,ae.v),(1,kr.v),(5,(zi (k4:Int)))]/\List.drop k4 bg=aM/\aF cs' [aC ae bg,aC kr jY]/\xO jY aM k4=some R) ⟨_,0,_,rfl,aK,rfl,aJ,hF⟩ ?_)
 rintro m2 _ _ ⟨g3,k4,aM,rfl,rfl,hd7,hE,hF⟩
 refine Kb hE bg (fun mQ=>?_)
 rcases aM with _|⟨x6,aM⟩
 · have gZ:=dn hd7
   rw[xO]at hF
   refine bZ ?_
   refine dL ?_
   exact ze hF
 obtain⟨gZ,bO,iA⟩:=dE hd7
 rw[xO]at hF
 refine bZ ?_
 refine dK ?_
 refine aG ?_
 refine gN [0,1,2,3,4,5,6,7,8] [0,0,3,7,0,0,48,112,255] [] mixed (by decide+kernel) ?_
 refine fT ?_
 refine Di bO (fun k13 oI=>?_)
 refine Dl dw ?_
 refine fT ?_
 refine zI hF fun Rh afR jH hF=>?_
 refine Di jH (fun k19 j20=>?_)
 refine Dl dw ?_
 refine fT ?_
 refine Ci hF (fun BM hF=>?_) (fun BM hF=>?_)
 · exact ze hF
 refine bB ?_
 rw[wk k4]
 exact⟨_,cO _,_,k4+1,aM,rfl,aK,iA,aJ,hF⟩
def DD(fuel:Nat)(uT:List Int)(wo:List UInt8):Option (Bool):=
 if (decide ((1048576:Int)<(uT.length:Int)))then (
   some true)
 else (
   if (decide ((1048576:Int)<(wo.length:Int)))then (
     some true)
   else (
     (yg uT).bind fun r1=>
     (vJ fuel r1 wo).bind fun r4=>
     (yg uT).bind fun r8=>
     (xI r8 wo).bind fun iD=>
     ((Ao iD.1 r4.1).bind fun fw=>
       bif (!fw)then (some true)
       else (some (!(iD.2==r4.2)))).bind fun wZ=>
     match wZ with
     |c21=>if c21 then (
         some false)
       else (
         (yg uT).bind fun gV=>
         (Eg r8 gV).bind fun Dj=>
         if (!Dj)then (
           some false)
         else (
           some true))))
theorem RX{fuel:Nat}{uT:List Int}{ae:Sv}{wo:List UInt8}{R:Bool}(hF:DD fuel uT wo=some R):
   Fw.Spec Tryz.prog 4 [ae.v,(sv wo)] [aC ae uT] (fun _:Unit=>(.bool R)) (fun _=>[]):=by
 refine Se 45 Tryz.func4 [.tmp 4] ?_
 intro H0 F0
 unfold DD at hF
 refine f_ ?_
 refine Ci hF (fun wI hF=>?_) (fun wI hF=>?_)
 · exact ze hF
 refine aB ?_
 refine ai (g_ (s:=wo) dz (.tmp rfl rfl)) ?_
 refine aG ?_
 refine Ci hF (fun Jj hF=>?_) (fun Jj hF=>?_)
 · exact ze hF
 refine ax ?_
 refine bnd hF fun r1 hx2 hF=>dI (GM hx2) (fun p3=>?_)
 refine au ?_
 refine bnd hF fun r4 hx5 hF=>cB (.cons .h .nil) (gP df (fun _=>.nil) (bY ZL.h bI (Sz hx5))) (fun _=>?_)
 refine au ?_
 refine zx ?_
 refine zx ?_
 refine fe (fun k7=>?_)
 refine As (zg [(zi r4.1.Kind),(sv r4.1.Text)]) ?_
 refine aB ?_
 refine bnd hF fun r8 bO hF=>dI (GM bO) (fun Gj=>?_)
 refine aD ?_
 refine bnd hF fun iD jQ hF=>cB (.cons .h .nil) (gP df (fun _=>.nil) (bY ZU.h bI (SG jQ))) (fun _=>?_)
 refine au ?_
 refine zx ?_
 refine zx ?_
 refine fe (fun k14=>?_)
 refine As (zg [(zi iD.1.Kind),(sv iD.1.Text)]) ?_
 refine ax ?_
 obtain⟨wZ,Ig,IM⟩:=bind_some hF
 refine au ?_
 refine bW (fun f' cs'=>∃(c21:Bool)(g:Fr),c21=wZ/\f'=aH g [(0,ae.v),(7,Gj.1.v),(39,(.bool c21))]/\aF cs' [aC ae uT,bT Gj.2 Gj.1 r8]) ?_ ?_
 · replace hF:=Ig
   refine aG ?_
   refine bnd hF fun fw jH hF=>az (TS jH) (fun _=>?_)
   refine aG ?_
   rcases bf (!fw)with oC|oC
   · rw[oC]
     try rw[oC]at hF; dsimp only[ak,aj]at hF
     exact aO hF
   rw[oC]
   try rw[oC]at hF; dsimp only[ak,aj]at hF
   refine aD ?_
   refine ai (WV (a:=iD.2) (b:=r4.2) Tryz.underlying4 (.tmp rfl rfl) (.tmp rfl rfl)) ?_
   exact aO hF
 rintro _ _ ⟨c21,g30,rfl,rfl,hE⟩
 replace hF:=IM
 try dsimp only at hF
 refine bn hE ?_
 refine Ci hF (fun abA hF=>?_) (fun abA hF=>?_)
 · exact ze hF
 refine aD ?_
 refine bnd hF fun gV jq hF=>dI (GM jq) (fun FZ=>?_)
 refine bnd hF fun Dj mi hF=>Bw (.cons .h (.cons (.t .h) .nil)) (AO (pre:=[]) (.cons df (.cons df .nil)) (fun _=>.nil) (bY Z9.h bI (Uo mi))) (fun _=>?_)
 refine aG ?_
 refine Ci hF (fun J2 hF=>?_) (fun J2 hF=>?_)
 · exact ze hF
 exact ze hF
end Go.Proofs.YtcjkjmnbdlnojaaGreatDoor
