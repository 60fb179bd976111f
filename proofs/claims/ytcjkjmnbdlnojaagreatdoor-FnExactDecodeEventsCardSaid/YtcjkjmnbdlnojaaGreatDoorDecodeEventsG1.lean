/-
  Functions of the program as Lean functions, and that the calls return what these say: part 2. No conditions.
-/
import Derived.Shelf.Strconv.Itoa3
import Derived.Shelf.Strings.OnBuilder
import Derived.Shelf.Sort.Plain
import Derived.Shelf.Slices.In.SortNone
import Derived.Shelf.Slices.CompactI
import Derived.Test.YtcjkjmnbdlnojaaGreatDoorDecodeEventsG0
import Derived.KernelRfl
set_option maxRecDepth 100000
set_option maxHeartbeats 1000000
set_option linter.unusedVariables false
namespace Go.Proofs.YtcjkjmnbdlnojaaGreatDoor
open Go Go.Fw

def qc(aa:List Int)(fT:List UInt8)(fuel:Nat):Nat->Int->Option (Event×Bool)
 |0,_=>none
 |m3+1,c2=>if (decide ((c2:Int)<=6))then (
     (((BC c2).bind fun ky=>
       (aP ky [32]).bind fun eB=>
       (bif (decide (((eB.length:Int):Int)<(fT.length:Int)))then ((jD (decide (0<=(eB.length:Int))&&decide ((eB.length:Int)<=((fT).length:Int)))).bind fun u24=>
           some ((fT.take ((eB.length:Int)).toNat)==eB))
         else (some false)).bind fun yE=>
       match yE with
       |Eu=>if Eu then (
           (jD (decide (0<=(eB.length:Int))&&decide ((eB.length:Int)<=((fT).length:Int)))).bind fun u28=>
           (zy fuel aa (⟨c2,(fT.drop ((eB.length:Int)).toNat)⟩:Event)).bind fun ja=>
           if ja then (
             some (.inl ((⟨c2,(fT.drop ((eB.length:Int)).toNat)⟩:Event),true)))
           else (
             some (.inr ())))
         else (
           some (.inr ()))):Option (Sum (Event×Bool) (Unit))).bind fun Mh=>
     match Mh with
     | .inl r=>some r
     | .inr _=>qc aa fT fuel m3 (IntKind.i64.wrap (c2+1)))
   else (
     some ((⟨0,[]⟩:Event),false))
def vz(fuel:Nat)(aa:List Int)(fT:List UInt8):Option (Event×Bool):=
 qc aa fT fuel (((6:Int)-1).toNat+2) 1
theorem UI{fuel:Nat}{aa:List Int}{ae:Sv}{fT:List UInt8}{R:Event×Bool}(hF:vz fuel aa fT=some R):
   Fw.Spec Tryz.prog 12 [ae.v,(sv fT)] [aD ae aa] (fun _:Unit=>(.tuple [(zg [(zi R.1.Kind),(sv R.1.Text)]),(.bool R.2)].toArray)) (fun _=>[]):=by
 refine Se 40 Tryz.func12 [.cell 4 28,.tmp 5] ?_
 intro H0 F0
 unfold vz at hF
 refine au ?_
 refine fE (fun k1=>?_)
 refine bz ?_
 refine bF (bU (m:=(((6:Int)-1).toNat+2)) (fun m3 f' cs'=>∃(g:Fr)(c2:Int),f'=aH g [(0,ae.v),(1,(sv fT)),(4,(pz k1)),(6,(zi c2))]/\aF cs' [aD ae aa,bW k1 28 (zg [(zi 0),(sv [])])]/\qc aa fT fuel m3 c2=some R) ⟨_,_,aJ,aI,hF⟩ ?_)
 rintro m3 _ _ ⟨g4,c2,rfl,hE,hF⟩
 refine bg hE ?_
 rcases m3 with _|m3
 · rw[qc]at hF
   exact absurd hF (by simp)
 rw[qc]at hF
 refine aC ?_
 refine Ci hF (fun mU hF=>?_) (fun mU hF=>?_)
 · refine au ?_
   obtain⟨Mh,aaI,R7⟩:=bind_some hF
   refine kY (fun f' cs'=>∃(g:Fr),Mh= .inr ()/\f'=aH g [(0,ae.v),(1,(sv fT)),(4,(pz k1)),(6,(zi c2))]/\aF cs' [aD ae aa,bW k1 28 (zg [(zi 0),(sv [])])]) ?_ ?_
   · replace hF:=aaI
     refine bF (dw (Cm (zi c2) rfl rfl ?_))
     refine bnd hF fun ky jB hF=>aB (U9 jB) (fun _=>?_)
     refine bnd hF fun eB iT hF=>?_
     obtain⟨Rz,RA⟩:=bq iT
     refine ai (bu (s:=ky) (t:=[32]) (u:=eB) (.tmp rfl rfl) (.sv _) iT) ?_
     refine aG ?_
     obtain⟨yE,JE,KI⟩:=bind_some hF
     refine au ?_
     refine bZ (fun f' cs'=>∃(Eu:Bool)(g:Fr),Eu=yE/\f'=aH g [(0,ae.v),(1,(sv fT)),(4,(pz k1)),(6,(zi c2)),(7,(sv eB)),(28,(.bool Eu))]/\aF cs' [aD ae aa,bW k1 28 (zg [(zi 0),(sv [])])]) ?_ ?_
     · replace hF:=JE
       refine au ?_
       refine ai (ig (s:=fT) dG (.tmp rfl rfl)) ?_
       refine au ?_
       refine ai (ig (s:=eB) dG (.tmp rfl rfl)) ?_
       refine aG ?_
       rcases a_ (decide (((eB.length:Int):Int)<(fT.length:Int)))with kH|kH
       · rw[kH]
         try rw[kH]at hF; dsimp only[ak,aj]at hF
         refine aC ?_
         refine ai (ig (s:=eB) dG (.tmp rfl rfl)) ?_
         refine au ?_
         refine bnd hF fun u24 hx25 hF=>?_
         have K7:=kV hx25
         simp only[Bool.and_eq_true,decide_eq_true_eq]at K7
         refine ai (BS (s:=fT) (j:=(eB.length:Int)) dG (.tmp rfl rfl) (.tmp rfl rfl) K7.1 K7.2) ?_
         refine ax ?_
         refine ai (oJ (s:=(fT.take ((eB.length:Int)).toNat)) (t:=eB) (.tmp rfl rfl) (.tmp rfl rfl)) ?_
         exact aO hF
       rw[kH]
       try rw[kH]at hF; dsimp only[ak,aj]at hF
       exact aO hF
     rintro _ _ ⟨Eu,g36,rfl,rfl,hE⟩
     replace hF:=KI
     try dsimp only at hF
     refine bg hE ?_
     refine Ci hF (fun D6 hF=>?_) (fun D6 hF=>?_)
     · refine aA ?_
       refine ai (ig (s:=eB) dG (.tmp rfl rfl)) ?_
       refine bnd hF fun u28 hx29 hF=>?_
       have hc27:=kV hx29
       simp only[Bool.and_eq_true,decide_eq_true_eq]at hc27
       refine ai (zq (s:=fT) (i:=(eB.length:Int)) dG (.tmp rfl rfl) (.tmp rfl rfl) hc27.1 hc27.2) ?_
       refine ai (fH jy.h rfl (vs:=[(zi c2),(sv (fT.drop ((eB.length:Int)).toNat))]) bG (cells:=[(zi c2),(sv (fT.drop ((eB.length:Int)).toNat))]) rfl) ?_
       refine fE (fun k30=>?_)
       refine As (zg [(zi c2),(sv (fT.drop ((eB.length:Int)).toNat))]) ?_
       refine aA ?_
       refine bnd hF fun ja hx32 hF=>aB (VC hx32) (fun _=>?_)
       refine au ?_
       refine Ci hF (fun Dz hF=>?_) (fun Dz hF=>?_)
       · refine aG ?_
         refine As (zg [(zi c2),(sv (fT.drop ((eB.length:Int)).toNat))]) ?_
         refine ax ?_
         cases hF
         replace hF:=R7
         try dsimp only at hF
         cases hF
         exact dx () (.cellA rfl rfl .h rfl Dc.h jy.h.sz rfl rfl (.tmp rfl rfl .nil)) rfl (.sel .nil)
       refine au ?_
       cases hF
       exact⟨_,rfl,aJ,aI⟩
     refine au ?_
     cases hF
     exact⟨_,rfl,aJ,aI⟩
   rintro _ _ ⟨SH,rfl,rfl,hE⟩
   replace hF:=R7
   try dsimp only at hF
   refine bg hE ?_
   refine aC ?_
   exact⟨m3,cz _,_,_,aJ,aI,hF⟩
 refine aC ?_
 refine ai (fH jy.h rfl (vs:=[]) .nil (cells:=[(zi 0),(sv [])]) rfl) ?_
 refine As (zg [(zi 0),(sv [])]) ?_
 refine ax ?_
 cases hF
 exact dx () (.cellA rfl rfl .h rfl Dc.h jy.h.sz rfl rfl (.tmp rfl rfl .nil)) rfl (.sel .nil)
def uV(aa:List Int)(r2:(List (List UInt8)))(fuel:Nat):Nat->(List Event)->Int->Option ((List Event)×Bool)
 |0,_,_=>none
 |m9+1,c5,c8=>if (decide (((IntKind.i64.wrap (c8+1)):Int)<(r2.length:Int)))then (
     (ix r2 c8).bind fun x20=>
     (vz fuel aa x20).bind fun dh=>
     if (!dh.2)then (
       some (([]:List Event),false))
     else (
       (app c5 ([dh.1]:List Event)).bind fun z30=>
       uV aa r2 20 m9 z30 (IntKind.i64.wrap (c8+1))))
   else (
     (ix r2 (IntKind.i64.wrap ((r2.length:Int)-1))).bind fun iy=>
     if (!(iy==[]))then (
       some (([]:List Event),false))
     else (
       some (c5,true)))
def Bf(fuel:Nat)(aa:List Int)(aL:List UInt8):Option ((List Event)×Bool):=
 (oq aL (10:UInt8)).bind fun r2=>
 uV aa r2 20 fuel ([]:List Event) 0
theorem Uo{fuel:Nat}{aa:List Int}{ae:Sv}{aL:List UInt8}{R:(List Event)×Bool}(hF:Bf fuel aa aL=some R):
   Fw.Spec Tryz.prog 15 [ae.v,(sv aL)] [dR (b_ 3 aY) ae.v aa] (fun p:Sv×List Nat=>(.tuple [p.1.v,(.bool R.2)].toArray)) (fun p=>[bN (bL 28 (aK ib)) p.2 p.1.v R.1]):=by
 refine Fe (n:=46) Tryz.func15 rfl rfl (rs:=[.tmp 4,.tmp 5]) rfl rfl rfl ?_
 intro H0 F0
 unfold Bf at hF
 refine dw (ai (iO (v:=(.slice none 0 0)) EV.nilSlice) ?_)
 refine ai (iO (v:=(.bool false)) (.bool _)) ?_
 refine dW (dw (eF rfl (dN (g:=true) qE.h jy.h .nil (vs:=[]) rfl rfl rfl (by simp)) (fun k1=>?_)))
 refine zQ (.cons .h .nil) (dP (Ro:=(aK ib)) (E:=28) (F:=[]) (xs:=([]:List Event)) dO rfl rfl) bP ?_
 refine Ca (.slice (some ⟨k1,0,none⟩) 0 1) rfl rfl ?_
 refine dW (dw (Cm (sv aL) rfl rfl ?_))
 obtain⟨r2,hx3,hF⟩:=bind_some hF
 refine bX .nil (bT JU.h (.cons (.tmp rfl rfl) (.cons (.int _ _) .nil)) (@vI aL (10:UInt8) _ hx3)) (fun p4=>?_)
 refine Ca p4.1.v rfl rfl ?_
 refine dW (jw (dw (ai (iO (v:=(.int .i64 0)) (.int _ _)) ?_)))
 refine dW (bF (bU (m:=fuel) (fun m9 f' cs'=>∃(g:Fr)(c5:List Event)(c8:Int)(v6:Sv)(F7:List Nat),f'=aH g [(0,ae.v),(6,v6.v),(7,p4.1.v),(8,(.int .i64 c8))]/\aF cs' [dR (b_ 3 aY) ae.v aa,bN (bL 28 (aK ib)) F7 v6.v c5,bN (bL 9 (aK rdStr)) p4.2 p4.1.v r2]/\uV aa r2 20 m9 c5 c8=some R) ⟨_,_,_,⟨(some ⟨k1,0,none⟩),0,1⟩,(k1::[]),(bB.cons rfl (bB.cons rfl (bB.cons rfl (bB.cons rfl (bB.nil))))).eq,(.sel (.rd (.t (.t .h)) rfl (.cons (.t .h) (.cons .h .nil)))),hF⟩ ?_))
 clear hF
 rintro m9 _ _ ⟨g10,c5,c8,v6,F7,rfl,hE,hF⟩
 refine bg hE ?_
 clear hE
 rcases m9 with _|m9
 · rw[uV]at hF
   exact absurd hF (by simp)
 rw[uV]at hF
 refine jw (dw (Cm (.int .i64 c8) rfl rfl ?_))
 refine ai (xL (i:=c8) (j:=1) (.tmp rfl rfl) (.int _ _)) ?_
 refine Cm p4.1.v rfl rfl ?_
 refine iJ (.t (.t .h)) (fun hp=>oC (l:=r2.length) fI.h (.tmp rfl rfl) (IV hp)) ?_
 refine ai (xM (i:=(IntKind.i64.wrap (c8+1))) (j:=(r2.length:Int)) (.tmp rfl rfl) (.tmp rfl rfl)) ?_
 refine dW (lN (b:=(decide (((IntKind.i64.wrap (c8+1)):Int)<(r2.length:Int)))) (.tmp rfl rfl) (fun K8=>?_) (fun K8=>?_))
 · rw[if_pos K8]at hF
   refine om (Cs (dw (Cm ae.v rfl rfl ?_)))
   refine Cm p4.1.v rfl rfl ?_
   refine Cm (.int .i64 c8) rfl rfl ?_
   obtain⟨x20,iR,hF⟩:=bind_some hF
   have acU:=oD iR
   obtain⟨agV,jL⟩:=lQ iR
   refine mJ fI.h gy.h.sz (.tmp rfl rfl) (.tmp rfl rfl) (.t (.t .h)) acU (fun k17 acV=>?_)
   refine tF (w:=(sv x20)) uD.h (.tmp rfl rfl) (.t (.t .h)) acV jL zX ?_
   obtain⟨dh,hx25,hF⟩:=bind_some hF
   refine mP (.rd .h rfl .nil) (bT abA.h (.cons (.tmp rfl rfl) (.cons (.tmp rfl rfl) .nil)) (@UI 20 aa ae x20 _ hx25)) (fun _=>?_)
   refine Cm (.tuple [(.agg [(.int .i64 dh.1.Kind),(sv dh.1.Text)].toArray),(.bool dh.2)].toArray) rfl rfl ?_
   refine ai (BR (l:=[(.agg [(.int .i64 dh.1.Kind),(sv dh.1.Text)].toArray),(.bool dh.2)]) (v:=(.agg [(.int .i64 dh.1.Kind),(sv dh.1.Text)].toArray)) (.tmp rfl rfl) rfl) ?_
   refine ai (BR (l:=[(.agg [(.int .i64 dh.1.Kind),(sv dh.1.Text)].toArray),(.bool dh.2)]) (v:=(.bool dh.2)) (.tmp rfl rfl) rfl) ?_
   refine eF rfl (zB (g:=true) jy.h rfl rfl) (fun k27=>?_)
   refine bX (.cons .h .nil) (j5 (e':=(.agg [(.int .i64 dh.1.Kind),(sv dh.1.Text)].toArray)) (v:=(.agg [(.int .i64 dh.1.Kind),(sv dh.1.Text)].toArray)) jy.h.sz (.tmp rfl rfl) (.tmp rfl rfl) rfl rfl rfl rfl rfl) (fun _=>?_)
   refine Ca (.bool dh.2) rfl rfl ?_
   refine dW (jw (dw (Cm (.bool dh.2) rfl rfl ?_)))
   refine ai (zU (b:=dh.2) (.tmp rfl rfl)) ?_
   refine dW (lN (b:=(!dh.2)) (.tmp rfl rfl) (fun K9=>?_) (fun K9=>?_))
   · rw[if_pos K9]at hF
     refine dw (eF rfl (dN (g:=true) qE.h jy.h .nil (vs:=[]) rfl rfl rfl (by simp)) (fun k28=>?_))
     refine zQ (.cons .h .nil) (dP (Ro:=(aK ib)) (E:=28) (F:=[]) (xs:=([]:List Event)) dO rfl rfl) bP ?_
     refine Ca (.slice (some ⟨k28,0,none⟩) 0 1) rfl rfl ?_
     refine ai (iO (v:=(.bool false)) (.bool _)) ?_
     refine dW (qw ?_)
     obtain rfl:=Option.some.inj hF
     exact dx (⟨(some ⟨k28,0,none⟩),0,1⟩,(k28::[])) (.tmp rfl rfl (.tmp rfl rfl .nil)) rfl (.sel (.cons .h .nil))
   rw[if_neg (by rw[K9]; exact Bool.false_ne_true)]at hF
   refine om (xn (Cm v6.v rfl rfl ?_))
   refine iJ .h (fun hp=>nz Dc.h jy.h.sz rfl (.tmp rfl rfl) hp.2 rfl) ?_
   refine eF rfl (dN (g:=true) qE.h jy.h (.cons (.tmp rfl rfl) .nil) (vs:=[(.agg [(.int .i64 dh.1.Kind),(sv dh.1.Text)].toArray)]) rfl rfl rfl (by intro v hv; simp at hv; rcases hv with rfl<;>rfl)) (fun uF=>?_)
   refine zQ (.cons .h .nil) (dP (Ro:=(aK ib)) (E:=28) (F:=([]++[])) (xs:=([dh.1]:List Event)) (dM (eP (fun _=>rfl)) dO bP) rfl rfl) bP ?_
   obtain⟨z30,hx31,hF⟩:=bind_some hF
   refine bX (.cons (.t (.t (.t .h))) (.cons .h .nil)) (iH (Ro:=(aK ib)) qE.h Rp jy.h rfl rfl rfl (.tmp rfl rfl) (.tmp rfl rfl) hx31 iI) (fun p32=>?_)
   refine Ca p32.1.v rfl rfl ?_
   refine dW (xn (Cm (.int .i64 c8) rfl rfl ?_))
   refine ai (xL (i:=c8) (j:=1) (.tmp rfl rfl) (.int _ _)) ?_
   refine Ca (.int .i64 (IntKind.i64.wrap (c8+1))) rfl rfl ?_
   refine dW ?_
   exact⟨m9,Nat.lt_succ_self _,_,_,_,p32.1,p32.2,(bB.cons rfl (bB.cons rfl (bB.cons rfl (bB.cons rfl (bB.nil))))).eq,(.sel (.rd (.t (.t .h)) rfl (.cons .h (.cons (.t (.t .h)) .nil)))),hF⟩
 rw[if_neg (by rw[K8]; exact Bool.false_ne_true)]at hF
 refine Cr ?_
 iterate 2 refine BL ?_
 refine B_ (jw (dw ?_))
 iterate 2 refine Cm p4.1.v rfl rfl ?_
 refine iJ (.t (.t .h)) (fun hp=>oC (l:=r2.length) fI.h (.tmp rfl rfl) (IV hp)) ?_
 refine ai (Jo (i:=(r2.length:Int)) (j:=1) (.tmp rfl rfl) (.int _ _)) ?_
 obtain⟨iy,hx38,hF⟩:=bind_some hF
 have acW:=oD hx38
 obtain⟨acg,kG⟩:=lQ hx38
 refine mJ fI.h gy.h.sz (.tmp rfl rfl) (.tmp rfl rfl) (.t (.t .h)) acW (fun k34 acX=>?_)
 refine tF (w:=(sv iy)) uD.h (.tmp rfl rfl) (.t (.t .h)) acX kG zX ?_
 refine ai (iP (s:=iy) (t:=[]) (.tmp rfl rfl) (.sv _)) ?_
 refine dW (lN (b:=(!(iy==[]))) (.tmp rfl rfl) (fun uf=>?_) (fun uf=>?_))
 · rw[if_pos uf]at hF
   refine dw (eF rfl (dN (g:=true) qE.h jy.h .nil (vs:=[]) rfl rfl rfl (by simp)) (fun mZ=>?_))
   refine zQ (.cons .h .nil) (dP (Ro:=(aK ib)) (E:=28) (F:=[]) (xs:=([]:List Event)) dO rfl rfl) bP ?_
   refine Ca (.slice (some ⟨mZ,0,none⟩) 0 1) rfl rfl ?_
   refine ai (iO (v:=(.bool false)) (.bool _)) ?_
   refine dW (qw ?_)
   obtain rfl:=Option.some.inj hF
   exact dx (⟨(some ⟨mZ,0,none⟩),0,1⟩,(mZ::[])) (.tmp rfl rfl (.tmp rfl rfl .nil)) rfl (.sel (.cons .h .nil))
 rw[if_neg (by rw[uf]; exact Bool.false_ne_true)]at hF
 refine om (dw (Cm v6.v rfl rfl ?_))
 refine Ca v6.v rfl rfl ?_
 refine ai (iO (v:=(.bool true)) (.bool _)) ?_
 refine dW (qw ?_)
 obtain rfl:=Option.some.inj hF
 exact dx (v6,F7) (.tmp rfl rfl (.tmp rfl rfl .nil)) rfl (.sel (.cons (.t .h) .nil))
def EP(aa eT:List UInt8)(GU cO:Int):Option (List (List UInt8)):=
 if GU=0/\cO= -1/\aa.length<4294967281/\1<=eT.length/\(Lib.split aa eT).length<4294967296 then some (Lib.split aa eT)else none
theorem Ug{aa eT:List UInt8}{GU cO:Int}{R:List (List UInt8)}(hF:EP aa eT GU cO=some R):
   Fw.Spec Tryz.prog 68 [sv aa,sv eT,.int .i64 GU,.int .i64 cO] [] (fun p:Sv=>p.v) (fun p=>[jl p R]):=by
 unfold EP at hF
 split at hF
 · rename_i h
   obtain⟨rfl,rfl,h1,h3,h2⟩:=h
   cases hF
   exact VN Yi gy.h.sz h2 fun w hv=>by
     obtain⟨m,hm⟩:=(iW.cellI (P:=Tryz.prog) (fun w0 (h:aW.V Tryz.prog w0)=>And.right (And.right (And.right h))) hv.choose_spec)
     exact Vx XI hi9 aa eT m h1 h3 w hm
 · simp at hF
def lK(aa:List UInt8)(eT:List UInt8):Option ((List (List UInt8))):=
 (EP aa eT 0 (-1)).bind fun r1=>
 some r1
theorem rz{aa eT:List UInt8}{R:(List (List UInt8))}(hF:lK aa eT=some R):
   Fw.Spec Tryz.prog 34 [(sv aa),(sv eT)] [] (fun p:Sv=>p.v) (fun p=>[jl p R]):=by
 refine Se 8 Tryz.func34 [.tmp 4] ?_
 intro H0 F0
 unfold lK at hF
 refine bz ?_
 refine bnd hF fun r1 hx2 hF=>dC (Ug hx2) (fun p3=>?_)
 refine ax ?_
 cases hF
 exact Er p3
def A8(aa eT:List UInt8):Option Int:=
 if aa.length<4294967281 then some (Lib.index aa eT)else none
theorem TU{aa eT:List UInt8}{R:Int}(hF:A8 aa eT=some R):
   Fw.Spec Tryz.prog 97 [sv aa,sv eT] [] (fun _:Unit=>(zi R)) (fun _=>[]):=by
 unfold A8 at hF
 split at hF
 · rename_i h1
   cases hF
   exact VM Yh (fun _=>.int _ _) fun w hv=>by
     obtain⟨m,hm⟩:=(iW.cellI (P:=Tryz.prog) (fun w0 (h:aW.V Tryz.prog w0)=>And.right (And.right (And.right h))) hv.choose_spec)
     exact Vw XJ aa eT m w h1 hm
 · simp at hF
def A9(aa:List UInt8)(eT:List UInt8):Option ((List UInt8)×(List UInt8)×Bool):=
 (A8 aa eT).bind fun r1=>
 if (decide ((0:Int)<=r1))then (
   (jD (decide (0<=r1)&&decide (r1<=((aa).length:Int)))).bind fun u5=>
   (jD (decide (0<=(IntKind.i64.wrap (r1+(eT.length:Int))))&&decide ((IntKind.i64.wrap (r1+(eT.length:Int)))<=((aa).length:Int)))).bind fun u8=>
   some ((aa.take (r1).toNat),(aa.drop ((IntKind.i64.wrap (r1+(eT.length:Int)))).toNat),true))
 else (
   some (aa,[],false))
theorem TV{aa eT:List UInt8}{R:(List UInt8)×(List UInt8)×Bool}(hF:A9 aa eT=some R):
   Fw.Spec Tryz.prog 66 [(sv aa),(sv eT)] [] (fun _:Unit=>(.tuple [(sv R.1),(sv R.2.1),(.bool R.2.2)].toArray)) (fun _=>[]):=by
 refine Se 23 Tryz.func66 [.tmp 4,.tmp 5,.tmp 6] ?_
 intro H0 F0
 unfold A9 at hF
 refine fU ?_
 refine bnd hF fun r1 hx2 hF=>aB (TU hx2) (fun _=>?_)
 refine bz ?_
 refine Ci hF (fun acY hF=>?_) (fun acY hF=>?_)
 · refine gF [0,1,2,3,4,5,6,7,8,9,10,11] [0,0,3,0,0,0,32,112,248,7,1023,2047] [] mixed (by decide+kernel) ?_
   refine fD ?_
   refine bnd hF fun u5 hx6 hF=>?_
   have hc4:=kV hx6
   simp only[Bool.and_eq_true,decide_eq_true_eq]at hc4
   refine bn rfl .no (fun ha=>BS (s:=aa) (j:=r1) dG (EN ha (.tmp rfl rfl) rfl) (EN ha (.tmp rfl rfl) rfl) hc4.1 hc4.2) ?_
   refine iD ?_
   refine bn rfl .no (fun ha=>ig (s:=eT) dG (EN ha (.tmp rfl rfl) rfl)) ?_
   refine du ?_
   refine bnd hF fun u8 bS hF=>?_
   have Mi:=kV bS
   simp only[Bool.and_eq_true,decide_eq_true_eq]at Mi
   refine bn rfl .no (fun ha=>zq (s:=aa) (i:=(IntKind.i64.wrap (r1+(eT.length:Int)))) dG (EN ha (.tmp rfl rfl) rfl) (EN ha (.tmp rfl rfl) rfl) Mi.1 Mi.2) ?_
   refine tZ ?_
   exact ze hF
 exact ze hF
def rG(aa:List UInt8)(eT:List UInt8):Option ((List UInt8)×(List UInt8)×Bool):=
 (A9 aa eT).bind fun r1=>
 some (r1.1,r1.2.1,r1.2.2)
theorem Ih{aa eT:List UInt8}{R:(List UInt8)×(List UInt8)×Bool}(hF:rG aa eT=some R):
   Fw.Spec Tryz.prog 29 [(sv aa),(sv eT)] [] (fun _:Unit=>(.tuple [(sv R.1),(sv R.2.1),(.bool R.2.2)].toArray)) (fun _=>[]):=by
 refine Se 13 Tryz.func29 [.tmp 4,.tmp 5,.tmp 6] ?_
 intro H0 F0
 unfold rG at hF
 refine dB ?_
 refine bnd hF fun r1 hx2 hF=>aB (TV hx2) (fun _=>?_)
 refine zx ?_
 refine zx ?_
 refine zx ?_
 exact ze hF
def Bu:Option ((List (List UInt8))):=
 some ([[],[109,101,116,104,111,100],[114,117,108,101],[97,100,100],[100,114,111,112],[119,97,105,116],[97,115,107]]:List (List UInt8))
theorem Nz{R:(List (List UInt8))}(hF:Bu=some R):
   Fw.Spec Tryz.prog 31 [] [] (fun p:Sv×List Nat=>p.1.v) (fun p=>[uE p.2 p.1 R]):=by
 refine Se 2 Tryz.func31 [.tmp 0] ?_
 intro H0 F0
 unfold Bu at hF
 refine aA ?_
 refine eF rfl (dN (g:=true) fI.h gy.h (.cons (.sv _) (.cons (.sv _) (.cons (.sv _) (.cons (.sv _) (.cons (.sv _) (.cons (.sv _) (.cons (.sv _) .nil))))))) (vs:=[(sv []),(sv [109,101,116,104,111,100]),(sv [114,117,108,101]),(sv [97,100,100]),(sv [100,114,111,112]),(sv [119,97,105,116]),(sv [97,115,107])]) rfl rfl rfl (by intro v hv; simp at hv; rcases hv with rfl|rfl|rfl|rfl|rfl|rfl|rfl<;>rfl)) (fun k1=>?_)
 refine fF (.cons .h .nil) (dP (Ro:=(aK rdStr)) (E:=9) (F:=([]++([]++([]++([]++([]++([]++([]++[])))))))) (xs:=([[],[109,101,116,104,111,100],[114,117,108,101],[97,100,100],[100,114,111,112],[119,97,105,116],[97,115,107]]:List (List UInt8))) (dM (eP (fun _=>rfl)) (dM (eP (fun _=>rfl)) (dM (eP (fun _=>rfl)) (dM (eP (fun _=>rfl)) (dM (eP (fun _=>rfl)) (dM (eP (fun _=>rfl)) (dM (eP (fun _=>rfl)) dO bP) bP) bP) bP) bP) bP) bP) rfl rfl) ?_
 refine ax ?_
 cases hF
 exact Er (⟨(some ⟨k1,0,none⟩),7,1⟩,(k1::([]++([]++([]++([]++([]++([]++([]++[])))))))))
def p_(gJ:List UInt8):List (List UInt8)->Nat->Option (Int)
 |[],k4=>some (-1)
 |x6::aM,k4=>if (gJ==x6)then (
     some (k4:Int))
   else (
     p_ gJ aM (k4+1))
def ry(aa:List (List UInt8))(gJ:List UInt8):Option (Int):=
 p_ gJ aa 0
theorem MR{aa:List (List UInt8)}{ae:Sv}{gJ:List UInt8}{R:Int}(hF:ry aa gJ=some R):
   Fw.Spec Tryz.prog 30 [ae.v,(sv gJ)] [jl ae aa] (fun _:Unit=>(zi R)) (fun _=>[]):=by
 refine Se 19 Tryz.func30 [.tmp 4] ?_
 intro H0 F0
 unfold ry at hF
 refine fU ?_
 refine bF (bU (m:=aa.length) (fun m2 f' cs'=>∃(g:Fr)(k4:Nat)(aM:List (List UInt8)),m2=aM.length/\f'=aH g [(0,ae.v),(1,(sv gJ)),(7,(zi (aa.length:Int))),(8,(zi (k4:Int)))]/\List.drop k4 aa=aM/\aF cs' [jl ae aa]/\p_ gJ aM k4=some R) ⟨_,0,_,rfl,aJ,rfl,aI,hF⟩ ?_)
 rintro m2 _ _ ⟨g3,k4,aM,rfl,rfl,hd7,hE,hF⟩
 refine Kb hE aa (fun mO=>?_)
 rcases aM with _|⟨x6,aM⟩
 · have gQ:=dn hd7
   rw[p_]at hF
   refine aA ?_
   refine dJ ?_
   exact ze hF
 obtain⟨gQ,bS,ic⟩:=dD hd7
 rw[p_]at hF
 refine aA ?_
 refine dI ?_
 refine jT ?_
 refine Ai bS (fun k13 nQ=>?_)
 refine Al fw ?_
 refine ai (oJ (s:=gJ) (t:=x6) (.tmp rfl rfl) (.tmp rfl rfl)) ?_
 refine au ?_
 refine Ci hF (fun yf hF=>?_) (fun yf hF=>?_)
 · exact ze hF
 refine aC ?_
 rw[wk k4]
 exact⟨_,cz _,_,k4+1,aM,rfl,aJ,ic,aI,hF⟩
def EU(aa:List UInt8):Option (Int×Bool):=
 if aa.length<=281474976710656 then some (tL aa)else none
theorem Uq{aa:List UInt8}{R:Int×Bool}(hF:EU aa=some R):
   Fw.Spec Tryz.prog 90 [sv aa] [] (fun p:Nat=>(.tuple [(zi R.1),(qD 219 p R.2)].toArray)) (fun _=>[]):=by
 unfold EU at hF
 split at hF
 · rename_i h
   cases hF
   exact WH fun w hv=>Wp Xd aa h w (iW.varE (P:=Tryz.prog) (fun w0 (h:aW.V Tryz.prog w0)=>And.left (And.right h)) hv.choose_spec) (iW.varE (P:=Tryz.prog) (fun w0 (h:aW.V Tryz.prog w0)=>And.left (And.right (And.right h))) hv.choose_spec)
 · simp at hF
def h_(cO:Int)(mM:Int)(oG:Int):Option (Bool):=
 some ((decide ((mM:Int)<=cO))&&(decide ((cO:Int)<=oG)))
theorem jF{cO mM oG:Int}{R:Bool}(hF:h_ cO mM oG=some R):
   Fw.Spec Tryz.prog 60 [(zi cO),(zi mM),(zi oG)] [] (fun _:Unit=>(.bool R)) (fun _=>[]):=by
 refine Se 15 Tryz.func60 [.tmp 6] ?_
 intro H0 F0
 unfold h_ at hF
 refine aA ?_
 refine bZ (fun f' cs'=>∃(g:Fr),f'=aH g [(6,(.bool ((decide ((mM:Int)<=cO))&&(decide ((cO:Int)<=oG)))))]/\aF cs' []) ?_ ?_
 · refine aA ?_
   rcases a_ (decide ((mM:Int)<=cO))with hg1|hg1
   · rw[hg1]
     try rw[hg1]at hF; dsimp only[ak,aj]at hF
     refine fU ?_
     exact⟨_,aJ,aI⟩
   rw[hg1]
   try rw[hg1]at hF; dsimp only[ak,aj]at hF
   refine bz ?_
   exact⟨_,aJ,aI⟩
 rintro _ _ ⟨g2,rfl,hE⟩
 refine bg hE ?_
 exact ze hF
def Bg(cO:Int):Option (List UInt8):=
 if -9223372036854775808<=cO/\cO<=9223372036854775807 then some (Lib.itoa cO)else none
theorem Ur{cO:Int}{R:List UInt8}(hF:Bg cO=some R):
   Fw.Spec Tryz.prog 135 [.int .i64 cO] [] (fun _:Unit=>(sv R)) (fun _=>[]):=by
 unfold Bg at hF
 split at hF
 · rename_i h
   cases hF
   exact WF fun w hv=>Go.Proofs.Any.strconv_Itoa Xe cO h.1 h.2 w (iW.var (fun w0 (h:aW.V Tryz.prog w0)=>And.left h) hv.choose_spec)
 · simp at hF
def jc(cO:Int):Option ((List UInt8)):=
 (Bg cO).bind fun r1=>
 some r1
theorem kT{cO:Int}{R:(List UInt8)}(hF:jc cO=some R):
   Fw.Spec Tryz.prog 91 [(zi cO)] [] (fun _:Unit=>(sv R)) (fun _=>[]):=by
 refine Se 5 Tryz.func91 [.tmp 2] ?_
 intro H0 F0
 unfold jc at hF
 refine aC ?_
 refine bnd hF fun r1 hx2 hF=>aB (Ur hx2) (fun _=>?_)
 exact ze hF
def g_(aa:List UInt8):Option (Int×Bool):=
 (EU aa).bind fun r1=>
 (bif (!r1.2)then (some true)
   else ((h_ r1.1 (-999999999) 999999999).bind fun r7=>
     bif (!r7)then (some true)
     else ((jc r1.1).bind fun kC=>
       some (!(kC==aa))))).bind fun o4=>
 match o4 with
 |c14=>if c14 then (
     some (0,false))
   else (
     some (r1.1,true))
theorem lL{aa:List UInt8}{R:Int×Bool}(hF:g_ aa=some R):
   Fw.Spec Tryz.prog 59 [(sv aa)] [] (fun _:Unit=>(.tuple [(.int .i64 R.1),(.bool R.2)].toArray)) (fun _=>[]):=by
 refine Fe (n:=25) Tryz.func59 rfl rfl (rs:=[.tmp 2,.tmp 3]) rfl rfl rfl ?_
 intro H0 F0
 unfold g_ at hF
 refine dw (ai (iO (v:=(.int .i64 0)) (.int _ _)) ?_)
 refine ai (iO (v:=(.bool false)) (.bool _)) ?_
 refine dW (dw (Cm (sv aa) rfl rfl ?_))
 obtain⟨r1,hx2,hF⟩:=bind_some hF
 refine mP .nil (bT abJ.h (.cons (.tmp rfl rfl) .nil) (@Uq aa _ hx2)) (fun p3=>?_)
 refine Cm (.tuple [(.int .i64 r1.1),(qD 219 p3 r1.2)].toArray) rfl rfl ?_
 refine ai (BR (l:=[(.int .i64 r1.1),(qD 219 p3 r1.2)]) (v:=(.int .i64 r1.1)) (.tmp rfl rfl) rfl) ?_
 refine ai (BR (l:=[(.int .i64 r1.1),(qD 219 p3 r1.2)]) (v:=(qD 219 p3 r1.2)) (.tmp rfl rfl) rfl) ?_
 refine Ca (.int .i64 r1.1) rfl rfl ?_
 refine Ca (qD 219 p3 r1.2) rfl rfl ?_
 refine dW (jw ?_)
 obtain⟨o4,acZ,Ti⟩:=bind_some hF
 refine dw (bZ (fun f' cs'=>∃(c14:Bool)(g:Fr),c14=o4/\f'=aH g [(4,(.int .i64 r1.1)),(23,(.bool c14))]/\aF cs' []) ?_ ?_)
 · replace hF:=acZ
   refine Cm (qD 219 p3 r1.2) rfl rfl ?_
   refine ai (XG (k:=p3) (b:=r1.2) Yk (.tmp rfl rfl)) ?_
   refine Cm (.bool (!r1.2)) rfl rfl ?_
   rcases Bool.eq_false_or_eq_true (!r1.2)with gU|gU
   · rw[gU]
     try rw[gU]at hF; dsimp only[cond_true,cond_false]at hF
     iterate 3 refine zV (t:=13) rfl rfl rfl ?_
     refine ai (sD (b:=true) (u:=(.bool true)) (v:=undef) (.tmp rfl rfl) (.bool _) (.tmp rfl rfl)) ?_
     refine Cm (.bool true) rfl rfl ?_
     iterate 4 refine zV (t:=18) rfl rfl rfl ?_
     refine ai (sD (b:=true) (u:=(.bool true)) (v:=undef) (.tmp rfl rfl) (.bool _) (.tmp rfl rfl)) ?_
     refine dW ?_
     obtain rfl:=Option.some.inj hF
     exact⟨_,_,rfl,(bB.cons rfl (bB.cons rfl (bB.nil))).eq,(.sel .nil)⟩
   rw[gU]
   try rw[gU]at hF; dsimp only[cond_true,cond_false]at hF
   refine lg (t:=13) rfl rfl rfl ?_
   refine Cm (.int .i64 r1.1) rfl rfl ?_
   refine lg (t:=13) rfl rfl rfl ?_
   obtain⟨r7,gZ,hF⟩:=bind_some hF
   refine mP .nil (bT abK.h (.cons (.tmp rfl rfl) (.cons (.int _ _) (.cons (.int _ _) .nil))) (@jF r1.1 (-999999999) 999999999 _ gZ)) (fun _=>?_)
   refine lg (t:=13) rfl rfl rfl ?_
   refine ai (zU (b:=r7) (.tmp rfl rfl)) ?_
   refine ai (sD (b:=false) (u:=(.bool true)) (v:=(.bool (!r7))) (.tmp rfl rfl) (.bool _) (.tmp rfl rfl)) ?_
   refine Cm (.bool (!r7)) rfl rfl ?_
   rcases Bool.eq_false_or_eq_true (!r7)with kI|kI
   · rw[kI]
     try rw[kI]at hF; dsimp only[cond_true,cond_false]at hF
     iterate 4 refine zV (t:=18) rfl rfl rfl ?_
     refine ai (sD (b:=true) (u:=(.bool true)) (v:=undef) (.tmp rfl rfl) (.bool _) (.tmp rfl rfl)) ?_
     refine dW ?_
     obtain rfl:=Option.some.inj hF
     exact⟨_,_,rfl,(bB.cons rfl (bB.cons rfl (bB.nil))).eq,(.sel .nil)⟩
   rw[kI]
   try rw[kI]at hF; dsimp only[cond_true,cond_false]at hF
   refine lg (t:=18) rfl rfl rfl ?_
   refine Cm (.int .i64 r1.1) rfl rfl ?_
   refine lg (t:=18) rfl rfl rfl ?_
   obtain⟨kC,lu,hF⟩:=bind_some hF
   refine mP .nil (bT abL.h (.cons (.tmp rfl rfl) .nil) (@kT r1.1 _ lu)) (fun _=>?_)
   refine lg (t:=18) rfl rfl rfl ?_
   refine Cm (sv aa) rfl rfl ?_
   refine lg (t:=18) rfl rfl rfl ?_
   refine ai (iP (s:=kC) (t:=aa) (.tmp rfl rfl) (.tmp rfl rfl)) ?_
   refine ai (sD (b:=false) (u:=(.bool true)) (v:=(.bool (!(kC==aa)))) (.tmp rfl rfl) (.bool _) (.tmp rfl rfl)) ?_
   refine dW ?_
   obtain rfl:=Option.some.inj hF
   exact⟨_,_,rfl,(bB.cons rfl (bB.cons rfl (bB.nil))).eq,(.sel .nil)⟩
 rintro _ _ ⟨c14,g16,rfl,rfl,hE⟩
 replace hF:=Ti
 clear Ti
 try dsimp only at hF
 refine bg hE ?_
 refine lN (b:=c14) (.tmp rfl rfl) (fun xV=>?_) (fun xV=>?_)
 · rw[if_pos xV]at hF
   refine dw (ai (iO (v:=(.int .i64 0)) (.int _ _)) ?_)
   refine ai (iO (v:=(.bool false)) (.bool _)) ?_
   refine dW (qw ?_)
   obtain rfl:=Option.some.inj hF
   exact dx () (.tmp rfl rfl (.tmp rfl rfl .nil)) rfl (.sel .nil)
 rw[if_neg (by rw[xV]; exact Bool.false_ne_true)]at hF
 refine om (dw (Cm (.int .i64 r1.1) rfl rfl ?_))
 refine Ca (.int .i64 r1.1) rfl rfl ?_
 refine ai (iO (v:=(.bool true)) (.bool _)) ?_
 refine dW (qw ?_)
 obtain rfl:=Option.some.inj hF
 exact dx () (.tmp rfl rfl (.tmp rfl rfl .nil)) rfl (.sel .nil)
def nu:List (List UInt8)->Nat->(List Int)->Option ((List Int)×Bool)
 |[],k8,c2=>some (c2,true)
 |gD::dz,k8,c2=>(g_ gD).bind fun nP=>
   if (!nP.2)then (
     some ([],false))
   else (
     (app c2 ([nP.1]:List Int)).bind fun z23=>
     nu dz (k8+1) z23)
def vJ(jq:List (List UInt8)):Option ((List Int)×Bool):=
 nu jq 0 ([]:List Int)
theorem Il{jq:List (List UInt8)}{ae:Sv}{R:(List Int)×Bool}(hF:vJ jq=some R):
   Fw.Spec Tryz.prog 76 [ae.v] [jl ae jq] (fun p:Sv×List Nat=>(.tuple [p.1.v,(.bool R.2)].toArray)) (fun p=>[bV p.2 p.1 R.1]):=by
 refine Se 29 Tryz.func76 [.tmp 2,.tmp 3] ?_
 intro H0 F0
 unfold vJ at hF
 refine aC ?_
 refine eF rfl (dN (g:=true) eZ.h ek.h .nil (vs:=[]) rfl rfl rfl (by simp)) (fun k1=>?_)
 refine fF (.cons .h .nil) (dP (Ro:=(aK aY)) (E:=3) (F:=[]) (xs:=([]:List Int)) dO rfl rfl) ?_
 refine dB ?_
 refine bF (bU (m:=jq.length) (fun m6 f' cs'=>∃(g:Fr)(k8:Nat)(dz:List (List UInt8))(c2:List Int)(v3:Sv)(F4:List Nat),m6=dz.length/\f'=aH g [(4,v3.v),(10,ae.v),(11,(zi (jq.length:Int))),(12,(zi (k8:Int)))]/\List.drop k8 jq=dz/\aF cs' [bV F4 v3 c2,jl ae jq]/\nu dz k8 c2=some R) ⟨_,0,_,_,⟨(some ⟨k1,0,none⟩),0,1⟩,(k1::[]),rfl,aJ,rfl,aI,hF⟩ ?_)
 rintro m6 _ _ ⟨g7,k8,dz,c2,v3,F4,rfl,rfl,ji,hE,hF⟩
 refine Kb hE jq (fun Gd=>?_)
 rcases dz with _|⟨gD,dz⟩
 · have uw:=dn ji
   rw[nu]at hF
   refine aA ?_
   refine dJ ?_
   refine jT ?_
   cases hF
   exact Er (v3,F4)
 obtain⟨uw,eY,uy⟩:=dD ji
 rw[nu]at hF
 refine aA ?_
 refine dI ?_
 refine ax ?_
 refine Ai eY (fun k17 j18=>?_)
 refine Al fw ?_
 refine aA ?_
 refine bnd hF fun nP iK hF=>aB (lL iK) (fun _=>?_)
 refine au ?_
 refine zx ?_
 refine zx ?_
 refine dB ?_
 refine Ci hF (fun K6 hF=>?_) (fun K6 hF=>?_)
 · refine aC ?_
   cases hF
   exact dx (⟨none,0,0⟩,[]) (.tmp rfl rfl (.tmp rfl rfl .nil)) rfl (.conv .nil (dV (Ro:=(aK aY)) (E:=3)) (.cons .nil) (.sel (.cons .h .nil)))
 refine aA ?_
 refine eF rfl (dN (g:=true) eZ.h ek.h bG (vs:=[(zi nP.1)]) rfl rfl rfl (by intro v hv; simp at hv; rcases hv with rfl<;>rfl)) (fun k22=>?_)
 refine fF (.cons .h .nil) (dP (Ro:=(aK aY)) (E:=3) (F:=([]++[])) (xs:=([nP.1]:List Int)) (dM (eP (fun _=>rfl)) dO bP) rfl rfl) ?_
 refine bnd hF fun z23 hx24 hF=>bX (.cons .q2 (.cons .h .nil)) (iH (Ro:=(aK aY)) eZ.h mQ ek.h rfl rfl rfl (.tmp rfl rfl) (.tmp rfl rfl) hx24 iI) (fun p25=>?_)
 refine bz ?_
 rw[wk k8]
 exact⟨_,cz _,_,k8+1,dz,_,p25.1,p25.2,rfl,aJ,uy,aI,hF⟩
def wO(aa:List UInt8)(f_:List UInt8):Option (Bool):=
 (bif (decide (((f_.length:Int):Int)<=(aa.length:Int)))then ((jD (decide (0<=(f_.length:Int))&&decide ((f_.length:Int)<=((aa).length:Int)))).bind fun u5=>
     some ((aa.take ((f_.length:Int)).toNat)==f_))
   else (some false)).bind fun o1=>
 match o1 with
 |c7=>some c7
theorem TS{aa f_:List UInt8}{R:Bool}(hF:wO aa f_=some R):
   Fw.Spec Tryz.prog 162 [(sv aa),(sv f_)] [] (fun _:Unit=>(.bool R)) (fun _=>[]):=by
 refine Se 18 Tryz.func162 [.tmp 4] ?_
 intro H0 F0
 unfold wO at hF
 refine ax ?_
 obtain⟨o1,jW,hO2⟩:=bind_some hF
 refine au ?_
 refine bZ (fun f' cs'=>∃(c7:Bool)(g:Fr),c7=o1/\f'=aH g [(4,(.bool c7))]/\aF cs' []) ?_ ?_
 · replace hF:=jW
   refine au ?_
   refine ai (ig (s:=aa) dG (.tmp rfl rfl)) ?_
   refine au ?_
   refine ai (ig (s:=f_) dG (.tmp rfl rfl)) ?_
   refine aG ?_
   rcases a_ (decide (((f_.length:Int):Int)<=(aa.length:Int)))with hg3|hg3
   · rw[hg3]
     try rw[hg3]at hF; dsimp only[ak,aj]at hF
     refine aC ?_
     refine ai (ig (s:=f_) dG (.tmp rfl rfl)) ?_
     refine au ?_
     refine bnd hF fun u5 hx6 hF=>?_
     have hc4:0<=(f_.length:Int)/\(f_.length:Int)<=((aa).length:Int):=by (have hq:=kV hx6; clear hF; simp only[Bool.and_eq_true,decide_eq_true_eq]at*; omega)
     refine ai (BS (s:=aa) (j:=(f_.length:Int)) dG (.tmp rfl rfl) (.tmp rfl rfl) hc4.1 hc4.2) ?_
     refine ax ?_
     refine ai (oJ (s:=(aa.take ((f_.length:Int)).toNat)) (t:=f_) (.tmp rfl rfl) (.tmp rfl rfl)) ?_
     exact aO hF
   rw[hg3]
   try rw[hg3]at hF; dsimp only[ak,aj]at hF
   exact aO hF
 rintro _ _ ⟨c7,g8,rfl,rfl,hE⟩
 replace hF:=hO2
 try dsimp only at hF
 refine bg hE ?_
 exact ze hF
def AY(aa:List UInt8)(f_:List UInt8):Option ((List UInt8)):=
 (wO aa f_).bind fun r1=>
 if r1 then (
   (jD (decide (0<=(f_.length:Int))&&decide ((f_.length:Int)<=((aa).length:Int)))).bind fun u5=>
   some (aa.drop ((f_.length:Int)).toNat))
 else (
   some aa)
theorem TQ{aa f_:List UInt8}{R:(List UInt8)}(hF:AY aa f_=some R):
   Fw.Spec Tryz.prog 105 [(sv aa),(sv f_)] [] (fun _:Unit=>(sv R)) (fun _=>[]):=by
 refine Se 13 Tryz.func105 [.tmp 4] ?_
 intro H0 F0
 unfold AY at hF
 refine bK ?_
 refine bnd hF fun r1 hx2 hF=>aB (TS hx2) (fun _=>?_)
 refine au ?_
 refine Ci hF (fun Mj hF=>?_) (fun Mj hF=>?_)
 · refine ax ?_
   refine ai (ig (s:=f_) dG (.tmp rfl rfl)) ?_
   refine bnd hF fun u5 hx6 hF=>?_
   have hc4:=kV hx6
   simp only[Bool.and_eq_true,decide_eq_true_eq]at hc4
   refine ai (zq (s:=aa) (i:=(f_.length:Int)) dG (.tmp rfl rfl) (.tmp rfl rfl) hc4.1 hc4.2) ?_
   exact ze hF
 exact ze hF
def lJ(aa:List UInt8)(f_:List UInt8):Option ((List UInt8)):=
 (AY aa f_).bind fun r1=>
 some r1
theorem yQ{aa f_:List UInt8}{R:(List UInt8)}(hF:lJ aa f_=some R):
   Fw.Spec Tryz.prog 77 [(sv aa),(sv f_)] [] (fun _:Unit=>(sv R)) (fun _=>[]):=by
 refine Se 8 Tryz.func77 [.tmp 4] ?_
 intro H0 F0
 unfold lJ at hF
 refine bz ?_
 refine bnd hF fun r1 hx2 hF=>aB (TQ hx2) (fun _=>?_)
 exact ze hF
def E5(cO:Int):Option (Bool):=
 (h_ cO 1 3).bind fun r1=>
 some (!r1)
theorem UJ{cO:Int}{R:Bool}(hF:E5 cO=some R):
   Fw.Spec Tryz.prog 204 [(zi cO)] [] (fun _:Unit=>(.bool R)) (fun _=>[]):=by
 refine Se 6 Tryz.func204 [.tmp 2] ?_
 intro H0 F0
 unfold E5 at hF
 refine aC ?_
 refine bnd hF fun r1 hx2 hF=>aB (jF hx2) (fun _=>?_)
 exact ze hF
def yN:List Int->Nat->Option (Int)
 |[],k4=>some (-1)
 |x6::aM,k4=>(E5 x6).bind fun dY=>
   if dY then (
     some (k4:Int))
   else (
     yN aM (k4+1))
def EL(aa:List Int):Option (Int):=
 yN aa 0
theorem TM{aa:List Int}{ae:Sv}{R:Int}(hF:EL aa=some R):
   Fw.Spec Tryz.prog 228 [ae.v,(.func (.func 204) [].toArray [].toArray)] [aD ae aa] (fun _:Unit=>(zi R)) (fun _=>[]):=by
 refine Se 19 Tryz.func228 [.tmp 4] ?_
 intro H0 F0
 unfold EL at hF
 refine fU ?_
 refine bF (bU (m:=aa.length) (fun m2 f' cs'=>∃(g:Fr)(k4:Nat)(aM:List Int),m2=aM.length/\f'=aH g [(0,ae.v),(1,(.func (.func 204) [].toArray [].toArray)),(7,(zi (aa.length:Int))),(8,(zi (k4:Int)))]/\List.drop k4 aa=aM/\aF cs' [aD ae aa]/\yN aM k4=some R) ⟨_,0,_,rfl,aJ,rfl,aI,hF⟩ ?_)
 rintro m2 _ _ ⟨g3,k4,aM,rfl,rfl,hd7,hE,hF⟩
 refine Kb hE aa (fun mO=>?_)
 rcases aM with _|⟨x6,aM⟩
 · have gQ:=dn hd7
   rw[yN]at hF
   refine aA ?_
   refine dJ ?_
   exact ze hF
 obtain⟨gQ,bS,ic⟩:=dD hd7
 rw[yN]at hF
 refine aA ?_
 refine dI ?_
 refine jT ?_
 refine Ai bS (fun k13 nQ=>?_)
 refine Al dE ?_
 refine bnd hF fun dY hx16 hF=>mP .nil (vQ Zp.h (.tmp rfl rfl) bG (UJ hx16)) (fun _=>?_)
 refine au ?_
 refine Ci hF (fun pu hF=>?_) (fun pu hF=>?_)
 · exact ze hF
 refine aC ?_
 rw[wk k4]
 exact⟨_,cz _,_,k4+1,aM,rfl,aJ,ic,aI,hF⟩
def AV(aa:List Int):Option (Bool):=
 (EL aa).bind fun r1=>
 some (decide ((0:Int)<=r1))
theorem TG{aa:List Int}{ae:Sv}{R:Bool}(hF:AV aa=some R):
   Fw.Spec Tryz.prog 164 [ae.v,(.func (.func 204) [].toArray [].toArray)] [aD ae aa] (fun _:Unit=>(.bool R)) (fun _=>[]):=by
 refine Se 9 Tryz.func164 [.tmp 4] ?_
 intro H0 F0
 unfold AV at hF
 refine bz ?_
 refine bnd hF fun r1 hx2 hF=>aB (TM hx2) (fun _=>?_)
 exact ze hF
def zm(aa:List Int):Option (Bool):=
 ((h_ (aa.length:Int) 1 3).bind fun r3=>
   bif r3 then ((AV aa).bind fun r7=>
     some (!r7))
   else (some false)).bind fun o1=>
 match o1 with
 |c10=>some c10
theorem NZ{aa:List Int}{ae:Sv}{R:Bool}(hF:zm aa=some R):
   Fw.Spec Tryz.prog 142 [ae.v] [aD ae aa] (fun _:Unit=>(.bool R)) (fun _=>[]):=by
 refine Se 11 Tryz.func142 [.tmp 2] ?_
 intro H0 F0
 unfold zm at hF
 refine ax ?_
 obtain⟨o1,jW,hO2⟩:=bind_some hF
 refine au ?_
 refine bZ (fun f' cs'=>∃(c10:Bool)(g:Fr),c10=o1/\f'=aH g [(2,(.bool c10))]/\aF cs' []) ?_ ?_
 · replace hF:=jW
   refine aG ?_
   refine bnd hF fun r3 hx4 hF=>aB (jF hx4) (fun _=>?_)
   refine au ?_
   rcases a_ r3 with gU|gU
   · rw[gU]
     try rw[gU]at hF; dsimp only[ak,aj]at hF
     refine ax ?_
     refine bnd hF fun r7 gZ hF=>aB (TG gZ) (fun _=>?_)
     exact aO hF
   rw[gU]
   try rw[gU]at hF; dsimp only[ak,aj]at hF
   exact aO hF
 rintro _ _ ⟨c10,g11,rfl,rfl,hE⟩
 replace hF:=hO2
 try dsimp only at hF
 refine bg hE ?_
 exact ze hF
def rX(aa:List Int)(tO:Int):Option (Bool):=
 ((zm aa).bind fun r3=>
   bif r3 then ((h_ tO 0 (IntKind.i64.wrap ((aa.length:Int)-1))).bind fun r7=>
     some r7)
   else (some false)).bind fun o1=>
 match o1 with
 |c10=>some c10
theorem BF{aa:List Int}{ae:Sv}{tO:Int}{R:Bool}(hF:rX aa tO=some R):
   Fw.Spec Tryz.prog 106 [ae.v,(zi tO)] [aD ae aa] (fun _:Unit=>(.bool R)) (fun _=>[]):=by
 refine Se 14 Tryz.func106 [.tmp 4] ?_
 intro H0 F0
 unfold rX at hF
 refine ax ?_
 obtain⟨o1,jW,hO2⟩:=bind_some hF
 refine au ?_
 refine bZ (fun f' cs'=>∃(c10:Bool)(g:Fr),c10=o1/\f'=aH g [(4,(.bool c10))]/\aF cs' []) ?_ ?_
 · replace hF:=jW
   refine au ?_
   refine bnd hF fun r3 hx4 hF=>aB (NZ hx4) (fun _=>?_)
   refine au ?_
   rcases a_ r3 with gU|gU
   · rw[gU]
     try rw[gU]at hF; dsimp only[ak,aj]at hF
     refine fU ?_
     refine bnd hF fun r7 gZ hF=>aB (jF gZ) (fun _=>?_)
     exact aO hF
   rw[gU]
   try rw[gU]at hF; dsimp only[ak,aj]at hF
   exact aO hF
 rintro _ _ ⟨c10,g11,rfl,rfl,hE⟩
 replace hF:=hO2
 try dsimp only at hF
 refine bg hE ?_
 exact ze hF
def wU(bi:List Int):List Int->Nat->Option (Bool)
 |[],k4=>some true
 |x6::aM,k4=>(bif (decide ((0:Int)<(k4:Int)))then ((ix bi (IntKind.i64.wrap ((k4:Int)-1))).bind fun nU=>
       some (decide ((x6:Int)<=nU)))
     else (some false)).bind fun yH=>
   match yH with
   |c24=>if c24 then (
       some false)
     else (
       wU bi aM (k4+1))
def BG(bi:List Int):Option (Bool):=
 wU bi bi 0
theorem Va{bi:List Int}{ae:Sv}{R:Bool}(hF:BG bi=some R):
   Fw.Spec Tryz.prog 163 [ae.v] [aD ae bi] (fun _:Unit=>(.bool R)) (fun _=>[]):=by
 refine Se 24 Tryz.func163 [.tmp 2] ?_
 intro H0 F0
 unfold BG at hF
 refine fU ?_
 refine bF (bU (m:=bi.length) (fun m2 f' cs'=>∃(g:Fr)(k4:Nat)(aM:List Int),m2=aM.length/\f'=aH g [(0,ae.v),(5,(zi (bi.length:Int))),(6,(zi (k4:Int)))]/\List.drop k4 bi=aM/\aF cs' [aD ae bi]/\wU bi aM k4=some R) ⟨_,0,_,rfl,aJ,rfl,aI,hF⟩ ?_)
 rintro m2 _ _ ⟨g3,k4,aM,rfl,rfl,hd7,hE,hF⟩
 refine Kb hE bi (fun mO=>?_)
 rcases aM with _|⟨x6,aM⟩
 · have gQ:=dn hd7
   rw[wU]at hF
   refine aA ?_
   refine dJ ?_
   exact ze hF
 obtain⟨gQ,bS,ic⟩:=dD hd7
 rw[wU]at hF
 refine aA ?_
 refine dI ?_
 refine bz ?_
 obtain⟨yH,JM,K_⟩:=bind_some hF
 refine gF [0,1,2,3,4,5,6,7,8,9,10,11,12,13] [0,1,3,7,7,31,63,7,7,263,903,1927,4095,8191] [] mixed (by decide+kernel) ?_
 refine qz (fun f' cs'=>∃(c24:Bool)(g:Fr),c24=yH/\f'=aH g [(0,ae.v),(5,(zi (bi.length:Int))),(6,(zi (k4:Int))),(22,(.bool c24))]/\aF cs' [aD ae bi]) ?_ ?_
 · replace hF:=JM
   refine iD ?_
   rcases a_ (decide ((0:Int)<(k4:Int)))with gN|gN
   · rw[gN]
     try rw[gN]at hF; dsimp only[ak,aj]at hF
     refine fD ?_
     refine Di bS (fun k16 Em=>?_)
     refine Dl dE ?_
     refine iD ?_
     refine zI hF fun nU J4 iR hF=>?_
     refine Di iR (fun k22 j23=>?_)
     refine Dl dE ?_
     exact gH hF
   rw[gN]
   try rw[gN]at hF; dsimp only[ak,aj]at hF
   exact gH hF
 rintro _ _ ⟨c24,g27,rfl,rfl,hE⟩
 replace hF:=K_
 try dsimp only at hF
 refine bg hE ?_
 refine Ci hF (fun yc hF=>?_) (fun yc hF=>?_)
 · exact ze hF
 refine aC ?_
 rw[wk k4]
 exact⟨_,cz _,_,k4+1,aM,rfl,aJ,ic,aI,hF⟩
def Bd(uN:Int)(bH:Int):Option (Bool):=
 (h_ uN 0 (IntKind.i64.wrap (bH-1))).bind fun r1=>
 some (!r1)
theorem Uk{uN:Int}{eu:Nat}{bH:Int}{R:Bool}(hF:Bd uN bH=some R):
   Fw.Spec Tryz.prog 165 [(zi uN),(pz eu)] [cZ eu 3 (zi bH)] (fun _:Unit=>(.bool R)) (fun _=>[]):=by
 refine Se 9 Tryz.func165 [.tmp 3] ?_
 intro H0 F0
 unfold Bd at hF
 refine bK ?_
 refine bnd hF fun r1 hx2 hF=>aB (jF hx2) (fun _=>?_)
 exact ze hF
def yL(bH:Int):List Int->Nat->Option (Int)
 |[],k4=>some (-1)
 |x6::aM,k4=>(Bd x6 bH).bind fun dY=>
   if dY then (
     some (k4:Int))
   else (
     yL bH aM (k4+1))
def EJ(aa:List Int)(bH:Int):Option (Int):=
 yL bH aa 0
theorem TJ{aa:List Int}{ae:Sv}{eu:Nat}{bH R:Int}(hF:EJ aa bH=some R):
   Fw.Spec Tryz.prog 228 [ae.v,(.func (.func 165) [].toArray [(pz eu)].toArray)] [aD ae aa,cZ eu 3 (zi bH)] (fun _:Unit=>(zi R)) (fun _=>[]):=by
 refine Se 19 Tryz.func228 [.tmp 4] ?_
 intro H0 F0
 unfold EJ at hF
 refine fU ?_
 refine bF (bU (m:=aa.length) (fun m2 f' cs'=>∃(g:Fr)(k4:Nat)(aM:List Int),m2=aM.length/\f'=aH g [(0,ae.v),(1,(.func (.func 165) [].toArray [(pz eu)].toArray)),(7,(zi (aa.length:Int))),(8,(zi (k4:Int)))]/\List.drop k4 aa=aM/\aF cs' [aD ae aa,cZ eu 3 (zi bH)]/\yL bH aM k4=some R) ⟨_,0,_,rfl,aJ,rfl,aI,hF⟩ ?_)
 rintro m2 _ _ ⟨g3,k4,aM,rfl,rfl,hd7,hE,hF⟩
 refine Kb hE aa (fun mO=>?_)
 rcases aM with _|⟨x6,aM⟩
 · have gQ:=dn hd7
   rw[yL]at hF
   refine aA ?_
   refine dJ ?_
   exact ze hF
 obtain⟨gQ,bS,ic⟩:=dD hd7
 rw[yL]at hF
 refine aA ?_
 refine dI ?_
 refine jT ?_
 refine Ai bS (fun k13 nQ=>?_)
 refine Al dE ?_
 refine bnd hF fun dY hx16 hF=>mP (.rd .q2 rfl .nil) (vQ Zq.h (.tmp rfl rfl) bG (Uk hx16)) (fun _=>?_)
 refine au ?_
 refine Ci hF (fun pu hF=>?_) (fun pu hF=>?_)
 · exact ze hF
 refine aC ?_
 rw[wk k4]
 exact⟨_,cz _,_,k4+1,aM,rfl,aJ,ic,aI,hF⟩
def AR(aa:List Int)(bH:Int):Option (Bool):=
 (EJ aa bH).bind fun r1=>
 some (decide ((0:Int)<=r1))
theorem TC{aa:List Int}{ae:Sv}{eu:Nat}{bH:Int}{R:Bool}(hF:AR aa bH=some R):
   Fw.Spec Tryz.prog 164 [ae.v,(.func (.func 165) [].toArray [(pz eu)].toArray)] [aD ae aa,cZ eu 3 (zi bH)] (fun _:Unit=>(.bool R)) (fun _=>[]):=by
 refine Se 9 Tryz.func164 [.tmp 4] ?_
 intro H0 F0
 unfold AR at hF
 refine bz ?_
 refine bnd hF fun r1 hx2 hF=>aB (TJ hx2) (fun _=>?_)
 exact ze hF
def FC(cO:Int):Option (Bool):=
 (h_ cO 0 99).bind fun r1=>
 some r1
theorem VU{cO:Int}{R:Bool}(hF:FC cO=some R):
   Fw.Spec Tryz.prog 166 [(zi cO)] [] (fun _:Unit=>(.bool R)) (fun _=>[]):=by
 refine Se 5 Tryz.func166 [.tmp 2] ?_
 intro H0 F0
 unfold FC at hF
 refine aC ?_
 refine bnd hF fun r1 hx2 hF=>aB (jF hx2) (fun _=>?_)
 exact ze hF
def yY(aQ:Method)(su:Int):Option (Bool):=
 ((BG aQ.Inputs).bind fun r5=>
   bif r5 then ((AR aQ.Inputs su).bind fun r9=>
     bif (!r9)then ((h_ aQ.Limit 0 9).bind fun ky=>
       bif ky then ((FC aQ.Cost).bind fun gB=>
         bif gB then ((h_ aQ.Quota 1 99).bind fun fV=>
           some fV)
         else (some false))
       else (some false))
     else (some false))
   else (some false)).bind fun o3=>
 match o3 with
 |c24=>some c24
theorem Nr{aQ:Method}{bC:Sv}{su:Int}{R:Bool}(hF:yY aQ su=some R):
   Fw.Spec Tryz.prog 107 [(zg [(zi aQ.Rel),bC.v,(zi aQ.Limit),(zi aQ.Cost),(zi aQ.Quota)]),(zi su)] [aD bC aQ.Inputs] (fun _:Unit=>(.bool R)) (fun _=>[]):=by
 refine Se 30 Tryz.func107 [.tmp 4] ?_
 intro H0 F0
 unfold yY at hF
 refine au ?_
 refine fJ (fun k1=>?_)
 refine fJ (fun k2=>?_)
 refine aG ?_
 obtain⟨o3,La,hO4⟩:=bind_some hF
 refine au ?_
 refine bZ (fun f' cs'=>∃(c24:Bool)(g:Fr),c24=o3/\f'=aH g [(4,(.bool c24))]/\aF cs' []) ?_ ?_
 · replace hF:=La
   refine aG ?_
   refine bnd hF fun r5 hx6 hF=>aB (Va hx6) (fun _=>?_)
   refine au ?_
   rcases a_ r5 with jb|jb
   · rw[jb]
     try rw[jb]at hF; dsimp only[ak,aj]at hF
     refine aC ?_
     refine ai (ny (fn:=.func 165) (vs:=[]) (us:=[(pz k2)]) .nil bG) ?_
     refine au ?_
     refine bnd hF fun r9 iU hF=>aB (TC iU) (fun _=>?_)
     refine aA ?_
     rcases a_ (!r9)with gM|gM
     · rw[gM]
       try rw[gM]at hF; dsimp only[ak,aj]at hF
       refine aC ?_
       refine bnd hF fun ky jB hF=>aB (jF jB) (fun _=>?_)
       refine aG ?_
       rcases a_ ky with gP|gP
       · rw[gP]
         try rw[gP]at hF; dsimp only[ak,aj]at hF
         refine aC ?_
         refine bnd hF fun gB jX hF=>aB (VU jX) (fun _=>?_)
         refine aG ?_
         rcases a_ gB with D7|D7
         · rw[D7]
           try rw[D7]at hF; dsimp only[ak,aj]at hF
           refine aC ?_
           refine bnd hF fun fV o7 hF=>aB (jF o7) (fun _=>?_)
           exact aO hF
         rw[D7]
         try rw[D7]at hF; dsimp only[ak,aj]at hF
         exact aO hF
       rw[gP]
       try rw[gP]at hF; dsimp only[ak,aj]at hF
       exact aO hF
     rw[gM]
     try rw[gM]at hF; dsimp only[ak,aj]at hF
     exact aO hF
   rw[jb]
   try rw[jb]at hF; dsimp only[ak,aj]at hF
   exact aO hF
 rintro _ _ ⟨c24,SQ,rfl,rfl,hE⟩
 replace hF:=hO4
 try dsimp only at hF
 refine bg hE ?_
 exact ze hF
def xm(aa:List Int)(aQ:Method):Option (Bool):=
 ((rX aa aQ.Rel).bind fun r4=>
   bif r4 then ((ix aa aQ.Rel).bind fun x8=>
     (yY aQ x8).bind fun kQ=>
     some kQ)
   else (some false)).bind fun o2=>
 match o2 with
 |c17=>some c17
theorem N7{aa:List Int}{ae:Sv}{aQ:Method}{eG:Sv}{R:Bool}(hF:xm aa aQ=some R):
   Fw.Spec Tryz.prog 78 [ae.v,(zg [(zi aQ.Rel),eG.v,(zi aQ.Limit),(zi aQ.Cost),(zi aQ.Quota)])] [aD ae aa,aD eG aQ.Inputs] (fun _:Unit=>(.bool R)) (fun _=>[]):=by
 refine Se 18 Tryz.func78 [.tmp 4] ?_
 intro H0 F0
 unfold xm at hF
 refine au ?_
 refine fJ (fun k1=>?_)
 refine aG ?_
 obtain⟨o2,fP,hO3⟩:=bind_some hF
 refine gF [0,1,2,3,4,5,6,7,8,9,10,11,12,13] [0,0,2,7,15,31,31,31,159,479,991,2047,4095,8191] [3,11] mixed (by decide+kernel) ?_
 refine qz (fun f' cs'=>∃(c17:Bool)(g:Fr),c17=o2/\f'=aH g [(4,(.bool c17))]/\aF cs' []) ?_ ?_
 · replace hF:=fP
   refine iD ?_
   refine bnd hF fun r4 hx5 hF=>dm (BF hx5) (fun _=>?_)
   refine du ?_
   rcases a_ r4 with bf|bf
   · rw[bf]
     try rw[bf]at hF; dsimp only[ak,aj]at hF
     refine tZ ?_
     refine zI hF fun x8 JZ lm hF=>?_
     refine Di lm (fun k12 j13=>?_)
     refine Dl dE ?_
     refine bnd hF fun kQ jA hF=>dm (Nr jA) (fun _=>?_)
     exact gH hF
   rw[bf]
   try rw[bf]at hF; dsimp only[ak,aj]at hF
   exact gH hF
 rintro _ _ ⟨c17,g18,rfl,rfl,hE⟩
 replace hF:=hO3
 try dsimp only at hF
 refine bg hE ?_
 exact ze hF
def oz(tO:Int):Option (Bool):=
 (h_ tO 0 2).bind fun r1=>
 some r1
theorem BN{tO:Int}{R:Bool}(hF:oz tO=some R):
   Fw.Spec Tryz.prog 108 [(zi tO)] [] (fun _:Unit=>(.bool R)) (fun _=>[]):=by
 refine Se 5 Tryz.func108 [.tmp 2] ?_
 intro H0 F0
 unfold oz at hF
 refine aC ?_
 refine bnd hF fun r1 hx2 hF=>aB (jF hx2) (fun _=>?_)
 exact ze hF
def rE(bM:List (List UInt8))(eT:List UInt8):Option (List UInt8):=
 if bM.length<4294967296/\(Lib.join bM eT).length<4294967296 then some (Lib.join bM eT)else none
theorem EQ{bM:List (List UInt8)}{ae:Sv}{eT R:List UInt8}(hF:rE bM eT=some R):
   Fw.Spec Tryz.prog 167 [ae.v,sv eT] [jl ae bM] (fun _:Unit=>(sv R)) (fun _=>[]):=by
 unfold rE at hF
 split at hF
 · rename_i h
   cases hF
   exact WG gy.h.sz (Go.Proofs.Any.strings_Join_none Qj extra) (Go.Proofs.Any.strings_Join Qj extra) h.1 h.2
 · simp at hF
def vE(jK:List UInt8):List Int->Nat->(List (List UInt8))->Option ((List UInt8))
 |[],k8,c2=>(rE c2 jK).bind fun gB=>
   some gB
 |gD::dz,k8,c2=>(jc gD).bind fun iF=>
   (app c2 ([iF]:List (List UInt8))).bind fun z26=>
   vE jK dz (k8+1) z26
def xA(bi:List Int)(jK:List UInt8):Option ((List UInt8)):=
 vE jK bi 0 ([]:List (List UInt8))
theorem Iw{bi:List Int}{ae:Sv}{jK:List UInt8}{R:(List UInt8)}(hF:xA bi jK=some R):
   Fw.Spec Tryz.prog 109 [ae.v,(sv jK)] [aD ae bi] (fun _:Unit=>(sv R)) (fun _=>[]):=by
 refine Se 24 Tryz.func109 [.tmp 4] ?_
 intro H0 F0
 unfold xA at hF
 refine aA ?_
 refine eF rfl (dN (g:=true) fI.h gy.h .nil (vs:=[]) rfl rfl rfl (by simp)) (fun k1=>?_)
 refine fF (.cons .h .nil) (dP (Ro:=(aK rdStr)) (E:=9) (F:=[]) (xs:=([]:List (List UInt8))) dO rfl rfl) ?_
 refine dB ?_
 refine bF (bU (m:=bi.length) (fun m6 f' cs'=>∃(g:Fr)(k8:Nat)(dz:List Int)(c2:List (List UInt8))(v3:Sv)(F4:List Nat),m6=dz.length/\f'=aH g [(1,(sv jK)),(5,v3.v),(9,ae.v),(10,(zi (bi.length:Int))),(11,(zi (k8:Int)))]/\List.drop k8 bi=dz/\aF cs' [uE F4 v3 c2,aD ae bi]/\vE jK dz k8 c2=some R) ⟨_,0,_,_,⟨(some ⟨k1,0,none⟩),0,1⟩,(k1::[]),rfl,aJ,rfl,aI,hF⟩ ?_)
 rintro m6 _ _ ⟨g7,k8,dz,c2,v3,F4,rfl,rfl,ji,hE,hF⟩
 refine Kb hE bi (fun Gd=>?_)
 rcases dz with _|⟨gD,dz⟩
 · have uw:=dn ji
   rw[vE]at hF
   refine aA ?_
   refine dJ ?_
   refine bK ?_
   refine bnd hF fun gB jX hF=>bX (.cons .h .nil) (gm cu (fun _=>.nil) (bT F_.h bG (EQ jX))) (fun _=>?_)
   exact ze hF
 obtain⟨uw,eY,uy⟩:=dD ji
 rw[vE]at hF
 refine aA ?_
 refine dI ?_
 refine ax ?_
 refine Ai eY (fun k20 Hf=>?_)
 refine Al dE ?_
 refine aC ?_
 refine bnd hF fun iF jL hF=>aB (kT jL) (fun _=>?_)
 refine eF rfl (dN (g:=true) fI.h gy.h bG (vs:=[(sv iF)]) rfl rfl rfl (by intro v hv; simp at hv; rcases hv with rfl<;>rfl)) (fun k25=>?_)
 refine fF (.cons .h .nil) (dP (Ro:=(aK rdStr)) (E:=9) (F:=([]++[])) (xs:=([iF]:List (List UInt8))) (dM (eP (fun _=>rfl)) dO bP) rfl rfl) ?_
 refine bnd hF fun z26 hx27 hF=>bX (.cons .q2 (.cons .h .nil)) (iH (Ro:=(aK rdStr)) fI.h Db gy.h rfl rfl rfl (.tmp rfl rfl) (.tmp rfl rfl) hx27 iI) (fun p28=>?_)
 refine bz ?_
 rw[wk k8]
 exact⟨_,cz _,_,k8+1,dz,_,p28.1,p28.2,rfl,aJ,uy,aI,hF⟩
def wV(aQ:Method):Option ((List UInt8)):=
 ((oz aQ.Rel).bind fun r4=>
   bif (!r4)then (some true)
   else ((yY aQ 3).bind fun r8=>
     some (!r8))).bind fun o2=>
 match o2 with
 |c11=>if c11 then (
     some [])
   else (
     if (decide ((0:Int)<(aQ.Inputs.length:Int)))then (
       (xA aQ.Inputs [44]).bind fun bY=>
       (jc aQ.Rel).bind fun dY=>
       (aP [114] dY).bind fun nU=>
       (aP nU [32,105,110,32]).bind fun uL=>
       (aP uL bY).bind fun mF=>
       (aP mF [32,108,105,109,105,116,32]).bind fun x30=>
       (jc aQ.Limit).bind fun Ev=>
       (aP x30 Ev).bind fun iy=>
       (aP iy [32,99,111,115,116,32]).bind fun x41=>
       (jc aQ.Cost).bind fun Ew=>
       (aP x41 Ew).bind fun uG=>
       (aP uG [32,113,117,111,116,97,32]).bind fun mH=>
       (jc aQ.Quota).bind fun nV=>
       (aP mH nV).bind fun wJ=>
       some wJ)
     else (
       (jc aQ.Rel).bind fun Ml=>
       (aP [114] Ml).bind fun x66=>
       (aP x66 [32,105,110,32]).bind fun Hz=>
       (aP Hz [102,114,101,101]).bind fun HV=>
       (aP HV [32,108,105,109,105,116,32]).bind fun HY=>
       (jc aQ.Limit).bind fun uO=>
       (aP HY uO).bind fun x85=>
       (aP x85 [32,99,111,115,116,32]).bind fun x89=>
       (jc aQ.Cost).bind fun wI=>
       (aP x89 wI).bind fun x96=>
       (aP x96 [32,113,117,111,116,97,32]).bind fun x100=>
       (jc aQ.Quota).bind fun Lb=>
       (aP x100 Lb).bind fun x107=>
       some x107))
theorem Nb{aQ:Method}{bC:Sv}{R:(List UInt8)}(hF:wV aQ=some R):
   Fw.Spec Tryz.prog 79 [(zg [(zi aQ.Rel),bC.v,(zi aQ.Limit),(zi aQ.Cost),(zi aQ.Quota)])] [aD bC aQ.Inputs] (fun _:Unit=>(sv R)) (fun _=>[]):=by
 refine Se 42 Tryz.func79 [.tmp 2] ?_
 intro H0 F0
 unfold wV at hF
 refine au ?_
 refine fJ (fun k1=>?_)
 refine ax ?_
 obtain⟨o2,fP,hO3⟩:=bind_some hF
 refine au ?_
 refine bZ (fun f' cs'=>∃(c11:Bool)(g:Fr),c11=o2/\f'=aH g [(1,(pz k1)),(12,(.bool c11))]/\aF cs' [cZ k1 43 (zg [(zi aQ.Rel),bC.v,(zi aQ.Limit),(zi aQ.Cost),(zi aQ.Quota)]),aD bC aQ.Inputs]) ?_ ?_
 · replace hF:=fP
   refine aG ?_
   refine bnd hF fun r4 hx5 hF=>aB (BN hx5) (fun _=>?_)
   refine aG ?_
   rcases a_ (!r4)with bf|bf
   · rw[bf]
     try rw[bf]at hF; dsimp only[ak,aj]at hF
     exact aO hF
   rw[bf]
   try rw[bf]at hF; dsimp only[ak,aj]at hF
   refine ax ?_
   refine bnd hF fun r8 bS hF=>aB (Nr bS) (fun _=>?_)
   exact aO hF
 rintro _ _ ⟨c11,agW,rfl,rfl,hE⟩
 replace hF:=hO3
 try dsimp only at hF
 refine bg hE ?_
 refine Ci hF (fun aaJ hF=>?_) (fun aaJ hF=>?_)
 · exact ze hF
 refine tN ?_
 refine Ci hF (fun aaK hF=>?_) (fun aaK hF=>?_)
 · refine ax ?_
   refine bnd hF fun bY eY hF=>aB (Iw eY) (fun _=>?_)
   refine aG ?_
   refine gF [0,1,5,8,9,13,14,18,19,2,3,4,6,7,10,11,12,15,16,17,20,21,22] [0,1,3,7,15,0,63,127,0,256,775,2047,4095,0,8192,26375,65535,131071,0,262144,845575,2097151,4194303] [2,10,15,20] mixed (by decide+kernel) ?_
   refine Gm ?_
   refine bnd hF fun dY hx16 hF=>dm (kT hx16) (fun _=>?_)
   refine bnd hF fun nU lq hF=>?_
   obtain⟨agX,agY⟩:=bq lq
   refine bn rfl .no (fun ha=>bu (s:=[114]) (t:=dY) (u:=nU) (EN ha (.sv _) rfl) (EN ha (.tmp rfl rfl) rfl) lq) ?_
   refine bnd hF fun uL jL hF=>?_
   obtain⟨agZ,ag0⟩:=bq jL
   refine bn rfl .no (fun ha=>bu (s:=nU) (t:=[32,105,110,32]) (u:=uL) (EN ha (.tmp rfl rfl) rfl) (EN ha (.sv _) rfl) jL) ?_
   refine bnd hF fun mF hx27 hF=>?_
   obtain⟨ab0,ab1⟩:=bq hx27
   refine bn rfl .no (fun ha=>bu (s:=uL) (t:=bY) (u:=mF) (EN ha (.tmp rfl rfl) rfl) (EN ha (.tmp rfl rfl) rfl) hx27) ?_
   refine bnd hF fun x30 hx31 hF=>?_
   obtain⟨R8,hz32⟩:=bq hx31
   refine bn rfl .no (fun ha=>bu (s:=mF) (t:=[32,108,105,109,105,116,32]) (u:=x30) (EN ha (.tmp rfl rfl) rfl) (EN ha (.sv _) rfl) hx31) ?_
   refine bnd hF fun Ev kg hF=>dm (kT kg) (fun _=>?_)
   refine bnd hF fun iy hx38 hF=>?_
   obtain⟨ag1,ag2⟩:=bq hx38
   refine bn rfl .no (fun ha=>bu (s:=x30) (t:=Ev) (u:=iy) (EN ha (.tmp rfl rfl) rfl) (EN ha (.tmp rfl rfl) rfl) hx38) ?_
   refine bnd hF fun x41 R9 hF=>?_
   obtain⟨ag4,ag5⟩:=bq R9
   refine bn rfl .no (fun ha=>bu (s:=iy) (t:=[32,99,111,115,116,32]) (u:=x41) (EN ha (.tmp rfl rfl) rfl) (EN ha (.sv _) rfl) R9) ?_
   refine bnd hF fun Ew GV hF=>dm (kT GV) (fun _=>?_)
   refine bnd hF fun uG mo hF=>?_
   obtain⟨ag6,ag7⟩:=bq mo
   refine bn rfl .no (fun ha=>bu (s:=x41) (t:=Ew) (u:=uG) (EN ha (.tmp rfl rfl) rfl) (EN ha (.tmp rfl rfl) rfl) mo) ?_
   refine bnd hF fun mH uu hF=>?_
   obtain⟨acH,acI⟩:=bq uu
   refine bn rfl .no (fun ha=>bu (s:=uG) (t:=[32,113,117,111,116,97,32]) (u:=mH) (EN ha (.tmp rfl rfl) rfl) (EN ha (.sv _) rfl) uu) ?_
   refine bnd hF fun nV ww hF=>dm (kT ww) (fun _=>?_)
   refine bnd hF fun wJ uh hF=>?_
   obtain⟨ag8,ag_⟩:=bq uh
   refine bn rfl .no (fun ha=>bu (s:=mH) (t:=nV) (u:=wJ) (EN ha (.tmp rfl rfl) rfl) (EN ha (.tmp rfl rfl) rfl) uh) ?_
   refine fD ?_
   exact ze hF
 refine au ?_
 refine gF [0,1,5,8,9,13,14,18,19,2,3,4,6,7,10,11,12,15,16,17,20,21,22] [0,1,3,7,15,0,63,127,0,256,775,2047,4095,0,8192,26375,65535,131071,0,262144,845575,2097151,4194303] [2,10,15,20] mixed (by decide+kernel) ?_
 refine Gm ?_
 refine bnd hF fun Ml D8 hF=>dm (kT D8) (fun _=>?_)
 refine bnd hF fun x66 R_ hF=>?_
 obtain⟨ag',aha⟩:=bq R_
 refine bn rfl .no (fun ha=>bu (s:=[114]) (t:=Ml) (u:=x66) (EN ha (.sv _) rfl) (EN ha (.tmp rfl rfl) rfl) R_) ?_
 refine bnd hF fun Hz Sa hF=>?_
 obtain⟨ahb,ahc⟩:=bq Sa
 refine bn rfl .no (fun ha=>bu (s:=x66) (t:=[32,105,110,32]) (u:=Hz) (EN ha (.tmp rfl rfl) rfl) (EN ha (.sv _) rfl) Sa) ?_
 refine bnd hF fun HV GG hF=>?_
 obtain⟨ahd,ahe⟩:=bq GG
 refine bn rfl .no (fun ha=>bu (s:=Hz) (t:=[102,114,101,101]) (u:=HV) (EN ha (.tmp rfl rfl) rfl) (EN ha (.tmp rfl rfl) rfl) GG) ?_
 refine bnd hF fun HY GX hF=>?_
 obtain⟨ahf,ahg⟩:=bq GX
 refine bn rfl .no (fun ha=>bu (s:=HV) (t:=[32,108,105,109,105,116,32]) (u:=HY) (EN ha (.tmp rfl rfl) rfl) (EN ha (.sv _) rfl) GX) ?_
 refine bnd hF fun uO Lc hF=>dm (kT Lc) (fun _=>?_)
 refine bnd hF fun x85 GD hF=>?_
 obtain⟨ahh,ahi⟩:=bq GD
 refine bn rfl .no (fun ha=>bu (s:=HY) (t:=uO) (u:=x85) (EN ha (.tmp rfl rfl) rfl) (EN ha (.tmp rfl rfl) rfl) GD) ?_
 refine bnd hF fun x89 hx90 hF=>?_
 obtain⟨ahj,hz91⟩:=bq hx90
 refine bn rfl .no (fun ha=>bu (s:=x85) (t:=[32,99,111,115,116,32]) (u:=x89) (EN ha (.tmp rfl rfl) rfl) (EN ha (.sv _) rfl) hx90) ?_
 refine bnd hF fun wI KD hF=>dm (kT KD) (fun _=>?_)
 refine bnd hF fun x96 Sb hF=>?_
 obtain⟨ahk,ahl⟩:=bq Sb
 refine bn rfl .no (fun ha=>bu (s:=x89) (t:=wI) (u:=x96) (EN ha (.tmp rfl rfl) rfl) (EN ha (.tmp rfl rfl) rfl) Sb) ?_
 refine bnd hF fun x100 hx101 hF=>?_
 obtain⟨aeZ,ae0⟩:=bq hx101
 refine bn rfl .no (fun ha=>bu (s:=x96) (t:=[32,113,117,111,116,97,32]) (u:=x100) (EN ha (.tmp rfl rfl) rfl) (EN ha (.sv _) rfl) hx101) ?_
 refine bnd hF fun Lb aaL hF=>dm (kT aaL) (fun _=>?_)
 refine bnd hF fun x107 Q7 hF=>?_
 obtain⟨ae1,ae2⟩:=bq Q7
 refine bn rfl .no (fun ha=>bu (s:=x100) (t:=Lb) (u:=x107) (EN ha (.tmp rfl rfl) rfl) (EN ha (.tmp rfl rfl) rfl) Q7) ?_
 refine fD ?_
 exact ze hF
def Bn(aa:List Int)(aL:List UInt8):Option (Method×Bool):=
 (lK aL [32]).bind fun r2=>
 (bif (((r2.length:Int):Int)==9)then ((ix r2 2).bind fun x9=>
     some (true,(!(x9==[102,114,101,101]))))
   else (some (false,false))).bind fun o6=>
 match o6 with
 |(c15,c16)=>if c16 then (
     (ix r2 2).bind fun nM=>
     (lK nM [44]).bind fun Ex=>
     (vJ Ex).bind fun nW=>
     if (!nW.2)then (
       some ((⟨0,[],0,0,0⟩:Method),false))
     else (
       (ix r2 0).bind fun x29=>
       (lJ x29 [114]).bind fun kz=>
       (g_ kz).bind fun kD=>
       (ix r2 (IntKind.i64.wrap ((IntKind.i64.wrap (2*0))+4))).bind fun Tj=>
       (g_ Tj).bind fun iN=>
       (ix r2 (IntKind.i64.wrap ((IntKind.i64.wrap (2*(IntKind.i64.wrap (0+1))))+4))).bind fun x55=>
       (g_ x55).bind fun qY=>
       (ix r2 (IntKind.i64.wrap ((IntKind.i64.wrap (2*(IntKind.i64.wrap ((IntKind.i64.wrap (0+1))+1))))+4))).bind fun x66=>
       (g_ x66).bind fun uP=>
       (bif (!kD.2)then (some true)
         else ((xm aa (⟨kD.1,nW.1,iN.1,qY.1,uP.1⟩:Method)).bind fun Ey=>
           bif (!Ey)then (some true)
           else ((wV (⟨kD.1,nW.1,iN.1,qY.1,uP.1⟩:Method)).bind fun uO=>
             some (!(uO==aL))))).bind fun Ez=>
       match Ez with
       |c85=>if c85 then (
           some ((⟨0,[],0,0,0⟩:Method),false))
         else (
           some ((⟨kD.1,nW.1,iN.1,qY.1,uP.1⟩:Method),true))))
   else (
     if (!c15)then (
       some ((⟨0,[],0,0,0⟩:Method),false))
     else (
       (ix r2 0).bind fun x89=>
       (lJ x89 [114]).bind fun Tk=>
       (g_ Tk).bind fun nX=>
       (ix r2 (IntKind.i64.wrap ((IntKind.i64.wrap (2*0))+4))).bind fun x104=>
       (g_ x104).bind fun uz=>
       (ix r2 (IntKind.i64.wrap ((IntKind.i64.wrap (2*(IntKind.i64.wrap (0+1))))+4))).bind fun x115=>
       (g_ x115).bind fun wy=>
       (ix r2 (IntKind.i64.wrap ((IntKind.i64.wrap (2*(IntKind.i64.wrap ((IntKind.i64.wrap (0+1))+1))))+4))).bind fun Sc=>
       (g_ Sc).bind fun yj=>
       (bif (!nX.2)then (some true)
         else ((xm aa (⟨nX.1,[],uz.1,wy.1,yj.1⟩:Method)).bind fun Ld=>
           bif (!Ld)then (some true)
           else ((wV (⟨nX.1,[],uz.1,wy.1,yj.1⟩:Method)).bind fun Le=>
             some (!(Le==aL))))).bind fun Lf=>
       match Lf with
       |c145=>if c145 then (
           some ((⟨0,[],0,0,0⟩:Method),false))
         else (
           some ((⟨nX.1,[],uz.1,wy.1,yj.1⟩:Method),true))))
theorem Uy{aa:List Int}{ae:Sv}{aL:List UInt8}{R:Method×Bool}(hF:Bn aa aL=some R):
   Fw.Spec Tryz.prog 50 [ae.v,(sv aL)] [aD ae aa] (fun p:Sv×List Nat=>(.tuple [(zg [(zi R.1.Rel),p.1.v,(zi R.1.Limit),(zi R.1.Cost),(zi R.1.Quota)]),(.bool R.2)].toArray)) (fun p=>[bV p.2 p.1 R.1.Inputs]):=by
 refine Se 84 Tryz.func50 [.cell 4 43,.tmp 5] ?_
 intro H0 F0
 unfold Bn at hF
 refine au ?_
 refine fE (fun k1=>?_)
 refine aA ?_
 refine bnd hF fun r2 hx3 hF=>dC (rz hx3) (fun p4=>?_)
 refine ax ?_
 refine ai (fH jh.h rfl (vs:=[]) .nil (cells:=[(zi 0),(.slice none 0 0),(zi 0),(zi 0),(zi 0)]) rfl) ?_
 refine fE (fun k5=>?_)
 refine As (zg [(zi 0),(.slice none 0 0),(zi 0),(zi 0),(zi 0)]) ?_
 refine dB ?_
 obtain⟨o6,Lg,Mm⟩:=bind_some hF
 refine au ?_
 refine bZ (fun f' cs'=>∃(c15 c16:Bool)(g:Fr),o6=(c15,c16)/\f'=aH g [(0,ae.v),(1,(sv aL)),(4,(pz k1)),(6,p4.v),(7,(pz k5)),(8,(.bool c15)),(23,(.bool c16))]/\aF cs' [aD ae aa,bW k1 43 (zg [(zi 0),(.slice none 0 0),(zi 0),(zi 0),(zi 0)]),jl p4 r2,bW k5 43 (zg [(zi 0),(.slice none 0 0),(zi 0),(zi 0),(zi 0)])]) ?_ ?_
 · replace hF:=Lg
   refine aG ?_
   rcases a_ (((r2.length:Int):Int)==9)with jb|jb
   · rw[jb]
     try rw[jb]at hF; dsimp only[ak,aj]at hF
     refine ax ?_
     refine zI hF fun x9 acN lu hF=>?_
     refine Ai lu (fun k13 nQ=>?_)
     refine au ?_
     refine Al fw ?_
     refine au ?_
     refine ai (iP (s:=x9) (t:=[102,114,101,101]) (.tmp rfl rfl) (.sv _)) ?_
     exact Gn hF
   rw[jb]
   try rw[jb]at hF; dsimp only[ak,aj]at hF
   exact Gn hF
 rintro _ _ ⟨c15,c16,ahm,rfl,rfl,hE⟩
 replace hF:=Mm
 try dsimp only at hF
 refine bg hE ?_
 refine Ci hF (fun aaM hF=>?_) (fun aaM hF=>?_)
 · refine aG ?_
   refine zI hF fun nM Dg iK hF=>?_
   refine Ai iK (fun k21 j22=>?_)
   refine Al fw ?_
   refine bnd hF fun Ex hx24 hF=>dC (rz hx24) (fun p25=>?_)
   refine bnd hF fun nW hx27 hF=>dC (Il hx27) (fun p28=>?_)
   refine au ?_
   refine zx ?_
   refine zx ?_
   refine au ?_
   refine As (zg [(zi 0),p28.1.v,(zi 0),(zi 0),(zi 0)]) ?_
   refine bK ?_
   refine Ci hF (fun ac0 hF=>?_) (fun ac0 hF=>?_)
   · refine au ?_
     refine ai (fH jh.h rfl (vs:=[]) .nil (cells:=[(zi 0),(.slice none 0 0),(zi 0),(zi 0),(zi 0)]) rfl) ?_
     refine As (zg [(zi 0),(.slice none 0 0),(zi 0),(zi 0),(zi 0)]) ?_
     refine ax ?_
     cases hF
     exact dx (⟨none,0,0⟩,[]) (.cellA rfl rfl .h rfl oU.h jh.h.sz rfl rfl (.tmp rfl rfl .nil)) rfl (.conv .nil (dV (Ro:=(aK aY)) (E:=3)) (.cons .nil) (.sel (.cons .h .nil)))
   refine ax ?_
   refine zI hF fun x29 ahn hx32 hF=>?_
   refine Ai hx32 (fun Az j34=>?_)
   refine Al fw ?_
   refine bnd hF fun kz lV hF=>aB (yQ lV) (fun _=>?_)
   refine bnd hF fun kD hx39 hF=>aB (lL hx39) (fun _=>?_)
   refine au ?_
   refine zx ?_
   refine zx ?_
   refine au ?_
   refine As (zg [(zi kD.1),p28.1.v,(zi 0),(zi 0),(zi 0)]) ?_
   refine bK ?_
   refine bX .nil (QA (post':=fun mZ:Nat=>[dR (b_ 118 (ma 1)) (.slice (some ⟨mZ,0,none⟩) 3 1) ([(.pointer (some ⟨k5,0,some 2⟩)),(.pointer (some ⟨k5,0,some 3⟩)),(.pointer (some ⟨k5,0,some 4⟩))]:List Value)]) (fun mZ=>.conv (.cons .h .nil) (dP (Ro:=aK (ma 1)) (E:=118) (F:=([]++([]++([]++[])))) (xs:=([(.pointer (some ⟨k5,0,some 2⟩)),(.pointer (some ⟨k5,0,some 3⟩)),(.pointer (some ⟨k5,0,some 4⟩))]:List Value)) (dM (zS (s:=1) (e:=(.pointer (some ⟨k5,0,some 2⟩))) rfl rfl) (dM (zS (s:=1) (e:=(.pointer (some ⟨k5,0,some 3⟩))) rfl rfl) (dM (zS (s:=1) (e:=(.pointer (some ⟨k5,0,some 4⟩))) rfl rfl) dO bP) bP) bP) rfl rfl) bP (.frz .h cu aI)) (Qe rfl (dN (g:=true) qA.h vY.h bG (vs:=[(.pointer (some ⟨k5,0,some 2⟩)),(.pointer (some ⟨k5,0,some 3⟩)),(.pointer (some ⟨k5,0,some 4⟩))]) rfl rfl rfl (by intro v hv; simp at hv; rcases hv with rfl|rfl|rfl<;>rfl)))) (fun mZ=>?_)
   refine ai (oC (l:=3) qA.h (.tmp rfl rfl) ⟨_,_,rfl⟩) ?_
   refine aG ?_
   refine bF (PO (m:=4) ?_)
   refine Qf ?_
   refine aA ?_
   refine Cc (fun _=>?_) (fun hb=>absurd ((by decide:(decide ((0:Int)<3))=true).symm.trans hb) (by decide))
   refine aA ?_
   refine qx (R:=ma 1) (a:=(.pointer (some ⟨k5,0,some 2⟩))) qA.h vY.h.sz (.tmp rfl rfl) (.tmp rfl rfl) .h (by decide) rfl (fun k42 j43=>?_)
   refine Al (zT rfl) ?_
   refine fU ?_
   refine zI hF fun Tj aho j_ hF=>?_
   refine Ai j_ (fun nT j49=>?_)
   refine Al fw ?_
   refine bnd hF fun iN nK hF=>aB (lL nK) (fun _=>?_)
   refine au ?_
   refine zx ?_
   refine zx ?_
   refine ai (zh (v:=(.pointer (some ⟨k5,0,some 2⟩))) rfl (.tmp rfl rfl)) ?_
   refine As (zg [(zi kD.1),p28.1.v,(zi iN.1),(zi 0),(zi 0)]) ?_
   refine aC ?_
   refine zK ?_
   refine aA ?_
   refine Cc (fun _=>?_) (fun hb=>absurd ((by decide:(decide (((IntKind.i64.wrap (0+1)):Int)<3))=true).symm.trans hb) (by decide))
   refine aA ?_
   refine qx (R:=ma 1) (a:=(.pointer (some ⟨k5,0,some 3⟩))) qA.h vY.h.sz (.tmp rfl rfl) (.tmp rfl rfl) .q3 (by decide) rfl (fun k53 j54=>?_)
   refine Al (zT rfl) ?_
   refine fU ?_
   refine zI hF fun x55 ahp Ah hF=>?_
   refine Ai Ah (fun Mo j60=>?_)
   refine Al fw ?_
   refine bnd hF fun qY Aj hF=>aB (lL Aj) (fun _=>?_)
   refine au ?_
   refine zx ?_
   refine zx ?_
   refine ai (zh (v:=(.pointer (some ⟨k5,0,some 3⟩))) rfl (.tmp rfl rfl)) ?_
   refine As (zg [(zi kD.1),p28.1.v,(zi iN.1),(zi qY.1),(zi 0)]) ?_
   refine aC ?_
   refine zK ?_
   refine aA ?_
   refine Cc (fun _=>?_) (fun hb=>absurd ((by decide:(decide (((IntKind.i64.wrap ((IntKind.i64.wrap (0+1))+1)):Int)<3))=true).symm.trans hb) (by decide))
   refine aA ?_
   refine qx (R:=ma 1) (a:=(.pointer (some ⟨k5,0,some 4⟩))) qA.h vY.h.sz (.tmp rfl rfl) (.tmp rfl rfl) .q5 (by decide) rfl (fun k64 j65=>?_)
   refine Al (zT rfl) ?_
   refine fU ?_
   refine zI hF fun x66 ahq Ak hF=>?_
   refine Ai Ak (fun qU j71=>?_)
   refine Al fw ?_
   refine bnd hF fun uP Gv hF=>aB (lL Gv) (fun _=>?_)
   refine au ?_
   refine zx ?_
   refine zx ?_
   refine ai (zh (v:=(.pointer (some ⟨k5,0,some 4⟩))) rfl (.tmp rfl rfl)) ?_
   refine As (zg [(zi kD.1),p28.1.v,(zi iN.1),(zi qY.1),(zi uP.1)]) ?_
   refine aC ?_
   refine zK ?_
   refine aA ?_
   refine Cc (fun hb=>absurd ((by decide:(decide (((IntKind.i64.wrap ((IntKind.i64.wrap ((IntKind.i64.wrap (0+1))+1))+1)):Int)<3))=false).symm.trans hb) (by decide)) (fun _=>?_)
   refine aC ?_
   obtain⟨Ez,aaN,ac1⟩:=bind_some hF
   refine au ?_
   refine bZ (fun f' cs'=>∃(c85:Bool)(g:Fr),c85=Ez/\f'=aH g [(4,(pz k1)),(7,(pz k5)),(81,(.bool c85))]/\aF cs' [bW k1 43 (zg [(zi 0),(.slice none 0 0),(zi 0),(zi 0),(zi 0)]),bW k5 43 (zg [(zi kD.1),p28.1.v,(zi iN.1),(zi qY.1),(zi uP.1)]),bV p28.2 p28.1 nW.1]) ?_ ?_
   · replace hF:=aaN
     refine ax ?_
     rcases a_ (!kD.2)with D9|D9
     · rw[D9]
       try rw[D9]at hF; dsimp only[ak,aj]at hF
       exact aO hF
     rw[D9]
     try rw[D9]at hF; dsimp only[ak,aj]at hF
     refine aC ?_
     refine bnd hF fun Ey GX hF=>bX (.cons .q9 (.rd .q11 rfl .nil)) (gm cu (fun _=>.nil) (oF (.rd (.t .h) rfl (.rd .h rfl .nil)) (bT abM.h bG (@N7 aa ae (⟨kD.1,nW.1,iN.1,qY.1,uP.1⟩:Method) p28.1 _ GX)))) (fun _=>?_)
     refine aA ?_
     rcases a_ (!Ey)with D_|D_
     · rw[D_]
       try rw[D_]at hF; dsimp only[ak,aj]at hF
       exact aO hF
     rw[D_]
     try rw[D_]at hF; dsimp only[ak,aj]at hF
     refine ax ?_
     refine bnd hF fun uO Lc hF=>bX (.cons .h .nil) (gm cu (fun _=>.nil) (bT abN.h bG (@Nb (⟨kD.1,nW.1,iN.1,qY.1,uP.1⟩:Method) p28.1 _ Lc))) (fun _=>?_)
     refine ax ?_
     refine ai (iP (s:=uO) (t:=aL) (.tmp rfl rfl) (.tmp rfl rfl)) ?_
     exact aO hF
   rintro _ _ ⟨c85,g87,rfl,rfl,hE⟩
   replace hF:=ac1
   try dsimp only at hF
   refine bg hE ?_
   refine Ci hF (fun ac2 hF=>?_) (fun ac2 hF=>?_)
   · refine au ?_
     refine ai (fH jh.h rfl (vs:=[]) .nil (cells:=[(zi 0),(.slice none 0 0),(zi 0),(zi 0),(zi 0)]) rfl) ?_
     refine As (zg [(zi 0),(.slice none 0 0),(zi 0),(zi 0),(zi 0)]) ?_
     refine ax ?_
     cases hF
     exact dx (⟨none,0,0⟩,[]) (.cellA rfl rfl .h rfl oU.h jh.h.sz rfl rfl (.tmp rfl rfl .nil)) rfl (.conv .nil (dV (Ro:=(aK aY)) (E:=3)) (.cons .nil) (.sel (.cons .h .nil)))
   refine ax ?_
   refine As (zg [(zi kD.1),p28.1.v,(zi iN.1),(zi qY.1),(zi uP.1)]) ?_
   refine ax ?_
   cases hF
   exact dx (p28.1,p28.2) (.cellA rfl rfl .h rfl oU.h jh.h.sz rfl rfl (.tmp rfl rfl .nil)) rfl (.sel (.cons .q2 .nil))
 refine bz ?_
 refine Ci hF (fun aaO hF=>?_) (fun aaO hF=>?_)
 · refine au ?_
   refine ai (fH jh.h rfl (vs:=[]) .nil (cells:=[(zi 0),(.slice none 0 0),(zi 0),(zi 0),(zi 0)]) rfl) ?_
   refine As (zg [(zi 0),(.slice none 0 0),(zi 0),(zi 0),(zi 0)]) ?_
   refine ax ?_
   cases hF
   exact dx (⟨none,0,0⟩,[]) (.cellA rfl rfl .h rfl oU.h jh.h.sz rfl rfl (.tmp rfl rfl .nil)) rfl (.conv .nil (dV (Ro:=(aK aY)) (E:=3)) (.cons .nil) (.sel (.cons .h .nil)))
 refine ax ?_
 refine zI hF fun x89 ahr GI hF=>?_
 refine Ai GI (fun k93 j94=>?_)
 refine Al fw ?_
 refine bnd hF fun Tk hx96 hF=>aB (yQ hx96) (fun _=>?_)
 refine bnd hF fun nX hx99 hF=>aB (lL hx99) (fun _=>?_)
 refine au ?_
 refine zx ?_
 refine zx ?_
 refine au ?_
 refine As (zg [(zi nX.1),(.slice none 0 0),(zi 0),(zi 0),(zi 0)]) ?_
 refine bK ?_
 refine bX .nil (QA (post':=fun Lh:Nat=>[dR (b_ 118 (ma 1)) (.slice (some ⟨Lh,0,none⟩) 3 1) ([(.pointer (some ⟨k5,0,some 2⟩)),(.pointer (some ⟨k5,0,some 3⟩)),(.pointer (some ⟨k5,0,some 4⟩))]:List Value)]) (fun Lh=>.conv (.cons .h .nil) (dP (Ro:=aK (ma 1)) (E:=118) (F:=([]++([]++([]++[])))) (xs:=([(.pointer (some ⟨k5,0,some 2⟩)),(.pointer (some ⟨k5,0,some 3⟩)),(.pointer (some ⟨k5,0,some 4⟩))]:List Value)) (dM (zS (s:=1) (e:=(.pointer (some ⟨k5,0,some 2⟩))) rfl rfl) (dM (zS (s:=1) (e:=(.pointer (some ⟨k5,0,some 3⟩))) rfl rfl) (dM (zS (s:=1) (e:=(.pointer (some ⟨k5,0,some 4⟩))) rfl rfl) dO bP) bP) bP) rfl rfl) bP (.frz .h cu aI)) (Qe rfl (dN (g:=true) qA.h vY.h bG (vs:=[(.pointer (some ⟨k5,0,some 2⟩)),(.pointer (some ⟨k5,0,some 3⟩)),(.pointer (some ⟨k5,0,some 4⟩))]) rfl rfl rfl (by intro v hv; simp at hv; rcases hv with rfl|rfl|rfl<;>rfl)))) (fun Lh=>?_)
 refine ai (oC (l:=3) qA.h (.tmp rfl rfl) ⟨_,_,rfl⟩) ?_
 refine aG ?_
 refine bF (PO (m:=4) ?_)
 refine Qf ?_
 refine aA ?_
 refine Cc (fun _=>?_) (fun hb=>absurd ((by decide:(decide ((0:Int)<3))=true).symm.trans hb) (by decide))
 refine aA ?_
 refine qx (R:=ma 1) (a:=(.pointer (some ⟨k5,0,some 2⟩))) qA.h vY.h.sz (.tmp rfl rfl) (.tmp rfl rfl) .h (by decide) rfl (fun ahs aht=>?_)
 refine Al (zT rfl) ?_
 refine fU ?_
 refine zI hF fun x104 ae3 aaP hF=>?_
 refine Ai aaP (fun ahu ahv=>?_)
 refine Al fw ?_
 refine bnd hF fun uz aaQ hF=>aB (lL aaQ) (fun _=>?_)
 refine au ?_
 refine zx ?_
 refine zx ?_
 refine ai (zh (v:=(.pointer (some ⟨k5,0,some 2⟩))) rfl (.tmp rfl rfl)) ?_
 refine As (zg [(zi nX.1),(.slice none 0 0),(zi uz.1),(zi 0),(zi 0)]) ?_
 refine aC ?_
 refine zK ?_
 refine aA ?_
 refine Cc (fun _=>?_) (fun hb=>absurd ((by decide:(decide (((IntKind.i64.wrap (0+1)):Int)<3))=true).symm.trans hb) (by decide))
 refine aA ?_
 refine qx (R:=ma 1) (a:=(.pointer (some ⟨k5,0,some 3⟩))) qA.h vY.h.sz (.tmp rfl rfl) (.tmp rfl rfl) .q3 (by decide) rfl (fun ahw ahx=>?_)
 refine Al (zT rfl) ?_
 refine fU ?_
 refine zI hF fun x115 ae4 JB hF=>?_
 refine Ai JB (fun ahy ahz=>?_)
 refine Al fw ?_
 refine bnd hF fun wy JC hF=>aB (lL JC) (fun _=>?_)
 refine au ?_
 refine zx ?_
 refine zx ?_
 refine ai (zh (v:=(.pointer (some ⟨k5,0,some 3⟩))) rfl (.tmp rfl rfl)) ?_
 refine As (zg [(zi nX.1),(.slice none 0 0),(zi uz.1),(zi wy.1),(zi 0)]) ?_
 refine aC ?_
 refine zK ?_
 refine aA ?_
 refine Cc (fun _=>?_) (fun hb=>absurd ((by decide:(decide (((IntKind.i64.wrap ((IntKind.i64.wrap (0+1))+1)):Int)<3))=true).symm.trans hb) (by decide))
 refine aA ?_
 refine qx (R:=ma 1) (a:=(.pointer (some ⟨k5,0,some 4⟩))) qA.h vY.h.sz (.tmp rfl rfl) (.tmp rfl rfl) .q5 (by decide) rfl (fun ahA ahB=>?_)
 refine Al (zT rfl) ?_
 refine fU ?_
 refine zI hF fun Sc ae5 aaR hF=>?_
 refine Ai aaR (fun ahC ahD=>?_)
 refine Al fw ?_
 refine bnd hF fun yj JN hF=>aB (lL JN) (fun _=>?_)
 refine au ?_
 refine zx ?_
 refine zx ?_
 refine ai (zh (v:=(.pointer (some ⟨k5,0,some 4⟩))) rfl (.tmp rfl rfl)) ?_
 refine As (zg [(zi nX.1),(.slice none 0 0),(zi uz.1),(zi wy.1),(zi yj.1)]) ?_
 refine aC ?_
 refine zK ?_
 refine aA ?_
 refine Cc (fun hb=>absurd ((by decide:(decide (((IntKind.i64.wrap ((IntKind.i64.wrap ((IntKind.i64.wrap (0+1))+1))+1)):Int)<3))=false).symm.trans hb) (by decide)) (fun _=>?_)
 refine aC ?_
 obtain⟨Lf,Yx,aaS⟩:=bind_some hF
 refine au ?_
 refine bZ (fun f' cs'=>∃(c145:Bool)(g:Fr),c145=Lf/\f'=aH g [(4,(pz k1)),(7,(pz k5)),(81,(.bool c145))]/\aF cs' [bW k1 43 (zg [(zi 0),(.slice none 0 0),(zi 0),(zi 0),(zi 0)]),bW k5 43 (zg [(zi nX.1),(.slice none 0 0),(zi uz.1),(zi wy.1),(zi yj.1)])]) ?_ ?_
 · replace hF:=Yx
   refine ax ?_
   rcases a_ (!nX.2)with CX|CX
   · rw[CX]
     try rw[CX]at hF; dsimp only[ak,aj]at hF
     exact aO hF
   rw[CX]
   try rw[CX]at hF; dsimp only[ak,aj]at hF
   refine aC ?_
   refine fF .nil (zR (R:=aY) (E:=3)) ?_
   refine bnd hF fun Ld aaT hF=>aB (@N7 _ _ _ (⟨none,0,0⟩) _ aaT) (fun _=>?_)
   refine aA ?_
   rcases a_ (!Ld)with CY|CY
   · rw[CY]
     try rw[CY]at hF; dsimp only[ak,aj]at hF
     exact aO hF
   rw[CY]
   try rw[CY]at hF; dsimp only[ak,aj]at hF
   refine ax ?_
   refine bnd hF fun Le aaU hF=>aB (@Nb _ (⟨none,0,0⟩) _ aaU) (fun _=>?_)
   refine ax ?_
   refine ai (iP (s:=Le) (t:=aL) (.tmp rfl rfl) (.tmp rfl rfl)) ?_
   exact aO hF
 rintro _ _ ⟨c145,ahE,rfl,rfl,hE⟩
 replace hF:=aaS
 try dsimp only at hF
 refine bg hE ?_
 refine Ci hF (fun aaV hF=>?_) (fun aaV hF=>?_)
 · refine au ?_
   refine ai (fH jh.h rfl (vs:=[]) .nil (cells:=[(zi 0),(.slice none 0 0),(zi 0),(zi 0),(zi 0)]) rfl) ?_
   refine As (zg [(zi 0),(.slice none 0 0),(zi 0),(zi 0),(zi 0)]) ?_
   refine ax ?_
   cases hF
   exact dx (⟨none,0,0⟩,[]) (.cellA rfl rfl .h rfl oU.h jh.h.sz rfl rfl (.tmp rfl rfl .nil)) rfl (.conv .nil (dV (Ro:=(aK aY)) (E:=3)) (.cons .nil) (.sel (.cons .h .nil)))
 refine ax ?_
 refine As (zg [(zi nX.1),(.slice none 0 0),(zi uz.1),(zi wy.1),(zi yj.1)]) ?_
 refine ax ?_
 cases hF
 exact dx (⟨none,0,0⟩,[]) (.cellA rfl rfl .h rfl oU.h jh.h.sz rfl rfl (.tmp rfl rfl .nil)) rfl (.conv .nil (dV (Ro:=(aK aY)) (E:=3)) (.cons .nil) (.sel (.cons .h .nil)))
def Bb(uN:Int)(bH:Int):Option (Bool):=
 (h_ uN 0 (IntKind.i64.wrap (bH-1))).bind fun r1=>
 some (!r1)
theorem Uh{uN:Int}{eu:Nat}{bH:Int}{R:Bool}(hF:Bb uN bH=some R):
   Fw.Spec Tryz.prog 180 [(zi uN),(pz eu)] [cZ eu 3 (zi bH)] (fun _:Unit=>(.bool R)) (fun _=>[]):=by
 refine Se 9 Tryz.func180 [.tmp 3] ?_
 intro H0 F0
 unfold Bb at hF
 refine bK ?_
 refine bnd hF fun r1 hx2 hF=>aB (jF hx2) (fun _=>?_)
 exact ze hF
def yK(bH:Int):List Int->Nat->Option (Int)
 |[],k4=>some (-1)
 |x6::aM,k4=>(Bb x6 bH).bind fun dY=>
   if dY then (
     some (k4:Int))
   else (
     yK bH aM (k4+1))
def EH(aa:List Int)(bH:Int):Option (Int):=
 yK bH aa 0
theorem TD{aa:List Int}{ae:Sv}{eu:Nat}{bH R:Int}(hF:EH aa bH=some R):
   Fw.Spec Tryz.prog 228 [ae.v,(.func (.func 180) [].toArray [(pz eu)].toArray)] [aD ae aa,cZ eu 3 (zi bH)] (fun _:Unit=>(zi R)) (fun _=>[]):=by
 refine Se 19 Tryz.func228 [.tmp 4] ?_
 intro H0 F0
 unfold EH at hF
 refine fU ?_
 refine bF (bU (m:=aa.length) (fun m2 f' cs'=>∃(g:Fr)(k4:Nat)(aM:List Int),m2=aM.length/\f'=aH g [(0,ae.v),(1,(.func (.func 180) [].toArray [(pz eu)].toArray)),(7,(zi (aa.length:Int))),(8,(zi (k4:Int)))]/\List.drop k4 aa=aM/\aF cs' [aD ae aa,cZ eu 3 (zi bH)]/\yK bH aM k4=some R) ⟨_,0,_,rfl,aJ,rfl,aI,hF⟩ ?_)
 rintro m2 _ _ ⟨g3,k4,aM,rfl,rfl,hd7,hE,hF⟩
 refine Kb hE aa (fun mO=>?_)
 rcases aM with _|⟨x6,aM⟩
 · have gQ:=dn hd7
   rw[yK]at hF
   refine aA ?_
   refine dJ ?_
   exact ze hF
 obtain⟨gQ,bS,ic⟩:=dD hd7
 rw[yK]at hF
 refine aA ?_
 refine dI ?_
 refine jT ?_
 refine Ai bS (fun k13 nQ=>?_)
 refine Al dE ?_
 refine bnd hF fun dY hx16 hF=>mP (.rd .q2 rfl .nil) (vQ Zr.h (.tmp rfl rfl) bG (Uh hx16)) (fun _=>?_)
 refine au ?_
 refine Ci hF (fun pu hF=>?_) (fun pu hF=>?_)
 · exact ze hF
 refine aC ?_
 rw[wk k4]
 exact⟨_,cz _,_,k4+1,aM,rfl,aJ,ic,aI,hF⟩
def AQ(aa:List Int)(bH:Int):Option (Bool):=
 (EH aa bH).bind fun r1=>
 some (decide ((0:Int)<=r1))
theorem TA{aa:List Int}{ae:Sv}{eu:Nat}{bH:Int}{R:Bool}(hF:AQ aa bH=some R):
   Fw.Spec Tryz.prog 164 [ae.v,(.func (.func 180) [].toArray [(pz eu)].toArray)] [aD ae aa,cZ eu 3 (zi bH)] (fun _:Unit=>(.bool R)) (fun _=>[]):=by
 refine Se 9 Tryz.func164 [.tmp 4] ?_
 intro H0 F0
 unfold AQ at hF
 refine bz ?_
 refine bnd hF fun r1 hx2 hF=>aB (TD hx2) (fun _=>?_)
 exact ze hF
def yT(bi:List Int)(su:Int):Option (Bool):=
 (AQ bi su).bind fun r2=>
 some (!r2)
theorem Nc{bi:List Int}{ae:Sv}{su:Int}{R:Bool}(hF:yT bi su=some R):
   Fw.Spec Tryz.prog 124 [ae.v,(zi su)] [aD ae bi] (fun _:Unit=>(.bool R)) (fun _=>[]):=by
 refine Se 9 Tryz.func124 [.tmp 4] ?_
 intro H0 F0
 unfold yT at hF
 refine au ?_
 refine fJ (fun k1=>?_)
 refine aA ?_
 refine ai (ny (fn:=.func 180) (vs:=[]) (us:=[(pz k1)]) .nil bG) ?_
 refine bnd hF fun r2 hx3 hF=>aB (TA hx3) (fun _=>?_)
 exact ze hF
def Ch(aa:List Int)(bI:fA):Option (Bool):=
 ((rX aa bI.From).bind fun r4=>
   bif r4 then ((rX aa bI.To).bind fun r8=>
     bif r8 then ((ix aa bI.To).bind fun uJ=>
       bif (((bI.Map.length:Int):Int)==uJ)then ((ix aa bI.From).bind fun lD=>
         (yT bI.Map lD).bind fun Tm=>
         some Tm)
       else (some false))
     else (some false))
   else (some false)).bind fun o2=>
 match o2 with
 |c28=>some c28
theorem VV{aa:List Int}{ae:Sv}{bI:fA}{um:Sv}{R:Bool}(hF:Ch aa bI=some R):
   Fw.Spec Tryz.prog 83 [ae.v,(zg [(zi bI.From),(zi bI.To),um.v])] [aD ae aa,aD um bI.Map] (fun _:Unit=>(.bool R)) (fun _=>[]):=by
 refine Se 36 Tryz.func83 [.tmp 4] ?_
 intro H0 F0
 unfold Ch at hF
 refine au ?_
 refine fJ (fun k1=>?_)
 refine aG ?_
 obtain⟨o2,fP,hO3⟩:=bind_some hF
 refine gF [0,1,2,3,4,5,6,7,8,9,10,11,12,13,14,15,16,17,18,19,20,21,22,23,24,25,26,27,28,29,30,31] [0,0,2,7,15,31,31,95,255,511,1023,2047,4095,8191,2047,2047,34815,116735,247807,524287,1048575,2097151,4194303,8388607,4194303,4194303,37748735,121634815,255852543,536870911,1073741823,2147483647] [3,8,29] mixed (by decide+kernel) ?_
 refine qz (fun f' cs'=>∃(c28:Bool)(g:Fr),c28=o2/\f'=aH g [(4,(.bool c28))]/\aF cs' []) ?_ ?_
 · replace hF:=fP
   refine iD ?_
   refine bnd hF fun r4 hx5 hF=>dm (BF hx5) (fun _=>?_)
   refine du ?_
   rcases a_ r4 with bf|bf
   · rw[bf]
     try rw[bf]at hF; dsimp only[ak,aj]at hF
     refine iD ?_
     refine bnd hF fun r8 bS hF=>dm (BF bS) (fun _=>?_)
     refine fD ?_
     rcases a_ r8 with bQ|bQ
     · rw[bQ]
       try rw[bQ]at hF; dsimp only[ak,aj]at hF
       refine wo ?_
       refine zI hF fun uJ GA jA hF=>?_
       refine Di jA (fun k16 Em=>?_)
       refine Dl dE ?_
       refine iD ?_
       rcases a_ (((bI.Map.length:Int):Int)==uJ)with pE|pE
       · rw[pE]
         try rw[pE]at hF; dsimp only[ak,aj]at hF
         refine Df ?_
         refine zI hF fun lD ahF o7 hF=>?_
         refine Di o7 (fun k23 j24=>?_)
         refine Dl dE ?_
         refine bnd hF fun Tm mR hF=>dm (Nc mR) (fun _=>?_)
         exact gH hF
       rw[pE]
       try rw[pE]at hF; dsimp only[ak,aj]at hF
       exact gH hF
     rw[bQ]
     try rw[bQ]at hF; dsimp only[ak,aj]at hF
     exact gH hF
   rw[bf]
   try rw[bf]at hF; dsimp only[ak,aj]at hF
   exact gH hF
 rintro _ _ ⟨c28,g29,rfl,rfl,hE⟩
 replace hF:=hO3
 try dsimp only at hF
 refine bg hE ?_
 exact ze hF
def Bv(bI:fA):Option ((List UInt8)):=
 ((oz bI.From).bind fun r4=>
   bif (!r4)then (some true)
   else ((oz bI.To).bind fun r8=>
     bif (!r8)then (some true)
     else ((h_ (bI.Map.length:Int) 1 3).bind fun bY=>
       bif (!bY)then (some true)
       else ((yT bI.Map 3).bind fun r16=>
         some (!r16))))).bind fun o2=>
 match o2 with
 |c19=>if c19 then (
     some [])
   else (
     (jc bI.From).bind fun gz=>
     (aP [114] gz).bind fun jE=>
     (aP jE [32,103,105,118,101,115,32,114]).bind fun x27=>
     (jc bI.To).bind fun ja=>
     (aP x27 ja).bind fun x34=>
     (aP x34 [32]).bind fun x38=>
     (xA bI.Map [44]).bind fun AJ=>
     (aP x38 AJ).bind fun Mq=>
     some Mq)
theorem UK{bI:fA}{o5:Sv}{R:(List UInt8)}(hF:Bv bI=some R):
   Fw.Spec Tryz.prog 84 [(zg [(zi bI.From),(zi bI.To),o5.v])] [aD o5 bI.Map] (fun _:Unit=>(sv R)) (fun _=>[]):=by
 refine Se 40 Tryz.func84 [.tmp 2] ?_
 intro H0 F0
 unfold Bv at hF
 refine au ?_
 refine fJ (fun k1=>?_)
 refine ax ?_
 obtain⟨o2,fP,hO3⟩:=bind_some hF
 refine au ?_
 refine bZ (fun f' cs'=>∃(c19:Bool)(g:Fr),c19=o2/\f'=aH g [(1,(pz k1)),(25,(.bool c19))]/\aF cs' [cZ k1 47 (zg [(zi bI.From),(zi bI.To),o5.v]),aD o5 bI.Map]) ?_ ?_
 · replace hF:=fP
   refine aG ?_
   refine bnd hF fun r4 hx5 hF=>aB (BN hx5) (fun _=>?_)
   refine aG ?_
   rcases a_ (!r4)with bf|bf
   · rw[bf]
     try rw[bf]at hF; dsimp only[ak,aj]at hF
     exact aO hF
   rw[bf]
   try rw[bf]at hF; dsimp only[ak,aj]at hF
   refine aC ?_
   refine bnd hF fun r8 bS hF=>aB (BN bS) (fun _=>?_)
   refine aA ?_
   rcases a_ (!r8)with bQ|bQ
   · rw[bQ]
     try rw[bQ]at hF; dsimp only[ak,aj]at hF
     exact aO hF
   rw[bQ]
   try rw[bQ]at hF; dsimp only[ak,aj]at hF
   refine bK ?_
   refine bnd hF fun bY eY hF=>aB (jF eY) (fun _=>?_)
   refine aA ?_
   rcases a_ (!bY)with gN|gN
   · rw[gN]
     try rw[gN]at hF; dsimp only[ak,aj]at hF
     exact aO hF
   rw[gN]
   try rw[gN]at hF; dsimp only[ak,aj]at hF
   refine aC ?_
   refine bnd hF fun r16 iT hF=>aB (Nc iT) (fun _=>?_)
   exact aO hF
 rintro _ _ ⟨c19,g50,rfl,rfl,hE⟩
 replace hF:=hO3
 try dsimp only at hF
 refine bg hE ?_
 refine Ci hF (fun K5 hF=>?_) (fun K5 hF=>?_)
 · exact ze hF
 refine au ?_
 refine gF [0,1,5,6,10,11,2,3,4,7,8,9,12,13,14] [0,1,3,7,15,0,32,103,255,511,0,1024,3303,8191,16383] [2,7,12] mixed (by decide+kernel) ?_
 refine wo ?_
 refine bnd hF fun gz iR hF=>dm (kT iR) (fun _=>?_)
 refine bnd hF fun jE hx24 hF=>?_
 obtain⟨Sd,Sg⟩:=bq hx24
 refine bn rfl .no (fun ha=>bu (s:=[114]) (t:=gz) (u:=jE) (EN ha (.sv _) rfl) (EN ha (.tmp rfl rfl) rfl) hx24) ?_
 refine bnd hF fun x27 hx28 hF=>?_
 obtain⟨KA,KC⟩:=bq hx28
 refine bn rfl .no (fun ha=>bu (s:=jE) (t:=[32,103,105,118,101,115,32,114]) (u:=x27) (EN ha (.tmp rfl rfl) rfl) (EN ha (.sv _) rfl) hx28) ?_
 refine bnd hF fun ja hx32 hF=>dm (kT hx32) (fun _=>?_)
 refine bnd hF fun x34 kg hF=>?_
 obtain⟨Gp,Gq⟩:=bq kg
 refine bn rfl .no (fun ha=>bu (s:=x27) (t:=ja) (u:=x34) (EN ha (.tmp rfl rfl) rfl) (EN ha (.tmp rfl rfl) rfl) kg) ?_
 refine bnd hF fun x38 hx39 hF=>?_
 obtain⟨Ka,Kc⟩:=bq hx39
 refine bn rfl .no (fun ha=>bu (s:=x34) (t:=[32]) (u:=x38) (EN ha (.tmp rfl rfl) rfl) (EN ha (.sv _) rfl) hx39) ?_
 refine bnd hF fun AJ iL hF=>dm (Iw iL) (fun _=>?_)
 refine bnd hF fun Mq GV hF=>?_
 obtain⟨ahG,ahH⟩:=bq GV
 refine bn rfl .no (fun ha=>bu (s:=x38) (t:=AJ) (u:=Mq) (EN ha (.tmp rfl rfl) rfl) (EN ha (.tmp rfl rfl) rfl) GV) ?_
 refine fD ?_
 exact ze hF
def BH(aa:List Int)(aL:List UInt8):Option (fA×Bool):=
 (lK aL [32]).bind fun r2=>
 if (((r2.length:Int):Int)!=4)then (
   some ((⟨0,0,[]⟩:fA),false))
 else (
   (ix r2 0).bind fun x6=>
   (lJ x6 [114]).bind fun bY=>
   (g_ bY).bind fun dY=>
   (ix r2 2).bind fun nU=>
   (lJ nU [114]).bind fun dh=>
   (g_ dh).bind fun lH=>
   (ix r2 3).bind fun x30=>
   (lK x30 [44]).bind fun iq=>
   (vJ iq).bind fun fo=>
   ((Ch aa (⟨dY.1,lH.1,fo.1⟩:fA)).bind fun Mr=>
     bif (!Mr)then (some true)
     else ((Bv (⟨dY.1,lH.1,fo.1⟩:fA)).bind fun nO=>
       some (!(nO==aL)))).bind fun Ms=>
   match Ms with
   |c51=>if c51 then (
       some ((⟨0,0,[]⟩:fA),false))
     else (
       some ((⟨dY.1,lH.1,fo.1⟩:fA),true)))
theorem Vb{aa:List Int}{ae:Sv}{aL:List UInt8}{R:fA×Bool}(hF:BH aa aL=some R):
   Fw.Spec Tryz.prog 53 [ae.v,(sv aL)] [aD ae aa] (fun p:Sv×List Nat=>(.tuple [(zg [(zi R.1.From),(zi R.1.To),p.1.v]),(.bool R.2)].toArray)) (fun p=>[bV p.2 p.1 R.1.Map]):=by
 refine Se 54 Tryz.func53 [.cell 4 47,.tmp 5] ?_
 intro H0 F0
 unfold BH at hF
 refine au ?_
 refine fE (fun k1=>?_)
 refine aA ?_
 refine bnd hF fun r2 hx3 hF=>dC (rz hx3) (fun p4=>?_)
 refine dB ?_
 refine Ci hF (fun Li hF=>?_) (fun Li hF=>?_)
 · refine au ?_
   refine ai (fH mi.h rfl (vs:=[]) .nil (cells:=[(zi 0),(zi 0),(.slice none 0 0)]) rfl) ?_
   refine As (zg [(zi 0),(zi 0),(.slice none 0 0)]) ?_
   refine ax ?_
   cases hF
   exact dx (⟨none,0,0⟩,[]) (.cellA rfl rfl .h rfl Ae.h mi.h.sz rfl rfl (.tmp rfl rfl .nil)) rfl (.conv .nil (dV (Ro:=(aK aY)) (E:=3)) (.cons .nil) (.sel (.cons .h .nil)))
 refine aG ?_
 refine ai (fH mi.h rfl (vs:=[]) .nil (cells:=[(zi 0),(zi 0),(.slice none 0 0)]) rfl) ?_
 refine fE (fun k5=>?_)
 refine As (zg [(zi 0),(zi 0),(.slice none 0 0)]) ?_
 refine ax ?_
 refine zI hF fun x6 hp8 bS hF=>?_
 refine Ai bS (fun k10 j11=>?_)
 refine Al fw ?_
 refine bnd hF fun bY eY hF=>aB (yQ eY) (fun _=>?_)
 refine bnd hF fun dY hx16 hF=>aB (lL hx16) (fun _=>?_)
 refine au ?_
 refine zx ?_
 refine zx ?_
 refine au ?_
 refine As (zg [(zi dY.1),(zi 0),(.slice none 0 0)]) ?_
 refine ax ?_
 refine zI hF fun nU J4 iR hF=>?_
 refine Ai iR (fun k22 j23=>?_)
 refine Al fw ?_
 refine bnd hF fun dh hx25 hF=>aB (yQ hx25) (fun _=>?_)
 refine bnd hF fun lH hx28 hF=>aB (lL hx28) (fun _=>?_)
 refine au ?_
 refine zx ?_
 refine zx ?_
 refine au ?_
 refine As (zg [(zi dY.1),(zi lH.1),(.slice none 0 0)]) ?_
 refine ax ?_
 refine zI hF fun x30 ahI mV hF=>?_
 refine Ai mV (fun k34 j35=>?_)
 refine Al fw ?_
 refine bnd hF fun iq t_ hF=>dC (rz t_) (fun p38=>?_)
 refine bnd hF fun fo kG hF=>dC (Il kG) (fun p41=>?_)
 refine au ?_
 refine zx ?_
 refine zx ?_
 refine au ?_
 refine As (zg [(zi dY.1),(zi lH.1),p41.1.v]) ?_
 refine aG ?_
 obtain⟨Ms,aaW,ac3⟩:=bind_some hF
 refine au ?_
 refine bZ (fun f' cs'=>∃(c51:Bool)(g:Fr),c51=Ms/\f'=aH g [(4,(pz k1)),(7,(pz k5)),(51,(.bool c51))]/\aF cs' [bW k1 47 (zg [(zi 0),(zi 0),(.slice none 0 0)]),bW k5 47 (zg [(zi dY.1),(zi lH.1),p41.1.v]),bV p41.2 p41.1 fo.1]) ?_ ?_
 · replace hF:=aaW
   refine aG ?_
   refine bnd hF fun Mr Ko hF=>bX (.cons (.t .h) (.rd .q7 rfl .nil)) (gm cu (fun _=>.nil) (oF (.rd (.t .h) rfl (.rd .h rfl .nil)) (bT abO.h bG (VV Ko)))) (fun _=>?_)
   refine aG ?_
   rcases a_ (!Mr)with oV|oV
   · rw[oV]
     try rw[oV]at hF; dsimp only[ak,aj]at hF
     exact aO hF
   rw[oV]
   try rw[oV]at hF; dsimp only[ak,aj]at hF
   refine ax ?_
   refine bnd hF fun nO mo hF=>bX (.cons .h .nil) (gm cu (fun _=>.nil) (bT abP.h bG (UK mo))) (fun _=>?_)
   refine ax ?_
   refine ai (iP (s:=nO) (t:=aL) (.tmp rfl rfl) (.tmp rfl rfl)) ?_
   exact aO hF
 rintro _ _ ⟨c51,g53,rfl,rfl,hE⟩
 replace hF:=ac3
 try dsimp only at hF
 refine bg hE ?_
 refine Ci hF (fun DI hF=>?_) (fun DI hF=>?_)
 · refine au ?_
   refine ai (fH mi.h rfl (vs:=[]) .nil (cells:=[(zi 0),(zi 0),(.slice none 0 0)]) rfl) ?_
   refine As (zg [(zi 0),(zi 0),(.slice none 0 0)]) ?_
   refine ax ?_
   cases hF
   exact dx (⟨none,0,0⟩,[]) (.cellA rfl rfl .h rfl Ae.h mi.h.sz rfl rfl (.tmp rfl rfl .nil)) rfl (.conv .nil (dV (Ro:=(aK aY)) (E:=3)) (.cons .nil) (.sel (.cons .h .nil)))
 refine ax ?_
 refine As (zg [(zi dY.1),(zi lH.1),p41.1.v]) ?_
 refine ax ?_
 cases hF
 exact dx (p41.1,p41.2) (.cellA rfl rfl .h rfl Ae.h mi.h.sz rfl rfl (.tmp rfl rfl .nil)) rfl (.sel (.cons .q2 .nil))
def ru(aa:List UInt8)(fu:List UInt8):Option (Bool):=
 (bif (decide (((fu.length:Int):Int)<=(aa.length:Int)))then ((jD (decide (0<=(IntKind.i64.wrap ((aa.length:Int)-(fu.length:Int))))&&decide ((IntKind.i64.wrap ((aa.length:Int)-(fu.length:Int)))<=((aa).length:Int)))).bind fun u5=>
     some ((aa.drop ((IntKind.i64.wrap ((aa.length:Int)-(fu.length:Int)))).toNat)==fu))
   else (some false)).bind fun o1=>
 match o1 with
 |c7=>some c7
theorem MQ{aa fu:List UInt8}{R:Bool}(hF:ru aa fu=some R):
   Fw.Spec Tryz.prog 181 [(sv aa),(sv fu)] [] (fun _:Unit=>(.bool R)) (fun _=>[]):=by
 refine Se 21 Tryz.func181 [.tmp 4] ?_
 intro H0 F0
 unfold ru at hF
 refine ax ?_
 obtain⟨o1,jW,hO2⟩:=bind_some hF
 refine au ?_
 refine bZ (fun f' cs'=>∃(c7:Bool)(g:Fr),c7=o1/\f'=aH g [(4,(.bool c7))]/\aF cs' []) ?_ ?_
 · replace hF:=jW
   refine au ?_
   refine ai (ig (s:=aa) dG (.tmp rfl rfl)) ?_
   refine au ?_
   refine ai (ig (s:=fu) dG (.tmp rfl rfl)) ?_
   refine aG ?_
   rcases a_ (decide (((fu.length:Int):Int)<=(aa.length:Int)))with hg3|hg3
   · rw[hg3]
     try rw[hg3]at hF; dsimp only[ak,aj]at hF
     refine aC ?_
     refine ai (ig (s:=aa) dG (.tmp rfl rfl)) ?_
     refine ax ?_
     refine ai (ig (s:=fu) dG (.tmp rfl rfl)) ?_
     refine ax ?_
     refine bnd hF fun u5 hx6 hF=>?_
     have hc4:0<=(IntKind.i64.wrap ((aa.length:Int)-(fu.length:Int)))/\(IntKind.i64.wrap ((aa.length:Int)-(fu.length:Int)))<=((aa).length:Int):=by (have hq:=kV hx6; clear hF; simp only[Bool.and_eq_true,decide_eq_true_eq]at*; omega)
     refine ai (zq (s:=aa) (i:=(IntKind.i64.wrap ((aa.length:Int)-(fu.length:Int)))) dG (.tmp rfl rfl) (.tmp rfl rfl) hc4.1 hc4.2) ?_
     refine ax ?_
     refine ai (oJ (s:=(aa.drop ((IntKind.i64.wrap ((aa.length:Int)-(fu.length:Int)))).toNat)) (t:=fu) (.tmp rfl rfl) (.tmp rfl rfl)) ?_
     exact aO hF
   rw[hg3]
   try rw[hg3]at hF; dsimp only[ak,aj]at hF
   exact aO hF
 rintro _ _ ⟨c7,g8,rfl,rfl,hE⟩
 replace hF:=hO2
 try dsimp only at hF
 refine bg hE ?_
 exact ze hF
def wP(aa:List UInt8)(fu:List UInt8):Option (Bool):=
 (ru aa fu).bind fun r1=>
 some r1
theorem Ue{aa fu:List UInt8}{R:Bool}(hF:wP aa fu=some R):
   Fw.Spec Tryz.prog 125 [(sv aa),(sv fu)] [] (fun _:Unit=>(.bool R)) (fun _=>[]):=by
 refine Se 8 Tryz.func125 [.tmp 4] ?_
 intro H0 F0
 unfold wP at hF
 refine bz ?_
 refine bnd hF fun r1 hx2 hF=>aB (MQ hx2) (fun _=>?_)
 exact ze hF
def AZ(aa:List UInt8)(fu:List UInt8):Option ((List UInt8)):=
 (ru aa fu).bind fun r1=>
 if r1 then (
   (jD (decide (0<=(IntKind.i64.wrap ((aa.length:Int)-(fu.length:Int))))&&decide ((IntKind.i64.wrap ((aa.length:Int)-(fu.length:Int)))<=((aa).length:Int)))).bind fun u5=>
   some (aa.take ((IntKind.i64.wrap ((aa.length:Int)-(fu.length:Int)))).toNat))
 else (
   some aa)
theorem TR{aa fu:List UInt8}{R:(List UInt8)}(hF:AZ aa fu=some R):
   Fw.Spec Tryz.prog 182 [(sv aa),(sv fu)] [] (fun _:Unit=>(sv R)) (fun _=>[]):=by
 refine Se 16 Tryz.func182 [.tmp 4] ?_
 intro H0 F0
 unfold AZ at hF
 refine bK ?_
 refine bnd hF fun r1 hx2 hF=>aB (MQ hx2) (fun _=>?_)
 refine au ?_
 refine Ci hF (fun Mj hF=>?_) (fun Mj hF=>?_)
 · refine ax ?_
   refine ai (ig (s:=aa) dG (.tmp rfl rfl)) ?_
   refine au ?_
   refine ai (ig (s:=fu) dG (.tmp rfl rfl)) ?_
   refine au ?_
   refine bnd hF fun u5 hx6 hF=>?_
   have hc4:=kV hx6
   simp only[Bool.and_eq_true,decide_eq_true_eq]at hc4
   refine ai (BS (s:=aa) (j:=(IntKind.i64.wrap ((aa.length:Int)-(fu.length:Int)))) dG (.tmp rfl rfl) (.tmp rfl rfl) hc4.1 hc4.2) ?_
   exact ze hF
 exact ze hF
def uS(aa:List UInt8)(fu:List UInt8):Option ((List UInt8)):=
 (AZ aa fu).bind fun r1=>
 some r1
theorem Uc{aa fu:List UInt8}{R:(List UInt8)}(hF:uS aa fu=some R):
   Fw.Spec Tryz.prog 126 [(sv aa),(sv fu)] [] (fun _:Unit=>(sv R)) (fun _=>[]):=by
 refine Se 8 Tryz.func126 [.tmp 4] ?_
 intro H0 F0
 unfold uS at hF
 refine bz ?_
 refine bnd hF fun r1 hx2 hF=>aB (TR hx2) (fun _=>?_)
 exact ze hF
def vK(FE:List UInt8)(aL:List UInt8):Option (Int×(List (List UInt8))×Bool):=
 (rG aL [40]).bind fun r1=>
 (lJ r1.1 FE).bind fun r4=>
 (g_ r4).bind fun r7=>
 (bif (!r1.2.2)then (some true)
   else (bif (!r7.2)then (some true)
     else ((wP r1.2.1 [41]).bind fun kQ=>
       some (!kQ)))).bind fun yD=>
 match yD with
 |c17=>if c17 then (
     some (0,[],false))
   else (
     (uS r1.2.1 [41]).bind fun fG=>
     if (fG==[])then (
       some (r7.1,[],true))
     else (
       (lK fG [44]).bind fun fV=>
       some (r7.1,fV,true)))
theorem N8{FE aL:List UInt8}{R:Int×(List (List UInt8))×Bool}(hF:vK FE aL=some R):
   Fw.Spec Tryz.prog 86 [(sv FE),(sv aL)] [] (fun p:Sv=>(.tuple [(zi R.1),p.v,(.bool R.2.2)].toArray)) (fun p=>[jl p R.2.1]):=by
 refine Se 45 Tryz.func86 [.tmp 4,.tmp 5,.tmp 6] ?_
 intro H0 F0
 unfold vK at hF
 refine bK ?_
 refine bnd hF fun r1 hx2 hF=>aB (Ih hx2) (fun _=>?_)
 refine au ?_
 refine zx ?_
 refine zx ?_
 refine zx ?_
 refine bK ?_
 refine bnd hF fun r4 hx5 hF=>aB (yQ hx5) (fun _=>?_)
 refine bnd hF fun r7 gZ hF=>aB (lL gZ) (fun _=>?_)
 refine au ?_
 refine zx ?_
 refine zx ?_
 refine aA ?_
 obtain⟨yD,JD,Kw⟩:=bind_some hF
 refine au ?_
 refine bZ (fun f' cs'=>∃(c17:Bool)(g:Fr),c17=yD/\f'=aH g [(8,(sv r1.2.1)),(10,(zi r7.1)),(36,(.bool c17))]/\aF cs' []) ?_ ?_
 · replace hF:=JD
   refine ax ?_
   rcases a_ (!r1.2.2)with gM|gM
   · rw[gM]
     try rw[gM]at hF; dsimp only[ak,aj]at hF
     exact aO hF
   rw[gM]
   try rw[gM]at hF; dsimp only[ak,aj]at hF
   refine bz ?_
   rcases a_ (!r7.2)with Ea|Ea
   · rw[Ea]
     try rw[Ea]at hF; dsimp only[ak,aj]at hF
     exact aO hF
   rw[Ea]
   try rw[Ea]at hF; dsimp only[ak,aj]at hF
   refine ax ?_
   refine bnd hF fun kQ jA hF=>aB (Ue jA) (fun _=>?_)
   exact aO hF
 rintro _ _ ⟨c17,g26,rfl,rfl,hE⟩
 replace hF:=Kw
 try dsimp only at hF
 refine bg hE ?_
 refine Ci hF (fun uq hF=>?_) (fun uq hF=>?_)
 · refine bz ?_
   cases hF
   exact dx (⟨none,0,0⟩) (.tmp rfl rfl (.tmp rfl rfl (.tmp rfl rfl .nil))) rfl (.conv .nil (zR (R:=rdStr) (E:=9)) (.cons .nil) (.sel (.rd .h rfl .nil)))
 refine ax ?_
 refine bnd hF fun fG lq hF=>aB (Uc lq) (fun _=>?_)
 refine aC ?_
 refine ai (oJ (s:=fG) (t:=[]) (.tmp rfl rfl) (.sv _)) ?_
 refine au ?_
 refine Ci hF (fun J2 hF=>?_) (fun J2 hF=>?_)
 · refine bK ?_
   cases hF
   exact dx (⟨none,0,0⟩) (.tmp rfl rfl (.tmp rfl rfl (.tmp rfl rfl .nil))) rfl (.conv .nil (zR (R:=rdStr) (E:=9)) (.cons .nil) (.sel (.rd .h rfl .nil)))
 refine aA ?_
 refine bnd hF fun fV o7 hF=>dC (rz o7) (fun p23=>?_)
 refine aC ?_
 cases hF
 exact Er p23
def BU(cO:Int):Option (Bool):=
 (h_ cO 0 9).bind fun r1=>
 some r1
theorem Om{cO:Int}{R:Bool}(hF:BU cO=some R):
   Fw.Spec Tryz.prog 184 [(zi cO)] [] (fun _:Unit=>(.bool R)) (fun _=>[]):=by
 refine Se 5 Tryz.func184 [.tmp 2] ?_
 intro H0 F0
 unfold BU at hF
 refine aC ?_
 refine bnd hF fun r1 hx2 hF=>aB (jF hx2) (fun _=>?_)
 exact ze hF
def EW(cO:Int):Option (Bool):=
 (BU cO).bind fun r1=>
 some (!r1)
theorem Uz{cO:Int}{R:Bool}(hF:EW cO=some R):
   Fw.Spec Tryz.prog 183 [(zi cO)] [] (fun _:Unit=>(.bool R)) (fun _=>[]):=by
 refine Se 6 Tryz.func183 [.tmp 2] ?_
 intro H0 F0
 unfold EW at hF
 refine aC ?_
 refine bnd hF fun r1 hx2 hF=>aB (Om hx2) (fun _=>?_)
 exact ze hF
def yM:List Int->Nat->Option (Int)
 |[],k4=>some (-1)
 |x6::aM,k4=>(EW x6).bind fun dY=>
   if dY then (
     some (k4:Int))
   else (
     yM aM (k4+1))
def EK(aa:List Int):Option (Int):=
 yM aa 0
theorem TL{aa:List Int}{ae:Sv}{R:Int}(hF:EK aa=some R):
   Fw.Spec Tryz.prog 228 [ae.v,(.func (.func 183) [].toArray [].toArray)] [aD ae aa] (fun _:Unit=>(zi R)) (fun _=>[]):=by
 refine Se 19 Tryz.func228 [.tmp 4] ?_
 intro H0 F0
 unfold EK at hF
 refine fU ?_
 refine bF (bU (m:=aa.length) (fun m2 f' cs'=>∃(g:Fr)(k4:Nat)(aM:List Int),m2=aM.length/\f'=aH g [(0,ae.v),(1,(.func (.func 183) [].toArray [].toArray)),(7,(zi (aa.length:Int))),(8,(zi (k4:Int)))]/\List.drop k4 aa=aM/\aF cs' [aD ae aa]/\yM aM k4=some R) ⟨_,0,_,rfl,aJ,rfl,aI,hF⟩ ?_)
 rintro m2 _ _ ⟨g3,k4,aM,rfl,rfl,hd7,hE,hF⟩
 refine Kb hE aa (fun mO=>?_)
 rcases aM with _|⟨x6,aM⟩
 · have gQ:=dn hd7
   rw[yM]at hF
   refine aA ?_
   refine dJ ?_
   exact ze hF
 obtain⟨gQ,bS,ic⟩:=dD hd7
 rw[yM]at hF
 refine aA ?_
 refine dI ?_
 refine jT ?_
 refine Ai bS (fun k13 nQ=>?_)
 refine Al dE ?_
 refine bnd hF fun dY hx16 hF=>mP .nil (vQ Zt.h (.tmp rfl rfl) bG (Uz hx16)) (fun _=>?_)
 refine au ?_
 refine Ci hF (fun pu hF=>?_) (fun pu hF=>?_)
 · exact ze hF
 refine aC ?_
 rw[wk k4]
 exact⟨_,cz _,_,k4+1,aM,rfl,aJ,ic,aI,hF⟩
def AU(aa:List Int):Option (Bool):=
 (EK aa).bind fun r1=>
 some (decide ((0:Int)<=r1))
theorem TE{aa:List Int}{ae:Sv}{R:Bool}(hF:AU aa=some R):
   Fw.Spec Tryz.prog 164 [ae.v,(.func (.func 183) [].toArray [].toArray)] [aD ae aa] (fun _:Unit=>(.bool R)) (fun _=>[]):=by
 refine Se 9 Tryz.func164 [.tmp 4] ?_
 intro H0 F0
 unfold AU at hF
 refine bz ?_
 refine bnd hF fun r1 hx2 hF=>aB (TL hx2) (fun _=>?_)
 exact ze hF
def za(bi:List Int):Option (Bool):=
 (AU bi).bind fun r1=>
 some (!r1)
theorem NF{bi:List Int}{ae:Sv}{R:Bool}(hF:za bi=some R):
   Fw.Spec Tryz.prog 127 [ae.v] [aD ae bi] (fun _:Unit=>(.bool R)) (fun _=>[]):=by
 refine Se 6 Tryz.func127 [.tmp 2] ?_
 intro H0 F0
 unfold za at hF
 refine aC ?_
 refine bnd hF fun r1 hx2 hF=>aB (TE hx2) (fun _=>?_)
 exact ze hF
def Cj(aa:List Int)(cB:Fact):Option (Bool):=
 ((rX aa cB.Rel).bind fun r4=>
   bif r4 then ((ix aa cB.Rel).bind fun x8=>
     bif (((cB.Values.length:Int):Int)==x8)then ((za cB.Values).bind fun dY=>
       some dY)
     else (some false))
   else (some false)).bind fun o2=>
 match o2 with
 |c18=>some c18
theorem VW{aa:List Int}{ae:Sv}{cB:Fact}{eG:Sv}{R:Bool}(hF:Cj aa cB=some R):
   Fw.Spec Tryz.prog 87 [ae.v,(zg [(zi cB.Rel),eG.v])] [aD ae aa,aD eG cB.Values] (fun _:Unit=>(.bool R)) (fun _=>[]):=by
 refine Se 25 Tryz.func87 [.tmp 4] ?_
 intro H0 F0
 unfold Cj at hF
 refine au ?_
 refine fJ (fun k1=>?_)
 refine aG ?_
 obtain⟨o2,fP,hO3⟩:=bind_some hF
 refine gF [0,1,2,3,4,5,6,7,8,9,10,11,12,13,14,15,16,17,18,19,20] [0,0,2,7,15,31,63,127,31,31,543,1823,3871,8191,16383,32767,65535,131071,262143,524287,1048575] [3,18] mixed (by decide+kernel) ?_
 refine qz (fun f' cs'=>∃(c18:Bool)(g:Fr),c18=o2/\f'=aH g [(4,(.bool c18))]/\aF cs' []) ?_ ?_
 · replace hF:=fP
   refine iD ?_
   refine bnd hF fun r4 hx5 hF=>dm (BF hx5) (fun _=>?_)
   refine du ?_
   rcases a_ r4 with bf|bf
   · rw[bf]
     try rw[bf]at hF; dsimp only[ak,aj]at hF
     refine wo ?_
     refine zI hF fun x8 JZ lm hF=>?_
     refine Di lm (fun k12 j13=>?_)
     refine Dl dE ?_
     refine iD ?_
     rcases a_ (((cB.Values.length:Int):Int)==x8)with pF|pF
     · rw[pF]
       try rw[pF]at hF; dsimp only[ak,aj]at hF
       refine fD ?_
       refine bnd hF fun dY hx16 hF=>dm (NF hx16) (fun _=>?_)
       exact gH hF
     rw[pF]
     try rw[pF]at hF; dsimp only[ak,aj]at hF
     exact gH hF
   rw[bf]
   try rw[bf]at hF; dsimp only[ak,aj]at hF
   exact gH hF
 rintro _ _ ⟨c18,g19,rfl,rfl,hE⟩
 replace hF:=hO3
 try dsimp only at hF
 refine bg hE ?_
 exact ze hF
def Bw(cB:Fact):Option ((List UInt8)):=
 ((oz cB.Rel).bind fun r4=>
   bif (!r4)then (some true)
   else ((h_ (cB.Values.length:Int) 1 3).bind fun r8=>
     bif (!r8)then (some true)
     else ((za cB.Values).bind fun bY=>
       some (!bY)))).bind fun o2=>
 match o2 with
 |c15=>if c15 then (
     some [])
   else (
     (jc cB.Rel).bind fun r16=>
     (aP [114] r16).bind fun lD=>
     (aP lD [40]).bind fun jE=>
     (xA cB.Values [44]).bind fun lH=>
     (aP jE lH).bind fun x30=>
     (aP x30 [41]).bind fun x34=>
     some x34)
theorem UL{cB:Fact}{bC:Sv}{R:(List UInt8)}(hF:Bw cB=some R):
   Fw.Spec Tryz.prog 88 [(zg [(zi cB.Rel),bC.v])] [aD bC cB.Values] (fun _:Unit=>(sv R)) (fun _=>[]):=by
 refine Se 30 Tryz.func88 [.tmp 2] ?_
 intro H0 F0
 unfold Bw at hF
 refine au ?_
 refine fJ (fun k1=>?_)
 refine ax ?_
 obtain⟨o2,fP,hO3⟩:=bind_some hF
 refine au ?_
 refine bZ (fun f' cs'=>∃(c15:Bool)(g:Fr),c15=o2/\f'=aH g [(1,(pz k1)),(19,(.bool c15))]/\aF cs' [cZ k1 51 (zg [(zi cB.Rel),bC.v]),aD bC cB.Values]) ?_ ?_
 · replace hF:=fP
   refine aG ?_
   refine bnd hF fun r4 hx5 hF=>aB (BN hx5) (fun _=>?_)
   refine aG ?_
   rcases a_ (!r4)with bf|bf
   · rw[bf]
     try rw[bf]at hF; dsimp only[ak,aj]at hF
     exact aO hF
   rw[bf]
   try rw[bf]at hF; dsimp only[ak,aj]at hF
   refine bK ?_
   refine bnd hF fun r8 bS hF=>aB (jF bS) (fun _=>?_)
   refine aA ?_
   rcases a_ (!r8)with bQ|bQ
   · rw[bQ]
     try rw[bQ]at hF; dsimp only[ak,aj]at hF
     exact aO hF
   rw[bQ]
   try rw[bQ]at hF; dsimp only[ak,aj]at hF
   refine aC ?_
   refine bnd hF fun bY eY hF=>aB (NF eY) (fun _=>?_)
   exact aO hF
 rintro _ _ ⟨c15,LX,rfl,rfl,hE⟩
 replace hF:=hO3
 try dsimp only at hF
 refine bg hE ?_
 refine Ci hF (fun mU hF=>?_) (fun mU hF=>?_)
 · exact ze hF
 refine au ?_
 refine gF [0,1,5,6,2,3,4,7,8,9,10] [0,1,3,7,15,0,32,103,255,511,1023] [2,7] mixed (by decide+kernel) ?_
 refine tZ ?_
 refine bnd hF fun r16 iT hF=>dm (kT iT) (fun _=>?_)
 refine bnd hF fun lD iK hF=>?_
 obtain⟨Rv,Rw⟩:=bq iK
 refine bn rfl .no (fun ha=>bu (s:=[114]) (t:=r16) (u:=lD) (EN ha (.sv _) rfl) (EN ha (.tmp rfl rfl) rfl) iK) ?_
 refine bnd hF fun jE hx24 hF=>?_
 obtain⟨Sd,Sg⟩:=bq hx24
 refine bn rfl .no (fun ha=>bu (s:=lD) (t:=[40]) (u:=jE) (EN ha (.tmp rfl rfl) rfl) (EN ha (.sv _) rfl) hx24) ?_
 refine bnd hF fun lH hx28 hF=>dm (Iw hx28) (fun _=>?_)
 refine bnd hF fun x30 hx31 hF=>?_
 obtain⟨R8,hz32⟩:=bq hx31
 refine bn rfl .no (fun ha=>bu (s:=jE) (t:=lH) (u:=x30) (EN ha (.tmp rfl rfl) rfl) (EN ha (.tmp rfl rfl) rfl) hx31) ?_
 refine bnd hF fun x34 kg hF=>?_
 obtain⟨Gp,Gq⟩:=bq kg
 refine bn rfl .no (fun ha=>bu (s:=x30) (t:=[41]) (u:=x34) (EN ha (.tmp rfl rfl) rfl) (EN ha (.sv _) rfl) kg) ?_
 refine fD ?_
 exact ze hF
def zb(aa:List Int)(aL:List UInt8):Option (Fact×Bool):=
 (vK [114] aL).bind fun r2=>
 (vJ r2.2.1).bind fun r5=>
 (bif (!r2.2.2)then (some true)
   else (bif (!r5.2)then (some true)
     else ((Cj aa (⟨r2.1,r5.1⟩:Fact)).bind fun ky=>
       bif (!ky)then (some true)
       else ((Bw (⟨r2.1,r5.1⟩:Fact)).bind fun gB=>
         some (!(gB==aL)))))).bind fun o9=>
 match o9 with
 |c20=>if c20 then (
     some ((⟨0,[]⟩:Fact),false))
   else (
     some ((⟨r2.1,r5.1⟩:Fact),true))
theorem NG{aa:List Int}{ae:Sv}{aL:List UInt8}{R:Fact×Bool}(hF:zb aa aL=some R):
   Fw.Spec Tryz.prog 56 [ae.v,(sv aL)] [aD ae aa] (fun p:Sv×List Nat=>(.tuple [(zg [(zi R.1.Rel),p.1.v]),(.bool R.2)].toArray)) (fun p=>[bV p.2 p.1 R.1.Values]):=by
 refine Se 46 Tryz.func56 [.cell 4 51,.tmp 5] ?_
 intro H0 F0
 unfold zb at hF
 refine au ?_
 refine fE (fun k1=>?_)
 refine aA ?_
 refine bnd hF fun r2 hx3 hF=>dC (N8 hx3) (fun p4=>?_)
 refine au ?_
 refine zx ?_
 refine zx ?_
 refine zx ?_
 refine bz ?_
 refine bnd hF fun r5 hx6 hF=>dC (Il hx6) (fun p7=>?_)
 refine au ?_
 refine zx ?_
 refine zx ?_
 refine bz ?_
 refine ai (fH wm.h rfl (vs:=[(zi r2.1),p7.1.v]) bG (cells:=[(zi r2.1),p7.1.v]) rfl) ?_
 refine fE (fun k8=>?_)
 refine As (zg [(zi r2.1),p7.1.v]) ?_
 refine aG ?_
 obtain⟨o9,ac4,ac5⟩:=bind_some hF
 refine au ?_
 refine bZ (fun f' cs'=>∃(c20:Bool)(g:Fr),c20=o9/\f'=aH g [(4,(pz k1)),(11,(pz k8)),(43,(.bool c20))]/\aF cs' [bW k1 51 (zg [(zi 0),(.slice none 0 0)]),bW k8 51 (zg [(zi r2.1),p7.1.v]),bV p7.2 p7.1 r5.1]) ?_ ?_
 · replace hF:=ac4
   refine ax ?_
   rcases a_ (!r2.2.2)with bQ|bQ
   · rw[bQ]
     try rw[bQ]at hF; dsimp only[ak,aj]at hF
     exact aO hF
   rw[bQ]
   try rw[bQ]at hF; dsimp only[ak,aj]at hF
   refine bz ?_
   rcases a_ (!r5.2)with gM|gM
   · rw[gM]
     try rw[gM]at hF; dsimp only[ak,aj]at hF
     exact aO hF
   rw[gM]
   try rw[gM]at hF; dsimp only[ak,aj]at hF
   refine aC ?_
   refine bnd hF fun ky jB hF=>bX (.cons (.t .h) (.rd .q3 rfl .nil)) (gm cu (fun _=>.nil) (oF (.rd (.t .h) rfl (.rd .h rfl .nil)) (bT abQ.h bG (VW jB)))) (fun _=>?_)
   refine aA ?_
   rcases a_ (!ky)with gP|gP
   · rw[gP]
     try rw[gP]at hF; dsimp only[ak,aj]at hF
     exact aO hF
   rw[gP]
   try rw[gP]at hF; dsimp only[ak,aj]at hF
   refine ax ?_
   refine bnd hF fun gB jX hF=>bX (.cons .h .nil) (gm cu (fun _=>.nil) (bT abR.h bG (UL jX))) (fun _=>?_)
   refine ax ?_
   refine ai (iP (s:=gB) (t:=aL) (.tmp rfl rfl) (.tmp rfl rfl)) ?_
   exact aO hF
 rintro _ _ ⟨c20,g22,rfl,rfl,hE⟩
 replace hF:=ac5
 try dsimp only at hF
 refine bg hE ?_
 refine Ci hF (fun ac6 hF=>?_) (fun ac6 hF=>?_)
 · refine au ?_
   refine ai (fH wm.h rfl (vs:=[]) .nil (cells:=[(zi 0),(.slice none 0 0)]) rfl) ?_
   refine As (zg [(zi 0),(.slice none 0 0)]) ?_
   refine ax ?_
   cases hF
   exact dx (⟨none,0,0⟩,[]) (.cellA rfl rfl .h rfl Gh.h wm.h.sz rfl rfl (.tmp rfl rfl .nil)) rfl (.conv .nil (dV (Ro:=(aK aY)) (E:=3)) (.cons .nil) (.sel (.cons .h .nil)))
 refine ax ?_
 refine As (zg [(zi r2.1),p7.1.v]) ?_
 refine ax ?_
 cases hF
 exact dx (p7.1,p7.2) (.cellA rfl rfl .h rfl Gh.h wm.h.sz rfl rfl (.tmp rfl rfl .nil)) rfl (.sel (.cons .q2 .nil))
def ng:List (List UInt8)->Nat->(List Int)->Option ((List Int)×Bool)
 |[],k8,c2=>some (c2,true)
 |gD::dz,k8,c2=>(((lJ gD [120]).bind fun fV=>
     (g_ fV).bind fun dh=>
     if (!dh.2)then (
       some (.inl ([],false)))
     else (
       if (!(fV==gD))then (
         (app c2 ([(IntKind.i64.wrap (dh.1+10))]:List Int)).bind fun z28=>
         some (.inr z28))
       else (
         (app c2 ([dh.1]:List Int)).bind fun z32=>
         some (.inr z32)))):Option (Sum ((List Int)×Bool) ((List Int)))).bind fun Mt=>
   match Mt with
   | .inl r=>some r
   | .inr c37=>ng dz (k8+1) c37
def vF(jq:List (List UInt8)):Option ((List Int)×Bool):=
 ng jq 0 ([]:List Int)
theorem NH{jq:List (List UInt8)}{ae:Sv}{R:(List Int)×Bool}(hF:vF jq=some R):
   Fw.Spec Tryz.prog 139 [ae.v] [jl ae jq] (fun p:Sv×List Nat=>(.tuple [p.1.v,(.bool R.2)].toArray)) (fun p=>[bV p.2 p.1 R.1]):=by
 refine Se 37 Tryz.func139 [.tmp 2,.tmp 3] ?_
 intro H0 F0
 unfold vF at hF
 refine aC ?_
 refine eF rfl (dN (g:=true) eZ.h ek.h .nil (vs:=[]) rfl rfl rfl (by simp)) (fun k1=>?_)
 refine fF (.cons .h .nil) (dP (Ro:=(aK aY)) (E:=3) (F:=[]) (xs:=([]:List Int)) dO rfl rfl) ?_
 refine dB ?_
 refine bF (bU (m:=jq.length) (fun m6 f' cs'=>∃(g:Fr)(k8:Nat)(dz:List (List UInt8))(c2:List Int)(v3:Sv)(F4:List Nat),m6=dz.length/\f'=aH g [(4,v3.v),(11,ae.v),(12,(zi (jq.length:Int))),(13,(zi (k8:Int)))]/\List.drop k8 jq=dz/\aF cs' [bV F4 v3 c2,jl ae jq]/\ng dz k8 c2=some R) ⟨_,0,_,_,⟨(some ⟨k1,0,none⟩),0,1⟩,(k1::[]),rfl,aJ,rfl,aI,hF⟩ ?_)
 rintro m6 _ _ ⟨g7,k8,dz,c2,v3,F4,rfl,rfl,ji,hE,hF⟩
 refine Kb hE jq (fun Gd=>?_)
 rcases dz with _|⟨gD,dz⟩
 · have uw:=dn ji
   rw[ng]at hF
   refine aA ?_
   refine dJ ?_
   refine jT ?_
   cases hF
   exact Er (v3,F4)
 obtain⟨uw,eY,uy⟩:=dD ji
 rw[ng]at hF
 refine aA ?_
 refine dI ?_
 refine au ?_
 obtain⟨Mt,aaX,Si⟩:=bind_some hF
 refine kY (fun f' cs'=>∃(c37:List Int)(v38:Sv)(Mv:List Nat)(g:Fr),Mt= .inr c37/\f'=aH g [(4,v38.v),(11,ae.v),(12,(zi (jq.length:Int))),(13,(zi (k8:Int)))]/\aF cs' [bV Mv v38 c37,jl ae jq]) ?_ ?_
 · replace hF:=aaX
   refine bF (dw (qx (a:=gD) fI.h gy.h.sz (.tmp rfl rfl) (.tmp rfl rfl) (.t .h) (Int.natCast_nonneg k8) eY (fun k19 Tn=>?_)))
   refine Al fw ?_
   refine aA ?_
   refine bnd hF fun fV o7 hF=>aB (yQ o7) (fun _=>?_)
   refine aA ?_
   refine bnd hF fun dh hx25 hF=>aB (lL hx25) (fun _=>?_)
   refine au ?_
   refine zx ?_
   refine zx ?_
   refine dB ?_
   refine Ci hF (fun Lj hF=>?_) (fun Lj hF=>?_)
   · refine aC ?_
     cases hF
     replace hF:=Si
     try dsimp only at hF
     cases hF
     exact dx (⟨none,0,0⟩,[]) (.tmp rfl rfl (.tmp rfl rfl .nil)) rfl (.conv .nil (dV (Ro:=(aK aY)) (E:=3)) (.cons .nil) (.sel (.cons .h .nil)))
   refine aC ?_
   refine ai (iP (s:=fV) (t:=gD) (.tmp rfl rfl) (.tmp rfl rfl)) ?_
   refine au ?_
   refine Ci hF (fun D6 hF=>?_) (fun D6 hF=>?_)
   · refine dB ?_
     refine eF rfl (dN (g:=true) eZ.h ek.h bG (vs:=[(zi (IntKind.i64.wrap (dh.1+10)))]) rfl rfl rfl (by intro v hv; simp at hv; rcases hv with rfl<;>rfl)) (fun k27=>?_)
     refine fF (.cons .h .nil) (dP (Ro:=(aK aY)) (E:=3) (F:=([]++[])) (xs:=([(IntKind.i64.wrap (dh.1+10))]:List Int)) (dM (eP (fun _=>rfl)) dO bP) rfl rfl) ?_
     refine bnd hF fun z28 hx29 hF=>bX (.cons .q2 (.cons .h .nil)) (iH (Ro:=(aK aY)) eZ.h mQ ek.h rfl rfl rfl (.tmp rfl rfl) (.tmp rfl rfl) hx29 iI) (fun p30=>?_)
     refine aG ?_
     cases hF
     exact⟨_,p30.1,p30.2,_,rfl,aJ,aI⟩
   refine aA ?_
   refine eF rfl (dN (g:=true) eZ.h ek.h bG (vs:=[(zi dh.1)]) rfl rfl rfl (by intro v hv; simp at hv; rcases hv with rfl<;>rfl)) (fun Ht=>?_)
   refine fF (.cons .h .nil) (dP (Ro:=(aK aY)) (E:=3) (F:=([]++[])) (xs:=([dh.1]:List Int)) (dM (eP (fun _=>rfl)) dO bP) rfl rfl) ?_
   refine bnd hF fun z32 mV hF=>bX (.cons .q2 (.cons .h .nil)) (iH (Ro:=(aK aY)) eZ.h mQ ek.h rfl rfl rfl (.tmp rfl rfl) (.tmp rfl rfl) mV iI) (fun p34=>?_)
   refine aG ?_
   cases hF
   exact⟨_,p34.1,p34.2,_,rfl,aJ,aI⟩
 rintro _ _ ⟨c37,v38,Mv,LQ,rfl,rfl,hE⟩
 replace hF:=Si
 try dsimp only at hF
 refine bg hE ?_
 refine aA ?_
 rw[wk k8]
 exact⟨_,cz _,_,k8+1,dz,_,v38,Mv,rfl,aJ,uy,aI,hF⟩
def A7(aa:List (List UInt8))(gJ:List UInt8):Option (Bool):=
 (ry aa gJ).bind fun r1=>
 some (decide ((0:Int)<=r1))
theorem TT{aa:List (List UInt8)}{ae:Sv}{gJ:List UInt8}{R:Bool}(hF:A7 aa gJ=some R):
   Fw.Spec Tryz.prog 202 [ae.v,(sv gJ)] [jl ae aa] (fun _:Unit=>(.bool R)) (fun _=>[]):=by
 refine Se 9 Tryz.func202 [.tmp 4] ?_
 intro H0 F0
 unfold A7 at hF
 refine bz ?_
 refine bnd hF fun r1 hx2 hF=>aB (MR hx2) (fun _=>?_)
 exact ze hF
def Ia(dK:List Int):Option (List Int):=
 some (dK.mergeSort fun x y=>decide (x<=y))
theorem Ua{dK:List Int}{ae:Sv}{lW:List Nat}{R:List Int}(hF:Ia dK=some R):
   Fw.Spec Tryz.prog 275 [ae.v] [bV lW ae dK] (fun _:List Nat=>(.tuple [].toArray)) (fun p=>[bV p ae R]):=by
 cases hF
 exact WI ek.h (Go.Proofs.Any.slices_Sort_int_none Qk) (Go.Proofs.Any.slices_Sort_int Qk)
def H_(dK:List Int):Option (List Int):=
 some (Lib.compact dK)
theorem TZ{dK:List Int}{ae:Sv}{lW:List Nat}{R:List Int}(hF:H_ dK=some R):
   Fw.Spec Tryz.prog 276 [ae.v] [bV lW ae dK] (fun p:Sv×List Nat=>p.1.v) (fun p=>[bV p.2 p.1 R]):=by
 cases hF
 exact Vy ek.h Wq rfl (Go.Proofs.Any.slices_Compact_int_empty PP) (Go.Proofs.Any.slices_Compact_int PP)
def zM(dS:Int):Option (Bool):=
 (h_ dS 10 17).bind fun r1=>
 some r1
theorem IL{dS:Int}{R:Bool}(hF:zM dS=some R):
   Fw.Spec Tryz.prog 246 [(zi dS)] [] (fun _:Unit=>(.bool R)) (fun _=>[]):=by
 refine Se 5 Tryz.func246 [.tmp 2] ?_
 intro H0 F0
 unfold zM at hF
 refine aC ?_
 refine bnd hF fun r1 hx2 hF=>aB (jF hx2) (fun _=>?_)
 exact ze hF
def uT:List Int->Nat->(List Int)->Option ((List Int))
 |[],iA,wK=>some wK
 |iy::jS,iA,wK=>((zM iy).bind fun nO=>
     if nO then (
       (app wK ([iy]:List Int)).bind fun z52=>
       some z52)
     else (
       some wK)).bind fun yG=>
   match yG with
   |EA=>uT jS (iA+1) EA
def uU:List aX->Nat->(List Int)->Option ((List Int))
 |[],k8,c2=>(Ia c2).bind fun gB=>
   (H_ gB).bind fun gz=>
   some gz
 |gD::dz,k8,c2=>(uT gD.Terms 0 c2).bind fun HZ=>
   match HZ with
   |EB=>uU dz (k8+1) EB
def ER(lS:List aX):Option ((List Int)):=
 uU lS 0 ([]:List Int)
theorem Ui{lS:List aX}{ae:Sv}{R:(List Int)}(hF:ER lS=some R):
   Fw.Spec Tryz.prog 245 [ae.v,(.func (.func 246) [].toArray [].toArray)] [gI ae lS] (fun p:Sv×List Nat=>p.1.v) (fun p=>[bV p.2 p.1 R]):=by
 refine Se 37 Tryz.func245 [.tmp 4] ?_
 intro H0 F0
 unfold ER at hF
 refine aA ?_
 refine eF rfl (dN (g:=true) eZ.h ek.h .nil (vs:=[]) rfl rfl rfl (by simp)) (fun k1=>?_)
 refine fF (.cons .h .nil) (dP (Ro:=(aK aY)) (E:=3) (F:=[]) (xs:=([]:List Int)) dO rfl rfl) ?_
 refine dB ?_
 refine bF (bU (m:=lS.length) (fun m6 f' cs'=>∃(g:Fr)(k8:Nat)(dz:List aX)(c2:List Int)(v3:Sv)(F4:List Nat),m6=dz.length/\f'=aH g [(1,(.func (.func 246) [].toArray [].toArray)),(5,v3.v),(11,ae.v),(12,(zi (lS.length:Int))),(13,(zi (k8:Int)))]/\List.drop k8 lS=dz/\aF cs' [bV F4 v3 c2,gI ae lS]/\uU dz k8 c2=some R) ⟨_,0,_,_,⟨(some ⟨k1,0,none⟩),0,1⟩,(k1::[]),rfl,aJ,rfl,aI,hF⟩ ?_)
 rintro m6 _ _ ⟨g7,k8,dz,c2,v3,F4,rfl,rfl,ji,hE,hF⟩
 refine Kb hE lS (fun Gd=>?_)
 rcases dz with _|⟨gD,dz⟩
 · have uw:=dn ji
   rw[uU]at hF
   refine aA ?_
   refine dJ ?_
   refine bz ?_
   refine bnd hF fun gB jX hF=>dC (Ua jX) (fun p19=>?_)
   refine ax ?_
   refine bnd hF fun gz iR hF=>dC (TZ iR) (fun pU=>?_)
   refine ax ?_
   cases hF
   exact Er (pU.1,pU.2)
 obtain⟨uw,eY,uy⟩:=dD ji
 rw[uU]at hF
 refine aA ?_
 refine dI ?_
 refine au ?_
 obtain⟨HZ,aaY,ac7⟩:=bind_some hF
 refine kY (fun f' cs'=>∃(EB:List Int)(v62:Sv)(Mw:List Nat)(g:Fr),EB=HZ/\f'=aH g [(1,(.func (.func 246) [].toArray [].toArray)),(5,v62.v),(11,ae.v),(12,(zi (lS.length:Int))),(13,(zi (k8:Int)))]/\aF cs' [bV Mw v62 EB,gI ae lS]) ?_ ?_
 · replace hF:=aaY
   refine bF (dw (qx (a:=gD) tY.h nI.h.sz (.tmp rfl rfl) (.tmp rfl rfl) (.t .h) (Int.natCast_nonneg k8) eY (fun k25 j26=>?_)))
   refine Ab (xq gD) zt (fun p27=>?_)
   refine fE (fun k28=>?_)
   refine As (zg [(zi gD.Rel),p27.v]) ?_
   refine bK ?_
   refine bF (bU (m:=gD.Terms.length) (fun Et f' cs'=>∃(g:Fr)(iA:Nat)(jS wK:List Int)(v30:Sv)(H5:List Nat),Et=jS.length/\f'=aH g [(1,(.func (.func 246) [].toArray [].toArray)),(5,v30.v),(11,ae.v),(12,(zi (lS.length:Int))),(13,(zi (k8:Int))),(18,p27.v),(19,(zi (gD.Terms.length:Int))),(20,(zi (iA:Int)))]/\List.drop iA gD.Terms=jS/\aF cs' [bV H5 v30 wK,gI ae lS,aD p27 gD.Terms]/\uT jS iA wK=some HZ) ⟨_,0,_,_,v3,F4,rfl,aJ,rfl,aI,hF⟩ ?_)
   rintro Et _ _ ⟨g34,iA,jS,wK,v30,H5,rfl,rfl,hd38,hE,hF⟩
   refine Kb hE gD.Terms (fun aai=>?_)
   rcases jS with _|⟨iy,jS⟩
   · have KV:=dn hd38
     rw[uT]at hF
     refine aA ?_
     refine dJ ?_
     refine aA ?_
     cases hF
     exact⟨_,v30,H5,_,rfl,aJ,aI⟩
   obtain⟨KV,kG,KW⟩:=dD hd38
   rw[uT]at hF
   refine aA ?_
   refine dI ?_
   refine au ?_
   obtain⟨yG,JG,GH⟩:=bind_some hF
   refine kY (fun f' cs'=>∃(EA:List Int)(v57:Sv)(Mx:List Nat)(g:Fr),EA=yG/\f'=aH g [(1,(.func (.func 246) [].toArray [].toArray)),(5,v57.v),(11,ae.v),(12,(zi (lS.length:Int))),(13,(zi (k8:Int))),(18,p27.v),(19,(zi (gD.Terms.length:Int))),(20,(zi (iA:Int)))]/\aF cs' [bV Mx v57 EA,gI ae lS,aD p27 gD.Terms]) ?_ ?_
   · replace hF:=JG
     refine bF (dw (qx (a:=iy) eZ.h ek.h.sz (.tmp rfl rfl) (.tmp rfl rfl) .q2 (Int.natCast_nonneg iA) kG (fun qR Hq=>?_)))
     refine Al dE ?_
     refine aC ?_
     refine bnd hF fun nO mo hF=>mP .nil (vQ Zv.h (.tmp rfl rfl) bG (IL mo)) (fun _=>?_)
     refine au ?_
     refine Ci hF (fun KS hF=>?_) (fun KS hF=>?_)
     · refine ax ?_
       refine eF rfl (dN (g:=true) eZ.h ek.h bG (vs:=[(zi iy)]) rfl rfl rfl (by intro v hv; simp at hv; rcases hv with rfl<;>rfl)) (fun k51=>?_)
       refine fF (.cons .h .nil) (dP (Ro:=(aK aY)) (E:=3) (F:=([]++[])) (xs:=([iy]:List Int)) (dM (eP (fun _=>rfl)) dO bP) rfl rfl) ?_
       refine bnd hF fun z52 uu hF=>bX (.cons .q2 (.cons .h .nil)) (iH (Ro:=(aK aY)) eZ.h mQ ek.h rfl rfl rfl (.tmp rfl rfl) (.tmp rfl rfl) uu iI) (fun p54=>?_)
       refine aG ?_
       cases hF
       exact⟨_,p54.1,p54.2,_,rfl,aJ,aI⟩
     refine au ?_
     cases hF
     exact⟨_,v30,H5,_,rfl,aJ,aI⟩
   rintro _ _ ⟨EA,v57,Mx,g60,rfl,rfl,hE⟩
   replace hF:=GH
   try dsimp only at hF
   refine bg hE ?_
   refine aA ?_
   rw[wk iA]
   exact⟨_,cz _,_,iA+1,jS,_,v57,Mx,rfl,aJ,KW,aI,hF⟩
 rintro _ _ ⟨EB,v62,Mw,SV,rfl,rfl,hE⟩
 replace hF:=ac7
 try dsimp only at hF
 refine bg hE ?_
 refine aA ?_
 rw[wk k8]
 exact⟨_,cz _,_,k8+1,dz,_,v62,Mw,rfl,aJ,uy,aI,hF⟩
def Ck(aN:bJ):Option ((List Int)):=
 (ER aN.Atoms).bind fun r2=>
 some r2
theorem VX{aN:bJ}{ae bC:Sv}{R:(List Int)}(hF:Ck aN=some R):
   Fw.Spec Tryz.prog 207 [(zg [ae.v,bC.v])] [aD ae aN.Head,gI bC aN.Atoms] (fun p:Sv×List Nat=>p.1.v) (fun p=>[bV p.2 p.1 R]):=by
 refine Se 6 Tryz.func207 [.tmp 2] ?_
 intro H0 F0
 unfold Ck at hF
 refine au ?_
 refine fJ (fun k1=>?_)
 refine aC ?_
 refine bnd hF fun r2 hx3 hF=>dC (Ui hx3) (fun p4=>?_)
 refine ax ?_
 cases hF
 exact Er (p4.1,p4.2)
def yP(gJ:Int):List Int->Nat->Option (Int)
 |[],k4=>some (-1)
 |x6::aM,k4=>if ((gJ:Int)==x6)then (
     some (k4:Int))
   else (
     yP gJ aM (k4+1))
def Ba(aa:List Int)(gJ:Int):Option (Int):=
 yP gJ aa 0
theorem T9{aa:List Int}{ae:Sv}{gJ R:Int}(hF:Ba aa gJ=some R):
   Fw.Spec Tryz.prog 247 [ae.v,(zi gJ)] [aD ae aa] (fun _:Unit=>(zi R)) (fun _=>[]):=by
 refine Se 19 Tryz.func247 [.tmp 4] ?_
 intro H0 F0
 unfold Ba at hF
 refine fU ?_
 refine bF (bU (m:=aa.length) (fun m2 f' cs'=>∃(g:Fr)(k4:Nat)(aM:List Int),m2=aM.length/\f'=aH g [(0,ae.v),(1,(zi gJ)),(7,(zi (aa.length:Int))),(8,(zi (k4:Int)))]/\List.drop k4 aa=aM/\aF cs' [aD ae aa]/\yP gJ aM k4=some R) ⟨_,0,_,rfl,aJ,rfl,aI,hF⟩ ?_)
 rintro m2 _ _ ⟨g3,k4,aM,rfl,rfl,hd7,hE,hF⟩
 refine Kb hE aa (fun mO=>?_)
 rcases aM with _|⟨x6,aM⟩
 · have gQ:=dn hd7
   rw[yP]at hF
   refine aA ?_
   refine dJ ?_
   exact ze hF
 obtain⟨gQ,bS,ic⟩:=dD hd7
 rw[yP]at hF
 refine aA ?_
 refine dI ?_
 refine jT ?_
 refine Ai bS (fun k13 nQ=>?_)
 refine Al dE ?_
 refine aG ?_
 refine Ci hF (fun yf hF=>?_) (fun yf hF=>?_)
 · exact ze hF
 refine aC ?_
 rw[wk k4]
 exact⟨_,cz _,_,k4+1,aM,rfl,aJ,ic,aI,hF⟩
def A_(aa:List Int)(gJ:Int):Option (Bool):=
 (Ba aa gJ).bind fun r1=>
 some (decide ((0:Int)<=r1))
theorem TW{aa:List Int}{ae:Sv}{gJ:Int}{R:Bool}(hF:A_ aa gJ=some R):
   Fw.Spec Tryz.prog 209 [ae.v,(zi gJ)] [aD ae aa] (fun _:Unit=>(.bool R)) (fun _=>[]):=by
 refine Se 9 Tryz.func209 [.tmp 4] ?_
 intro H0 F0
 unfold A_ at hF
 refine bz ?_
 refine bnd hF fun r1 hx2 hF=>aB (T9 hx2) (fun _=>?_)
 exact ze hF
def xg(dS:Int)(bH:List Int):Option (Bool):=
 (A_ bH dS).bind fun r1=>
 some (!r1)
theorem Vd{dS:Int}{eu:Nat}{bH:List Int}{jv:Sv}{R:Bool}(hF:xg dS bH=some R):
   Fw.Spec Tryz.prog 208 [(zi dS),(pz eu)] [cZ eu 22 jv.v,aD jv bH] (fun _:Unit=>(.bool R)) (fun _=>[]):=by
 refine Se 8 Tryz.func208 [.tmp 3] ?_
 intro H0 F0
 unfold xg at hF
 refine bz ?_
 refine bnd hF fun r1 hx2 hF=>aB (TW hx2) (fun _=>?_)
 exact ze hF
def wM(bH:List Int):List Int->Nat->Option (Int)
 |[],k4=>some (-1)
 |x6::aM,k4=>(xg x6 bH).bind fun dY=>
   if dY then (
     some (k4:Int))
   else (
     wM bH aM (k4+1))
def AX(aa:List Int)(bH:List Int):Option (Int):=
 wM bH aa 0
theorem TP{aa:List Int}{ae:Sv}{eu:Nat}{bH:List Int}{jv:Sv}{R:Int}(hF:AX aa bH=some R):
   Fw.Spec Tryz.prog 228 [ae.v,(.func (.func 208) [].toArray [(pz eu)].toArray)] [aD ae aa,cZ eu 22 jv.v,aD jv bH] (fun _:Unit=>(zi R)) (fun _=>[]):=by
 refine Se 19 Tryz.func228 [.tmp 4] ?_
 intro H0 F0
 unfold AX at hF
 refine fU ?_
 refine bF (bU (m:=aa.length) (fun m2 f' cs'=>∃(g:Fr)(k4:Nat)(aM:List Int),m2=aM.length/\f'=aH g [(0,ae.v),(1,(.func (.func 208) [].toArray [(pz eu)].toArray)),(7,(zi (aa.length:Int))),(8,(zi (k4:Int)))]/\List.drop k4 aa=aM/\aF cs' [aD ae aa,cZ eu 22 jv.v,aD jv bH]/\wM bH aM k4=some R) ⟨_,0,_,rfl,aJ,rfl,aI,hF⟩ ?_)
 rintro m2 _ _ ⟨g3,k4,aM,rfl,rfl,hd7,hE,hF⟩
 refine Kb hE aa (fun mO=>?_)
 rcases aM with _|⟨x6,aM⟩
 · have gQ:=dn hd7
   rw[wM]at hF
   refine aA ?_
   refine dJ ?_
   exact ze hF
 obtain⟨gQ,bS,ic⟩:=dD hd7
 rw[wM]at hF
 refine aA ?_
 refine dI ?_
 refine jT ?_
 refine Ai bS (fun k13 nQ=>?_)
 refine Al dE ?_
 refine bnd hF fun dY hx16 hF=>mP (.rd .q2 rfl (.rd .q3 rfl .nil)) (vQ Zw.h (.tmp rfl rfl) bG (Vd hx16)) (fun _=>?_)
 refine au ?_
 refine Ci hF (fun pu hF=>?_) (fun pu hF=>?_)
 · exact ze hF
 refine aC ?_
 rw[wk k4]
 exact⟨_,cz _,_,k4+1,aM,rfl,aJ,ic,aI,hF⟩
def wN(aa:List Int)(bH:List Int):Option (Bool):=
 (AX aa bH).bind fun r1=>
 some (decide ((0:Int)<=r1))
theorem TK{aa:List Int}{ae:Sv}{eu:Nat}{bH:List Int}{jv:Sv}{R:Bool}(hF:wN aa bH=some R):
   Fw.Spec Tryz.prog 164 [ae.v,(.func (.func 208) [].toArray [(pz eu)].toArray)] [aD ae aa,cZ eu 22 jv.v,aD jv bH] (fun _:Unit=>(.bool R)) (fun _=>[]):=by
 refine Se 9 Tryz.func164 [.tmp 4] ?_
 intro H0 F0
 unfold wN at hF
 refine bz ?_
 refine bnd hF fun r1 hx2 hF=>aB (TP hx2) (fun _=>?_)
 exact ze hF
def xu(aN:bJ):Option (Bool):=
 (Ck aN).bind fun r2=>
 (bif (decide (((aN.Head.length:Int):Int)<=3))then ((wN aN.Head r2).bind fun kC=>
     some (!kC))
   else (some false)).bind fun o8=>
 match o8 with
 |c14=>some c14
theorem Oo{aN:bJ}{ae bC:Sv}{R:Bool}(hF:xu aN=some R):
   Fw.Spec Tryz.prog 146 [(zg [ae.v,bC.v])] [aD ae aN.Head,gI bC aN.Atoms] (fun _:Unit=>(.bool R)) (fun _=>[]):=by
 refine Se 17 Tryz.func146 [.tmp 2] ?_
 intro H0 F0
 unfold xu at hF
 refine au ?_
 refine fJ (fun k1=>?_)
 refine aA ?_
 refine bnd hF fun r2 hx3 hF=>dC (VX hx3) (fun p4=>?_)
 refine fE (fun k5=>?_)
 refine As p4.1.v ?_
 refine au ?_
 refine oK .h Xy ?_
 refine oK (.t .h) cu ?_
 obtain⟨o8,Ll,MB⟩:=bind_some hF
 refine au ?_
 refine bZ (fun f' cs'=>∃(c14:Bool)(g:Fr),c14=o8/\f'=aH g [(2,(.bool c14))]/\aF cs' []) ?_ ?_
 · replace hF:=Ll
   refine aC ?_
   rcases a_ (decide (((aN.Head.length:Int):Int)<=3))with kI|kI
   · rw[kI]
     try rw[kI]at hF; dsimp only[ak,aj]at hF
     refine aC ?_
     refine ai (ny (fn:=.func 208) (vs:=[]) (us:=[(pz k5)]) .nil bG) ?_
     refine au ?_
     refine bnd hF fun kC lu hF=>aB (TK lu) (fun _=>?_)
     exact aO hF
   rw[kI]
   try rw[kI]at hF; dsimp only[ak,aj]at hF
   exact aO hF
 rintro _ _ ⟨c14,g15,rfl,rfl,hE⟩
 replace hF:=MB
 try dsimp only at hF
 refine bg hE ?_
 exact ze hF
def BO(dS:Int):Option ((List UInt8)):=
 (zM dS).bind fun r1=>
 if r1 then (
   (jc (IntKind.i64.wrap (dS-10))).bind fun r4=>
   (aP [120] r4).bind fun x7=>
   some x7)
 else (
   (jc dS).bind fun kC=>
   some kC)
theorem Vn{dS:Int}{R:(List UInt8)}(hF:BO dS=some R):
   Fw.Spec Tryz.prog 242 [(zi dS)] [] (fun _:Unit=>(sv R)) (fun _=>[]):=by
 refine Se 11 Tryz.func242 [.tmp 2] ?_
 intro H0 F0
 unfold BO at hF
 refine bz ?_
 refine bnd hF fun r1 hx2 hF=>aB (IL hx2) (fun _=>?_)
 refine au ?_
 refine Ci hF (fun DT hF=>?_) (fun DT hF=>?_)
 · refine ax ?_
   refine bnd hF fun r4 hx5 hF=>aB (kT hx5) (fun _=>?_)
   refine bnd hF fun x7 gZ hF=>?_
   obtain⟨RU,Tc⟩:=bq gZ
   refine ai (bu (s:=[120]) (t:=r4) (u:=x7) (.sv _) (.tmp rfl rfl) gZ) ?_
   exact ze hF
 refine ax ?_
 refine bnd hF fun kC lu hF=>aB (kT lu) (fun _=>?_)
 exact ze hF
def vo:List Int->Nat->(List (List UInt8))->Option ((List UInt8))
 |[],k8,c2=>(rE c2 [44]).bind fun gB=>
   some gB
 |gD::dz,k8,c2=>(BO gD).bind fun iF=>
   (app c2 ([iF]:List (List UInt8))).bind fun z26=>
   vo dz (k8+1) z26
def BI(bi:List Int):Option ((List UInt8)):=
 vo bi 0 ([]:List (List UInt8))
theorem NI{bi:List Int}{ae:Sv}{R:(List UInt8)}(hF:BI bi=some R):
   Fw.Spec Tryz.prog 203 [ae.v] [aD ae bi] (fun _:Unit=>(sv R)) (fun _=>[]):=by
 refine Se 21 Tryz.func203 [.tmp 2] ?_
 intro H0 F0
 unfold BI at hF
 refine aA ?_
 refine eF rfl (dN (g:=true) fI.h gy.h .nil (vs:=[]) rfl rfl rfl (by simp)) (fun k1=>?_)
 refine fF (.cons .h .nil) (dP (Ro:=(aK rdStr)) (E:=9) (F:=[]) (xs:=([]:List (List UInt8))) dO rfl rfl) ?_
 refine dB ?_
 refine bF (bU (m:=bi.length) (fun m6 f' cs'=>∃(g:Fr)(k8:Nat)(dz:List Int)(c2:List (List UInt8))(v3:Sv)(F4:List Nat),m6=dz.length/\f'=aH g [(3,v3.v),(7,ae.v),(8,(zi (bi.length:Int))),(9,(zi (k8:Int)))]/\List.drop k8 bi=dz/\aF cs' [uE F4 v3 c2,aD ae bi]/\vo dz k8 c2=some R) ⟨_,0,_,_,⟨(some ⟨k1,0,none⟩),0,1⟩,(k1::[]),rfl,aJ,rfl,aI,hF⟩ ?_)
 rintro m6 _ _ ⟨g7,k8,dz,c2,v3,F4,rfl,rfl,ji,hE,hF⟩
 refine Kb hE bi (fun Gd=>?_)
 rcases dz with _|⟨gD,dz⟩
 · have uw:=dn ji
   rw[vo]at hF
   refine aA ?_
   refine dJ ?_
   refine bz ?_
   refine bnd hF fun gB jX hF=>bX (.cons .h .nil) (gm cu (fun _=>.nil) (bT F_.h (.cons (.tmp rfl rfl) (.cons (.sv _) .nil)) (EQ jX))) (fun _=>?_)
   exact ze hF
 obtain⟨uw,eY,uy⟩:=dD ji
 rw[vo]at hF
 refine aA ?_
 refine dI ?_
 refine ax ?_
 refine Ai eY (fun k20 Hf=>?_)
 refine Al dE ?_
 refine aC ?_
 refine bnd hF fun iF jL hF=>aB (Vn jL) (fun _=>?_)
 refine eF rfl (dN (g:=true) fI.h gy.h bG (vs:=[(sv iF)]) rfl rfl rfl (by intro v hv; simp at hv; rcases hv with rfl<;>rfl)) (fun k25=>?_)
 refine fF (.cons .h .nil) (dP (Ro:=(aK rdStr)) (E:=9) (F:=([]++[])) (xs:=([iF]:List (List UInt8))) (dM (eP (fun _=>rfl)) dO bP) rfl rfl) ?_
 refine bnd hF fun z26 hx27 hF=>bX (.cons .q2 (.cons .h .nil)) (iH (Ro:=(aK rdStr)) fI.h Db gy.h rfl rfl rfl (.tmp rfl rfl) (.tmp rfl rfl) hx27 iI) (fun p28=>?_)
 refine bz ?_
 rw[wk k8]
 exact⟨_,cz _,_,k8+1,dz,_,p28.1,p28.2,rfl,aJ,uy,aI,hF⟩
def Cn(dS:Int):Option (Bool):=
 ((BU dS).bind fun r3=>
   bif r3 then (some true)
   else ((zM dS).bind fun r7=>
     some r7)).bind fun o1=>
 match o1 with
 |c10=>some c10
theorem VY{dS:Int}{R:Bool}(hF:Cn dS=some R):
   Fw.Spec Tryz.prog 244 [(zi dS)] [] (fun _:Unit=>(.bool R)) (fun _=>[]):=by
 refine Se 9 Tryz.func244 [.tmp 2] ?_
 intro H0 F0
 unfold Cn at hF
 refine ax ?_
 obtain⟨o1,jW,hO2⟩:=bind_some hF
 refine au ?_
 refine bZ (fun f' cs'=>∃(c10:Bool)(g:Fr),c10=o1/\f'=aH g [(2,(.bool c10))]/\aF cs' []) ?_ ?_
 · replace hF:=jW
   refine au ?_
   refine bnd hF fun r3 hx4 hF=>aB (Om hx4) (fun _=>?_)
   refine au ?_
   rcases a_ r3 with gU|gU
   · rw[gU]
     try rw[gU]at hF; dsimp only[ak,aj]at hF
     exact aO hF
   rw[gU]
   try rw[gU]at hF; dsimp only[ak,aj]at hF
   refine ax ?_
   refine bnd hF fun r7 gZ hF=>aB (IL gZ) (fun _=>?_)
   exact aO hF
 rintro _ _ ⟨c10,g11,rfl,rfl,hE⟩
 replace hF:=hO2
 try dsimp only at hF
 refine bg hE ?_
 exact ze hF
def Bz(dS:Int):Option (Bool):=
 (Cn dS).bind fun r1=>
 some (!r1)
theorem UM{dS:Int}{R:Bool}(hF:Bz dS=some R):
   Fw.Spec Tryz.prog 243 [(zi dS)] [] (fun _:Unit=>(.bool R)) (fun _=>[]):=by
 refine Se 6 Tryz.func243 [.tmp 2] ?_
 intro H0 F0
 unfold Bz at hF
 refine aC ?_
 refine bnd hF fun r1 hx2 hF=>aB (VY hx2) (fun _=>?_)
 exact ze hF
def yO:List Int->Nat->Option (Int)
 |[],k4=>some (-1)
 |x6::aM,k4=>(Bz x6).bind fun dY=>
   if dY then (
     some (k4:Int))
   else (
     yO aM (k4+1))
def EM(aa:List Int):Option (Int):=
 yO aa 0
theorem TN{aa:List Int}{ae:Sv}{R:Int}(hF:EM aa=some R):
   Fw.Spec Tryz.prog 228 [ae.v,(.func (.func 243) [].toArray [].toArray)] [aD ae aa] (fun _:Unit=>(zi R)) (fun _=>[]):=by
 refine Se 19 Tryz.func228 [.tmp 4] ?_
 intro H0 F0
 unfold EM at hF
 refine fU ?_
 refine bF (bU (m:=aa.length) (fun m2 f' cs'=>∃(g:Fr)(k4:Nat)(aM:List Int),m2=aM.length/\f'=aH g [(0,ae.v),(1,(.func (.func 243) [].toArray [].toArray)),(7,(zi (aa.length:Int))),(8,(zi (k4:Int)))]/\List.drop k4 aa=aM/\aF cs' [aD ae aa]/\yO aM k4=some R) ⟨_,0,_,rfl,aJ,rfl,aI,hF⟩ ?_)
 rintro m2 _ _ ⟨g3,k4,aM,rfl,rfl,hd7,hE,hF⟩
 refine Kb hE aa (fun mO=>?_)
 rcases aM with _|⟨x6,aM⟩
 · have gQ:=dn hd7
   rw[yO]at hF
   refine aA ?_
   refine dJ ?_
   exact ze hF
 obtain⟨gQ,bS,ic⟩:=dD hd7
 rw[yO]at hF
 refine aA ?_
 refine dI ?_
 refine jT ?_
 refine Ai bS (fun k13 nQ=>?_)
 refine Al dE ?_
 refine bnd hF fun dY hx16 hF=>mP .nil (vQ Zx.h (.tmp rfl rfl) bG (UM hx16)) (fun _=>?_)
 refine au ?_
 refine Ci hF (fun pu hF=>?_) (fun pu hF=>?_)
 · exact ze hF
 refine aC ?_
 rw[wk k4]
 exact⟨_,cz _,_,k4+1,aM,rfl,aJ,ic,aI,hF⟩
def EI(aa:List Int):Option (Bool):=
 (EM aa).bind fun r1=>
 some (decide ((0:Int)<=r1))
theorem TH{aa:List Int}{ae:Sv}{R:Bool}(hF:EI aa=some R):
   Fw.Spec Tryz.prog 164 [ae.v,(.func (.func 243) [].toArray [].toArray)] [aD ae aa] (fun _:Unit=>(.bool R)) (fun _=>[]):=by
 refine Se 9 Tryz.func164 [.tmp 4] ?_
 intro H0 F0
 unfold EI at hF
 refine bz ?_
 refine bnd hF fun r1 hx2 hF=>aB (TN hx2) (fun _=>?_)
 exact ze hF
def zn(bi:List Int):Option (Bool):=
 (EI bi).bind fun r1=>
 some (!r1)
theorem N9{bi:List Int}{ae:Sv}{R:Bool}(hF:zn bi=some R):
   Fw.Spec Tryz.prog 206 [ae.v] [aD ae bi] (fun _:Unit=>(.bool R)) (fun _=>[]):=by
 refine Se 6 Tryz.func206 [.tmp 2] ?_
 intro H0 F0
 unfold zn at hF
 refine aC ?_
 refine bnd hF fun r1 hx2 hF=>aB (TH hx2) (fun _=>?_)
 exact ze hF
def BA(aR:aX):Option ((List UInt8)):=
 ((oz aR.Rel).bind fun r4=>
   bif (!r4)then (some true)
   else ((h_ (aR.Terms.length:Int) 1 3).bind fun r8=>
     bif (!r8)then (some true)
     else ((zn aR.Terms).bind fun bY=>
       some (!bY)))).bind fun o2=>
 match o2 with
 |c15=>if c15 then (
     some [])
   else (
     (jc aR.Rel).bind fun r16=>
     (aP [114] r16).bind fun lD=>
     (aP lD [40]).bind fun jE=>
     (BI aR.Terms).bind fun lH=>
     (aP jE lH).bind fun x30=>
     (aP x30 [41]).bind fun x34=>
     some x34)
theorem UN{aR:aX}{bC:Sv}{R:(List UInt8)}(hF:BA aR=some R):
   Fw.Spec Tryz.prog 201 [(zg [(zi aR.Rel),bC.v])] [aD bC aR.Terms] (fun _:Unit=>(sv R)) (fun _=>[]):=by
 refine Se 30 Tryz.func201 [.tmp 2] ?_
 intro H0 F0
 unfold BA at hF
 refine au ?_
 refine fJ (fun k1=>?_)
 refine ax ?_
 obtain⟨o2,fP,hO3⟩:=bind_some hF
 refine au ?_
 refine bZ (fun f' cs'=>∃(c15:Bool)(g:Fr),c15=o2/\f'=aH g [(1,(pz k1)),(19,(.bool c15))]/\aF cs' [cZ k1 83 (zg [(zi aR.Rel),bC.v]),aD bC aR.Terms]) ?_ ?_
 · replace hF:=fP
   refine aG ?_
   refine bnd hF fun r4 hx5 hF=>aB (BN hx5) (fun _=>?_)
   refine aG ?_
   rcases a_ (!r4)with bf|bf
   · rw[bf]
     try rw[bf]at hF; dsimp only[ak,aj]at hF
     exact aO hF
   rw[bf]
   try rw[bf]at hF; dsimp only[ak,aj]at hF
   refine bK ?_
   refine bnd hF fun r8 bS hF=>aB (jF bS) (fun _=>?_)
   refine aA ?_
   rcases a_ (!r8)with bQ|bQ
   · rw[bQ]
     try rw[bQ]at hF; dsimp only[ak,aj]at hF
     exact aO hF
   rw[bQ]
   try rw[bQ]at hF; dsimp only[ak,aj]at hF
   refine aC ?_
   refine bnd hF fun bY eY hF=>aB (N9 eY) (fun _=>?_)
   exact aO hF
 rintro _ _ ⟨c15,LX,rfl,rfl,hE⟩
 replace hF:=hO3
 try dsimp only at hF
 refine bg hE ?_
 refine Ci hF (fun mU hF=>?_) (fun mU hF=>?_)
 · exact ze hF
 refine au ?_
 refine gF [0,1,5,6,2,3,4,7,8,9,10] [0,1,3,7,15,0,32,103,255,511,1023] [2,7] mixed (by decide+kernel) ?_
 refine tZ ?_
 refine bnd hF fun r16 iT hF=>dm (kT iT) (fun _=>?_)
 refine bnd hF fun lD iK hF=>?_
 obtain⟨Rv,Rw⟩:=bq iK
 refine bn rfl .no (fun ha=>bu (s:=[114]) (t:=r16) (u:=lD) (EN ha (.sv _) rfl) (EN ha (.tmp rfl rfl) rfl) iK) ?_
 refine bnd hF fun jE hx24 hF=>?_
 obtain⟨Sd,Sg⟩:=bq hx24
 refine bn rfl .no (fun ha=>bu (s:=lD) (t:=[40]) (u:=jE) (EN ha (.tmp rfl rfl) rfl) (EN ha (.sv _) rfl) hx24) ?_
 refine bnd hF fun lH hx28 hF=>dm (NI hx28) (fun _=>?_)
 refine bnd hF fun x30 hx31 hF=>?_
 obtain⟨R8,hz32⟩:=bq hx31
 refine bn rfl .no (fun ha=>bu (s:=jE) (t:=lH) (u:=x30) (EN ha (.tmp rfl rfl) rfl) (EN ha (.tmp rfl rfl) rfl) hx31) ?_
 refine bnd hF fun x34 kg hF=>?_
 obtain⟨Gp,Gq⟩:=bq kg
 refine bn rfl .no (fun ha=>bu (s:=x30) (t:=[41]) (u:=x34) (EN ha (.tmp rfl rfl) rfl) (EN ha (.sv _) rfl) kg) ?_
 refine fD ?_
 exact ze hF
def rD(aN:bJ):List aX->Nat->(List (List UInt8))->Option ((List UInt8))
 |[],k9,c3=>((h_ (c3.length:Int) 1 4).bind fun gz=>
     bif (!gz)then (some true)
     else ((A7 c3 []).bind fun dh=>
       bif dh then (some true)
       else ((xu aN).bind fun nN=>
         some (!nN)))).bind fun nR=>
   match nR with
   |c31=>if c31 then (
       some [])
     else (
       if (decide ((0:Int)<(aN.Head.length:Int)))then (
         (BI aN.Head).bind fun r32=>
         (aP r32 [32,105,102,32]).bind fun uH=>
         (rE c3 [32,97,110,100,32]).bind fun fo=>
         (aP uH fo).bind fun iG=>
         some iG)
       else (
         (aP [121,101,115] [32,105,102,32]).bind fun mG=>
         (rE c3 [32,97,110,100,32]).bind fun iN=>
         (aP mG iN).bind fun qP=>
         some qP))
 |iw::jR,k9,c3=>(BA iw).bind fun H6=>
   (app c3 ([H6]:List (List UInt8))).bind fun z68=>
   rD aN jR (k9+1) z68
def Bo(aN:bJ):Option ((List UInt8)):=
 rD aN aN.Atoms 0 ([]:List (List UInt8))
theorem Ns{aN:bJ}{ae bC:Sv}{R:(List UInt8)}(hF:Bo aN=some R):
   Fw.Spec Tryz.prog 141 [(zg [ae.v,bC.v])] [aD ae aN.Head,gI bC aN.Atoms] (fun _:Unit=>(sv R)) (fun _=>[]):=by
 refine Se 46 Tryz.func141 [.tmp 2] ?_
 intro H0 F0
 unfold Bo at hF
 refine au ?_
 refine fJ (fun k1=>?_)
 refine ax ?_
 refine eF rfl (dN (g:=true) fI.h gy.h .nil (vs:=[]) rfl rfl rfl (by simp)) (fun k2=>?_)
 refine fF (.cons .h .nil) (dP (Ro:=(aK rdStr)) (E:=9) (F:=[]) (xs:=([]:List (List UInt8))) dO rfl rfl) ?_
 refine fU ?_
 refine bF (bU (m:=aN.Atoms.length) (fun m7 f' cs'=>∃(g:Fr)(k9:Nat)(jR:List aX)(c3:List (List UInt8))(v4:Sv)(F5:List Nat),m7=jR.length/\f'=aH g [(1,(pz k1)),(3,v4.v),(9,bC.v),(10,(zi (aN.Atoms.length:Int))),(11,(zi (k9:Int)))]/\List.drop k9 aN.Atoms=jR/\aF cs' [cZ k1 59 (zg [ae.v,bC.v]),aD ae aN.Head,gI bC aN.Atoms,uE F5 v4 c3]/\rD aN jR k9 c3=some R) ⟨_,0,_,_,⟨(some ⟨k2,0,none⟩),0,1⟩,(k2::[]),rfl,aJ,rfl,aI,hF⟩ ?_)
 rintro m7 _ _ ⟨g8,k9,jR,c3,v4,F5,rfl,rfl,DL,hE,hF⟩
 refine Kb hE aN.Atoms (fun aae=>?_)
 rcases jR with _|⟨iw,jR⟩
 · have KO:=dn DL
   rw[rD]at hF
   refine aA ?_
   refine dJ ?_
   refine aC ?_
   obtain⟨nR,CS,DK⟩:=bind_some hF
   refine au ?_
   refine bZ (fun f' cs'=>∃(c31:Bool)(g:Fr),c31=nR/\f'=aH g [(1,(pz k1)),(3,v4.v),(33,(.bool c31))]/\aF cs' [cZ k1 59 (zg [ae.v,bC.v]),aD ae aN.Head,gI bC aN.Atoms,uE F5 v4 c3]) ?_ ?_
   · replace hF:=CS
     refine aG ?_
     refine bnd hF fun gz iR hF=>aB (jF iR) (fun _=>?_)
     refine aG ?_
     rcases a_ (!gz)with pG|pG
     · rw[pG]
       try rw[pG]at hF; dsimp only[ak,aj]at hF
       exact aO hF
     rw[pG]
     try rw[pG]at hF; dsimp only[ak,aj]at hF
     refine ax ?_
     refine bnd hF fun dh hx25 hF=>bX (.cons .q3 .nil) (gm cu (fun _=>.nil) (bT Zu.h (.cons (.tmp rfl rfl) (.cons (.sv _) .nil)) (TT hx25))) (fun _=>?_)
     refine aG ?_
     rcases a_ dh with Eb|Eb
     · rw[Eb]
       try rw[Eb]at hF; dsimp only[ak,aj]at hF
       exact aO hF
     rw[Eb]
     try rw[Eb]at hF; dsimp only[ak,aj]at hF
     refine ax ?_
     refine bnd hF fun nN hx29 hF=>aB (Oo hx29) (fun _=>?_)
     exact aO hF
   rintro _ _ ⟨c31,g59,rfl,rfl,hE⟩
   replace hF:=DK
   try dsimp only at hF
   refine bg hE ?_
   refine Ci hF (fun ac8 hF=>?_) (fun ac8 hF=>?_)
   · exact ze hF
   refine tN ?_
   refine Ci hF (fun KL hF=>?_) (fun KL hF=>?_)
   · refine ax ?_
     refine bnd hF fun r32 mV hF=>aB (NI mV) (fun _=>?_)
     refine aA ?_
     refine bnd hF fun uH lV hF=>?_
     obtain⟨aci,acj⟩:=bq lV
     refine ai (bu (s:=r32) (t:=[32,105,102,32]) (u:=uH) (.tmp rfl rfl) (.sv _) lV) ?_
     refine au ?_
     refine bnd hF fun fo kG hF=>bX (.cons .q3 .nil) (gm cu (fun _=>.nil) (bT F_.h (.cons (.tmp rfl rfl) (.cons (.sv _) .nil)) (EQ kG))) (fun _=>?_)
     refine bnd hF fun iG iL hF=>?_
     obtain⟨Gt,Gu⟩:=bq iL
     refine ai (bu (s:=uH) (t:=fo) (u:=iG) (.tmp rfl rfl) (.tmp rfl rfl) iL) ?_
     exact ze hF
   refine ax ?_
   refine bnd hF fun mG j_ hF=>?_
   obtain⟨RD,RF⟩:=bq j_
   refine ai (bu (s:=[121,101,115]) (t:=[32,105,102,32]) (u:=mG) (.tmp rfl rfl) (.sv _) j_) ?_
   refine au ?_
   refine bnd hF fun iN nK hF=>bX (.cons .q3 .nil) (gm cu (fun _=>.nil) (bT F_.h (.cons (.tmp rfl rfl) (.cons (.sv _) .nil)) (EQ nK))) (fun _=>?_)
   refine bnd hF fun qP x_ hF=>?_
   obtain⟨ack,acl⟩:=bq x_
   refine ai (bu (s:=mG) (t:=iN) (u:=qP) (.tmp rfl rfl) (.tmp rfl rfl) x_) ?_
   exact ze hF
 obtain⟨KO,jB,KP⟩:=dD DL
 rw[rD]at hF
 refine aA ?_
 refine dI ?_
 refine ax ?_
 refine Ai jB (fun k60 j61=>?_)
 refine Ab (xq iw) zt (fun p62=>?_)
 refine fE (fun k63=>?_)
 refine As (zg [(zi iw.Rel),p62.v]) ?_
 refine aA ?_
 refine bnd hF fun H6 ac9 hF=>aB (UN ac9) (fun _=>?_)
 refine eF rfl (dN (g:=true) fI.h gy.h bG (vs:=[(sv H6)]) rfl rfl rfl (by intro v hv; simp at hv; rcases hv with rfl<;>rfl)) (fun k67=>?_)
 refine fF (.cons .h .nil) (dP (Ro:=(aK rdStr)) (E:=9) (F:=([]++[])) (xs:=([H6]:List (List UInt8))) (dM (eP (fun _=>rfl)) dO bP) rfl rfl) ?_
 refine bnd hF fun z68 Ak hF=>bX (.cons .q7 (.cons .h .nil)) (iH (Ro:=(aK rdStr)) fI.h Db gy.h rfl rfl rfl (.tmp rfl rfl) (.tmp rfl rfl) Ak iI) (fun p70=>?_)
 refine bz ?_
 rw[wk k9]
 exact⟨_,cz _,_,k9+1,jR,_,p70.1,p70.2,rfl,aJ,KP,aI,hF⟩
def vL(aL:List UInt8):Option (aX×Bool):=
 (vK [114] aL).bind fun r2=>
 (vF r2.2.1).bind fun r5=>
 (bif r2.2.2 then (some r5.2)
   else (some false)).bind fun o8=>
 match o8 with
 |c11=>some ((⟨r2.1,r5.1⟩:aX),c11)
theorem N_{aL:List UInt8}{R:aX×Bool}(hF:vL aL=some R):
   Fw.Spec Tryz.prog 140 [(sv aL)] [] (fun p:Sv×List Nat=>(.tuple [(zg [(zi R.1.Rel),p.1.v]),(.bool R.2)].toArray)) (fun p=>[bV p.2 p.1 R.1.Terms]):=by
 refine Se 27 Tryz.func140 [.cell 2 83,.tmp 3] ?_
 intro H0 F0
 unfold vL at hF
 refine au ?_
 refine fE (fun k1=>?_)
 refine aA ?_
 refine bnd hF fun r2 hx3 hF=>dC (N8 hx3) (fun p4=>?_)
 refine au ?_
 refine zx ?_
 refine zx ?_
 refine zx ?_
 refine bz ?_
 refine bnd hF fun r5 hx6 hF=>dC (NH hx6) (fun p7=>?_)
 refine au ?_
 refine zx ?_
 refine zx ?_
 refine ax ?_
 obtain⟨o8,Ll,MB⟩:=bind_some hF
 refine au ?_
 refine bZ (fun f' cs'=>∃(c11:Bool)(g:Fr),c11=o8/\f'=aH g [(2,(pz k1)),(3,(.bool c11))]/\aF cs' [bW k1 83 (zg [(zi r2.1),p7.1.v]),bV p7.2 p7.1 r5.1]) ?_ ?_
 · replace hF:=Ll
   refine aG ?_
   refine ai (fH nI.h rfl (vs:=[(zi r2.1),p7.1.v]) bG (cells:=[(zi r2.1),p7.1.v]) rfl) ?_
   refine aG ?_
   rcases a_ r2.2.2 with kI|kI
   · rw[kI]
     try rw[kI]at hF; dsimp only[ak,aj]at hF
     refine ax ?_
     refine As (zg [(zi r2.1),p7.1.v]) ?_
     exact aO hF
   rw[kI]
   try rw[kI]at hF; dsimp only[ak,aj]at hF
   refine aG ?_
   refine As (zg [(zi r2.1),p7.1.v]) ?_
   exact aO hF
 rintro _ _ ⟨c11,g12,rfl,rfl,hE⟩
 replace hF:=MB
 try dsimp only at hF
 refine bg hE ?_
 refine au ?_
 cases hF
 exact dx (p7.1,p7.2) (.cellA rfl rfl .h rfl abH.h nI.h.sz rfl rfl (.tmp rfl rfl .nil)) rfl (.sel (.cons (.t .h) .nil))
def ni(aL:List UInt8)(r9:(List Int)×Bool):List (List UInt8)->Nat->(List aX)->Option (bJ×Bool)
 |[],nT,nY=>(Bo (⟨r9.1,nY⟩:bJ)).bind fun MC=>
   some ((⟨r9.1,nY⟩:bJ),(MC==aL))
 |yB::tu,nT,nY=>(vL yB).bind fun qZ=>
   if ((!qZ.2)||(((nY.length:Int):Int)==4))then (
     some ((⟨[],[]⟩:bJ),false))
   else (
     (app nY ([qZ.1]:List aX)).bind fun z69=>
     ni aL r9 tu (nT+1) z69)
def nk(aL:List UInt8):List (List UInt8)->Nat->(List aX)->Option (bJ×Bool)
 |[],qH,c105=>(Bo (⟨[],c105⟩:bJ)).bind fun Lm=>
   some ((⟨[],c105⟩:bJ),(Lm==aL))
 |x113::sw,qH,c105=>(vL x113).bind fun qI=>
   if ((!qI.2)||(((c105.length:Int):Int)==4))then (
     some ((⟨[],[]⟩:bJ),false))
   else (
     (app c105 ([qI.1]:List aX)).bind fun Sj=>
     nk aL sw (qH+1) Sj)
def qj(aL:List UInt8):Option (bJ×Bool):=
 (rG aL [32,105,102,32]).bind fun r2=>
 if (!r2.2.2)then (
   some ((⟨[],[]⟩:bJ),false))
 else (
   if (!(r2.1==[121,101,115]))then (
     (lK r2.1 [44]).bind fun r6=>
     (vF r6).bind fun r9=>
     if (!r9.2)then (
       some ((⟨[],[]⟩:bJ),false))
     else (
       (lK r2.2.1 [32,97,110,100,32]).bind fun bY=>
       ni aL r9 bY 0 ([]:List aX)))
   else (
     (lK r2.2.1 [32,97,110,100,32]).bind fun uQ=>
     nk aL uQ 0 ([]:List aX)))
theorem Ve{aL:List UInt8}{R:bJ×Bool}(hF:qj aL=some R):
   Fw.Spec Tryz.prog 93 [(sv aL)] [] (fun p:Sv×List Nat×Sv×List Nat=>(.tuple [(zg [p.1.v,p.2.2.1.v]),(.bool R.2)].toArray)) (fun p=>[bV p.2.1 p.1 R.1.Head,xS p.2.2.2 p.2.2.1 R.1.Atoms]):=by
 refine Se 70 Tryz.func93 [.cell 2 59,.tmp 3] ?_
 intro H0 F0
 unfold qj at hF
 refine au ?_
 refine fE (fun k1=>?_)
 refine aA ?_
 refine bnd hF fun r2 hx3 hF=>aB (Ih hx3) (fun _=>?_)
 refine au ?_
 refine zx ?_
 refine zx ?_
 refine zx ?_
 refine fU ?_
 refine Ci hF (fun aaZ hF=>?_) (fun aaZ hF=>?_)
 · refine au ?_
   refine ai (fH fe.h rfl (vs:=[]) .nil (cells:=[(.slice none 0 0),(.slice none 0 0)]) rfl) ?_
   refine As (.agg ([(.slice none 0 0),(.slice none 0 0)]:List Value).toArray) ?_
   refine ax ?_
   cases hF
   exact dx (⟨none,0,0⟩,[],⟨none,0,0⟩,[]) (.cellA rfl rfl .h rfl jJ.h fe.h.sz rfl rfl (.tmp rfl rfl .nil)) rfl (.conv .nil (dV (Ro:=(aK aY)) (E:=3)) (.cons .nil) (.conv .nil (dV (Ro:=gu) (E:=83)) (.cons .nil) (.sel (.cons (.t .h) (.cons .h .nil)))))
 refine aG ?_
 refine ai (fH fe.h rfl (vs:=[]) .nil (cells:=[(.slice none 0 0),(.slice none 0 0)]) rfl) ?_
 refine fE (fun k5=>?_)
 refine As (.agg ([(.slice none 0 0),(.slice none 0 0)]:List Value).toArray) ?_
 refine aA ?_
 refine ai (iP (s:=r2.1) (t:=[121,101,115]) (.tmp rfl rfl) (.sv _)) ?_
 refine au ?_
 refine Ci hF (fun JA hF=>?_) (fun JA hF=>?_)
 · refine aG ?_
   refine bnd hF fun r6 hx7 hF=>dC (rz hx7) (fun p8=>?_)
   refine bnd hF fun r9 iU hF=>dC (NH iU) (fun m_=>?_)
   refine au ?_
   refine zx ?_
   refine zx ?_
   refine dB ?_
   refine Ci hF (fun ac_ hF=>?_) (fun ac_ hF=>?_)
   · refine au ?_
     refine ai (fH fe.h rfl (vs:=[]) .nil (cells:=[(.slice none 0 0),(.slice none 0 0)]) rfl) ?_
     refine As (.agg ([(.slice none 0 0),(.slice none 0 0)]:List Value).toArray) ?_
     refine ax ?_
     cases hF
     exact dx (⟨none,0,0⟩,[],⟨none,0,0⟩,[]) (.cellA rfl rfl .h rfl jJ.h fe.h.sz rfl rfl (.tmp rfl rfl .nil)) rfl (.conv .nil (dV (Ro:=(aK aY)) (E:=3)) (.cons .nil) (.conv .nil (dV (Ro:=gu) (E:=83)) (.cons .nil) (.sel (.cons (.t .h) (.cons .h .nil)))))
   refine aA ?_
   refine As (zg [m_.1.v,(.slice none 0 0)]) ?_
   refine aA ?_
   refine bnd hF fun bY eY hF=>dC (rz eY) (fun qW=>?_)
   refine ax ?_
   refine bF (bU (m:=bY.length) (fun Tp f' cs'=>∃(g:Fr)(nT:Nat)(tu:List (List UInt8))(nY:List aX)(v43:Sv)(H7:List Nat),Tp=tu.length/\f'=aH g [(0,(sv aL)),(2,(pz k1)),(7,(pz k5)),(38,qW.v),(39,(zi (bY.length:Int))),(40,(zi (nT:Int)))]/\List.drop nT bY=tu/\aF cs' [bW k1 59 (.agg ([(.slice none 0 0),(.slice none 0 0)]:List Value).toArray),bW k5 59 (zg [m_.1.v,v43.v]),bV m_.2 m_.1 r9.1,xS H7 v43 nY,jl qW bY]/\ni aL r9 tu nT nY=some R) ⟨_,0,_,_,⟨none,0,0⟩,[],rfl,aJ,rfl,(.conv .nil (dV (Ro:=gu) (E:=83)) (.cons .nil) aI),hF⟩ ?_)
   rintro Tp _ _ ⟨g47,nT,tu,nY,v43,H7,rfl,rfl,Sk,hE,hF⟩
   refine Kb hE bY (fun ae6=>?_)
   rcases tu with _|⟨yB,tu⟩
   · have ac':=dn Sk
     rw[ni]at hF
     refine aA ?_
     refine dJ ?_
     refine aA ?_
     refine gF [0,1,3,2,4,5,6] [0,0,2,0,14,7,63] [2,5] mixed (by decide+kernel) ?_
     iterate 2 refine qy rfl .no (.t .h) (fun ha hp=>nz jJ.h fe.h.sz rfl (EN ha (.tmp rfl rfl) rfl) hp.2 rfl) ?_
     refine du ?_
     refine bnd hF fun MC Ah hF=>X_ rfl rfl .no (.cons .q3 (.cons .q2 .nil)) (.dep rfl (.own (.t .h) (fun _ h=>h) .nil)) (fun ha=>vS (pre:=[]) (.cons cu (.cons cu .nil)) (fun _=>.nil) (bT QZ.h (.cons (EN ha (.tmp rfl rfl) rfl) .nil) (@Ns (⟨r9.1,nY⟩:bJ) m_.1 v43 _ Ah))) (fun _=>?_)
     refine bn rfl .no (fun ha=>oJ (s:=MC) (t:=aL) (EN ha (.tmp rfl rfl) rfl) (EN ha (.tmp rfl rfl) rfl)) ?_
     refine je rfl rfl .no (.cons .q2 .nil) (.dep rfl (.dep rfl .nil)) (fun ha=>j5 (e':=(zg [m_.1.v,v43.v])) (v:=(zg [m_.1.v,v43.v])) fe.h.sz (EN ha (.tmp rfl rfl) rfl) (EN ha (.tmp rfl rfl) rfl) rfl rfl rfl rfl rfl) (fun _=>?_)
     refine fD ?_
     refine au ?_
     cases hF
     exact dx (m_.1,m_.2,v43,H7) (.cellA rfl rfl .h rfl jJ.h fe.h.sz rfl rfl (.tmp rfl rfl .nil)) rfl (.sel (.cons .q2 (.cons (.t .h) .nil)))
   obtain⟨ac',uu,ada⟩:=dD Sk
   rw[ni]at hF
   refine aA ?_
   refine dI ?_
   refine ax ?_
   refine Ai uu (fun k60 j61=>?_)
   refine Al fw ?_
   refine aA ?_
   refine bnd hF fun qZ KF hF=>dC (N_ KF) (fun p64=>?_)
   refine au ?_
   refine zx ?_
   refine zx ?_
   refine fE (fun Tq=>?_)
   refine As (zg [(zi qZ.1.Rel),p64.1.v]) ?_
   refine aA ?_
   refine bZ (fun f' cs'=>∃(g:Fr),f'=aH g [(0,(sv aL)),(2,(pz k1)),(7,(pz k5)),(12,(pz Tq)),(38,qW.v),(39,(zi (bY.length:Int))),(40,(zi (nT:Int))),(56,(.bool ((!qZ.2)||(((nY.length:Int):Int)==4))))]/\aF cs' [bW k1 59 (.agg ([(.slice none 0 0),(.slice none 0 0)]:List Value).toArray),bW k5 59 (zg [m_.1.v,v43.v]),bV m_.2 m_.1 r9.1,xS H7 v43 nY,bW Tq 83 (zg [(zi qZ.1.Rel),p64.1.v]),bV p64.2 p64.1 qZ.1.Terms,jl qW bY]) ?_ ?_
   · refine ax ?_
     rcases a_ (!qZ.2)with Ec|Ec
     · rw[Ec]
       try rw[Ec]at hF; dsimp only[ak,aj]at hF
       refine bz ?_
       exact⟨_,aJ,aI⟩
     rw[Ec]
     try rw[Ec]at hF; dsimp only[ak,aj]at hF
     refine jT ?_
     exact⟨_,aJ,aI⟩
   rintro _ _ ⟨g67,rfl,hE⟩
   refine bg hE ?_
   refine Ci hF (fun adb hF=>?_) (fun adb hF=>?_)
   · refine au ?_
     refine ai (fH fe.h rfl (vs:=[]) .nil (cells:=[(.slice none 0 0),(.slice none 0 0)]) rfl) ?_
     refine As (.agg ([(.slice none 0 0),(.slice none 0 0)]:List Value).toArray) ?_
     refine ax ?_
     cases hF
     exact dx (⟨none,0,0⟩,[],⟨none,0,0⟩,[]) (.cellA rfl rfl .h rfl jJ.h fe.h.sz rfl rfl (.tmp rfl rfl .nil)) rfl (.conv .nil (dV (Ro:=(aK aY)) (E:=3)) (.cons .nil) (.conv .nil (dV (Ro:=gu) (E:=83)) (.cons .nil) (.sel (.cons (.t .h) (.cons .h .nil)))))
   refine aC ?_
   refine eF rfl (dN (g:=true) tY.h nI.h bG (vs:=[(zg [(zi qZ.1.Rel),p64.1.v])]) rfl rfl rfl (by intro v hv; simp at hv; rcases hv with rfl<;>rfl)) (fun k68=>?_)
   refine fF (.cons .h (.cons .q5 .nil)) (dP (Ro:=gu) (E:=83) (F:=(p64.2++[])) (xs:=([qZ.1]:List aX)) (dM Gi dO bP) rfl rfl) ?_
   refine bnd hF fun z69 KG hF=>bX (.cons .q4 (.cons .h .nil)) (iH (Ro:=gu) tY.h Gj nI.h rfl rfl rfl (.tmp rfl rfl) (.tmp rfl rfl) KG iI) (fun p71=>?_)
   refine au ?_
   refine As (zg [m_.1.v,p71.1.v]) ?_
   refine aC ?_
   rw[wk nT]
   exact⟨_,cz _,_,nT+1,tu,_,p71.1,p71.2,rfl,aJ,ada,aI,hF⟩
 refine aA ?_
 refine bnd hF fun uQ adc hF=>dC (rz adc) (fun H8=>?_)
 refine ax ?_
 refine bF (bU (m:=uQ.length) (fun Sl f' cs'=>∃(g:Fr)(qH:Nat)(sw:List (List UInt8))(c105:List aX)(uA:Sv)(GY:List Nat),Sl=sw.length/\f'=aH g [(0,(sv aL)),(2,(pz k1)),(7,(pz k5)),(38,H8.v),(39,(zi (uQ.length:Int))),(40,(zi (qH:Int)))]/\List.drop qH uQ=sw/\aF cs' [bW k1 59 (.agg ([(.slice none 0 0),(.slice none 0 0)]:List Value).toArray),bW k5 59 (zg [(.slice none 0 0),uA.v]),xS GY uA c105,jl H8 uQ]/\nk aL sw qH c105=some R) ⟨_,0,_,_,⟨none,0,0⟩,[],rfl,aJ,rfl,(.conv .nil (dV (Ro:=gu) (E:=83)) (.cons .nil) aI),hF⟩ ?_)
 rintro Sl _ _ ⟨ahJ,qH,sw,c105,uA,GY,rfl,rfl,hd114,hE,hF⟩
 refine Kb hE uQ (fun adY=>?_)
 rcases sw with _|⟨x113,sw⟩
 · have aa0:=dn hd114
   rw[nk]at hF
   refine aA ?_
   refine dJ ?_
   refine aA ?_
   refine gF [0,1,3,2,4,5,6] [0,0,2,0,14,7,63] [2,5] mixed (by decide+kernel) ?_
   iterate 2 refine qy rfl .no (.t .h) (fun ha hp=>nz jJ.h fe.h.sz rfl (EN ha (.tmp rfl rfl) rfl) hp.2 rfl) ?_
   refine du ?_
   refine Ej .nil (zR (R:=aY) (E:=3)) ?_
   refine bnd hF fun Lm xP hF=>je rfl rfl .no (.cons .q3 (.rd .h rfl .nil)) (.dep rfl (.own .q2 (fun _ h=>h) .nil)) (fun ha=>gm cu (fun _=>.nil) (oF (.rd (.t .h) rfl (.rd .h rfl .nil)) (bT QZ.h (.cons (EN ha (.tmp rfl rfl) rfl) .nil) (@Ns (⟨[],c105⟩:bJ) (⟨none,0,0⟩) uA _ xP)))) (fun _=>?_)
   refine bn rfl .no (fun ha=>oJ (s:=Lm) (t:=aL) (EN ha (.tmp rfl rfl) rfl) (EN ha (.tmp rfl rfl) rfl)) ?_
   refine je rfl rfl .no (.cons .q2 .nil) (.dep rfl (.dep rfl .nil)) (fun ha=>j5 (e':=(zg [(.slice none 0 0),uA.v])) (v:=(zg [(.slice none 0 0),uA.v])) fe.h.sz (EN ha (.tmp rfl rfl) rfl) (EN ha (.tmp rfl rfl) rfl) rfl rfl rfl rfl rfl) (fun _=>?_)
   refine fD ?_
   refine au ?_
   cases hF
   exact dx (⟨none,0,0⟩,[],uA,GY) (.cellA rfl rfl .h rfl jJ.h fe.h.sz rfl rfl (.tmp rfl rfl .nil)) rfl (.conv .nil (dV (Ro:=(aK aY)) (E:=3)) (.cons .nil) (.sel (.cons .h (.cons (.t .h) .nil))))
 obtain⟨aa0,aa1,aa2⟩:=dD hd114
 rw[nk]at hF
 refine aA ?_
 refine dI ?_
 refine ax ?_
 refine Ai aa1 (fun ahK ahL=>?_)
 refine Al fw ?_
 refine aA ?_
 refine bnd hF fun qI aa3 hF=>dC (N_ aa3) (fun Aq=>?_)
 refine au ?_
 refine zx ?_
 refine zx ?_
 refine fE (fun Sm=>?_)
 refine As (zg [(zi qI.1.Rel),Aq.1.v]) ?_
 refine aA ?_
 refine bZ (fun f' cs'=>∃(g:Fr),f'=aH g [(0,(sv aL)),(2,(pz k1)),(7,(pz k5)),(12,(pz Sm)),(38,H8.v),(39,(zi (uQ.length:Int))),(40,(zi (qH:Int))),(56,(.bool ((!qI.2)||(((c105.length:Int):Int)==4))))]/\aF cs' [bW k1 59 (.agg ([(.slice none 0 0),(.slice none 0 0)]:List Value).toArray),bW k5 59 (zg [(.slice none 0 0),uA.v]),xS GY uA c105,bW Sm 83 (zg [(zi qI.1.Rel),Aq.1.v]),bV Aq.2 Aq.1 qI.1.Terms,jl H8 uQ]) ?_ ?_
 · refine ax ?_
   rcases a_ (!qI.2)with CZ|CZ
   · rw[CZ]
     try rw[CZ]at hF; dsimp only[ak,aj]at hF
     refine bz ?_
     exact⟨_,aJ,aI⟩
   rw[CZ]
   try rw[CZ]at hF; dsimp only[ak,aj]at hF
   refine jT ?_
   exact⟨_,aJ,aI⟩
 rintro _ _ ⟨ahM,rfl,hE⟩
 refine bg hE ?_
 refine Ci hF (fun aa4 hF=>?_) (fun aa4 hF=>?_)
 · refine au ?_
   refine ai (fH fe.h rfl (vs:=[]) .nil (cells:=[(.slice none 0 0),(.slice none 0 0)]) rfl) ?_
   refine As (.agg ([(.slice none 0 0),(.slice none 0 0)]:List Value).toArray) ?_
   refine ax ?_
   cases hF
   exact dx (⟨none,0,0⟩,[],⟨none,0,0⟩,[]) (.cellA rfl rfl .h rfl jJ.h fe.h.sz rfl rfl (.tmp rfl rfl .nil)) rfl (.conv .nil (dV (Ro:=(aK aY)) (E:=3)) (.cons .nil) (.conv .nil (dV (Ro:=gu) (E:=83)) (.cons .nil) (.sel (.cons (.t .h) (.cons .h .nil)))))
 refine aC ?_
 refine eF rfl (dN (g:=true) tY.h nI.h bG (vs:=[(zg [(zi qI.1.Rel),Aq.1.v])]) rfl rfl rfl (by intro v hv; simp at hv; rcases hv with rfl<;>rfl)) (fun ahN=>?_)
 refine fF (.cons .h (.cons .q4 .nil)) (dP (Ro:=gu) (E:=83) (F:=(Aq.2++[])) (xs:=([qI.1]:List aX)) (dM Gi dO bP) rfl rfl) ?_
 refine bnd hF fun Sj JN hF=>bX (.cons .q3 (.cons .h .nil)) (iH (Ro:=gu) tY.h Gj nI.h rfl rfl rfl (.tmp rfl rfl) (.tmp rfl rfl) JN iI) (fun Lp=>?_)
 refine au ?_
 refine As (zg [(.slice none 0 0),Lp.1.v]) ?_
 refine aC ?_
 rw[wk qH]
 exact⟨_,cz _,_,qH+1,sw,_,Lp.1,Lp.2,rfl,aJ,aa2,aI,hF⟩
def Co(aa:List Int)(aR:aX):Option (Bool):=
 ((rX aa aR.Rel).bind fun r4=>
   bif r4 then ((ix aa aR.Rel).bind fun x8=>
     bif (((aR.Terms.length:Int):Int)==x8)then ((zn aR.Terms).bind fun dY=>
       some dY)
     else (some false))
   else (some false)).bind fun o2=>
 match o2 with
 |c18=>some c18
theorem VZ{aa:List Int}{ae:Sv}{aR:aX}{eG:Sv}{R:Bool}(hF:Co aa aR=some R):
   Fw.Spec Tryz.prog 145 [ae.v,(zg [(zi aR.Rel),eG.v])] [aD ae aa,aD eG aR.Terms] (fun _:Unit=>(.bool R)) (fun _=>[]):=by
 refine Se 25 Tryz.func145 [.tmp 4] ?_
 intro H0 F0
 unfold Co at hF
 refine au ?_
 refine fJ (fun k1=>?_)
 refine aG ?_
 obtain⟨o2,fP,hO3⟩:=bind_some hF
 refine gF [0,1,2,3,4,5,6,7,8,9,10,11,12,13,14,15,16,17,18,19,20] [0,0,2,7,15,31,63,127,31,31,543,1823,3871,8191,16383,32767,65535,131071,262143,524287,1048575] [3,18] mixed (by decide+kernel) ?_
 refine qz (fun f' cs'=>∃(c18:Bool)(g:Fr),c18=o2/\f'=aH g [(4,(.bool c18))]/\aF cs' []) ?_ ?_
 · replace hF:=fP
   refine iD ?_
   refine bnd hF fun r4 hx5 hF=>dm (BF hx5) (fun _=>?_)
   refine du ?_
   rcases a_ r4 with bf|bf
   · rw[bf]
     try rw[bf]at hF; dsimp only[ak,aj]at hF
     refine wo ?_
     refine zI hF fun x8 JZ lm hF=>?_
     refine Di lm (fun k12 j13=>?_)
     refine Dl dE ?_
     refine iD ?_
     rcases a_ (((aR.Terms.length:Int):Int)==x8)with pF|pF
     · rw[pF]
       try rw[pF]at hF; dsimp only[ak,aj]at hF
       refine fD ?_
       refine bnd hF fun dY hx16 hF=>dm (N9 hx16) (fun _=>?_)
       exact gH hF
     rw[pF]
     try rw[pF]at hF; dsimp only[ak,aj]at hF
     exact gH hF
   rw[bf]
   try rw[bf]at hF; dsimp only[ak,aj]at hF
   exact gH hF
 rintro _ _ ⟨c18,g19,rfl,rfl,hE⟩
 replace hF:=hO3
 try dsimp only at hF
 refine bg hE ?_
 exact ze hF
def BJ(aR:aX)(bH:List Int):Option (Bool):=
 (Co bH aR).bind fun r2=>
 some (!r2)
theorem Vf{aR:aX}{bC:Sv}{eu:Nat}{bH:List Int}{jv:Sv}{R:Bool}(hF:BJ aR bH=some R):
   Fw.Spec Tryz.prog 144 [(zg [(zi aR.Rel),bC.v]),(pz eu)] [aD bC aR.Terms,cZ eu 22 jv.v,aD jv bH] (fun _:Unit=>(.bool R)) (fun _=>[]):=by
 refine Se 8 Tryz.func144 [.tmp 3] ?_
 intro H0 F0
 unfold BJ at hF
 refine au ?_
 refine fJ (fun k1=>?_)
 refine aC ?_
 refine bnd hF fun r2 hx3 hF=>aB (VZ hx3) (fun _=>?_)
 exact ze hF
def yJ(bH:List Int):List aX->Nat->Option (Int)
 |[],k4=>some (-1)
 |x6::aM,k4=>(BJ x6 bH).bind fun r16=>
   if r16 then (
     some (k4:Int))
   else (
     yJ bH aM (k4+1))
def EG(aa:List aX)(bH:List Int):Option (Int):=
 yJ bH aa 0
theorem Tz{aa:List aX}{ae:Sv}{eu:Nat}{bH:List Int}{jv:Sv}{R:Int}(hF:EG aa bH=some R):
   Fw.Spec Tryz.prog 205 [ae.v,(.func (.func 144) [].toArray [(pz eu)].toArray)] [gI ae aa,cZ eu 22 jv.v,aD jv bH] (fun _:Unit=>(zi R)) (fun _=>[]):=by
 refine Se 19 Tryz.func205 [.tmp 4] ?_
 intro H0 F0
 unfold EG at hF
 refine fU ?_
 refine bF (bU (m:=aa.length) (fun m2 f' cs'=>∃(g:Fr)(k4:Nat)(aM:List aX),m2=aM.length/\f'=aH g [(0,ae.v),(1,(.func (.func 144) [].toArray [(pz eu)].toArray)),(7,(zi (aa.length:Int))),(8,(zi (k4:Int)))]/\List.drop k4 aa=aM/\aF cs' [gI ae aa,cZ eu 22 jv.v,aD jv bH]/\yJ bH aM k4=some R) ⟨_,0,_,rfl,aJ,rfl,aI,hF⟩ ?_)
 rintro m2 _ _ ⟨g3,k4,aM,rfl,rfl,hd7,hE,hF⟩
 refine Kb hE aa (fun mO=>?_)
 rcases aM with _|⟨x6,aM⟩
 · have gQ:=dn hd7
   rw[yJ]at hF
   refine aA ?_
   refine dJ ?_
   exact ze hF
 obtain⟨gQ,bS,ic⟩:=dD hd7
 rw[yJ]at hF
 refine aA ?_
 refine dI ?_
 refine jT ?_
 refine Ai bS (fun k13 nQ=>?_)
 refine Ab (xq x6) zt (fun p15=>?_)
 refine bnd hF fun r16 iT hF=>mP (.rd .h rfl (.rd .q3 rfl (.rd .q4 rfl .nil))) (vQ Zy.h (.tmp rfl rfl) bG (Vf iT)) (fun _=>?_)
 refine au ?_
 refine Ci hF (fun ade hF=>?_) (fun ade hF=>?_)
 · exact ze hF
 refine aC ?_
 rw[wk k4]
 exact⟨_,cz _,_,k4+1,aM,rfl,aJ,ic,aI,hF⟩
def AP(aa:List aX)(bH:List Int):Option (Bool):=
 (EG aa bH).bind fun r1=>
 some (decide ((0:Int)<=r1))
theorem Ty{aa:List aX}{ae:Sv}{eu:Nat}{bH:List Int}{jv:Sv}{R:Bool}(hF:AP aa bH=some R):
   Fw.Spec Tryz.prog 143 [ae.v,(.func (.func 144) [].toArray [(pz eu)].toArray)] [gI ae aa,cZ eu 22 jv.v,aD jv bH] (fun _:Unit=>(.bool R)) (fun _=>[]):=by
 refine Se 9 Tryz.func143 [.tmp 4] ?_
 intro H0 F0
 unfold AP at hF
 refine bz ?_
 refine bnd hF fun r1 hx2 hF=>aB (Tz hx2) (fun _=>?_)
 exact ze hF
def BV(aa:List Int)(aN:bJ):Option (Bool):=
 ((zm aa).bind fun r5=>
   bif r5 then ((h_ (aN.Atoms.length:Int) 1 4).bind fun r9=>
     bif r9 then ((AP aN.Atoms aa).bind fun ky=>
       bif (!ky)then ((xu aN).bind fun gB=>
         some gB)
       else (some false))
     else (some false))
   else (some false)).bind fun o3=>
 match o3 with
 |c20=>some c20
theorem VD{aa:List Int}{ae:Sv}{aN:bJ}{jk eG:Sv}{R:Bool}(hF:BV aa aN=some R):
   Fw.Spec Tryz.prog 94 [ae.v,(zg [jk.v,eG.v])] [aD ae aa,aD jk aN.Head,gI eG aN.Atoms] (fun _:Unit=>(.bool R)) (fun _=>[]):=by
 refine Se 24 Tryz.func94 [.tmp 4] ?_
 intro H0 F0
 unfold BV at hF
 refine au ?_
 refine fJ (fun k1=>?_)
 refine fJ (fun k2=>?_)
 refine aG ?_
 obtain⟨o3,La,hO4⟩:=bind_some hF
 refine au ?_
 refine bZ (fun f' cs'=>∃(c20:Bool)(g:Fr),c20=o3/\f'=aH g [(4,(.bool c20))]/\aF cs' []) ?_ ?_
 · replace hF:=La
   refine au ?_
   refine bnd hF fun r5 hx6 hF=>aB (NZ hx6) (fun _=>?_)
   refine au ?_
   rcases a_ r5 with jb|jb
   · rw[jb]
     try rw[jb]at hF; dsimp only[ak,aj]at hF
     refine bK ?_
     refine bnd hF fun r9 iU hF=>aB (jF iU) (fun _=>?_)
     refine aG ?_
     rcases a_ r9 with gM|gM
     · rw[gM]
       try rw[gM]at hF; dsimp only[ak,aj]at hF
       refine aC ?_
       refine ai (ny (fn:=.func 144) (vs:=[]) (us:=[(pz k1)]) .nil bG) ?_
       refine au ?_
       refine bnd hF fun ky jB hF=>aB (Ty jB) (fun _=>?_)
       refine aA ?_
       rcases a_ (!ky)with gP|gP
       · rw[gP]
         try rw[gP]at hF; dsimp only[ak,aj]at hF
         refine ax ?_
         refine bnd hF fun gB jX hF=>aB (Oo jX) (fun _=>?_)
         exact aO hF
       rw[gP]
       try rw[gP]at hF; dsimp only[ak,aj]at hF
       exact aO hF
     rw[gM]
     try rw[gM]at hF; dsimp only[ak,aj]at hF
     exact aO hF
   rw[jb]
   try rw[jb]at hF; dsimp only[ak,aj]at hF
   exact aO hF
 rintro _ _ ⟨c20,g21,rfl,rfl,hE⟩
 replace hF:=hO4
 try dsimp only at hF
 refine bg hE ?_
 exact ze hF
def w9(aa:List Int)(aL:List UInt8):Option (bJ×Bool):=
 (qj aL).bind fun r2=>
 (bif (!r2.2)then (some true)
   else ((BV aa r2.1).bind fun r9=>
     some (!r9))).bind fun o6=>
 match o6 with
 |c12=>if c12 then (
     some ((⟨[],[]⟩:bJ),false))
   else (
     some (r2.1,true))
theorem NA{aa:List Int}{ae:Sv}{aL:List UInt8}{R:bJ×Bool}(hF:w9 aa aL=some R):
   Fw.Spec Tryz.prog 63 [ae.v,(sv aL)] [aD ae aa] (fun p:Sv×List Nat×Sv×List Nat=>(.tuple [(zg [p.1.v,p.2.2.1.v]),(.bool R.2)].toArray)) (fun p=>[bV p.2.1 p.1 R.1.Head,xS p.2.2.2 p.2.2.1 R.1.Atoms]):=by
 refine Se 23 Tryz.func63 [.cell 4 59,.tmp 5] ?_
 intro H0 F0
 unfold w9 at hF
 refine au ?_
 refine fE (fun k1=>?_)
 refine aA ?_
 refine bnd hF fun r2 hx3 hF=>Ei (Ve hx3) (fun p4=>?_)
 refine au ?_
 refine zx ?_
 refine zx ?_
 refine fE (fun k5=>?_)
 refine As (zg [p4.1.v,p4.2.2.1.v]) ?_
 refine ax ?_
 obtain⟨o6,Lg,Mm⟩:=bind_some hF
 refine au ?_
 refine bZ (fun f' cs'=>∃(c12:Bool)(g:Fr),c12=o6/\f'=aH g [(4,(pz k1)),(6,(pz k5)),(20,(.bool c12))]/\aF cs' [bW k1 59 (.agg ([(.slice none 0 0),(.slice none 0 0)]:List Value).toArray),bW k5 59 (zg [p4.1.v,p4.2.2.1.v]),bV p4.2.1 p4.1 r2.1.Head,xS p4.2.2.2 p4.2.2.1 r2.1.Atoms]) ?_ ?_
 · replace hF:=Lg
   refine ax ?_
   rcases a_ (!r2.2)with jb|jb
   · rw[jb]
     try rw[jb]at hF; dsimp only[ak,aj]at hF
     exact aO hF
   rw[jb]
   try rw[jb]at hF; dsimp only[ak,aj]at hF
   refine aC ?_
   refine bnd hF fun r9 iU hF=>oO (.cons .q2 (.cons (.t .h) (.rd .q2 rfl .nil))) (vS (pre:=_) (.cons cu (.cons cu .nil)) (fun _=>.nil) (oF (.rd .q2 rfl (.rd .h rfl (.rd (.t .h) rfl .nil))) (bT abS.h bG (VD iU)))) (fun _=>?_)
   exact aO hF
 rintro _ _ ⟨c12,g14,rfl,rfl,hE⟩
 replace hF:=Mm
 try dsimp only at hF
 refine bg hE ?_
 refine Ci hF (fun adf hF=>?_) (fun adf hF=>?_)
 · refine au ?_
   refine ai (fH fe.h rfl (vs:=[]) .nil (cells:=[(.slice none 0 0),(.slice none 0 0)]) rfl) ?_
   refine As (.agg ([(.slice none 0 0),(.slice none 0 0)]:List Value).toArray) ?_
   refine ax ?_
   cases hF
   exact dx (⟨none,0,0⟩,[],⟨none,0,0⟩,[]) (.cellA rfl rfl .h rfl jJ.h fe.h.sz rfl rfl (.tmp rfl rfl .nil)) rfl (.conv .nil (dV (Ro:=(aK aY)) (E:=3)) (.cons .nil) (.conv .nil (dV (Ro:=gu) (E:=83)) (.cons .nil) (.sel (.cons (.t .h) (.cons .h .nil)))))
 refine ax ?_
 refine As (zg [p4.1.v,p4.2.2.1.v]) ?_
 refine ax ?_
 cases hF
 exact dx (p4.1,p4.2.1,p4.2.2.1,p4.2.2.2) (.cellA rfl rfl .h rfl jJ.h fe.h.sz rfl rfl (.tmp rfl rfl .nil)) rfl (.sel (.cons .q2 (.cons .q2 .nil)))
def Bh(bM:Event)(aa:List Int):Option (Bool):=
 if ((bM.Kind:Int)==1)then (
   (Bn aa bM.Text).bind fun r2=>
   if r2.2 then (
     some true)
   else (
     some false))
 else (
   if ((bM.Kind:Int)==2)then (
     (BH aa bM.Text).bind fun r7=>
     if r7.2 then (
       some true)
     else (
       some false))
   else (
     if ((bM.Kind:Int)==3)then (
       if ((bM.Kind:Int)==3)then (
         (zb aa bM.Text).bind fun bY=>
         if bY.2 then (
           some true)
         else (
           some false))
       else (
         if ((bM.Kind:Int)==5)then (
           (g_ bM.Text).bind fun gB=>
           (bif gB.2 then ((h_ gB.1 1 100).bind fun dh=>
               some dh)
             else (some false)).bind fun ME=>
           match ME with
           |jN=>if jN then (
               some true)
             else (
               some false))
         else (
           if ((bM.Kind:Int)==6)then (
             (w9 aa bM.Text).bind fun fQ=>
             if fQ.2 then (
               some true)
             else (
               some false))
           else (
             some false))))
     else (
       if ((bM.Kind:Int)==4)then (
         (zb aa bM.Text).bind fun kD=>
         if kD.2 then (
           some true)
         else (
           some false))
       else (
         if ((bM.Kind:Int)==5)then (
           (g_ bM.Text).bind fun l8=>
           (bif l8.2 then ((h_ l8.1 1 100).bind fun iN=>
               some iN)
             else (some false)).bind fun EC=>
           match EC with
           |c53=>if c53 then (
               some true)
             else (
               some false))
         else (
           if ((bM.Kind:Int)==6)then (
             (w9 aa bM.Text).bind fun nV=>
             if nV.2 then (
               some true)
             else (
               some false))
           else (
             some false))))))
theorem Us{bM:Event}{aa:List Int}{jk:Sv}{R:Bool}(hF:Bh bM aa=some R):
   Fw.Spec Tryz.prog 27 [(zg [(zi bM.Kind),(sv bM.Text)]),jk.v] [aD jk aa] (fun p:G8=>(Lv p R)) (fun _=>[]):=by
 refine Se 76 Tryz.func27 [.tmp 4] ?_
 intro H0 F0
 unfold Bh at hF
 refine au ?_
 refine fJ (fun k1=>?_)
 refine bK ?_
 refine bF (dw (ai (FX (i:=bM.Kind) (j:=1) (.tmp rfl rfl) (.int _ _)) ?_))
 refine aG ?_
 refine Ci hF (fun KQ hF=>?_) (fun KQ hF=>?_)
 · refine aA ?_
   refine bnd hF fun r2 hx3 hF=>dC (Uy hx3) (fun p4=>?_)
   refine au ?_
   refine zx ?_
   refine zx ?_
   refine fE (fun k5=>?_)
   refine As (zg [(zi r2.1.Rel),p4.1.v,(zi r2.1.Limit),(zi r2.1.Cost),(zi r2.1.Quota)]) ?_
   refine aC ?_
   refine Ci hF (fun hb6 hF=>?_) (fun hb6 hF=>?_)
   · refine au ?_
     refine ai (ny (fn:=.func 51) (vs:=[]) (us:=[(pz k5)]) .nil bG) ?_
     refine ax ?_
     cases hF
     exact Er (.func 51,[],[(pz k5)])
   refine aC ?_
   cases hF
   exact Er (.func 0,[],[])
 refine aA ?_
 refine Ci hF (fun ug hF=>?_) (fun ug hF=>?_)
 · refine aA ?_
   refine bnd hF fun r7 gZ hF=>dC (Vb gZ) (fun p9=>?_)
   refine au ?_
   refine zx ?_
   refine zx ?_
   refine fE (fun k10=>?_)
   refine As (zg [(zi r7.1.From),(zi r7.1.To),p9.1.v]) ?_
   refine aC ?_
   refine Ci hF (fun adg hF=>?_) (fun adg hF=>?_)
   · refine au ?_
     refine ai (ny (fn:=.func 54) (vs:=[]) (us:=[(pz k10)]) .nil bG) ?_
     refine ax ?_
     cases hF
     exact Er (.func 54,[],[(pz k10)])
   refine aC ?_
   cases hF
   exact Er (.func 0,[],[])
 refine aC ?_
 refine Ci hF (fun xZ hF=>?_) (fun xZ hF=>?_)
 · refine au ?_
   refine Ci hF (fun DD hF=>?_) (fun DD hF=>?_)
   · refine aA ?_
     refine bnd hF fun bY eY hF=>dC (NG eY) (fun qW=>?_)
     refine au ?_
     refine zx ?_
     refine zx ?_
     refine fE (fun k15=>?_)
     refine As (zg [(zi bY.1.Rel),qW.1.v]) ?_
     refine aC ?_
     refine Ci hF (fun yf hF=>?_) (fun yf hF=>?_)
     · refine au ?_
       refine ai (ny (fn:=.func 57) (vs:=[]) (us:=[(pz k1),(pz k15)]) .nil bG) ?_
       refine ax ?_
       cases hF
       exact Er (.func 57,[],[(pz k1),(pz k15)])
     refine aC ?_
     cases hF
     exact Er (.func 0,[],[])
   refine aA ?_
   refine Ci hF (fun Lj hF=>?_) (fun Lj hF=>?_)
   · refine ax ?_
     refine bnd hF fun gB jX hF=>aB (lL jX) (fun _=>?_)
     refine au ?_
     refine zx ?_
     refine zx ?_
     refine fE (fun k20=>?_)
     refine As (zi gB.1) ?_
     refine aG ?_
     obtain⟨ME,aa5,adh⟩:=bind_some hF
     refine au ?_
     refine bZ (fun f' cs'=>∃(jN:Bool)(g:Fr),jN=ME/\f'=aH g [(11,(pz k20)),(63,(.bool jN))]/\aF cs' [bW k20 3 (zi gB.1)]) ?_ ?_
     · replace hF:=aa5
       refine aG ?_
       rcases a_ gB.2 with pG|pG
       · rw[pG]
         try rw[pG]at hF; dsimp only[ak,aj]at hF
         refine ax ?_
         refine bnd hF fun dh hx25 hF=>aB (jF hx25) (fun _=>?_)
         exact aO hF
       rw[pG]
       try rw[pG]at hF; dsimp only[ak,aj]at hF
       exact aO hF
     rintro _ _ ⟨jN,g29,rfl,rfl,hE⟩
     replace hF:=adh
     try dsimp only at hF
     refine bg hE ?_
     refine Ci hF (fun adi hF=>?_) (fun adi hF=>?_)
     · refine au ?_
       refine ai (ny (fn:=.func 61) (vs:=[]) (us:=[(pz k20)]) .nil bG) ?_
       refine ax ?_
       cases hF
       exact Er (.func 61,[],[(pz k20)])
     refine aC ?_
     cases hF
     exact Er (.func 0,[],[])
   refine aA ?_
   refine Ci hF (fun D6 hF=>?_) (fun D6 hF=>?_)
   · refine aA ?_
     refine bnd hF fun fQ hx31 hF=>Ei (NA hx31) (fun p32=>?_)
     refine au ?_
     refine zx ?_
     refine zx ?_
     refine fE (fun Az=>?_)
     refine As (zg [p32.1.v,p32.2.2.1.v]) ?_
     refine aC ?_
     refine Ci hF (fun Dz hF=>?_) (fun Dz hF=>?_)
     · refine au ?_
       refine ai (ny (fn:=.func 64) (vs:=[]) (us:=[(pz Az)]) .nil bG) ?_
       refine ax ?_
       cases hF
       exact Er (.func 64,[],[(pz Az)])
     refine aC ?_
     cases hF
     exact Er (.func 0,[],[])
   refine aC ?_
   cases hF
   exact Er (.func 0,[],[])
 refine aA ?_
 refine Ci hF (fun ui hF=>?_) (fun ui hF=>?_)
 · refine aA ?_
   refine bnd hF fun kD hx39 hF=>dC (NG hx39) (fun p40=>?_)
   refine au ?_
   refine zx ?_
   refine zx ?_
   refine fE (fun mZ=>?_)
   refine As (zg [(zi kD.1.Rel),p40.1.v]) ?_
   refine aC ?_
   refine Ci hF (fun uf hF=>?_) (fun uf hF=>?_)
   · refine au ?_
     refine ai (ny (fn:=.func 57) (vs:=[]) (us:=[(pz k1),(pz mZ)]) .nil bG) ?_
     refine ax ?_
     cases hF
     exact Er (.func 57,[],[(pz k1),(pz mZ)])
   refine aC ?_
   cases hF
   exact Er (.func 0,[],[])
 refine aA ?_
 refine Ci hF (fun adj hF=>?_) (fun adj hF=>?_)
 · refine ax ?_
   refine bnd hF fun l8 uo hF=>aB (lL uo) (fun _=>?_)
   refine au ?_
   refine zx ?_
   refine zx ?_
   refine fE (fun qR=>?_)
   refine As (zi l8.1) ?_
   refine aG ?_
   obtain⟨EC,aa6,adk⟩:=bind_some hF
   refine au ?_
   refine bZ (fun f' cs'=>∃(c53:Bool)(g:Fr),c53=EC/\f'=aH g [(11,(pz qR)),(63,(.bool c53))]/\aF cs' [bW qR 3 (zi l8.1)]) ?_ ?_
   · replace hF:=aa6
     refine aG ?_
     rcases a_ l8.2 with oW|oW
     · rw[oW]
       try rw[oW]at hF; dsimp only[ak,aj]at hF
       refine ax ?_
       refine bnd hF fun iN nK hF=>aB (jF nK) (fun _=>?_)
       exact aO hF
     rw[oW]
     try rw[oW]at hF; dsimp only[ak,aj]at hF
     exact aO hF
   rintro _ _ ⟨c53,g55,rfl,rfl,hE⟩
   replace hF:=adk
   try dsimp only at hF
   refine bg hE ?_
   refine Ci hF (fun Li hF=>?_) (fun Li hF=>?_)
   · refine au ?_
     refine ai (ny (fn:=.func 61) (vs:=[]) (us:=[(pz qR)]) .nil bG) ?_
     refine ax ?_
     cases hF
     exact Er (.func 61,[],[(pz qR)])
   refine aC ?_
   cases hF
   exact Er (.func 0,[],[])
 refine aA ?_
 refine Ci hF (fun xX hF=>?_) (fun xX hF=>?_)
 · refine aA ?_
   refine bnd hF fun nV ww hF=>Ei (NA ww) (fun p58=>?_)
   refine au ?_
   refine zx ?_
   refine zx ?_
   refine fE (fun Mo=>?_)
   refine As (zg [p58.1.v,p58.2.2.1.v]) ?_
   refine aC ?_
   refine Ci hF (fun Lr hF=>?_) (fun Lr hF=>?_)
   · refine au ?_
     refine ai (ny (fn:=.func 64) (vs:=[]) (us:=[(pz Mo)]) .nil bG) ?_
     refine ax ?_
     cases hF
     exact Er (.func 64,[],[(pz Mo)])
   refine aC ?_
   cases hF
   exact Er (.func 0,[],[])
 refine aC ?_
 cases hF
 exact Er (.func 0,[],[])
def rR(aa:List Int)(bM:Event):Option (Bool):=
 (Bh bM aa).bind fun r2=>
 some r2
theorem VE{aa:List Int}{ae:Sv}{bM:Event}{R:Bool}(hF:rR aa bM=some R):
   Fw.Spec Tryz.prog 10 [ae.v,(zg [(zi bM.Kind),(sv bM.Text)])] [aD ae aa] (fun _:Unit=>(.bool R)) (fun _=>[]):=by
 refine Se 9 Tryz.func10 [.tmp 4] ?_
 intro H0 F0
 unfold rR at hF
 refine au ?_
 refine fJ (fun k1=>?_)
 refine aC ?_
 refine bnd hF fun r2 hx3 hF=>aB (Us hx3) (fun p4=>?_)
 refine ai (Yg (p:=p4) (b:=r2) Zz (.tmp rfl rfl)) ?_
 exact ze hF
def BK(oH:Int):Option ((List UInt8)):=
 (h_ oH 1 6).bind fun r1=>
 if (!r1)then (
   some [])
 else (
   (Bu).bind fun r4=>
   (ix r4 oH).bind fun gD=>
   some gD)
theorem Vg{oH:Int}{R:(List UInt8)}(hF:BK oH=some R):
   Fw.Spec Tryz.prog 67 [(zi oH)] [] (fun _:Unit=>(sv R)) (fun _=>[]):=by
 refine Se 10 Tryz.func67 [.tmp 2] ?_
 intro H0 F0
 unfold BK at hF
 refine bz ?_
 refine bnd hF fun r1 hx2 hF=>aB (jF hx2) (fun _=>?_)
 refine aG ?_
 refine Ci hF (fun DT hF=>?_) (fun DT hF=>?_)
 · exact ze hF
 refine aG ?_
 refine bnd hF fun r4 hx5 hF=>dC (Nz hx5) (fun p6=>?_)
 refine au ?_
 refine bnd hF fun gD lm hF=>?_
 have hi9:=oD lm
 obtain⟨ahO,eY⟩:=lQ lm
 refine mJ fI.h gy.h.sz (.tmp rfl rfl) (.tmp rfl rfl) .h hi9 (fun k7 gQ=>?_)
 refine tF (w:=(sv gD)) uD.h (.tmp rfl rfl) .h gQ eY zX ?_
 exact ze hF
def Bp(bM:Event):Option ((List UInt8)):=
 (BK bM.Kind).bind fun r2=>
 if ((r2==[])||(bM.Text==[]))then (
   some [])
 else (
   (aP r2 [32]).bind fun x7=>
   (aP x7 bM.Text).bind fun iw=>
   some iw)
theorem UA{bM:Event}{R:(List UInt8)}(hF:Bp bM=some R):
   Fw.Spec Tryz.prog 32 [(zg [(zi bM.Kind),(sv bM.Text)])] [] (fun _:Unit=>(sv R)) (fun _=>[]):=by
 refine Se 19 Tryz.func32 [.tmp 2] ?_
 intro H0 F0
 unfold Bp at hF
 refine au ?_
 refine fJ (fun k1=>?_)
 refine aC ?_
 refine bnd hF fun r2 hx3 hF=>aB (Vg hx3) (fun _=>?_)
 refine aA ?_
 refine bZ (fun f' cs'=>∃(g:Fr),f'=aH g [(1,(pz k1)),(3,(sv r2)),(13,(.bool ((r2==[])||(bM.Text==[]))))]/\aF cs' [cZ k1 28 (zg [(zi bM.Kind),(sv bM.Text)])]) ?_ ?_
 · refine au ?_
   refine ai (oJ (s:=r2) (t:=[]) (.tmp rfl rfl) (.sv _)) ?_
   refine au ?_
   rcases a_ (r2==[])with hg5|hg5
   · rw[hg5]
     try rw[hg5]at hF; dsimp only[ak,aj]at hF
     refine aC ?_
     exact⟨_,aJ,aI⟩
   rw[hg5]
   try rw[hg5]at hF; dsimp only[ak,aj]at hF
   refine aC ?_
   refine ai (oJ (s:=bM.Text) (t:=[]) (.tmp rfl rfl) (.sv _)) ?_
   refine aG ?_
   exact⟨_,aJ,aI⟩
 rintro _ _ ⟨g6,rfl,hE⟩
 refine bg hE ?_
 refine Ci hF (fun xV hF=>?_) (fun xV hF=>?_)
 · exact ze hF
 refine ax ?_
 refine bnd hF fun x7 gZ hF=>?_
 obtain⟨RU,Tc⟩:=bq gZ
 refine ai (bu (s:=r2) (t:=[32]) (u:=x7) (.tmp rfl rfl) (.sv _) gZ) ?_
 refine aG ?_
 refine bnd hF fun iw lu hF=>?_
 obtain⟨ahP,ahQ⟩:=bq lu
 refine ai (bu (s:=x7) (t:=bM.Text) (u:=iw) (.tmp rfl rfl) (.tmp rfl rfl) lu) ?_
 exact ze hF
def vB(aa:List Int)(fT:List UInt8):Option (Event×Bool):=
 (rG fT [32]).bind fun r2=>
 (Bu).bind fun r5=>
 (ry r5 r2.1).bind fun r8=>
 ((rR aa (⟨r8,r2.2.1⟩:Event)).bind fun kQ=>
   bif (!kQ)then (some true)
   else ((Bp (⟨r8,r2.2.1⟩:Event)).bind fun fG=>
     some (!(fG==fT)))).bind fun MF=>
 match MF with
 |c21=>if c21 then (
     some ((⟨0,[]⟩:Event),false))
   else (
     some ((⟨r8,r2.2.1⟩:Event),true))
theorem UO{aa:List Int}{ae:Sv}{fT:List UInt8}{R:Event×Bool}(hF:vB aa fT=some R):
   Fw.Spec Tryz.prog 13 [ae.v,(sv fT)] [aD ae aa] (fun _:Unit=>(.tuple [(zg [(zi R.1.Kind),(sv R.1.Text)]),(.bool R.2)].toArray)) (fun _=>[]):=by
 refine Se 33 Tryz.func13 [.cell 4 28,.tmp 5] ?_
 intro H0 F0
 unfold vB at hF
 refine au ?_
 refine fE (fun k1=>?_)
 refine aA ?_
 refine bnd hF fun r2 hx3 hF=>aB (Ih hx3) (fun _=>?_)
 refine au ?_
 refine zx ?_
 refine zx ?_
 refine zx ?_
 refine aC ?_
 refine bnd hF fun r5 hx6 hF=>dC (Nz hx6) (fun p7=>?_)
 refine au ?_
 refine bnd hF fun r8 bS hF=>bX (.cons .h .nil) (gm cu (fun _=>.nil) (bT abI.h bG (MR bS))) (fun _=>?_)
 refine au ?_
 refine ai (fH jy.h rfl (vs:=[(zi r8),(sv r2.2.1)]) bG (cells:=[(zi r8),(sv r2.2.1)]) rfl) ?_
 refine fE (fun k11=>?_)
 refine As (zg [(zi r8),(sv r2.2.1)]) ?_
 refine aG ?_
 obtain⟨MF,aa7,adl⟩:=bind_some hF
 refine au ?_
 refine bZ (fun f' cs'=>∃(c21:Bool)(g:Fr),c21=MF/\f'=aH g [(4,(pz k1)),(9,(pz k11)),(30,(.bool c21))]/\aF cs' [bW k1 28 (zg [(zi 0),(sv [])]),bW k11 28 (zg [(zi r8),(sv r2.2.1)])]) ?_ ?_
 · replace hF:=aa7
   refine aG ?_
   refine bnd hF fun kQ jA hF=>aB (VE jA) (fun _=>?_)
   refine aG ?_
   rcases a_ (!kQ)with Ed|Ed
   · rw[Ed]
     try rw[Ed]at hF; dsimp only[ak,aj]at hF
     exact aO hF
   rw[Ed]
   try rw[Ed]at hF; dsimp only[ak,aj]at hF
   refine ax ?_
   refine bnd hF fun fG lq hF=>aB (UA lq) (fun _=>?_)
   refine ax ?_
   refine ai (iP (s:=fG) (t:=fT) (.tmp rfl rfl) (.tmp rfl rfl)) ?_
   exact aO hF
 rintro _ _ ⟨c21,g23,rfl,rfl,hE⟩
 replace hF:=adl
 try dsimp only at hF
 refine bg hE ?_
 refine Ci hF (fun xW hF=>?_) (fun xW hF=>?_)
 · refine au ?_
   refine ai (fH jy.h rfl (vs:=[]) .nil (cells:=[(zi 0),(sv [])]) rfl) ?_
   refine As (zg [(zi 0),(sv [])]) ?_
   refine ax ?_
   cases hF
   exact dx () (.cellA rfl rfl .h rfl Dc.h jy.h.sz rfl rfl (.tmp rfl rfl .nil)) rfl (.sel .nil)
 refine ax ?_
 refine As (zg [(zi r8),(sv r2.2.1)]) ?_
 refine ax ?_
 cases hF
 exact dx () (.cellA rfl rfl .h rfl Dc.h jy.h.sz rfl rfl (.tmp rfl rfl .nil)) rfl (.sel .nil)
def wQ(aa:List Int):List (List UInt8)->Nat->(List Event)->Option ((List Event)×Bool)
 |[],k21,c15=>some (c15,true)
 |jE::tC,k21,c15=>(vB aa jE).bind fun r32=>
   if (!r32.2)then (
     some ([],false))
   else (
     (app c15 ([r32.1]:List Event)).bind fun z37=>
     wQ aa tC (k21+1) z37)
def yU(aa:List Int)(aL:List UInt8):Option ((List Event)×Bool):=
 (lK aL [10]).bind fun r1=>
 (ix r1 (IntKind.i64.wrap ((r1.length:Int)-1))).bind fun x4=>
 if (!(x4==[]))then (
   some ([],false))
 else (
   (jD (decide (0<=(IntKind.i64.wrap ((r1.length:Int)-1)))&&decide ((IntKind.i64.wrap ((r1.length:Int)-1))<=(r1.length:Int)))).bind fun Ay=>
   wQ aa (r1.take ((IntKind.i64.wrap ((r1.length:Int)-1))).toNat) 0 ([]:List Event))
theorem Nf{aa:List Int}{ae:Sv}{aL:List UInt8}{R:(List Event)×Bool}(hF:yU aa aL=some R):
   Fw.Spec Tryz.prog 16 [ae.v,(sv aL)] [aD ae aa] (fun p:Sv×List Nat=>(.tuple [p.1.v,(.bool R.2)].toArray)) (fun p=>[qF p.2 p.1 R.1]):=by
 refine Se 46 Tryz.func16 [.tmp 4,.tmp 5] ?_
 intro H0 F0
 unfold yU at hF
 refine bz ?_
 refine bnd hF fun r1 hx2 hF=>dC (rz hx2) (fun p3=>?_)
 refine ZA ?_
 refine zI hF fun x4 He hx7 hF=>?_
 refine Ai hx7 (fun k8 j9=>?_)
 refine Al fw ?_
 refine ai (iP (s:=x4) (t:=[]) (.tmp rfl rfl) (.sv _)) ?_
 refine au ?_
 refine Ci hF (fun uf hF=>?_) (fun uf hF=>?_)
 · refine aC ?_
   cases hF
   exact dx (⟨none,0,0⟩,[]) (.tmp rfl rfl (.tmp rfl rfl .nil)) rfl (.conv .nil (dV (Ro:=(aK ib)) (E:=28)) (.cons .nil) (.sel (.cons .h .nil)))
 refine aG ?_
 refine eF rfl (dN (g:=true) qE.h jy.h .nil (vs:=[]) rfl rfl rfl (by simp)) (fun k10=>?_)
 refine fF (.cons .h .nil) (dP (Ro:=(aK ib)) (E:=28) (F:=[]) (xs:=([]:List Event)) dO rfl rfl) ?_
 refine bz ?_
 refine bnd hF fun Ay jB hF=>?_
 have Ls:=kV jB
 simp only[Bool.and_eq_true,decide_eq_true_eq]at Ls
 refine Wo fI.h gy.h.sz (.tmp rfl rfl) (.tmp rfl rfl) .q2 Ls.1 Ls.2 (fun Tt=>?_)
 refine ax ?_
 refine bF (bU (m:=(r1.take ((IntKind.i64.wrap ((r1.length:Int)-1))).toNat).length) (fun m19 f' cs'=>∃(g:Fr)(k21:Nat)(tC:List (List UInt8))(c15:List Event)(v16:Sv)(MG:List Nat),m19=tC.length/\f'=aH g [(0,ae.v),(8,v16.v),(26,Tt.v),(27,(zi ((r1.take ((IntKind.i64.wrap ((r1.length:Int)-1))).toNat).length:Int))),(28,(zi (k21:Int)))]/\List.drop k21 (r1.take ((IntKind.i64.wrap ((r1.length:Int)-1))).toNat)=tC/\aF cs' [aD ae aa,qF MG v16 c15,jl Tt (r1.take ((IntKind.i64.wrap ((r1.length:Int)-1))).toNat)]/\wQ aa tC k21 c15=some R) ⟨_,0,_,_,⟨(some ⟨k10,0,none⟩),0,1⟩,(k10::[]),rfl,aJ,rfl,aI,hF⟩ ?_)
 rintro m19 _ _ ⟨g20,k21,tC,c15,v16,MG,rfl,rfl,hd24,hE,hF⟩
 refine Kb hE (r1.take ((IntKind.i64.wrap ((r1.length:Int)-1))).toNat) (fun ae7=>?_)
 rcases tC with _|⟨jE,tC⟩
 · have adm:=dn hd24
   rw[wQ]at hF
   refine aA ?_
   refine dJ ?_
   refine jT ?_
   cases hF
   exact Er (v16,MG)
 obtain⟨adm,mR,hd27⟩:=dD hd24
 rw[wQ]at hF
 refine aA ?_
 refine dI ?_
 refine ax ?_
 refine Ai mR (fun k30 j31=>?_)
 refine Al fw ?_
 refine aC ?_
 refine bnd hF fun r32 mV hF=>aB (UO mV) (fun _=>?_)
 refine au ?_
 refine zx ?_
 refine zx ?_
 refine fE (fun iA=>?_)
 refine As (zg [(zi r32.1.Kind),(sv r32.1.Text)]) ?_
 refine bK ?_
 refine Ci hF (fun adn hF=>?_) (fun adn hF=>?_)
 · refine aC ?_
   cases hF
   exact dx (⟨none,0,0⟩,[]) (.tmp rfl rfl (.tmp rfl rfl .nil)) rfl (.conv .nil (dV (Ro:=(aK ib)) (E:=28)) (.cons .nil) (.sel (.cons .h .nil)))
 refine aA ?_
 refine eF rfl (dN (g:=true) qE.h jy.h bG (vs:=[(zg [(zi r32.1.Kind),(sv r32.1.Text)])]) rfl rfl rfl (by intro v hv; simp at hv; rcases hv with rfl<;>rfl)) (fun k36=>?_)
 refine fF (.cons .h .nil) (dP (Ro:=(aK ib)) (E:=28) (F:=([]++[])) (xs:=([r32.1]:List Event)) (dM (eP (fun _=>rfl)) dO bP) rfl rfl) ?_
 refine bnd hF fun z37 hx38 hF=>bX (.cons .q4 (.cons .h .nil)) (iH (Ro:=(aK ib)) qE.h Rp jy.h rfl rfl rfl (.tmp rfl rfl) (.tmp rfl rfl) hx38 iI) (fun p39=>?_)
 refine bz ?_
 rw[wk k21]
 exact⟨_,cz _,_,k21+1,tC,_,p39.1,p39.2,rfl,aJ,hd27,aI,hF⟩
def BX(aR:Event)(gV:Event):Option (Bool):=
 if ((aR.Kind:Int)!=gV.Kind)then (
   some false)
 else (
   if (!(aR.Text==gV.Text))then (
     some false)
   else (
     some true))
theorem VF{aR gV:Event}{R:Bool}(hF:BX aR gV=some R):
   Fw.Spec Tryz.prog 14 [(zg [(zi aR.Kind),(sv aR.Text)]),(zg [(zi gV.Kind),(sv gV.Text)])] [] (fun _:Unit=>(.bool R)) (fun _=>[]):=by
 refine Se 15 Tryz.func14 [.tmp 4] ?_
 intro H0 F0
 unfold BX at hF
 refine au ?_
 refine fJ (fun k1=>?_)
 refine fJ (fun k2=>?_)
 refine jT ?_
 refine Ci hF (fun hb4 hF=>?_) (fun hb4 hF=>?_)
 · exact ze hF
 refine bK ?_
 refine ai (iP (s:=aR.Text) (t:=gV.Text) (.tmp rfl rfl) (.tmp rfl rfl)) ?_
 refine au ?_
 refine Ci hF (fun hb3 hF=>?_) (fun hb3 hF=>?_)
 · exact ze hF
 exact ze hF
def yZ(gV:List Event):List Event->Nat->Option (Bool)
 |[],k4=>some true
 |x6::aM,k4=>(ix gV (k4:Int)).bind fun AL=>
   (BX x6 AL).bind fun fV=>
   if (!fV)then (
     some false)
   else (
     yZ gV aM (k4+1))
def zo(aR:List Event)(gV:List Event):Option (Bool):=
 if (((aR.length:Int):Int)!=(gV.length:Int))then (
   some false)
 else (
   yZ gV aR 0)
theorem Im{aR:List Event}{ae:Sv}{gV:List Event}{jk:Sv}{R:Bool}(hF:zo aR gV=some R):
   Fw.Spec Tryz.prog 17 [ae.v,jk.v] [Ag ae aR,Ag jk gV] (fun _:Unit=>(.bool R)) (fun _=>[]):=by
 refine Se 27 Tryz.func17 [.tmp 4] ?_
 intro H0 F0
 unfold zo at hF
 refine tN ?_
 refine Ci hF (fun yc hF=>?_) (fun yc hF=>?_)
 · exact ze hF
 refine aC ?_
 refine bF (bU (m:=aR.length) (fun m2 f' cs'=>∃(g:Fr)(k4:Nat)(aM:List Event),m2=aM.length/\f'=aH g [(0,ae.v),(1,jk.v),(5,(zi (k4:Int)))]/\List.drop k4 aR=aM/\aF cs' [Ag ae aR,Ag jk gV]/\yZ gV aM k4=some R) ⟨_,0,_,rfl,aJ,rfl,aI,hF⟩ ?_)
 rintro m2 _ _ ⟨g3,k4,aM,rfl,rfl,hd7,hE,hF⟩
 refine Kb hE aR (fun mO=>?_)
 rcases aM with _|⟨x6,aM⟩
 · have gQ:=dn hd7
   rw[yZ]at hF
   refine bK ?_
   refine dJ ?_
   exact ze hF
 obtain⟨gQ,bS,ic⟩:=dD hd7
 rw[yZ]at hF
 refine bK ?_
 refine dI ?_
 refine aG ?_
 refine gF [0,1,2,3,4,5,6,7,8,9] [0,0,3,7,0,0,48,112,255,511] [8] mixed (by decide+kernel) ?_
 refine fD ?_
 refine Di bS (fun k13 nQ=>?_)
 refine Rh (IP x6) Pi (fun _=>?_)
 refine fD ?_
 refine zI hF fun AL ado jX hF=>?_
 refine Di jX (fun k19 Tn=>?_)
 refine Rh (IP AL) Pi (fun _=>?_)
 refine bnd hF fun fV o7 hF=>dm (VF o7) (fun _=>?_)
 refine fD ?_
 refine Ci hF (fun uq hF=>?_) (fun uq hF=>?_)
 · exact ze hF
 refine bz ?_
 rw[wk k4]
 exact⟨_,cz _,_,k4+1,aM,rfl,aJ,ic,aI,hF⟩
def zf(gV:List Int):List Int->Nat->Option (Bool)
 |[],k4=>some true
 |x6::aM,k4=>(ix gV (k4:Int)).bind fun AL=>
   if ((x6:Int)!=AL)then (
     some false)
   else (
     zf gV aM (k4+1))
def FH(aR:List Int)(gV:List Int):Option (Bool):=
 if (((aR.length:Int):Int)!=(gV.length:Int))then (
   some false)
 else (
   zf gV aR 0)
theorem V3{aR:List Int}{ae:Sv}{gV:List Int}{jk:Sv}{R:Bool}(hF:FH aR gV=some R):
   Fw.Spec Tryz.prog 11 [ae.v,jk.v] [aD ae aR,aD jk gV] (fun _:Unit=>(.bool R)) (fun _=>[]):=by
 refine Se 26 Tryz.func11 [.tmp 4] ?_
 intro H0 F0
 unfold FH at hF
 refine tN ?_
 refine Ci hF (fun Dj hF=>?_) (fun Dj hF=>?_)
 · exact ze hF
 refine aC ?_
 refine bF (bU (m:=aR.length) (fun m2 f' cs'=>∃(g:Fr)(k4:Nat)(aM:List Int),m2=aM.length/\f'=aH g [(0,ae.v),(1,jk.v),(5,(zi (k4:Int)))]/\List.drop k4 aR=aM/\aF cs' [aD ae aR,aD jk gV]/\zf gV aM k4=some R) ⟨_,0,_,rfl,aJ,rfl,aI,hF⟩ ?_)
 rintro m2 _ _ ⟨g3,k4,aM,rfl,rfl,hd7,hE,hF⟩
 refine Kb hE aR (fun mO=>?_)
 rcases aM with _|⟨x6,aM⟩
 · have gQ:=dn hd7
   rw[zf]at hF
   refine bK ?_
   refine dJ ?_
   exact ze hF
 obtain⟨gQ,bS,ic⟩:=dD hd7
 rw[zf]at hF
 refine bK ?_
 refine dI ?_
 refine aG ?_
 refine gF [0,1,2,3,4,5,6,7,8] [0,0,3,7,0,0,48,112,255] [] mixed (by decide+kernel) ?_
 refine fD ?_
 refine Di bS (fun k13 nQ=>?_)
 refine Dl dE ?_
 refine fD ?_
 refine zI hF fun AL ado jX hF=>?_
 refine Di jX (fun k19 Tn=>?_)
 refine Dl dE ?_
 refine fD ?_
 refine Ci hF (fun xW hF=>?_) (fun xW hF=>?_)
 · exact ze hF
 refine bz ?_
 rw[wk k4]
 exact⟨_,cz _,_,k4+1,aM,rfl,aJ,ic,aI,hF⟩
def wY:Nat->(List Int)->Int->Int->Option (Int×(List Int))
 |0,_,_,_=>none
 |m23+1,c19,c21,lF=>if (decide ((lF:Int)<(c19.length:Int)))then (
     (jD (decide (0<=lF)&&decide (lF<(c19.length:Int)))).bind fun u34=>
     (some (c19.set (lF).toNat c21)).bind fun z36=>
     wY m23 z36 (IntKind.i64.wrap (c21+1)) (IntKind.i64.wrap (lF+1)))
   else (
     some (c21,c19))
def Fh(aR:List Int)(jm:Int):Option (Int×(List Int)):=
 wY (((aR.length:Int)-0).toNat+2) aR jm 0
theorem Vo{aR:List Int}{ae:Sv}{lW:List Nat}{jm:Int}{R:Int×(List Int)}(hF:Fh aR jm=some R):
   Fw.Spec Tryz.prog 18 [ae.v,(zi jm)] [bV lW ae aR] (fun _:List Nat=>(zi R.1)) (fun p=>[bV p ae R.2]):=by
 refine Se 19 Tryz.func18 [.tmp 4] ?_
 intro H0 F0
 unfold Fh at hF
 refine bK ?_
 refine bF (bU (m:=(((aR.length:Int)-0).toNat+2)) (fun m23 f' cs'=>∃(g:Fr)(c19:List Int)(c21 lF:Int)(F20:List Nat),f'=aH g [(0,ae.v),(1,(zi c21)),(5,(zi lF))]/\aF cs' [bV F20 ae c19]/\wY m23 c19 c21 lF=some R) ⟨_,_,_,_,lW,aJ,aI,hF⟩ ?_)
 rintro m23 _ _ ⟨g24,c19,c21,lF,F20,rfl,hE,hF⟩
 refine bg hE ?_
 rcases m23 with _|m23
 · rw[wY]at hF
   exact absurd hF (by simp)
 rw[wY]at hF
 refine bK ?_
 refine Ci hF (fun adp hF=>?_) (fun adp hF=>?_)
 · refine bz ?_
   refine bnd hF fun u34 kg hF=>?_
   have Sn:=kV kg
   refine mJ eZ.h ek.h.sz (.tmp rfl rfl) (.tmp rfl rfl) .h Sn (fun Ht adq=>?_)
   refine bnd hF fun z36 t_ hF=>?_
   replace t_:=Option.some.inj t_
   refine bX (.cons .h .nil) (Pz (Ro:=(aK aY)) (a:=c21) (i:=lF) ek.h.sz rfl (.tmp rfl rfl) (.tmp rfl rfl) adq Sn (eP (fun _=>rfl)) (fun _ _ _ _ h=>by obtain⟨-,h⟩:=h; cases h; rfl)) (fun F38=>?_)
   rw[t_]
   refine tN ?_
   exact⟨m23,cz _,_,_,_,_,F38,aJ,aI,hF⟩
 refine fU ?_
 cases hF
 exact Er F20
def wZ:Nat->Int->(List UInt8)->Option ((List UInt8))
 |0,_,_=>none
 |m5+1,c3,c4=>if (decide ((0:Int)<c3))then (
     (aP [(jf (IntKind.i64.wrap (48+(Int.tmod c3 10))))] c4).bind fun yw=>
     wZ m5 (IntKind.i64.wrap (Int.tdiv c3 10)) yw)
   else (
     some c4)
def vM(jm:Int):Option ((List UInt8)):=
 if (decide ((jm:Int)<=0))then (
   some [109,48])
 else (
   (wZ ((jm-0).toNat+2) jm []).bind fun o1=>
   match o1 with
   |c19=>(aP [109] c19).bind fun x20=>
     some x20)
theorem Oa{jm:Int}{R:(List UInt8)}(hF:vM jm=some R):
   Fw.Spec Tryz.prog 35 [(zi jm)] [] (fun _:Unit=>(sv R)) (fun _=>[]):=by
 refine Se 20 Tryz.func35 [.tmp 2] ?_
 intro H0 F0
 unfold vM at hF
 refine dB ?_
 refine Ci hF (fun uq hF=>?_) (fun uq hF=>?_)
 · exact ze hF
 refine aA ?_
 obtain⟨o1,jW,hO2⟩:=bind_some hF
 refine kY (fun f' cs'=>∃(c19:List UInt8)(g:Fr),c19=o1/\f'=aH g [(3,(sv c19))]/\aF cs' []) ?_ ?_
 · replace hF:=jW
   refine bF (bU (m:=((jm-0).toNat+2)) (fun m5 f' cs'=>∃(g:Fr)(c3:Int)(c4:List UInt8),f'=aH g [(0,(zi c3)),(3,(sv c4))]/\aF cs' []/\wZ m5 c3 c4=some o1) ⟨_,_,_,aJ,aI,hF⟩ ?_)
   rintro m5 _ _ ⟨g6,c3,c4,rfl,hE,hF⟩
   refine bg hE ?_
   rcases m5 with _|m5
   · rw[wZ]at hF
     exact absurd hF (by simp)
   rw[wZ]at hF
   refine aC ?_
   refine Ci hF (fun KE hF=>?_) (fun KE hF=>?_)
   · refine au ?_
     refine bF (dw (Cm (zi c3) rfl rfl ?_))
     refine ai (QQ (i:=c3) (j:=10) (.tmp rfl rfl) (.int _ _) (by decide)) ?_
     refine au ?_
     refine ai (IW (i:=(IntKind.i64.wrap (48+(Int.tmod c3 10)))) G_ yt (.tmp rfl rfl)) ?_
     refine eF rfl (dN (g:=true) zY.h Aw.h bG (vs:=[(.int .u8 ((jf (IntKind.i64.wrap (48+(Int.tmod c3 10)))).toNat:Int))]) rfl rfl rfl (by intro v hv; simp at hv; rcases hv with rfl<;>rfl)) (fun k13=>?_)
     refine fF (.cons .h .nil) (dP (Ro:=(aK tT)) (E:=5) (F:=([]++[])) (xs:=([(jf (IntKind.i64.wrap (48+(Int.tmod c3 10))))]:List UInt8)) (dM (eP (fun _=>rfl)) dO bP) rfl rfl) ?_
     refine iJ .h (fun hp=>IZ (u:=(jf (IntKind.i64.wrap (48+(Int.tmod c3 10))))) zY.h yt JW Aw.h.sz (.tmp rfl rfl) hp) ?_
     refine au ?_
     refine bnd hF fun yw jA hF=>?_
     obtain⟨abX,abY⟩:=bq jA
     refine ai (bu (s:=[(jf (IntKind.i64.wrap (48+(Int.tmod c3 10))))]) (t:=c4) (u:=yw) (.tmp rfl rfl) (.tmp rfl rfl) jA) ?_
     refine aA ?_
     refine ai (Jp (i:=c3) (j:=10) (.tmp rfl rfl) (.int _ _) (by decide)) ?_
     refine aG ?_
     exact⟨m5,cz _,_,_,_,aJ,aI,hF⟩
   exact aO hF
 rintro _ _ ⟨c19,g24,rfl,rfl,hE⟩
 replace hF:=hO2
 try dsimp only at hF
 refine bg hE ?_
 refine aG ?_
 refine bnd hF fun x20 iR hF=>?_
 obtain⟨ahR,ahS⟩:=bq iR
 refine ai (bu (s:=[109]) (t:=c19) (u:=x20) (.sv _) (.tmp rfl rfl) iR) ?_
 exact ze hF
def wT:Nat->(List Event)->Int->Int->Option (Int×(List Event))
 |0,_,_,_=>none
 |yI+1,c32,c34,kw=>if (decide ((kw:Int)<(c32.length:Int)))then (
     (ix c32 kw).bind fun Tu=>
     (some (c32.set (kw).toNat {Tu with Kind:=c34})).bind fun z51=>
     (vM (IntKind.i64.wrap (c34+1))).bind fun MH=>
     (ix z51 kw).bind fun wJ=>
     (some (z51.set (kw).toNat {wJ with Text:=MH})).bind fun z63=>
     wT yI z63 (IntKind.i64.wrap ((IntKind.i64.wrap (c34+1))+1)) (IntKind.i64.wrap (kw+1)))
   else (
     some (c34,c32))
def E8(aR:List Event)(jm:Int):Option (Int×(List Event)):=
 wT (((aR.length:Int)-0).toNat+2) aR jm 0
theorem UQ{aR:List Event}{ae:Sv}{lW:List Nat}{jm:Int}{R:Int×(List Event)}(hF:E8 aR jm=some R):
   Fw.Spec Tryz.prog 19 [ae.v,(zi jm)] [qF lW ae aR] (fun _:List Nat=>(zi R.1)) (fun p=>[qF p ae R.2]):=by
 refine Se 28 Tryz.func19 [.tmp 4] ?_
 intro H0 F0
 unfold E8 at hF
 refine bK ?_
 refine bF (bU (m:=(((aR.length:Int)-0).toNat+2)) (fun yI f' cs'=>∃(g:Fr)(c32:List Event)(c34 kw:Int)(H9:List Nat),f'=aH g [(0,ae.v),(1,(zi c34)),(5,(zi kw))]/\aF cs' [qF H9 ae c32]/\wT yI c32 c34 kw=some R) ⟨_,_,_,_,lW,aJ,aI,hF⟩ ?_)
 rintro yI _ _ ⟨SH,c32,c34,kw,H9,rfl,hE,hF⟩
 refine bg hE ?_
 rcases yI with _|yI
 · rw[wT]at hF
   exact absurd hF (by simp)
 rw[wT]at hF
 refine bK ?_
 refine Ci hF (fun ug hF=>?_) (fun ug hF=>?_)
 · refine bz ?_
   refine bnd hF fun Tu Sq hF=>?_
   have adr:=oD Sq
   obtain⟨ahT,wu⟩:=lQ Sq
   refine mJ qE.h jy.h.sz (.tmp rfl rfl) (.tmp rfl rfl) .h adr (fun SN ads=>?_)
   refine au ?_
   refine bnd hF fun z51 ut hF=>?_
   replace ut:=Option.some.inj ut
   refine bX (.cons .h .nil) (PI (Ro:=(aK ib)) (i:=kw) ek.h.sz rfl (.tmp rfl rfl) (.tmp rfl rfl) ads wu rfl rfl XK (Yl (d:=c34))) (fun _=>?_)
   rw[ut]
   refine jT ?_
   refine bnd hF fun MH x_ hF=>aB (Oa x_) (fun _=>?_)
   refine bnd hF fun wJ uh hF=>?_
   have adt:=oD uh
   obtain⟨ahU,Aj⟩:=lQ uh
   refine mJ qE.h jy.h.sz (.tmp rfl rfl) (.tmp rfl rfl) .h adt (fun k56 adu=>?_)
   refine au ?_
   refine bnd hF fun z63 D8 hF=>?_
   replace D8:=Option.some.inj D8
   refine bX (.cons .h .nil) (PI (Ro:=(aK ib)) (i:=kw) gy.h.sz rfl (.tmp rfl rfl) (.tmp rfl rfl) adu Aj rfl rfl XL (Ym (d:=MH))) (fun _=>?_)
   rw[D8]
   refine tN ?_
   exact⟨yI,cz _,_,_,_,_,H9,aJ,aI,hF⟩
 refine fU ?_
 cases hF
 exact Er H9
def yR:List Event->Nat->Int->Option (Int)
 |[],k5,c1=>some c1
 |x7::eQ,k5,c1=>if ((x7.Kind:Int)!=c1)then (
     some (-1))
   else (
     (vM (IntKind.i64.wrap (c1+1))).bind fun fG=>
     if (!(x7.Text==fG))then (
       some (-1))
     else (
       yR eQ (k5+1) (IntKind.i64.wrap ((IntKind.i64.wrap (c1+1))+1))))
def BB(aR:List Event)(jm:Int):Option (Int):=
 yR aR 0 jm
theorem NB{aR:List Event}{ae:Sv}{jm R:Int}(hF:BB aR jm=some R):
   Fw.Spec Tryz.prog 20 [ae.v,(zi jm)] [Ag ae aR] (fun _:Unit=>(zi R)) (fun _=>[]):=by
 refine Se 32 Tryz.func20 [.tmp 4] ?_
 intro H0 F0
 unfold BB at hF
 refine bK ?_
 refine bF (bU (m:=aR.length) (fun m3 f' cs'=>∃(g:Fr)(k5:Nat)(eQ:List Event)(c1:Int),m3=eQ.length/\f'=aH g [(0,ae.v),(1,(zi c1)),(5,(zi (k5:Int)))]/\List.drop k5 aR=eQ/\aF cs' [Ag ae aR]/\yR eQ k5 c1=some R) ⟨_,0,_,_,rfl,aJ,rfl,aI,hF⟩ ?_)
 rintro m3 _ _ ⟨g4,k5,eQ,c1,rfl,rfl,pO,hE,hF⟩
 refine Kb hE aR (fun Jy=>?_)
 rcases eQ with _|⟨x7,eQ⟩
 · have yA:=dn pO
   rw[yR]at hF
   refine bK ?_
   refine dJ ?_
   exact ze hF
 obtain⟨yA,iU,ji⟩:=dD pO
 rw[yR]at hF
 refine bK ?_
 refine dI ?_
 refine bz ?_
 refine Ai iU (fun k14 j15=>?_)
 refine au ?_
 refine Al Yn ?_
 refine ax ?_
 refine Ci hF (fun Dj hF=>?_) (fun Dj hF=>?_)
 · exact ze hF
 refine bK ?_
 refine gF [0,1,2,3,4,5,6,7] [0,0,3,7,15,0,32,127] [6] mixed (by decide+kernel) ?_
 refine fD ?_
 refine Di iU (fun k16 Em=>?_)
 refine du ?_
 refine Dl Yo ?_
 refine du ?_
 refine bnd hF fun fG lq hF=>dm (Oa lq) (fun _=>?_)
 refine bn rfl .no (fun ha=>iP (s:=x7.Text) (t:=fG) (EN ha (.tmp rfl rfl) rfl) (EN ha (.tmp rfl rfl) rfl)) ?_
 refine du ?_
 refine Ci hF (fun xW hF=>?_) (fun xW hF=>?_)
 · exact ze hF
 refine tN ?_
 rw[wk k5]
 exact⟨_,cz _,_,k5+1,eQ,_,rfl,aJ,ji,aI,hF⟩
def EO(fuel:Nat)(qJ:List Int)(qm:List UInt8):Option (Bool):=
 if (decide ((1048576:Int)<(qJ.length:Int)))then (
   some true)
 else (
   if (decide ((1048576:Int)<(qm.length:Int)))then (
     some true)
   else (
     (xw qJ).bind fun r1=>
     (Bf fuel r1 qm).bind fun r4=>
     (xw qJ).bind fun r7=>
     (yU r7 qm).bind fun pV=>
     ((zo pV.1 r4.1).bind fun dY=>
       bif (!dY)then (some true)
       else (some (!(pV.2==r4.2)))).bind fun yH=>
     match yH with
     |c19=>if c19 then (
         some false)
       else (
         (xw qJ).bind fun gz=>
         (FH r7 gz).bind fun Ex=>
         if (!Ex)then (
           some false)
         else (
           (Fh r7 1).bind fun nW=>
           (bif (decide ((nW.1:Int)<0))then (some true)
             else ((zo pV.1 r4.1).bind fun r32=>
               bif (!r32)then (some true)
               else (some (!(pV.2==r4.2))))).bind fun yF=>
           match yF with
           |pK=>if pK then (
               some false)
             else (
               (E8 pV.1 1).bind fun qX=>
               (BB qX.2 1).bind fun MI=>
               if (decide ((MI:Int)<0))then (
                 some false)
               else (
                 if ((MI:Int)!=qX.1)then (
                   some false)
                 else (
                   (xw qJ).bind fun l8=>
                   (yU l8 qm).bind fun pM=>
                   ((zo pM.1 r4.1).bind fun AB=>
                     bif (!AB)then (some true)
                     else (some (!(pM.2==r4.2)))).bind fun MJ=>
                   match MJ with
                   |ED=>if ED then (
                       some false)
                     else (
                       (BB qX.2 1).bind fun nV=>
                       if (decide ((nV:Int)<0))then (
                         some false)
                       else (
                         if ((nV:Int)!=qX.1)then (
                           some false)
                         else (
                           some true))))))))))
theorem Ub{fuel:Nat}{qJ:List Int}{ae:Sv}{qm:List UInt8}{R:Bool}(hF:EO fuel qJ qm=some R):
   Fw.Spec Tryz.prog 5 [ae.v,(sv qm)] [aD ae qJ] (fun _:Unit=>(.bool R)) (fun _=>[]):=by
 refine Se 101 Tryz.func5 [.tmp 4] ?_
 intro H0 F0
 unfold EO at hF
 refine fU ?_
 refine Ci hF (fun adv hF=>?_) (fun adv hF=>?_)
 · exact ze hF
 refine aA ?_
 refine ai (ig (s:=qm) dG (.tmp rfl rfl)) ?_
 refine aG ?_
 refine Ci hF (fun KH hF=>?_) (fun KH hF=>?_)
 · exact ze hF
 refine ax ?_
 refine bnd hF fun r1 hx2 hF=>dC (E9 hx2) (fun p3=>?_)
 refine au ?_
 refine bnd hF fun r4 hx5 hF=>oO (.cons .h .nil) (gm cu (fun _=>(.cons .nil)) (bT abz.h bG (Uo hx5))) (fun p6=>?_)
 refine au ?_
 refine zx ?_
 refine zx ?_
 refine aC ?_
 refine bnd hF fun r7 gZ hF=>dC (E9 gZ) (fun p9=>?_)
 refine aC ?_
 refine bnd hF fun pV lm hF=>oO (.cons .h .nil) (gm cu (fun _=>(.cons .nil)) (bT Rq.h bG (Nf lm))) (fun wL=>?_)
 refine au ?_
 refine zx ?_
 refine zx ?_
 refine aA ?_
 obtain⟨yH,JM,K_⟩:=bind_some hF
 refine au ?_
 refine bZ (fun f' cs'=>∃(c19:Bool)(g:Fr),c19=yH/\f'=aH g [(0,ae.v),(1,(sv qm)),(5,p6.1.v),(6,(.bool r4.2)),(7,p9.1.v),(8,wL.1.v),(9,(.bool pV.2)),(44,(.bool c19))]/\aF cs' [aD ae qJ,qF p6.2 p6.1 r4.1,bV p9.2 p9.1 r7,qF wL.2 wL.1 pV.1]) ?_ ?_
 · replace hF:=JM
   refine aG ?_
   refine bnd hF fun dY hx16 hF=>oO (.cons .q3 (.cons (.t .h) .nil)) (vS (pre:=[]) (.cons cu (.cons cu .nil)) (fun _=>.nil) (bT JX.h bG (Im hx16))) (fun _=>?_)
   refine aG ?_
   rcases a_ (!dY)with pE|pE
   · rw[pE]
     try rw[pE]at hF; dsimp only[ak,aj]at hF
     exact aO hF
   rw[pE]
   try rw[pE]at hF; dsimp only[ak,aj]at hF
   refine aC ?_
   refine ai (Jv (a:=pV.2) (b:=r4.2) Tryz.underlying4 (.tmp rfl rfl) (.tmp rfl rfl)) ?_
   exact aO hF
 rintro _ _ ⟨c19,g69,rfl,rfl,hE⟩
 replace hF:=K_
 try dsimp only at hF
 refine bg hE ?_
 refine Ci hF (fun KN hF=>?_) (fun KN hF=>?_)
 · exact ze hF
 refine aC ?_
 refine bnd hF fun gz iR hF=>dC (E9 iR) (fun pU=>?_)
 refine bnd hF fun Ex hx24 hF=>oO (.cons .h (.cons .q2 .nil)) (vS (pre:=[]) (.cons cu (.cons cu .nil)) (fun _=>.nil) (bT abT.h bG (V3 hx24))) (fun _=>?_)
 refine aG ?_
 refine Ci hF (fun J3 hF=>?_) (fun J3 hF=>?_)
 · exact ze hF
 refine bK ?_
 refine bnd hF fun nW hx27 hF=>dC (Vo hx27) (fun p28=>?_)
 refine ax ?_
 obtain⟨yF,JF,KR⟩:=bind_some hF
 refine au ?_
 refine bZ (fun f' cs'=>∃(pK:Bool)(g:Fr),pK=yF/\f'=aH g [(0,ae.v),(1,(sv qm)),(5,p6.1.v),(6,(.bool r4.2)),(8,wL.1.v),(65,(.bool pK))]/\aF cs' [aD ae qJ,qF p6.2 p6.1 r4.1,qF wL.2 wL.1 pV.1]) ?_ ?_
 · replace hF:=JF
   refine ax ?_
   rcases a_ (decide ((nW.1:Int)<0))with Ee|Ee
   · rw[Ee]
     try rw[Ee]at hF; dsimp only[ak,aj]at hF
     exact aO hF
   rw[Ee]
   try rw[Ee]at hF; dsimp only[ak,aj]at hF
   refine aC ?_
   refine bnd hF fun r32 mV hF=>oO (.cons .q3 (.cons .q3 .nil)) (vS (pre:=[]) (.cons cu (.cons cu .nil)) (fun _=>.nil) (bT JX.h bG (Im mV))) (fun _=>?_)
   refine aA ?_
   rcases a_ (!r32)with Ef|Ef
   · rw[Ef]
     try rw[Ef]at hF; dsimp only[ak,aj]at hF
     exact aO hF
   rw[Ef]
   try rw[Ef]at hF; dsimp only[ak,aj]at hF
   refine aC ?_
   refine ai (Jv (a:=pV.2) (b:=r4.2) Tryz.underlying4 (.tmp rfl rfl) (.tmp rfl rfl)) ?_
   exact aO hF
 rintro _ _ ⟨pK,g66,rfl,rfl,hE⟩
 replace hF:=KR
 try dsimp only at hF
 refine bg hE ?_
 refine Ci hF (fun ug hF=>?_) (fun ug hF=>?_)
 · exact ze hF
 refine bK ?_
 refine bnd hF fun qX hx38 hF=>dC (UQ hx38) (fun p39=>?_)
 refine dB ?_
 refine bnd hF fun MI KM hF=>bX (.cons .h .nil) (gm cu (fun _=>.nil) (bT Rs.h bG (NB KM))) (fun _=>?_)
 refine bK ?_
 refine Ci hF (fun xZ hF=>?_) (fun xZ hF=>?_)
 · exact ze hF
 refine bK ?_
 refine Ci hF (fun ui hF=>?_) (fun ui hF=>?_)
 · exact ze hF
 refine ax ?_
 refine bnd hF fun l8 uo hF=>dC (E9 uo) (fun p45=>?_)
 refine au ?_
 refine bnd hF fun pM j_ hF=>oO (.cons .h .nil) (gm cu (fun _=>(.cons .nil)) (bT Rq.h bG (Nf j_))) (fun p48=>?_)
 refine au ?_
 refine zx ?_
 refine zx ?_
 refine aA ?_
 obtain⟨MJ,aa8,adw⟩:=bind_some hF
 refine au ?_
 refine bZ (fun f' cs'=>∃(ED:Bool)(g:Fr),ED=MJ/\f'=aH g [(8,wL.1.v),(11,(zi qX.1)),(92,(.bool ED))]/\aF cs' [qF p39 wL.1 qX.2]) ?_ ?_
 · replace hF:=aa8
   refine aG ?_
   refine bnd hF fun AB ut hF=>oO (.cons .q4 (.cons (.t .h) .nil)) (vS (pre:=[]) (.cons cu (.cons cu .nil)) (fun _=>.nil) (bT JX.h bG (Im ut))) (fun _=>?_)
   refine aG ?_
   rcases a_ (!AB)with Eg|Eg
   · rw[Eg]
     try rw[Eg]at hF; dsimp only[ak,aj]at hF
     exact aO hF
   rw[Eg]
   try rw[Eg]at hF; dsimp only[ak,aj]at hF
   refine aC ?_
   refine ai (Jv (a:=pM.2) (b:=r4.2) Tryz.underlying4 (.tmp rfl rfl) (.tmp rfl rfl)) ?_
   exact aO hF
 rintro _ _ ⟨ED,g62,rfl,rfl,hE⟩
 replace hF:=adw
 try dsimp only at hF
 refine bg hE ?_
 refine Ci hF (fun xX hF=>?_) (fun xX hF=>?_)
 · exact ze hF
 refine bK ?_
 refine bnd hF fun nV ww hF=>bX (.cons .h .nil) (gm cu (fun _=>.nil) (bT Rs.h bG (NB ww))) (fun _=>?_)
 refine bK ?_
 refine Ci hF (fun Lr hF=>?_) (fun Lr hF=>?_)
 · exact ze hF
 refine bK ?_
 refine Ci hF (fun adx hF=>?_) (fun adx hF=>?_)
 · exact ze hF
 exact ze hF
end Go.Proofs.YtcjkjmnbdlnojaaGreatDoor
