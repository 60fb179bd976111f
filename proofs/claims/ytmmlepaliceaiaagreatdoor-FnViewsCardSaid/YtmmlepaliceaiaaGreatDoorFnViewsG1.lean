/-
  Functions of the program as Lean functions, and that the calls return what these say: part 2. No conditions.
-/
import Derived.Shelf.Sort.Plain
import Derived.Shelf.Slices.In.SortNone
import Derived.Shelf.Slices.CompactI
import Derived.Shelf.Strings.OnBuilder
import Derived.Shelf.Strconv.Itoa3
import Derived.Test.YtmmlepaliceaiaaGreatDoorFnViewsG0
import Derived.KernelRfl
set_option maxRecDepth 100000
set_option maxHeartbeats 1000000
set_option linter.unusedVariables false
namespace Go.Proofs.YtmmlepaliceaiaaGreatDoor
open Go Go.Fw

def zo(aa d9:List UInt8)(A8 bZ:Int):Option (List (List UInt8)):=
 match d9 with
 |[c]=>if A8=0/\bZ= -1/\aa.length<4294967281/\(Lib.split aa [c]).length<4294967296 then some (Lib.split aa [c])else none
 |_=>none
theorem L9{aa d9:List UInt8}{A8 bZ:Int}{R:List (List UInt8)}(hF:zo aa d9 A8 bZ=some R):
   Fw.Spec Tryz.prog 61 [sv aa,sv d9,.int .i64 A8,.int .i64 bZ] [] (fun p:Sv=>p.v) (fun p=>[oO p R]):=by
 unfold zo at hF
 split at hF
 · split at hF
   · rename_i c h
     obtain⟨rfl,rfl,h1,h2⟩:=h
     cases hF
     exact Om QA jQ.h.sz h2 fun w=>NI P9 hi9 aa c h1 w
   · simp at hF
 · simp at hF
def qD(aa:List UInt8)(d9:List UInt8):Option ((List (List UInt8))):=
 (zo aa d9 0 (-1)).bind fun r1=>
 some r1
theorem FT{aa d9:List UInt8}{R:(List (List UInt8))}(hF:qD aa d9=some R):
   Fw.Spec Tryz.prog 37 [(sv aa),(sv d9)] [] (fun p:Sv=>p.v) (fun p=>[oO p R]):=by
 refine Se 8 Tryz.func37 [.tmp 4] ?_
 intro H0 F0
 unfold qD at hF
 refine bC ?_
 refine bnd hF fun r1 hx2 hF=>cu (L9 hx2) (fun p3=>?_)
 refine aU ?_
 cases hF
 exact Er p3
def zk(aa d9:List UInt8):Option Int:=
 match d9 with
 |[c]=>some (Lib.indexByte aa c)
 |_=>none
theorem LM{aa d9:List UInt8}{R:Int}(hF:zk aa d9=some R):
   Fw.Spec Tryz.prog 126 [sv aa,sv d9] [] (fun _:Unit=>(zi R)) (fun _=>[]):=by
 unfold zk at hF
 split at hF
 · rename_i c
   cases hF
   exact Ol Qz (fun _=>.int _ _) fun w=>NH P_ aa c w
 · simp at hF
def zl(aa:List UInt8)(d9:List UInt8):Option ((List UInt8)×(List UInt8)×Bool):=
 (zk aa d9).bind fun r1=>
 if (decide ((0:Int)<=r1))then (
   (fP (decide (0<=r1)&&decide (r1<=((aa).length:Int)))).bind fun u5=>
   (fP (decide (0<=(IntKind.i64.wrap (r1+(d9.length:Int))))&&decide ((IntKind.i64.wrap (r1+(d9.length:Int)))<=((aa).length:Int)))).bind fun u8=>
   some ((aa.take (r1).toNat),(aa.drop ((IntKind.i64.wrap (r1+(d9.length:Int)))).toNat),true))
 else (
   some (aa,[],false))
theorem LP{aa d9:List UInt8}{R:(List UInt8)×(List UInt8)×Bool}(hF:zl aa d9=some R):
   Fw.Spec Tryz.prog 127 [(sv aa),(sv d9)] [] (fun _:Unit=>(.tuple [(sv R.1),(sv R.2.1),(.bool R.2.2)].toArray)) (fun _=>[]):=by
 refine Se 23 Tryz.func127 [.tmp 4,.tmp 5,.tmp 6] ?_
 intro H0 F0
 unfold zl at hF
 refine fO ?_
 refine bnd hF fun r1 hx2 hF=>dF (LM hx2) (fun _=>?_)
 refine bC ?_
 refine Ci hF (fun U8 hF=>?_) (fun U8 hF=>?_)
 · refine gH [0,1,2,3,4,5,6,7,8,9,10,11] [0,0,3,0,0,0,32,112,248,7,1023,2047] [] mixed (by decide+kernel) ?_
   refine dQ ?_
   refine bnd hF fun u5 hx6 hF=>?_
   have hc4:=iy hx6
   simp only[Bool.and_eq_true,decide_eq_true_eq]at hc4
   refine bY rfl .no (fun ha=>rz (s:=aa) (j:=r1) dw (EN ha (.tmp rfl rfl) rfl) (EN ha (.tmp rfl rfl) rfl) hc4.1 hc4.2) ?_
   refine jA ?_
   refine bY rfl .no (fun ha=>gm (s:=d9) dw (EN ha (.tmp rfl rfl) rfl)) ?_
   refine du ?_
   refine bnd hF fun u8 fC hF=>?_
   have Fp:=iy fC
   simp only[Bool.and_eq_true,decide_eq_true_eq]at Fp
   refine bY rfl .no (fun ha=>uD (s:=aa) (i:=(IntKind.i64.wrap (r1+(d9.length:Int)))) dw (EN ha (.tmp rfl rfl) rfl) (EN ha (.tmp rfl rfl) rfl) Fp.1 Fp.2) ?_
   refine xY ?_
   exact ze hF
 exact ze hF
def wu(aa:List UInt8)(d9:List UInt8):Option ((List UInt8)×(List UInt8)×Bool):=
 (zl aa d9).bind fun r1=>
 some (r1.1,r1.2.1,r1.2.2)
theorem Mv{aa d9:List UInt8}{R:(List UInt8)×(List UInt8)×Bool}(hF:wu aa d9=some R):
   Fw.Spec Tryz.prog 100 [(sv aa),(sv d9)] [] (fun _:Unit=>(.tuple [(sv R.1),(sv R.2.1),(.bool R.2.2)].toArray)) (fun _=>[]):=by
 refine Se 13 Tryz.func100 [.tmp 4,.tmp 5,.tmp 6] ?_
 intro H0 F0
 unfold wu at hF
 refine g_ ?_
 refine bnd hF fun r1 hx2 hF=>dF (LP hx2) (fun _=>?_)
 refine zx ?_
 refine zx ?_
 refine zx ?_
 exact ze hF
def vU(aa:List UInt8)(eT:List UInt8):Option (Bool):=
 (bif (decide (((eT.length:Int):Int)<=(aa.length:Int)))then ((fP (decide (0<=(eT.length:Int))&&decide ((eT.length:Int)<=((aa).length:Int)))).bind fun u5=>
     some ((aa.take ((eT.length:Int)).toNat)==eT))
   else (some false)).bind fun o1=>
 match o1 with
 |c7=>some c7
theorem LK{aa eT:List UInt8}{R:Bool}(hF:vU aa eT=some R):
   Fw.Spec Tryz.prog 144 [(sv aa),(sv eT)] [] (fun _:Unit=>(.bool R)) (fun _=>[]):=by
 refine Se 18 Tryz.func144 [.tmp 4] ?_
 intro H0 F0
 unfold vU at hF
 refine aU ?_
 obtain⟨o1,yx,hO2⟩:=bind_some hF
 refine au ?_
 refine fJ (fun f' cs'=>∃(c7:Bool)(g:Fr),c7=o1/\f'=aX g [(4,(.bool c7))]/\aT cs' []) ?_ ?_
 · replace hF:=yx
   refine au ?_
   refine ax (gm (s:=aa) dw (.tmp rfl rfl)) ?_
   refine au ?_
   refine ax (gm (s:=eT) dw (.tmp rfl rfl)) ?_
   refine aG ?_
   rcases dL (decide (((eT.length:Int):Int)<=(aa.length:Int)))with hg3|hg3
   · rw[hg3]
     try rw[hg3]at hF; dsimp only[bu,bq]at hF
     refine aV ?_
     refine ax (gm (s:=eT) dw (.tmp rfl rfl)) ?_
     refine au ?_
     refine bnd hF fun u5 hx6 hF=>?_
     have hc4:0<=(eT.length:Int)/\(eT.length:Int)<=((aa).length:Int):=by (have hq:=iy hx6; clear hF; simp only[Bool.and_eq_true,decide_eq_true_eq]at*; omega)
     refine ax (rz (s:=aa) (j:=(eT.length:Int)) dw (.tmp rfl rfl) (.tmp rfl rfl) hc4.1 hc4.2) ?_
     refine aU ?_
     refine ax (kZ (s:=(aa.take ((eT.length:Int)).toNat)) (t:=eT) (.tmp rfl rfl) (.tmp rfl rfl)) ?_
     exact dh hF
   rw[hg3]
   try rw[hg3]at hF; dsimp only[bu,bq]at hF
   exact dh hF
 rintro _ _ ⟨c7,g8,rfl,rfl,hE⟩
 replace hF:=hO2
 try dsimp only at hF
 refine bV hE ?_
 exact ze hF
def zf(aa:List UInt8)(eT:List UInt8):Option ((List UInt8)):=
 (vU aa eT).bind fun r1=>
 if r1 then (
   (fP (decide (0<=(eT.length:Int))&&decide ((eT.length:Int)<=((aa).length:Int)))).bind fun u5=>
   some (aa.drop ((eT.length:Int)).toNat))
 else (
   some aa)
theorem LH{aa eT:List UInt8}{R:(List UInt8)}(hF:zf aa eT=some R):
   Fw.Spec Tryz.prog 129 [(sv aa),(sv eT)] [] (fun _:Unit=>(sv R)) (fun _=>[]):=by
 refine Se 13 Tryz.func129 [.tmp 4] ?_
 intro H0 F0
 unfold zf at hF
 refine bE ?_
 refine bnd hF fun r1 hx2 hF=>dF (LK hx2) (fun _=>?_)
 refine au ?_
 refine Ci hF (fun Fq hF=>?_) (fun Fq hF=>?_)
 · refine aU ?_
   refine ax (gm (s:=eT) dw (.tmp rfl rfl)) ?_
   refine bnd hF fun u5 hx6 hF=>?_
   have hc4:=iy hx6
   simp only[Bool.and_eq_true,decide_eq_true_eq]at hc4
   refine ax (uD (s:=aa) (i:=(eT.length:Int)) dw (.tmp rfl rfl) (.tmp rfl rfl) hc4.1 hc4.2) ?_
   exact ze hF
 exact ze hF
def vW(aa:List UInt8)(eT:List UInt8):Option ((List UInt8)):=
 (zf aa eT).bind fun r1=>
 some r1
theorem LZ{aa eT:List UInt8}{R:(List UInt8)}(hF:vW aa eT=some R):
   Fw.Spec Tryz.prog 102 [(sv aa),(sv eT)] [] (fun _:Unit=>(sv R)) (fun _=>[]):=by
 refine Se 8 Tryz.func102 [.tmp 4] ?_
 intro H0 F0
 unfold vW at hF
 refine bC ?_
 refine bnd hF fun r1 hx2 hF=>dF (LH hx2) (fun _=>?_)
 exact ze hF
def zu(aa:List UInt8):Option (Int×Bool):=
 if aa.length<=281474976710656 then some (oC aa)else none
theorem Me{aa:List UInt8}{R:Int×Bool}(hF:zu aa=some R):
   Fw.Spec Tryz.prog 128 [sv aa] [] (fun p:Nat=>(.tuple [(zi R.1),(nA 174 p R.2)].toArray)) (fun _=>[]):=by
 unfold zu at hF
 split at hF
 · rename_i h
   cases hF
   exact OW fun w hv=>Oo Px aa h w (jf.varE (P:=Tryz.prog) (fun w0 (h:aO.V Tryz.prog w0)=>And.left (And.right h)) hv.choose_spec) (jf.varE (P:=Tryz.prog) (fun w0 (h:aO.V Tryz.prog w0)=>And.right (And.right h)) hv.choose_spec)
 · simp at hF
def uz(aa:List UInt8):Option (Int×Bool):=
 (zu aa).bind fun r1=>
 (bif (!r1.2)then (some true)
   else ((nR r1.1 (-999999999) 999999999).bind fun r7=>
     bif (!r7)then (some true)
     else ((nN r1.1).bind fun mG=>
       some (!(mG==aa))))).bind fun o4=>
 match o4 with
 |c14=>if c14 then (
     some (0,false))
   else (
     some (r1.1,true))
theorem GH{aa:List UInt8}{R:Int×Bool}(hF:uz aa=some R):
   Fw.Spec Tryz.prog 101 [(sv aa)] [] (fun _:Unit=>(.tuple [(.int .i64 R.1),(.bool R.2)].toArray)) (fun _=>[]):=by
 refine pE (n:=25) Tryz.func101 rfl rfl (rs:=[.tmp 2,.tmp 3]) rfl rfl rfl ?_
 intro H0 F0
 unfold uz at hF
 refine bL (ax (gG (v:=(.int .i64 0)) (.int _ _)) ?_)
 refine ax (gG (v:=(.bool false)) (.bool _)) ?_
 refine bO (bL (Cm (sv aa) rfl rfl ?_))
 obtain⟨r1,hx2,hF⟩:=bind_some hF
 refine qc .nil (bG RN.h (.cons (.tmp rfl rfl) .nil) (@Me aa _ hx2)) (fun p3=>?_)
 refine Cm (.tuple [(.int .i64 r1.1),(nA 174 p3 r1.2)].toArray) rfl rfl ?_
 refine ax (Cq (l:=[(.int .i64 r1.1),(nA 174 p3 r1.2)]) (v:=(.int .i64 r1.1)) (.tmp rfl rfl) rfl) ?_
 refine ax (Cq (l:=[(.int .i64 r1.1),(nA 174 p3 r1.2)]) (v:=(nA 174 p3 r1.2)) (.tmp rfl rfl) rfl) ?_
 refine Ca (.int .i64 r1.1) rfl rfl ?_
 refine Ca (nA 174 p3 r1.2) rfl rfl ?_
 refine bO (gZ ?_)
 obtain⟨o4,U9,Lg⟩:=bind_some hF
 refine bL (fJ (fun f' cs'=>∃(c14:Bool)(g:Fr),c14=o4/\f'=aX g [(4,(.int .i64 r1.1)),(23,(.bool c14))]/\aT cs' []) ?_ ?_)
 · replace hF:=U9
   refine Cm (nA 174 p3 r1.2) rfl rfl ?_
   refine ax (P6 (k:=p3) (b:=r1.2) RO (.tmp rfl rfl)) ?_
   refine Cm (.bool (!r1.2)) rfl rfl ?_
   rcases Bool.eq_false_or_eq_true (!r1.2)with yY|yY
   · rw[yY]
     try rw[yY]at hF; dsimp only[cond_true,cond_false]at hF
     iterate 3 refine Ap (t:=13) rfl rfl rfl ?_
     refine ax (xk (b:=true) (u:=(.bool true)) (v:=undef) (.tmp rfl rfl) (.bool _) (.tmp rfl rfl)) ?_
     refine Cm (.bool true) rfl rfl ?_
     iterate 4 refine Ap (t:=18) rfl rfl rfl ?_
     refine ax (xk (b:=true) (u:=(.bool true)) (v:=undef) (.tmp rfl rfl) (.bool _) (.tmp rfl rfl)) ?_
     refine bO ?_
     obtain rfl:=Option.some.inj hF
     exact⟨_,_,rfl,(bn.cons rfl (bn.cons rfl (bn.nil))).eq,(.sel .nil)⟩
   rw[yY]
   try rw[yY]at hF; dsimp only[cond_true,cond_false]at hF
   refine qa (t:=13) rfl rfl rfl ?_
   refine Cm (.int .i64 r1.1) rfl rfl ?_
   refine qa (t:=13) rfl rfl rfl ?_
   obtain⟨r7,iF,hF⟩:=bind_some hF
   refine qc .nil (bG TW.h (.cons (.tmp rfl rfl) (.cons (.int _ _) (.cons (.int _ _) .nil))) (@zH r1.1 (-999999999) 999999999 _ iF)) (fun _=>?_)
   refine qa (t:=13) rfl rfl rfl ?_
   refine ax (Ao (b:=r7) (.tmp rfl rfl)) ?_
   refine ax (xk (b:=false) (u:=(.bool true)) (v:=(.bool (!r7))) (.tmp rfl rfl) (.bool _) (.tmp rfl rfl)) ?_
   refine Cm (.bool (!r7)) rfl rfl ?_
   rcases Bool.eq_false_or_eq_true (!r7)with yz|yz
   · rw[yz]
     try rw[yz]at hF; dsimp only[cond_true,cond_false]at hF
     iterate 4 refine Ap (t:=18) rfl rfl rfl ?_
     refine ax (xk (b:=true) (u:=(.bool true)) (v:=undef) (.tmp rfl rfl) (.bool _) (.tmp rfl rfl)) ?_
     refine bO ?_
     obtain rfl:=Option.some.inj hF
     exact⟨_,_,rfl,(bn.cons rfl (bn.cons rfl (bn.nil))).eq,(.sel .nil)⟩
   rw[yz]
   try rw[yz]at hF; dsimp only[cond_true,cond_false]at hF
   refine qa (t:=18) rfl rfl rfl ?_
   refine Cm (.int .i64 r1.1) rfl rfl ?_
   refine qa (t:=18) rfl rfl rfl ?_
   obtain⟨mG,r_,hF⟩:=bind_some hF
   refine qc .nil (bG Uf.h (.cons (.tmp rfl rfl) .nil) (@BS r1.1 _ r_)) (fun _=>?_)
   refine qa (t:=18) rfl rfl rfl ?_
   refine Cm (sv aa) rfl rfl ?_
   refine qa (t:=18) rfl rfl rfl ?_
   refine ax (uU (s:=mG) (t:=aa) (.tmp rfl rfl) (.tmp rfl rfl)) ?_
   refine ax (xk (b:=false) (u:=(.bool true)) (v:=(.bool (!(mG==aa)))) (.tmp rfl rfl) (.bool _) (.tmp rfl rfl)) ?_
   refine bO ?_
   obtain rfl:=Option.some.inj hF
   exact⟨_,_,rfl,(bn.cons rfl (bn.cons rfl (bn.nil))).eq,(.sel .nil)⟩
 rintro _ _ ⟨c14,g16,rfl,rfl,hE⟩
 replace hF:=Lg
 clear Lg
 try dsimp only at hF
 refine bV hE ?_
 refine iZ (b:=c14) (.tmp rfl rfl) (fun ym=>?_) (fun ym=>?_)
 · rw[if_pos ym]at hF
   refine bL (ax (gG (v:=(.int .i64 0)) (.int _ _)) ?_)
   refine ax (gG (v:=(.bool false)) (.bool _)) ?_
   refine bO (jI ?_)
   obtain rfl:=Option.some.inj hF
   exact fq () (.tmp rfl rfl (.tmp rfl rfl .nil)) rfl (.sel .nil)
 rw[if_neg (by rw[ym]; exact Bool.false_ne_true)]at hF
 refine kU (bL (Cm (.int .i64 r1.1) rfl rfl ?_))
 refine Ca (.int .i64 r1.1) rfl rfl ?_
 refine ax (gG (v:=(.bool true)) (.bool _)) ?_
 refine bO (jI ?_)
 obtain rfl:=Option.some.inj hF
 exact fq () (.tmp rfl rfl (.tmp rfl rfl .nil)) rfl (.sel .nil)
def tX(aa:List UInt8)(dV:List UInt8):Option (Bool):=
 (bif (decide (((dV.length:Int):Int)<=(aa.length:Int)))then ((fP (decide (0<=(IntKind.i64.wrap ((aa.length:Int)-(dV.length:Int))))&&decide ((IntKind.i64.wrap ((aa.length:Int)-(dV.length:Int)))<=((aa).length:Int)))).bind fun u5=>
     some ((aa.drop ((IntKind.i64.wrap ((aa.length:Int)-(dV.length:Int)))).toNat)==dV))
   else (some false)).bind fun o1=>
 match o1 with
 |c7=>some c7
theorem FO{aa dV:List UInt8}{R:Bool}(hF:tX aa dV=some R):
   Fw.Spec Tryz.prog 130 [(sv aa),(sv dV)] [] (fun _:Unit=>(.bool R)) (fun _=>[]):=by
 refine Se 21 Tryz.func130 [.tmp 4] ?_
 intro H0 F0
 unfold tX at hF
 refine aU ?_
 obtain⟨o1,yx,hO2⟩:=bind_some hF
 refine au ?_
 refine fJ (fun f' cs'=>∃(c7:Bool)(g:Fr),c7=o1/\f'=aX g [(4,(.bool c7))]/\aT cs' []) ?_ ?_
 · replace hF:=yx
   refine au ?_
   refine ax (gm (s:=aa) dw (.tmp rfl rfl)) ?_
   refine au ?_
   refine ax (gm (s:=dV) dw (.tmp rfl rfl)) ?_
   refine aG ?_
   rcases dL (decide (((dV.length:Int):Int)<=(aa.length:Int)))with hg3|hg3
   · rw[hg3]
     try rw[hg3]at hF; dsimp only[bu,bq]at hF
     refine aV ?_
     refine ax (gm (s:=aa) dw (.tmp rfl rfl)) ?_
     refine aU ?_
     refine ax (gm (s:=dV) dw (.tmp rfl rfl)) ?_
     refine aU ?_
     refine bnd hF fun u5 hx6 hF=>?_
     have hc4:0<=(IntKind.i64.wrap ((aa.length:Int)-(dV.length:Int)))/\(IntKind.i64.wrap ((aa.length:Int)-(dV.length:Int)))<=((aa).length:Int):=by (have hq:=iy hx6; clear hF; simp only[Bool.and_eq_true,decide_eq_true_eq]at*; omega)
     refine ax (uD (s:=aa) (i:=(IntKind.i64.wrap ((aa.length:Int)-(dV.length:Int)))) dw (.tmp rfl rfl) (.tmp rfl rfl) hc4.1 hc4.2) ?_
     refine aU ?_
     refine ax (kZ (s:=(aa.drop ((IntKind.i64.wrap ((aa.length:Int)-(dV.length:Int)))).toNat)) (t:=dV) (.tmp rfl rfl) (.tmp rfl rfl)) ?_
     exact dh hF
   rw[hg3]
   try rw[hg3]at hF; dsimp only[bu,bq]at hF
   exact dh hF
 rintro _ _ ⟨c7,g8,rfl,rfl,hE⟩
 replace hF:=hO2
 try dsimp only at hF
 refine bV hE ?_
 exact ze hF
def zn(aa:List UInt8)(dV:List UInt8):Option (Bool):=
 (tX aa dV).bind fun r1=>
 some r1
theorem L8{aa dV:List UInt8}{R:Bool}(hF:zn aa dV=some R):
   Fw.Spec Tryz.prog 103 [(sv aa),(sv dV)] [] (fun _:Unit=>(.bool R)) (fun _=>[]):=by
 refine Se 8 Tryz.func103 [.tmp 4] ?_
 intro H0 F0
 unfold zn at hF
 refine bC ?_
 refine bnd hF fun r1 hx2 hF=>dF (FO hx2) (fun _=>?_)
 exact ze hF
def zh(aa:List UInt8)(dV:List UInt8):Option ((List UInt8)):=
 (tX aa dV).bind fun r1=>
 if r1 then (
   (fP (decide (0<=(IntKind.i64.wrap ((aa.length:Int)-(dV.length:Int))))&&decide ((IntKind.i64.wrap ((aa.length:Int)-(dV.length:Int)))<=((aa).length:Int)))).bind fun u5=>
   some (aa.take ((IntKind.i64.wrap ((aa.length:Int)-(dV.length:Int)))).toNat))
 else (
   some aa)
theorem LJ{aa dV:List UInt8}{R:(List UInt8)}(hF:zh aa dV=some R):
   Fw.Spec Tryz.prog 131 [(sv aa),(sv dV)] [] (fun _:Unit=>(sv R)) (fun _=>[]):=by
 refine Se 16 Tryz.func131 [.tmp 4] ?_
 intro H0 F0
 unfold zh at hF
 refine bE ?_
 refine bnd hF fun r1 hx2 hF=>dF (FO hx2) (fun _=>?_)
 refine au ?_
 refine Ci hF (fun Fq hF=>?_) (fun Fq hF=>?_)
 · refine aU ?_
   refine ax (gm (s:=aa) dw (.tmp rfl rfl)) ?_
   refine au ?_
   refine ax (gm (s:=dV) dw (.tmp rfl rfl)) ?_
   refine au ?_
   refine bnd hF fun u5 hx6 hF=>?_
   have hc4:=iy hx6
   simp only[Bool.and_eq_true,decide_eq_true_eq]at hc4
   refine ax (rz (s:=aa) (j:=(IntKind.i64.wrap ((aa.length:Int)-(dV.length:Int)))) dw (.tmp rfl rfl) (.tmp rfl rfl) hc4.1 hc4.2) ?_
   exact ze hF
 exact ze hF
def tY(aa:List UInt8)(dV:List UInt8):Option ((List UInt8)):=
 (zh aa dV).bind fun r1=>
 some r1
theorem L6{aa dV:List UInt8}{R:(List UInt8)}(hF:tY aa dV=some R):
   Fw.Spec Tryz.prog 104 [(sv aa),(sv dV)] [] (fun _:Unit=>(sv R)) (fun _=>[]):=by
 refine Se 8 Tryz.func104 [.tmp 4] ?_
 intro H0 F0
 unfold tY at hF
 refine bC ?_
 refine bnd hF fun r1 hx2 hF=>dF (LJ hx2) (fun _=>?_)
 exact ze hF
def wM(zZ:List UInt8)(lW:List UInt8):Option (Int×(List (List UInt8))×Bool):=
 (wu lW [40]).bind fun r1=>
 (vW r1.1 zZ).bind fun r4=>
 (uz r4).bind fun r7=>
 (bif (!r1.2.2)then (some true)
   else (bif (!r7.2)then (some true)
     else ((zn r1.2.1 [41]).bind fun Lh=>
       some (!Lh)))).bind fun tH=>
 match tH with
 |c17=>if c17 then (
     some (0,[],false))
   else (
     (tY r1.2.1 [41]).bind fun nI=>
     if (nI==[])then (
       some (r7.1,[],true))
     else (
       (qD nI [44]).bind fun kN=>
       some (r7.1,kN,true)))
theorem M8{zZ lW:List UInt8}{R:Int×(List (List UInt8))×Bool}(hF:wM zZ lW=some R):
   Fw.Spec Tryz.prog 62 [(sv zZ),(sv lW)] [] (fun p:Sv=>(.tuple [(zi R.1),p.v,(.bool R.2.2)].toArray)) (fun p=>[oO p R.2.1]):=by
 refine Se 45 Tryz.func62 [.tmp 4,.tmp 5,.tmp 6] ?_
 intro H0 F0
 unfold wM at hF
 refine bE ?_
 refine bnd hF fun r1 hx2 hF=>dF (Mv hx2) (fun _=>?_)
 refine au ?_
 refine zx ?_
 refine zx ?_
 refine zx ?_
 refine bE ?_
 refine bnd hF fun r4 hx5 hF=>dF (LZ hx5) (fun _=>?_)
 refine bnd hF fun r7 iF hF=>dF (GH iF) (fun _=>?_)
 refine au ?_
 refine zx ?_
 refine zx ?_
 refine aM ?_
 obtain⟨tH,Dp,Eg⟩:=bind_some hF
 refine au ?_
 refine fJ (fun f' cs'=>∃(c17:Bool)(g:Fr),c17=tH/\f'=aX g [(8,(sv r1.2.1)),(10,(zi r7.1)),(36,(.bool c17))]/\aT cs' []) ?_ ?_
 · replace hF:=Dp
   refine aU ?_
   rcases dL (!r1.2.2)with jd|jd
   · rw[jd]
     try rw[jd]at hF; dsimp only[bu,bq]at hF
     exact dh hF
   rw[jd]
   try rw[jd]at hF; dsimp only[bu,bq]at hF
   refine bC ?_
   rcases dL (!r7.2)with mg|mg
   · rw[mg]
     try rw[mg]at hF; dsimp only[bu,bq]at hF
     exact dh hF
   rw[mg]
   try rw[mg]at hF; dsimp only[bu,bq]at hF
   refine aU ?_
   refine bnd hF fun Lh vB hF=>dF (L8 vB) (fun _=>?_)
   exact dh hF
 rintro _ _ ⟨c17,Z8,rfl,rfl,hE⟩
 replace hF:=Eg
 try dsimp only at hF
 refine bV hE ?_
 refine Ci hF (fun U_ hF=>?_) (fun U_ hF=>?_)
 · refine bC ?_
   cases hF
   exact fq (⟨none,0,0⟩) (.tmp rfl rfl (.tmp rfl rfl (.tmp rfl rfl .nil))) rfl (.conv .nil (Jz (R:=rdStr) (E:=9)) (.cons .nil) (.sel (.rd .h rfl .nil)))
 refine aU ?_
 refine bnd hF fun nI rU hF=>dF (L6 rU) (fun _=>?_)
 refine aV ?_
 refine ax (kZ (s:=nI) (t:=[]) (.tmp rfl rfl) (.sv _)) ?_
 refine au ?_
 refine Ci hF (fun Eh hF=>?_) (fun Eh hF=>?_)
 · refine bE ?_
   cases hF
   exact fq (⟨none,0,0⟩) (.tmp rfl rfl (.tmp rfl rfl (.tmp rfl rfl .nil))) rfl (.conv .nil (Jz (R:=rdStr) (E:=9)) (.cons .nil) (.sel (.rd .h rfl .nil)))
 refine aM ?_
 refine bnd hF fun kN si hF=>cu (FT si) (fun vQ=>?_)
 refine aV ?_
 cases hF
 exact Er vQ
def qN:List (List UInt8)->Nat->(List Int)->Option ((List Int)×Bool)
 |[],k8,c2=>some (c2,true)
 |gW::dz,k8,c2=>(uz gW).bind fun jT=>
   if (!jT.2)then (
     some ([],false))
   else (
     (app c2 ([jT.1]:List Int)).bind fun z23=>
     qN dz (k8+1) z23)
def zP(nV:List (List UInt8)):Option ((List Int)×Bool):=
 qN nV 0 ([]:List Int)
theorem M9{nV:List (List UInt8)}{ae:Sv}{R:(List Int)×Bool}(hF:zP nV=some R):
   Fw.Spec Tryz.prog 63 [ae.v] [oO ae nV] (fun p:Sv×List Nat=>(.tuple [p.1.v,(.bool R.2)].toArray)) (fun p=>[d_ p.2 p.1 R.1]):=by
 refine Se 29 Tryz.func63 [.tmp 2,.tmp 3] ?_
 intro H0 F0
 unfold zP at hF
 refine aV ?_
 refine bD rfl (bz (g:=true) bI.h bH.h .nil (vs:=[]) rfl rfl rfl (by simp)) (fun k1=>?_)
 refine bX (.cons .h .nil) (bB (Ro:=(ay aF)) (E:=3) (F:=[]) (xs:=([]:List Int)) bA rfl rfl) ?_
 refine g_ ?_
 refine bN (dG (m:=nV.length) (fun m6 f' cs'=>∃(g:Fr)(k8:Nat)(dz:List (List UInt8))(c2:List Int)(v3:Sv)(F4:List Nat),m6=dz.length/\f'=aX g [(4,v3.v),(10,ae.v),(11,(zi (nV.length:Int))),(12,(zi (k8:Int)))]/\List.drop k8 nV=dz/\aT cs' [d_ F4 v3 c2,oO ae nV]/\qN dz k8 c2=some R) ⟨_,0,_,_,⟨(some ⟨k1,0,none⟩),0,1⟩,(k1::[]),rfl,aK,rfl,aJ,hF⟩ ?_)
 rintro m6 _ _ ⟨g7,k8,dz,c2,v3,F4,rfl,rfl,ib,hE,hF⟩
 refine Kb hE nV (fun AB=>?_)
 rcases dz with _|⟨gW,dz⟩
 · have oK:=dn ib
   rw[qN]at hF
   refine aM ?_
   refine fZ ?_
   refine oD ?_
   cases hF
   exact Er (v3,F4)
 obtain⟨oK,h_,lw⟩:=fQ ib
 rw[qN]at hF
 refine aM ?_
 refine fV ?_
 refine aU ?_
 refine Ai h_ (fun k17 EI=>?_)
 refine Al Az ?_
 refine aM ?_
 refine bnd hF fun jT lv hF=>dF (GH lv) (fun _=>?_)
 refine au ?_
 refine zx ?_
 refine zx ?_
 refine g_ ?_
 refine Ci hF (fun yn hF=>?_) (fun yn hF=>?_)
 · refine aV ?_
   cases hF
   exact fq (⟨none,0,0⟩,[]) (.tmp rfl rfl (.tmp rfl rfl .nil)) rfl (.conv .nil (jq (Ro:=(ay aF)) (E:=3)) (.cons .nil) (.sel (.cons .h .nil)))
 refine aM ?_
 refine bD rfl (bz (g:=true) bI.h bH.h bi (vs:=[(zi jT.1)]) rfl rfl rfl (by intro v hv; simp at hv; rcases hv with rfl<;>rfl)) (fun k22=>?_)
 refine bX (.cons .h .nil) (bB (Ro:=(ay aF)) (E:=3) (F:=([]++[])) (xs:=([jT.1]:List Int)) (aY (bF (fun _=>rfl)) bA aR) rfl rfl) ?_
 refine bnd hF fun z23 hx24 hF=>aZ (.cons .q2 (.cons .h .nil)) (dH (Ro:=(ay aF)) bI.h gK bH.h rfl rfl rfl (.tmp rfl rfl) (.tmp rfl rfl) hx24 dS) (fun p25=>?_)
 refine bC ?_
 rw[wk k8]
 exact⟨_,dM _,_,k8+1,dz,_,p25.1,p25.2,rfl,aK,lw,aJ,hF⟩
def mO(lW:List UInt8):Option (ak×Bool):=
 (wM [109] lW).bind fun r2=>
 (zP r2.2.1).bind fun r5=>
 (bif r2.2.2 then (bif r5.2 then ((uh (⟨r2.1,r5.1⟩:ak)).bind fun dx=>
       some (dx==lW))
     else (some false))
   else (some false)).bind fun o9=>
 match o9 with
 |c16=>some ((⟨r2.1,r5.1⟩:ak),c16)
theorem MJ{lW:List UInt8}{R:ak×Bool}(hF:mO lW=some R):
   Fw.Spec Tryz.prog 38 [(sv lW)] [] (fun p:Sv×List Nat=>(.tuple [(zg [(zi R.1.Method),p.1.v]),(.bool R.2)].toArray)) (fun p=>[d_ p.2 p.1 R.1.Values]):=by
 refine Se 35 Tryz.func38 [.cell 2 34,.tmp 3] ?_
 intro H0 F0
 unfold mO at hF
 refine au ?_
 refine iC (fun k1=>?_)
 refine aM ?_
 refine bnd hF fun r2 hx3 hF=>cu (M8 hx3) (fun p4=>?_)
 refine au ?_
 refine zx ?_
 refine zx ?_
 refine zx ?_
 refine bC ?_
 refine bnd hF fun r5 hx6 hF=>cu (M9 hx6) (fun p7=>?_)
 refine au ?_
 refine zx ?_
 refine zx ?_
 refine bC ?_
 refine ax (kw bQ.h rfl (vs:=[(zi r2.1),p7.1.v]) bi (cells:=[(zi r2.1),p7.1.v]) rfl) ?_
 refine iC (fun k8=>?_)
 refine As (zg [(zi r2.1),p7.1.v]) ?_
 refine au ?_
 obtain⟨o9,Va,Vb⟩:=bind_some hF
 refine gH [0,1,2,3,4,5,6,8,7,9,10,11,12] [0,0,2,6,14,30,62,126,62,510,1022,255,4095] [7,11] mixed (by decide+kernel) ?_
 refine Dh (fun f' cs'=>∃(c16:Bool)(g:Fr),c16=o9/\f'=aX g [(2,(pz k1)),(3,(.bool c16))]/\aT cs' [bK k1 34 (zg [(zi r2.1),p7.1.v]),d_ p7.2 p7.1 r5.1]) ?_ ?_
 · replace hF:=Va
   refine iJ rfl .no .h (fun ha hp=>ku ja.h bQ.h.sz rfl (EN ha (.tmp rfl rfl) rfl) hp.2 rfl) ?_
   refine dQ ?_
   rcases dL r2.2.2 with l_|l_
   · rw[l_]
     try rw[l_]at hF; dsimp only[bu,bq]at hF
     refine jA ?_
     rcases dL r5.2 with jd|jd
     · rw[jd]
       try rw[jd]at hF; dsimp only[bu,bq]at hF
       refine iJ rfl (.on 29 rfl rfl rfl) .h (fun ha hp=>ku ja.h bQ.h.sz rfl (EN ha (.tmp rfl rfl) rfl) hp.2 rfl) ?_
       refine du ?_
       refine bnd hF fun dx jN hF=>gI rfl rfl (.on 29 rfl rfl rfl) (.cons (.t .h) .nil) (.dep rfl (.own .h (fun _ h=>h) .nil)) (fun ha=>dW bU (fun _=>.nil) (bG Ud.h (.cons (EN ha (.tmp rfl rfl) rfl) .nil) (F3 jN))) (fun _=>?_)
       refine bY rfl (.on 29 rfl rfl rfl) (fun ha=>kZ (s:=dx) (t:=lW) (EN ha (.tmp rfl rfl) rfl) (EN ha (.tmp rfl rfl) rfl)) ?_
       refine du ?_
       refine gI rfl rfl .no (.cons .q3 .nil) (.dep rfl (.dep rfl .nil)) (fun ha=>fH (e':=(zg [(zi r2.1),p7.1.v])) (v:=(zg [(zi r2.1),p7.1.v])) bQ.h.sz (EN ha (.tmp rfl rfl) rfl) (EN ha (.tmp rfl rfl) rfl) rfl rfl rfl rfl rfl) (fun _=>?_)
       exact rT hF
     rw[jd]
     try rw[jd]at hF; dsimp only[bu,bq]at hF
     refine DF ?_
     refine gI rfl rfl .no (.cons .q3 .nil) (.dep rfl .nil) (fun ha=>fH (e':=(zg [(zi r2.1),p7.1.v])) (v:=(zg [(zi r2.1),p7.1.v])) bQ.h.sz (EN ha (.tmp rfl rfl) rfl) (EN ha (.tmp rfl rfl) rfl) rfl rfl rfl rfl rfl) (fun _=>?_)
     exact rT hF
   rw[l_]
   try rw[l_]at hF; dsimp only[bu,bq]at hF
   refine Ul ?_
   refine gI rfl rfl .no (.cons .q3 .nil) (.dep rfl .nil) (fun ha=>fH (e':=(zg [(zi r2.1),p7.1.v])) (v:=(zg [(zi r2.1),p7.1.v])) bQ.h.sz (EN ha (.tmp rfl rfl) rfl) (EN ha (.tmp rfl rfl) rfl) rfl rfl rfl rfl rfl) (fun _=>?_)
   exact rT hF
 rintro _ _ ⟨c16,g17,rfl,rfl,hE⟩
 replace hF:=Vb
 try dsimp only at hF
 refine bV hE ?_
 refine au ?_
 cases hF
 exact fq (p7.1,p7.2) (.cellA rfl rfl .h rfl ja.h bQ.h.sz rfl rfl (.tmp rfl rfl .nil)) rfl (.sel (.cons (.t .h) .nil))
def pg:List (List UInt8)->Nat->(List ak)->Option ((List ak)×Bool)
 |[],k11,c5=>some (c5,true)
 |sM::om,k11,c5=>(mO sM).bind fun fo=>
   if (!fo.2)then (
     some ([],false))
   else (
     (app c5 ([fo.1]:List ak)).bind fun z27=>
     pg om (k11+1) z27)
def uA(aa:List UInt8):Option ((List ak)×Bool):=
 if (aa==[110,111,110,101])then (
   some ([],true))
 else (
   (qD aa [32]).bind fun r2=>
   pg r2 0 ([]:List ak))
theorem GI{aa:List UInt8}{R:(List ak)×Bool}(hF:uA aa=some R):
   Fw.Spec Tryz.prog 14 [(sv aa)] [] (fun p:Sv×List Nat=>(.tuple [p.1.v,(.bool R.2)].toArray)) (fun p=>[jb p.2 p.1 R.1]):=by
 refine Se 32 Tryz.func14 [.tmp 2,.tmp 3] ?_
 intro H0 F0
 unfold uA at hF
 refine bE ?_
 refine ax (kZ (s:=aa) (t:=[110,111,110,101]) (.tmp rfl rfl) (.sv _)) ?_
 refine au ?_
 refine Ci hF (fun kG hF=>?_) (fun kG hF=>?_)
 · refine aV ?_
   cases hF
   exact fq (⟨none,0,0⟩,[]) (.tmp rfl rfl (.tmp rfl rfl .nil)) rfl (.conv .nil (jq (Ro:=fA) (E:=34)) (.cons .nil) (.sel (.cons .h .nil)))
 refine aG ?_
 refine bD rfl (bz (g:=true) fM.h bQ.h .nil (vs:=[]) rfl rfl rfl (by simp)) (fun k1=>?_)
 refine bX (.cons .h .nil) (bB (Ro:=fA) (E:=34) (F:=[]) (xs:=([]:List ak)) bA rfl rfl) ?_
 refine aV ?_
 refine bnd hF fun r2 hx3 hF=>cu (FT hx3) (fun p4=>?_)
 refine aU ?_
 refine bN (dG (m:=r2.length) (fun m9 f' cs'=>∃(g:Fr)(k11:Nat)(om:List (List UInt8))(c5:List ak)(v6:Sv)(F7:List Nat),m9=om.length/\f'=aX g [(4,v6.v),(13,p4.v),(14,(zi (r2.length:Int))),(15,(zi (k11:Int)))]/\List.drop k11 r2=om/\aT cs' [jb F7 v6 c5,oO p4 r2]/\pg om k11 c5=some R) ⟨_,0,_,_,⟨(some ⟨k1,0,none⟩),0,1⟩,(k1::[]),rfl,aK,rfl,aJ,hF⟩ ?_)
 rintro m9 _ _ ⟨g10,k11,om,c5,v6,F7,rfl,rfl,lw,hE,hF⟩
 refine Kb hE r2 (fun Xr=>?_)
 rcases om with _|⟨sM,om⟩
 · have Vd:=dn lw
   rw[pg]at hF
   refine aM ?_
   refine fZ ?_
   refine oD ?_
   cases hF
   exact Er (v6,F7)
 obtain⟨Vd,hx16,Ve⟩:=fQ lw
 rw[pg]at hF
 refine aM ?_
 refine fV ?_
 refine aU ?_
 refine Ai hx16 (fun k20 Bv=>?_)
 refine Al Az ?_
 refine aM ?_
 refine bnd hF fun fo iQ hF=>cu (MJ iQ) (fun kL=>?_)
 refine au ?_
 refine zx ?_
 refine zx ?_
 refine iC (fun k25=>?_)
 refine As (zg [(zi fo.1.Method),kL.1.v]) ?_
 refine bE ?_
 refine Ci hF (fun D6 hF=>?_) (fun D6 hF=>?_)
 · refine aV ?_
   cases hF
   exact fq (⟨none,0,0⟩,[]) (.tmp rfl rfl (.tmp rfl rfl .nil)) rfl (.conv .nil (jq (Ro:=fA) (E:=34)) (.cons .nil) (.sel (.cons .h .nil)))
 refine aM ?_
 refine bD rfl (bz (g:=true) fM.h bQ.h bi (vs:=[(zg [(zi fo.1.Method),kL.1.v])]) rfl rfl rfl (by intro v hv; simp at hv; rcases hv with rfl<;>rfl)) (fun k26=>?_)
 refine bX (.cons .h (.cons (.t .h) .nil)) (bB (Ro:=fA) (E:=34) (F:=(kL.2++[])) (xs:=([fo.1]:List ak)) (aY xW bA aR) rfl rfl) ?_
 refine bnd hF fun z27 hx28 hF=>aZ (.cons .q3 (.cons .h .nil)) (dH (Ro:=fA) fM.h vv bQ.h rfl rfl rfl (.tmp rfl rfl) (.tmp rfl rfl) hx28 dS) (fun p29=>?_)
 refine bC ?_
 rw[wk k11]
 exact⟨_,dM _,_,k11+1,om,_,p29.1,p29.2,rfl,aK,Ve,aJ,hF⟩
def mK:Nat->Int->(List UInt8)->Option ((List UInt8))
 |0,_,_=>none
 |m5+1,c3,c4=>if ((c3:Int)!=0)then (
     if (decide (((Int.tmod c3 10):Int)<0))then (
       (bM [(dO (IntKind.i64.wrap (48+(IntKind.i64.wrap (-(Int.tmod c3 10))))))] c4).bind fun vS=>
       mK m5 (IntKind.i64.wrap (Int.tdiv c3 10)) vS)
     else (
       (bM [(dO (IntKind.i64.wrap (48+(Int.tmod c3 10))))] c4).bind fun Fs=>
       mK m5 (IntKind.i64.wrap (Int.tdiv c3 10)) Fs))
   else (
     some c4)
def kr(fuel:Nat)(bZ:Int):Option ((List UInt8)):=
 if ((bZ:Int)==0)then (
   some [48])
 else (
   (mK fuel bZ []).bind fun o1=>
   match o1 with
   |gT=>if (decide ((bZ:Int)<0))then (
       (bM [45] gT).bind fun tF=>
       some tF)
     else (
       some gT))
theorem vZ{fuel:Nat}{bZ:Int}{R:(List UInt8)}(hF:kr fuel bZ=some R):
   Fw.Spec Tryz.prog 67 [(zi bZ)] [] (fun _:Unit=>(sv R)) (fun _=>[]):=by
 refine Se 31 Tryz.func67 [.tmp 2] ?_
 intro H0 F0
 unfold kr at hF
 refine g_ ?_
 refine Ci hF (fun kG hF=>?_) (fun kG hF=>?_)
 · exact ze hF
 refine fO ?_
 obtain⟨o1,yx,hO2⟩:=bind_some hF
 refine jW (fun f' cs'=>∃(gT:List UInt8)(g:Fr),gT=o1/\f'=aX g [(3,(sv gT)),(4,(.bool (decide ((bZ:Int)<0))))]/\aT cs' []) ?_ ?_
 · replace hF:=yx
   refine bN (dG (m:=fuel) (fun m5 f' cs'=>∃(g:Fr)(c3:Int)(c4:List UInt8),f'=aX g [(0,(zi c3)),(3,(sv c4)),(4,(.bool (decide ((bZ:Int)<0))))]/\aT cs' []/\mK m5 c3 c4=some o1) ⟨_,_,_,aK,aJ,hF⟩ ?_)
   rintro m5 _ _ ⟨g6,c3,c4,rfl,hE,hF⟩
   refine bV hE ?_
   rcases m5 with _|m5
   · rw[mK]at hF
     exact absurd hF (by simp)
   rw[mK]at hF
   refine aV ?_
   refine Ci hF (fun Eh hF=>?_) (fun Eh hF=>?_)
   · refine au ?_
     refine bN (bL (Cm (zi c3) rfl rfl ?_))
     refine ax (lX (i:=c3) (j:=10) (.tmp rfl rfl) (.int _ _) (by decide)) ?_
     refine bE ?_
     refine Ci hF (fun sj hF=>?_) (fun sj hF=>?_)
     · refine aG ?_
       refine ax (J7 (i:=(Int.tmod c3 10)) (.tmp rfl rfl)) ?_
       refine aV ?_
       refine ax (pK (i:=(IntKind.i64.wrap (48+(IntKind.i64.wrap (-(Int.tmod c3 10)))))) ko iD (.tmp rfl rfl)) ?_
       refine bD rfl (bz (g:=true) iO.h iU.h bi (vs:=[(.int .u8 ((dO (IntKind.i64.wrap (48+(IntKind.i64.wrap (-(Int.tmod c3 10)))))).toNat:Int))]) rfl rfl rfl (by intro v hv; simp at hv; rcases hv with rfl<;>rfl)) (fun k13=>?_)
       refine bX (.cons .h .nil) (bB (Ro:=(ay ek)) (E:=5) (F:=([]++[])) (xs:=([(dO (IntKind.i64.wrap (48+(IntKind.i64.wrap (-(Int.tmod c3 10))))))]:List UInt8)) (aY (bF (fun _=>rfl)) bA aR) rfl rfl) ?_
       refine eB .h (fun hp=>zW (u:=(dO (IntKind.i64.wrap (48+(IntKind.i64.wrap (-(Int.tmod c3 10))))))) iO.h iD xX iU.h.sz (.tmp rfl rfl) hp) ?_
       refine au ?_
       refine bnd hF fun vS vB hF=>?_
       obtain⟨Yz,YA⟩:=fT vB
       refine ax (f_ (s:=[(dO (IntKind.i64.wrap (48+(IntKind.i64.wrap (-(Int.tmod c3 10))))))]) (t:=c4) (u:=vS) (.tmp rfl rfl) (.tmp rfl rfl) vB) ?_
       refine aM ?_
       refine ax (JS (i:=c3) (j:=10) (.tmp rfl rfl) (.int _ _) (by decide)) ?_
       refine aG ?_
       exact⟨m5,dM _,_,_,_,aK,aJ,hF⟩
     refine aM ?_
     refine ax (pK (i:=(IntKind.i64.wrap (48+(Int.tmod c3 10)))) ko iD (.tmp rfl rfl)) ?_
     refine bD rfl (bz (g:=true) iO.h iU.h bi (vs:=[(.int .u8 ((dO (IntKind.i64.wrap (48+(Int.tmod c3 10)))).toNat:Int))]) rfl rfl rfl (by intro v hv; simp at hv; rcases hv with rfl<;>rfl)) (fun k18=>?_)
     refine bX (.cons .h .nil) (bB (Ro:=(ay ek)) (E:=5) (F:=([]++[])) (xs:=([(dO (IntKind.i64.wrap (48+(Int.tmod c3 10))))]:List UInt8)) (aY (bF (fun _=>rfl)) bA aR) rfl rfl) ?_
     refine eB .h (fun hp=>zW (u:=(dO (IntKind.i64.wrap (48+(Int.tmod c3 10))))) iO.h iD xX iU.h.sz (.tmp rfl rfl) hp) ?_
     refine au ?_
     refine bnd hF fun Fs lv hF=>?_
     obtain⟨YB,YC⟩:=fT lv
     refine ax (f_ (s:=[(dO (IntKind.i64.wrap (48+(Int.tmod c3 10))))]) (t:=c4) (u:=Fs) (.tmp rfl rfl) (.tmp rfl rfl) lv) ?_
     refine aM ?_
     refine ax (JS (i:=c3) (j:=10) (.tmp rfl rfl) (.int _ _) (by decide)) ?_
     refine aG ?_
     exact⟨m5,dM _,_,_,_,aK,aJ,hF⟩
   exact dh hF
 rintro _ _ ⟨gT,Z9,rfl,rfl,hE⟩
 replace hF:=hO2
 try dsimp only at hF
 refine bV hE ?_
 refine aM ?_
 refine Ci hF (fun yj hF=>?_) (fun yj hF=>?_)
 · refine aG ?_
   refine bnd hF fun tF hx27 hF=>?_
   obtain⟨YD,YE⟩:=fT hx27
   refine ax (f_ (s:=[45]) (t:=gT) (u:=tF) (.sv _) (.tmp rfl rfl) hx27) ?_
   exact ze hF
 exact ze hF
def nO(fuel:Nat):List Int->Nat->(List UInt8)->Option ((List UInt8))
 |[],k5,c1=>some c1
 |x7::fu,k5,c1=>(if (decide ((0:Int)<(k5:Int)))then (
       (bM c1 [44]).bind fun jm=>
       (kr fuel x7).bind fun fo=>
       (bM jm fo).bind fun x25=>
       some x25)
     else (
       (kr fuel x7).bind fun Fu=>
       (bM c1 Fu).bind fun x34=>
       some x34)).bind fun tJ=>
   match tJ with
   |lF=>nO fuel fu (k5+1) lF
def wY(fuel:Nat)(aA:List Int):Option ((List UInt8)):=
 nO fuel aA 0 []
theorem NR{fuel:Nat}{aA:List Int}{ae:Sv}{R:(List UInt8)}(hF:wY fuel aA=some R):
   Fw.Spec Tryz.prog 68 [ae.v] [b_ ae aA] (fun _:Unit=>(sv R)) (fun _=>[]):=by
 refine Se 23 Tryz.func68 [.tmp 2] ?_
 intro H0 F0
 unfold wY at hF
 refine oD ?_
 refine bN (dG (m:=aA.length) (fun m3 f' cs'=>∃(g:Fr)(k5:Nat)(fu:List Int)(c1:List UInt8),m3=fu.length/\f'=aX g [(0,ae.v),(3,(sv c1)),(4,(zi (k5:Int)))]/\List.drop k5 aA=fu/\aT cs' [b_ ae aA]/\nO fuel fu k5 c1=some R) ⟨_,0,_,_,rfl,aK,rfl,aJ,hF⟩ ?_)
 rintro m3 _ _ ⟨g4,k5,fu,c1,rfl,rfl,qw,hE,hF⟩
 refine Kb hE aA (fun Kc=>?_)
 rcases fu with _|⟨x7,fu⟩
 · have yS:=dn qw
   rw[nO]at hF
   refine bE ?_
   refine fZ ?_
   exact ze hF
 obtain⟨yS,jB,ib⟩:=fQ qw
 rw[nO]at hF
 refine bE ?_
 refine fV ?_
 refine au ?_
 obtain⟨tJ,Dq,Ei⟩:=bind_some hF
 refine jW (fun f' cs'=>∃(lF:List UInt8)(g:Fr),lF=tJ/\f'=aX g [(0,ae.v),(3,(sv lF)),(4,(zi (k5:Int)))]/\aT cs' [b_ ae aA]) ?_ ?_
 · replace hF:=Dq
   refine bN (gZ (bL (Cm (zi (k5:Int)) rfl rfl ?_)))
   refine aG ?_
   refine Ci hF (fun Ej hF=>?_) (fun Ej hF=>?_)
   · refine aG ?_
     refine bnd hF fun jm iR hF=>?_
     obtain⟨KL,KM⟩:=fT iR
     refine ax (f_ (s:=c1) (t:=[44]) (u:=jm) (.tmp rfl rfl) (.sv _) iR) ?_
     refine bC ?_
     refine Ai jB (fun k20 Bv=>?_)
     refine Al gJ ?_
     refine bnd hF fun fo iQ hF=>dF (vZ iQ) (fun _=>?_)
     refine bnd hF fun x25 j3 hF=>?_
     obtain⟨YF,YG⟩:=fT j3
     refine ax (f_ (s:=jm) (t:=fo) (u:=x25) (.tmp rfl rfl) (.tmp rfl rfl) j3) ?_
     exact dh hF
   refine aV ?_
   refine Ai jB (fun Li Z_=>?_)
   refine Al gJ ?_
   refine bnd hF fun Fu hx32 hF=>dF (vZ hx32) (fun _=>?_)
   refine bnd hF fun x34 sD hF=>?_
   obtain⟨Vf,Vg⟩:=fT sD
   refine ax (f_ (s:=c1) (t:=Fu) (u:=x34) (.tmp rfl rfl) (.tmp rfl rfl) sD) ?_
   exact dh hF
 rintro _ _ ⟨lF,g41,rfl,rfl,hE⟩
 replace hF:=Ei
 try dsimp only at hF
 refine bV hE ?_
 refine aV ?_
 rw[wk k5]
 exact⟨_,dM _,_,k5+1,fu,_,rfl,aK,ib,aJ,hF⟩
def o5(aC:ak)(fuel:Nat):List Int->Nat->Option ((List UInt8))
 |[],k12=>(kr fuel aC.Method).bind fun kN=>
   (bM [109] kN).bind fun x24=>
   (bM x24 [40]).bind fun x28=>
   (wY fuel aC.Values).bind fun r32=>
   (bM x28 r32).bind fun BA=>
   (bM BA [41]).bind fun x39=>
   some x39
 |vS::oo,k12=>(lU vS 0 9).bind fun Lj=>
   if (!Lj)then (
     some [])
   else (
     o5 aC fuel oo (k12+1))
def v_(fuel:Nat)(aC:ak):Option ((List UInt8)):=
 ((lU aC.Method 0 4).bind fun r4=>
   bif (!r4)then (some true)
   else (some (decide ((3:Int)<(aC.Values.length:Int))))).bind fun o2=>
 match o2 with
 |c8=>if c8 then (
     some [])
   else (
     o5 aC fuel aC.Values 0)
theorem Mf{fuel:Nat}{aC:ak}{eZ:Sv}{R:(List UInt8)}(hF:v_ fuel aC=some R):
   Fw.Spec Tryz.prog 45 [(zg [(zi aC.Method),eZ.v])] [b_ eZ aC.Values] (fun _:Unit=>(sv R)) (fun _=>[]):=by
 refine Se 38 Tryz.func45 [.tmp 2] ?_
 intro H0 F0
 unfold v_ at hF
 refine au ?_
 refine j_ (fun k1=>?_)
 refine aU ?_
 obtain⟨o2,yu,hO3⟩:=bind_some hF
 refine au ?_
 refine fJ (fun f' cs'=>∃(c8:Bool)(g:Fr),c8=o2/\f'=aX g [(1,(pz k1)),(13,(.bool c8))]/\aT cs' [gu k1 34 (zg [(zi aC.Method),eZ.v]),b_ eZ aC.Values]) ?_ ?_
 · replace hF:=yu
   refine aG ?_
   refine bnd hF fun r4 hx5 hF=>dF (wR hx5) (fun _=>?_)
   refine aG ?_
   rcases dL (!r4)with jl|jl
   · rw[jl]
     try rw[jl]at hF; dsimp only[bu,bq]at hF
     exact dh hF
   rw[jl]
   try rw[jl]at hF; dsimp only[bu,bq]at hF
   exact dh hF
 rintro _ _ ⟨c8,g51,rfl,rfl,hE⟩
 replace hF:=hO3
 try dsimp only at hF
 refine bV hE ?_
 refine Ci hF (fun Vh hF=>?_) (fun Vh hF=>?_)
 · exact ze hF
 refine aV ?_
 refine bN (dG (m:=aC.Values.length) (fun m10 f' cs'=>∃(g:Fr)(k12:Nat)(oo:List Int),m10=oo.length/\f'=aX g [(1,(pz k1)),(3,(zi (k12:Int)))]/\List.drop k12 aC.Values=oo/\aT cs' [gu k1 34 (zg [(zi aC.Method),eZ.v]),b_ eZ aC.Values]/\o5 aC fuel oo k12=some R) ⟨_,0,_,rfl,aK,rfl,aJ,hF⟩ ?_)
 rintro m10 _ _ ⟨g11,k12,oo,rfl,rfl,KN,hE,hF⟩
 refine Kb hE aC.Values (fun Xt=>?_)
 rcases oo with _|⟨vS,oo⟩
 · have Vi:=dn KN
   rw[o5]at hF
   refine g_ ?_
   refine fZ ?_
   refine aM ?_
   refine gH [0,1,5,6,2,3,4,7,8,9,10] [0,1,3,7,15,0,32,103,255,511,1023] [2,7] mixed (by decide+kernel) ?_
   refine xY ?_
   refine bnd hF fun kN si hF=>qo (vZ si) (fun _=>?_)
   refine bnd hF fun x24 hx25 hF=>?_
   obtain⟨YH,YI⟩:=fT hx25
   refine bY rfl .no (fun ha=>f_ (s:=[109]) (t:=kN) (u:=x24) (EN ha (.sv _) rfl) (EN ha (.tmp rfl rfl) rfl) hx25) ?_
   refine bnd hF fun x28 hx29 hF=>?_
   obtain⟨Vj,Vk⟩:=fT hx29
   refine bY rfl .no (fun ha=>f_ (s:=x24) (t:=[40]) (u:=x28) (EN ha (.tmp rfl rfl) rfl) (EN ha (.sv _) rfl) hx29) ?_
   refine bnd hF fun r32 Ea hF=>qo (NR Ea) (fun _=>?_)
   refine bnd hF fun BA qf hF=>?_
   obtain⟨YJ,YK⟩:=fT qf
   refine bY rfl .no (fun ha=>f_ (s:=x28) (t:=r32) (u:=BA) (EN ha (.tmp rfl rfl) rfl) (EN ha (.tmp rfl rfl) rfl) qf) ?_
   refine bnd hF fun x39 nD hF=>?_
   obtain⟨YL,YM⟩:=fT nD
   refine bY rfl .no (fun ha=>f_ (s:=BA) (t:=[41]) (u:=x39) (EN ha (.tmp rfl rfl) rfl) (EN ha (.sv _) rfl) nD) ?_
   refine dQ ?_
   exact ze hF
 obtain⟨Vi,iR,Vl⟩:=fQ KN
 rw[o5]at hF
 refine g_ ?_
 refine fV ?_
 refine bC ?_
 refine Ai iR (fun Wo j44=>?_)
 refine Al gJ ?_
 refine bnd hF fun Lj yt hF=>dF (wR yt) (fun _=>?_)
 refine aG ?_
 refine Ci hF (fun Vm hF=>?_) (fun Vm hF=>?_)
 · exact ze hF
 refine bC ?_
 rw[wk k12]
 exact⟨_,dM _,_,k12+1,oo,rfl,aK,Vl,aJ,hF⟩
def mM(fuel:Nat):List ak->Nat->(List UInt8)->Option ((List UInt8))
 |[],k5,c1=>if (c1==[])then (
     some [110,111,110,101])
   else (
     some c1)
 |x7::fu,k5,c1=>(((v_ fuel x7).bind fun lH=>
     if (lH==[])then (
       some (.inl []))
     else (
       if (decide ((0:Int)<(k5:Int)))then (
         (bM c1 [32]).bind fun BB=>
         (bM BB lH).bind fun x27=>
         some (.inr x27))
       else (
         (bM c1 lH).bind fun x31=>
         some (.inr x31)))):Option (Sum ((List UInt8)) ((List UInt8)))).bind fun tK=>
   match tK with
   | .inl r=>some r
   | .inr c37=>mM fuel fu (k5+1) c37
def lL(fuel:Nat)(cK:List ak):Option ((List UInt8)):=
 mM fuel cK 0 []
theorem wh{fuel:Nat}{cK:List ak}{ae:Sv}{R:(List UInt8)}(hF:lL fuel cK=some R):
   Fw.Spec Tryz.prog 18 [ae.v] [dK ae cK] (fun _:Unit=>(sv R)) (fun _=>[]):=by
 refine Se 29 Tryz.func18 [.tmp 2] ?_
 intro H0 F0
 unfold lL at hF
 refine oD ?_
 refine bN (dG (m:=cK.length) (fun m3 f' cs'=>∃(g:Fr)(k5:Nat)(fu:List ak)(c1:List UInt8),m3=fu.length/\f'=aX g [(0,ae.v),(3,(sv c1)),(4,(zi (k5:Int)))]/\List.drop k5 cK=fu/\aT cs' [dK ae cK]/\mM fuel fu k5 c1=some R) ⟨_,0,_,_,rfl,aK,rfl,aJ,hF⟩ ?_)
 rintro m3 _ _ ⟨g4,k5,fu,c1,rfl,rfl,qw,hE,hF⟩
 refine Kb hE cK (fun Kc=>?_)
 rcases fu with _|⟨x7,fu⟩
 · have yS:=dn qw
   rw[mM]at hF
   refine bE ?_
   refine fZ ?_
   refine bE ?_
   refine ax (kZ (s:=c1) (t:=[]) (.tmp rfl rfl) (.sv _)) ?_
   refine au ?_
   refine Ci hF (fun El hF=>?_) (fun El hF=>?_)
   · exact ze hF
   exact ze hF
 obtain⟨yS,jB,ib⟩:=fQ qw
 rw[mM]at hF
 refine bE ?_
 refine fV ?_
 refine au ?_
 obtain⟨tK,Dr,A9⟩:=bind_some hF
 refine jW (fun f' cs'=>∃(c37:List UInt8)(g:Fr),tK= .inr c37/\f'=aX g [(0,ae.v),(3,(sv c37)),(4,(zi (k5:Int)))]/\aT cs' [dK ae cK]) ?_ ?_
 · replace hF:=Dr
   refine bN (bL (Cm ae.v rfl rfl ?_))
   refine au ?_
   refine Ai jB (fun k17 EI=>?_)
   refine rQ (mQ x7) nP (fun kM=>?_)
   refine bnd hF fun lH nE hF=>dF (Mf nE) (fun _=>?_)
   refine aV ?_
   refine ax (kZ (s:=lH) (t:=[]) (.tmp rfl rfl) (.sv _)) ?_
   refine au ?_
   refine Ci hF (fun Vn hF=>?_) (fun Vn hF=>?_)
   · refine aM ?_
     cases hF
     replace hF:=A9
     try dsimp only at hF
     exact ze hF
   refine bC ?_
   refine Ci hF (fun Ef hF=>?_) (fun Ef hF=>?_)
   · refine aG ?_
     refine bnd hF fun BB hx24 hF=>?_
     obtain⟨YN,YO⟩:=fT hx24
     refine ax (f_ (s:=c1) (t:=[32]) (u:=BB) (.tmp rfl rfl) (.sv _) hx24) ?_
     refine aV ?_
     refine bnd hF fun x27 hx28 hF=>?_
     obtain⟨U4,U5⟩:=fT hx28
     refine ax (f_ (s:=BB) (t:=lH) (u:=x27) (.tmp rfl rfl) (.tmp rfl rfl) hx28) ?_
     exact dh hF
   refine aM ?_
   refine bnd hF fun x31 hx32 hF=>?_
   obtain⟨U6,U7⟩:=fT hx32
   refine ax (f_ (s:=c1) (t:=lH) (u:=x31) (.tmp rfl rfl) (.tmp rfl rfl) hx32) ?_
   exact dh hF
 rintro _ _ ⟨c37,g39,rfl,rfl,hE⟩
 replace hF:=A9
 try dsimp only at hF
 refine bV hE ?_
 refine aV ?_
 rw[wk k5]
 exact⟨_,dM _,_,k5+1,fu,_,rfl,aK,ib,aJ,hF⟩
def qX(ah:ai)(r2:Int×ai):Nat->Int->Int->(List UInt8)->Int->Option ((List UInt8)×ai)
 |0,_,_,_,_=>none
 |tL+1,c49,lI,c51,tN=>if (decide ((0:Int)<tN))then (
     ((kT (⟨ah.b,c49,lI⟩:ai)).bind fun dN=>
       if ((r2.1:Int)==1)then (
         if ((r2.1:Int)==2)then (
           (app c51 ([(dO (IntKind.i64.wrap (97+(Int.tmod (Int.tmod dN.1 2) 4))))]:List UInt8)).bind fun z69=>
           some (dN.2.i,dN.2.h,z69))
         else (
           (app c51 ([(dO (Int.tmod dN.1 2))]:List UInt8)).bind fun z73=>
           some (dN.2.i,dN.2.h,z73)))
       else (
         if ((r2.1:Int)==2)then (
           (app c51 ([(dO (IntKind.i64.wrap (97+(Int.tmod dN.1 4))))]:List UInt8)).bind fun z78=>
           some (dN.2.i,dN.2.h,z78))
         else (
           (app c51 ([(dO dN.1)]:List UInt8)).bind fun z82=>
           some (dN.2.i,dN.2.h,z82)))).bind fun Fv=>
     match Fv with
     |(c87,yZ,y5)=>qX ah r2 tL c87 yZ y5 (IntKind.i64.wrap (tN-1)))
   else (
     some (c51,(⟨ah.b,c49,lI⟩:ai)))
def z8(ah:ai)(oh:Int):Option ((List UInt8)×ai):=
 (dR ah 4).bind fun r2=>
 (dR (⟨ah.b,r2.2.i,r2.2.h⟩:ai) (IntKind.i64.wrap (oh+1))).bind fun r5=>
 qX ah r2 ((r5.1-0).toNat+2) r5.2.i r5.2.h ([]:List UInt8) r5.1
theorem NS{aB:Nat}{ah:ai}{ae:Sv}{oh:Int}{R:(List UInt8)×ai}(hF:z8 ah oh=some R):
   Fw.Spec Tryz.prog 65 [(pz aB),(zi oh)] [bK aB 98 (zg [ae.v,(zi ah.i),(zi ah.h)]),dU ae ah.b] (fun _:Unit=>(sv R.1)) (fun _=>[bK aB 98 (zg [ae.v,(zi R.2.i),(zi R.2.h)])]):=by
 refine Se 38 Tryz.func65 [.tmp 4] ?_
 intro H0 F0
 unfold z8 at hF
 refine aM ?_
 refine bD rfl (bz (g:=true) iO.h iU.h .nil (vs:=[]) rfl rfl rfl (by simp)) (fun k1=>?_)
 refine bX (.cons .h .nil) (bB (Ro:=(ay ek)) (E:=5) (F:=[]) (xs:=([]:List UInt8)) bA rfl rfl) ?_
 refine aM ?_
 refine bnd hF fun r2 hx3 hF=>cu (eH hx3) (fun p4=>?_)
 refine bE ?_
 refine bnd hF fun r5 hx6 hF=>cu (eH hx6) (fun p7=>?_)
 refine aG ?_
 refine bN (dG (m:=((r5.1-0).toNat+2)) (fun tL f' cs'=>∃(g:Fr)(c49 lI:Int)(c51:List UInt8)(tN:Int)(v52:Sv)(Ll:List Nat),f'=aX g [(0,(pz aB)),(5,v52.v),(6,(zi r2.1)),(7,(zi tN))]/\aT cs' [bK aB 98 (zg [ae.v,(zi c49),(zi lI)]),dU ae ah.b,K4 Ll v52 c51]/\qX ah r2 tL c49 lI c51 tN=some R) ⟨_,_,_,_,_,⟨(some ⟨k1,0,none⟩),0,1⟩,(k1::[]),aK,aJ,hF⟩ ?_)
 rintro tL _ _ ⟨g56,c49,lI,c51,tN,v52,Ll,rfl,hE,hF⟩
 refine bV hE ?_
 rcases tL with _|tL
 · rw[qX]at hF
   exact absurd hF (by simp)
 rw[qX]at hF
 refine aV ?_
 refine Ci hF (fun Vo hF=>?_) (fun Vo hF=>?_)
 · refine au ?_
   obtain⟨Fv,Sa,Vp⟩:=bind_some hF
   refine jW (fun f' cs'=>∃(c87 yZ:Int)(y5:List UInt8)(BC:Sv)(Fx:List Nat)(g:Fr),Fv=(c87,yZ,y5)/\f'=aX g [(0,(pz aB)),(5,BC.v),(6,(zi r2.1)),(7,(zi tN))]/\aT cs' [bK aB 98 (zg [ae.v,(zi c87),(zi yZ)]),dU ae ah.b,K4 Fx BC y5]) ?_ ?_
   · replace hF:=Sa
     refine bN (bL (Cm (pz aB) rfl rfl ?_))
     refine bnd hF fun dN Ec hF=>cu (qR Ec) (fun p67=>?_)
     refine bE ?_
     refine Ci hF (fun Vq hF=>?_) (fun Vq hF=>?_)
     · refine aG ?_
       refine ax (lX (i:=dN.1) (j:=2) (.tmp rfl rfl) (.int _ _) (by decide)) ?_
       refine bE ?_
       refine Ci hF (fun DI hF=>?_) (fun DI hF=>?_)
       · refine aG ?_
         refine ax (lX (i:=(Int.tmod dN.1 2)) (j:=4) (.tmp rfl rfl) (.int _ _) (by decide)) ?_
         refine bC ?_
         refine ax (pK (i:=(IntKind.i64.wrap (97+(Int.tmod (Int.tmod dN.1 2) 4)))) ko iD (.tmp rfl rfl)) ?_
         refine bD rfl (bz (g:=true) iO.h iU.h bi (vs:=[(.int .u8 ((dO (IntKind.i64.wrap (97+(Int.tmod (Int.tmod dN.1 2) 4)))).toNat:Int))]) rfl rfl rfl (by intro v hv; simp at hv; rcases hv with rfl<;>rfl)) (fun k68=>?_)
         refine bX (.cons .h .nil) (bB (Ro:=(ay ek)) (E:=5) (F:=([]++[])) (xs:=([(dO (IntKind.i64.wrap (97+(Int.tmod (Int.tmod dN.1 2) 4))))]:List UInt8)) (aY (bF (fun _=>rfl)) bA aR) rfl rfl) ?_
         refine bnd hF fun z69 Vr hF=>aZ (.cons .q3 (.cons .h .nil)) (dH (Ro:=(ay ek)) iO.h AX iU.h rfl rfl rfl (.tmp rfl rfl) (.tmp rfl rfl) Vr dS) (fun p71=>?_)
         refine aG ?_
         cases hF
         exact⟨_,_,_,p71.1,p71.2,_,rfl,aK,aJ⟩
       refine aM ?_
       refine ax (pK (i:=(Int.tmod dN.1 2)) ko iD (.tmp rfl rfl)) ?_
       refine bD rfl (bz (g:=true) iO.h iU.h bi (vs:=[(.int .u8 ((dO (Int.tmod dN.1 2)).toNat:Int))]) rfl rfl rfl (by intro v hv; simp at hv; rcases hv with rfl<;>rfl)) (fun k72=>?_)
       refine bX (.cons .h .nil) (bB (Ro:=(ay ek)) (E:=5) (F:=([]++[])) (xs:=([(dO (Int.tmod dN.1 2))]:List UInt8)) (aY (bF (fun _=>rfl)) bA aR) rfl rfl) ?_
       refine bnd hF fun z73 Vs hF=>aZ (.cons .q3 (.cons .h .nil)) (dH (Ro:=(ay ek)) iO.h AX iU.h rfl rfl rfl (.tmp rfl rfl) (.tmp rfl rfl) Vs dS) (fun p75=>?_)
       refine aG ?_
       cases hF
       exact⟨_,_,_,p75.1,p75.2,_,rfl,aK,aJ⟩
     refine bC ?_
     refine Ci hF (fun Vt hF=>?_) (fun Vt hF=>?_)
     · refine aG ?_
       refine ax (lX (i:=dN.1) (j:=4) (.tmp rfl rfl) (.int _ _) (by decide)) ?_
       refine bC ?_
       refine ax (pK (i:=(IntKind.i64.wrap (97+(Int.tmod dN.1 4)))) ko iD (.tmp rfl rfl)) ?_
       refine bD rfl (bz (g:=true) iO.h iU.h bi (vs:=[(.int .u8 ((dO (IntKind.i64.wrap (97+(Int.tmod dN.1 4)))).toNat:Int))]) rfl rfl rfl (by intro v hv; simp at hv; rcases hv with rfl<;>rfl)) (fun k77=>?_)
       refine bX (.cons .h .nil) (bB (Ro:=(ay ek)) (E:=5) (F:=([]++[])) (xs:=([(dO (IntKind.i64.wrap (97+(Int.tmod dN.1 4))))]:List UInt8)) (aY (bF (fun _=>rfl)) bA aR) rfl rfl) ?_
       refine bnd hF fun z78 Vu hF=>aZ (.cons .q3 (.cons .h .nil)) (dH (Ro:=(ay ek)) iO.h AX iU.h rfl rfl rfl (.tmp rfl rfl) (.tmp rfl rfl) Vu dS) (fun Lm=>?_)
       refine aG ?_
       cases hF
       exact⟨_,_,_,Lm.1,Lm.2,_,rfl,aK,aJ⟩
     refine aM ?_
     refine ax (pK (i:=dN.1) ko iD (.tmp rfl rfl)) ?_
     refine bD rfl (bz (g:=true) iO.h iU.h bi (vs:=[(.int .u8 ((dO dN.1).toNat:Int))]) rfl rfl rfl (by intro v hv; simp at hv; rcases hv with rfl<;>rfl)) (fun k81=>?_)
     refine bX (.cons .h .nil) (bB (Ro:=(ay ek)) (E:=5) (F:=([]++[])) (xs:=([(dO dN.1)]:List UInt8)) (aY (bF (fun _=>rfl)) bA aR) rfl rfl) ?_
     refine bnd hF fun z82 Vv hF=>aZ (.cons .q3 (.cons .h .nil)) (dH (Ro:=(ay ek)) iO.h AX iU.h rfl rfl rfl (.tmp rfl rfl) (.tmp rfl rfl) Vv dS) (fun Lp=>?_)
     refine aG ?_
     cases hF
     exact⟨_,_,_,Lp.1,Lp.2,_,rfl,aK,aJ⟩
   rintro _ _ ⟨c87,yZ,y5,BC,Fx,g92,rfl,rfl,hE⟩
   replace hF:=Vp
   try dsimp only at hF
   refine bV hE ?_
   refine aV ?_
   exact⟨tL,dM _,_,_,_,_,_,BC,Fx,aK,aJ,hF⟩
 refine bC ?_
 refine eB .q2 (fun hp=>Pt iO.h iD xX iU.h.sz (.tmp rfl rfl) hp) ?_
 exact ze hF
def wS(ah:ai)(aa:List UInt8):Option ((List UInt8)×ai):=
 if (((aa.length:Int):Int)==0)then (
   (z8 ah 3).bind fun r1=>
   some (r1.1,(⟨ah.b,r1.2.i,r1.2.h⟩:ai)))
 else (
   (dR ah (aa.length:Int)).bind fun r4=>
   (dR (⟨ah.b,r4.2.i,r4.2.h⟩:ai) 4).bind fun r7=>
   if ((r7.1:Int)==0)then (
     (fP (decide (0<=r4.1)&&decide (r4.1<=((aa).length:Int)))).bind fun WF=>
     (fP (decide (0<=(IntKind.i64.wrap (r4.1+1)))&&decide ((IntKind.i64.wrap (r4.1+1))<=((aa).length:Int)))).bind fun kQ=>
     (bM (aa.take (r4.1).toNat) (aa.drop ((IntKind.i64.wrap (r4.1+1))).toNat)).bind fun jm=>
     some (jm,(⟨ah.b,r7.2.i,r7.2.h⟩:ai)))
   else (
     if ((r7.1:Int)==1)then (
       (fP (decide (0<=r4.1)&&decide (r4.1<=((aa).length:Int)))).bind fun u21=>
       (fP (decide (0<=r4.1)&&decide (r4.1<=((aa).length:Int)))).bind fun u24=>
       (kT (⟨ah.b,r7.2.i,r7.2.h⟩:ai)).bind fun jF=>
       (bM (aa.take (r4.1).toNat) [(dO jF.1)]).bind fun x30=>
       (bM x30 (aa.drop (r4.1).toNat)).bind fun x34=>
       some (x34,(⟨ah.b,jF.2.i,jF.2.h⟩:ai)))
     else (
       if ((r7.1:Int)==2)then (
         (fP (decide (0<=r4.1)&&decide (r4.1<=((aa).length:Int)))).bind fun WG=>
         some ((aa.take (r4.1).toNat),(⟨ah.b,r7.2.i,r7.2.h⟩:ai)))
       else (
         (fP (decide (0<=r4.1)&&decide (r4.1<=((aa).length:Int)))).bind fun u42=>
         (ix aa r4.1).bind fun u44=>
         (fP (decide (0<=(IntKind.i64.wrap (r4.1+1)))&&decide ((IntKind.i64.wrap (r4.1+1))<=((aa).length:Int)))).bind fun u49=>
         (dR (⟨ah.b,r7.2.i,r7.2.h⟩:ai) 255).bind fun mJ=>
         (bM (aa.take (r4.1).toNat) [(dO (lh .i64 (u44.toNat:Int) (IntKind.i64.wrap (1+mJ.1))))]).bind fun x55=>
         (bM x55 (aa.drop ((IntKind.i64.wrap (r4.1+1))).toNat)).bind fun Fy=>
         some (Fy,(⟨ah.b,mJ.2.i,mJ.2.h⟩:ai))))))
theorem Nz{aB:Nat}{ah:ai}{ae:Sv}{aa:List UInt8}{R:(List UInt8)×ai}(hF:wS ah aa=some R):
   Fw.Spec Tryz.prog 41 [(pz aB),(sv aa)] [bK aB 98 (zg [ae.v,(zi ah.i),(zi ah.h)]),dU ae ah.b] (fun _:Unit=>(sv R.1)) (fun _=>[bK aB 98 (zg [ae.v,(zi R.2.i),(zi R.2.h)])]):=by
 refine Se 67 Tryz.func41 [.tmp 4] ?_
 intro H0 F0
 unfold wS at hF
 refine bC ?_
 refine ax (gm (s:=aa) dw (.tmp rfl rfl)) ?_
 refine aG ?_
 refine Ci hF (fun Vw hF=>?_) (fun Vw hF=>?_)
 · refine aG ?_
   refine bnd hF fun r1 hx2 hF=>cu (NS hx2) (fun p3=>?_)
   exact ze hF
 refine aM ?_
 refine ax (gm (s:=aa) dw (.tmp rfl rfl)) ?_
 refine bnd hF fun r4 hx5 hF=>cu (eH hx5) (fun p6=>?_)
 refine aV ?_
 refine bnd hF fun r7 iF hF=>cu (eH iF) (fun p9=>?_)
 refine au ?_
 refine bN (bL (ax (jV (i:=r7.1) (j:=0) (.tmp rfl rfl) (.int _ _)) ?_))
 refine aG ?_
 refine Ci hF (fun Em hF=>?_) (fun Em hF=>?_)
 · refine gH [0,1,2,3,4,5,6,7,8] [0,0,3,0,0,16,56,127,255] [] mixed (by decide+kernel) ?_
   refine dQ ?_
   refine bnd hF fun WF r_ hF=>?_
   have En:=iy r_
   simp only[Bool.and_eq_true,decide_eq_true_eq]at En
   refine bY rfl .no (fun ha=>rz (s:=aa) (j:=r4.1) dw (EN ha (.tmp rfl rfl) rfl) (EN ha (.tmp rfl rfl) rfl) En.1 En.2) ?_
   refine jA ?_
   refine bnd hF fun kQ vB hF=>?_
   have Eo:=iy vB
   simp only[Bool.and_eq_true,decide_eq_true_eq]at Eo
   refine bY rfl .no (fun ha=>uD (s:=aa) (i:=(IntKind.i64.wrap (r4.1+1))) dw (EN ha (.tmp rfl rfl) rfl) (EN ha (.tmp rfl rfl) rfl) Eo.1 Eo.2) ?_
   refine bnd hF fun jm iR hF=>?_
   obtain⟨KL,KM⟩:=fT iR
   refine bY rfl .no (fun ha=>f_ (s:=(aa.take (r4.1).toNat)) (t:=(aa.drop ((IntKind.i64.wrap (r4.1+1))).toNat)) (u:=jm) (EN ha (.tmp rfl rfl) rfl) (EN ha (.tmp rfl rfl) rfl) iR) ?_
   refine dQ ?_
   exact ze hF
 refine aM ?_
 refine Ci hF (fun Vx hF=>?_) (fun Vx hF=>?_)
 · refine gH [0,1,2,3,9,10,11,4,5,6,7,8,12,13] [0,0,3,0,8,24,56,120,255,0,0,1536,4095,8191] [4] mixed (by decide+kernel) ?_
   refine dQ ?_
   refine bnd hF fun u21 si hF=>?_
   have Ep:=iy si
   simp only[Bool.and_eq_true,decide_eq_true_eq]at Ep
   refine bY rfl .no (fun ha=>rz (s:=aa) (j:=r4.1) dw (EN ha (.tmp rfl rfl) rfl) (EN ha (.tmp rfl rfl) rfl) Ep.1 Ep.2) ?_
   refine jA ?_
   refine bnd hF fun u24 hx25 hF=>?_
   have Es:=iy hx25
   simp only[Bool.and_eq_true,decide_eq_true_eq]at Es
   refine bY rfl .no (fun ha=>uD (s:=aa) (i:=r4.1) dw (EN ha (.tmp rfl rfl) rfl) (EN ha (.tmp rfl rfl) rfl) Es.1 Es.2) ?_
   refine bnd hF fun jF hx27 hF=>vI (qR hx27) (fun p28=>?_)
   refine bY rfl .no (fun ha=>pK (i:=jF.1) ko iD (EN ha (.tmp rfl rfl) rfl)) ?_
   refine lc rfl .no rfl (fun ha=>bz (g:=true) (len:=1) (parts:=[(0,.tmp 34)]) iO.h iU.h (.cons (EN ha (.tmp rfl rfl) rfl) .nil) (vs:=[(.int .u8 ((dO jF.1).toNat:Int))]) rfl rfl rfl (by intro v hv; simp at hv; rcases hv with rfl<;>rfl)) (fun Li=>?_)
   refine mD (.cons .h .nil) (bB (Ro:=(ay ek)) (E:=5) (F:=([]++[])) (xs:=([(dO jF.1)]:List UInt8)) (aY (bF (fun _=>rfl)) bA aR) rfl rfl) ?_
   refine iJ rfl .no .h (fun ha hp=>zW (u:=(dO jF.1)) iO.h iD xX iU.h.sz (EN ha (.tmp rfl rfl) rfl) hp) ?_
   refine bnd hF fun x30 hx31 hF=>?_
   obtain⟨YP,hz32⟩:=fT hx31
   refine bY rfl .no (fun ha=>f_ (s:=(aa.take (r4.1).toNat)) (t:=[(dO jF.1)]) (u:=x30) (EN ha (.tmp rfl rfl) rfl) (EN ha (.tmp rfl rfl) rfl) hx31) ?_
   refine bnd hF fun x34 sD hF=>?_
   obtain⟨Vf,Vg⟩:=fT sD
   refine bY rfl .no (fun ha=>f_ (s:=x30) (t:=(aa.drop (r4.1).toNat)) (u:=x34) (EN ha (.tmp rfl rfl) rfl) (EN ha (.tmp rfl rfl) rfl) sD) ?_
   refine dQ ?_
   exact ze hF
 refine aM ?_
 refine Ci hF (fun Et hF=>?_) (fun Et hF=>?_)
 · refine aU ?_
   refine bnd hF fun WG nD hF=>?_
   have hc38:=iy nD
   simp only[Bool.and_eq_true,decide_eq_true_eq]at hc38
   refine ax (rz (s:=aa) (j:=r4.1) dw (.tmp rfl rfl) (.tmp rfl rfl) hc38.1 hc38.2) ?_
   exact ze hF
 refine au ?_
 refine gH [0,1,2,3,4,5,6,7,15,16,17,18,8,9,10,11,12,13,14,19,20] [0,0,3,0,0,24,56,0,128,384,1016,2040,4088,8184,16383,0,0,65536,229376,524287,1048575] [8] mixed (by decide+kernel) ?_
 refine dQ ?_
 refine bnd hF fun u42 mf hF=>?_
 have Eu:=iy mf
 simp only[Bool.and_eq_true,decide_eq_true_eq]at Eu
 refine bY rfl .no (fun ha=>rz (s:=aa) (j:=r4.1) dw (EN ha (.tmp rfl rfl) rfl) (EN ha (.tmp rfl rfl) rfl) Eu.1 Eu.2) ?_
 refine dQ ?_
 refine zI hF fun u44 Vy rV hF=>?_
 refine bY rfl .no (fun ha=>lN (u:=u44) dw (EN ha (.tmp rfl rfl) rfl) (EN ha (.tmp rfl rfl) rfl) Vy rV) ?_
 refine bY rfl .no (fun ha=>ww (u:=u44) iD ko (EN ha (.tmp rfl rfl) rfl)) ?_
 refine xY ?_
 refine bnd hF fun u49 vw hF=>?_
 have Ev:=iy vw
 simp only[Bool.and_eq_true,decide_eq_true_eq]at Ev
 refine bY rfl .no (fun ha=>uD (s:=aa) (i:=(IntKind.i64.wrap (r4.1+1))) dw (EN ha (.tmp rfl rfl) rfl) (EN ha (.tmp rfl rfl) rfl) Ev.1 Ev.2) ?_
 refine bnd hF fun mJ Eb hF=>vI (eH Eb) (fun p53=>?_)
 refine du ?_
 refine bY rfl .no (fun ha=>J6 (i:=(u44.toNat:Int)) (j:=(IntKind.i64.wrap (1+mJ.1))) (EN ha (.tmp rfl rfl) rfl) (EN ha (.tmp rfl rfl) rfl)) ?_
 refine bY rfl .no (fun ha=>pK (i:=(lh .i64 (u44.toNat:Int) (IntKind.i64.wrap (1+mJ.1)))) ko iD (EN ha (.tmp rfl rfl) rfl)) ?_
 refine lc rfl .no rfl (fun ha=>bz (g:=true) (len:=1) (parts:=[(0,.tmp 58)]) iO.h iU.h (.cons (EN ha (.tmp rfl rfl) rfl) .nil) (vs:=[(.int .u8 ((dO (lh .i64 (u44.toNat:Int) (IntKind.i64.wrap (1+mJ.1)))).toNat:Int))]) rfl rfl rfl (by intro v hv; simp at hv; rcases hv with rfl<;>rfl)) (fun k54=>?_)
 refine mD (.cons .h .nil) (bB (Ro:=(ay ek)) (E:=5) (F:=([]++[])) (xs:=([(dO (lh .i64 (u44.toNat:Int) (IntKind.i64.wrap (1+mJ.1))))]:List UInt8)) (aY (bF (fun _=>rfl)) bA aR) rfl rfl) ?_
 refine iJ rfl .no .h (fun ha hp=>zW (u:=(dO (lh .i64 (u44.toNat:Int) (IntKind.i64.wrap (1+mJ.1))))) iO.h iD xX iU.h.sz (EN ha (.tmp rfl rfl) rfl) hp) ?_
 refine bnd hF fun x55 AY hF=>?_
 obtain⟨YQ,YR⟩:=fT AY
 refine bY rfl .no (fun ha=>f_ (s:=(aa.take (r4.1).toNat)) (t:=[(dO (lh .i64 (u44.toNat:Int) (IntKind.i64.wrap (1+mJ.1))))]) (u:=x55) (EN ha (.tmp rfl rfl) rfl) (EN ha (.tmp rfl rfl) rfl) AY) ?_
 refine bnd hF fun Fy A_ hF=>?_
 obtain⟨YS,YT⟩:=fT A_
 refine bY rfl .no (fun ha=>f_ (s:=x55) (t:=(aa.drop ((IntKind.i64.wrap (r4.1+1))).toNat)) (u:=Fy) (EN ha (.tmp rfl rfl) rfl) (EN ha (.tmp rfl rfl) rfl) A_) ?_
 refine dQ ?_
 exact ze hF
def z_(ah:ai)(lS:List (List UInt8)):Option ((List UInt8)×ai):=
 (dR ah (lS.length:Int)).bind fun r1=>
 (ix lS r1.1).bind fun x4=>
 some (x4,(⟨ah.b,r1.2.i,r1.2.h⟩:ai))
theorem NT{aB:Nat}{ah:ai}{ae:Sv}{lS:List (List UInt8)}{aN:Sv}{R:(List UInt8)×ai}(hF:z_ ah lS=some R):
   Fw.Spec Tryz.prog 42 [(pz aB),aN.v] [bK aB 98 (zg [ae.v,(zi ah.i),(zi ah.h)]),dU ae ah.b,oO aN lS] (fun _:Unit=>(sv R.1)) (fun _=>[bK aB 98 (zg [ae.v,(zi R.2.i),(zi R.2.h)])]):=by
 refine Se 12 Tryz.func42 [.tmp 4] ?_
 intro H0 F0
 unfold z_ at hF
 refine g_ ?_
 refine bnd hF fun r1 hx2 hF=>cu (eH hx2) (fun p3=>?_)
 refine zI hF fun x4 Wl hx7 hF=>?_
 refine Ai hx7 (fun k8 j9=>?_)
 refine Al Az ?_
 exact ze hF
def zw(fuel:Nat)(bv:List UInt8):Option ((List UInt8)):=
 (xc bv).bind fun r1=>
 (tZ fuel bv).bind fun r4=>
 (lL fuel r4).bind fun r7=>
 (dR r1 4).bind fun dm=>
 if ((dm.1:Int)==0)then (
   (wS ({b:=r1.b,i:=dm.2.i,h:=dm.2.h}:ai) r7).bind fun dx=>
   some dx.1)
 else (
   if ((dm.1:Int)==1)then (
     (z_ ({b:=r1.b,i:=dm.2.i,h:=dm.2.h}:ai) ([[],[110,111,110,101],[109,48,40,41],[109,48,40,49,41,32,109,49,40,41],[109,48,40,49,41,32,32,109,49,40,41],[109,57,40,41],[109,48,40,49,48,41],[110,48,40,41]]:List (List UInt8))).bind fun iW=>
     some iW.1)
   else (
     some r7))
theorem Mg{fuel:Nat}{bv:List UInt8}{ae:Sv}{R:(List UInt8)}(hF:zw fuel bv=some R):
   Fw.Spec Tryz.prog 15 [ae.v] [bS (bf 5 ek) ae.v bv] (fun _:Unit=>(sv R)) (fun _=>[]):=by
 refine pE (n:=23) Tryz.func15 rfl rfl (rs:=[.tmp 2]) rfl rfl rfl ?_
 intro H0 F0
 unfold zw at hF
 refine bL (ax (gG (v:=(sv [])) (.sv _)) ?_)
 refine bO (bL (Cm ae.v rfl rfl ?_))
 obtain⟨r1,hx2,hF⟩:=bind_some hF
 refine iN (.rd .h rfl .nil) (bG TN.h (.cons (.tmp rfl rfl) .nil) (@Hr bv ae _ hx2)) (fun p3=>?_)
 refine Ca (.pointer (some ⟨p3.1,0,some 0⟩)) rfl rfl ?_
 refine bO (bL (Cm ae.v rfl rfl ?_))
 obtain⟨r4,hx5,hF⟩:=bind_some hF
 refine aZ (.rd (.t (.t .h)) rfl .nil) (bG Ub.h (.cons (.tmp rfl rfl) .nil) (@FQ fuel bv ae _ hx5)) (fun p6=>?_)
 obtain⟨r7,iF,hF⟩:=bind_some hF
 refine aZ (.cons .h .nil) (dW bU (fun _=>.nil) (bG AV.h (.cons (.tmp rfl rfl) .nil) (@wh fuel r4 p6.1 _ iF))) (fun _=>?_)
 refine Ca (sv r7) rfl rfl ?_
 refine bO (gZ (bL (Cm (.pointer (some ⟨p3.1,0,some 0⟩)) rfl rfl ?_)))
 obtain⟨dm,rZ,hF⟩:=bind_some hF
 refine aZ (.cons (.t .h) (.rd (.t .h) rfl .nil)) (bG lm.h (.cons (.tmp rfl rfl) (.cons (.int _ _) .nil)) (@eH p3.1 r1 p3.2 4 _ rZ)) (fun K9=>?_)
 refine bO (bN (bL (ax (jV (i:=dm.1) (j:=0) (.tmp rfl rfl) (.int _ _)) ?_)))
 refine Ca (.bool ((dm.1:Int)==0)) rfl rfl ?_
 refine bO (iZ (b:=((dm.1:Int)==0)) (.tmp rfl rfl) (fun ma=>?_) (fun ma=>?_))
 · rw[if_pos ma]at hF
   refine bL (Cm (.pointer (some ⟨p3.1,0,some 0⟩)) rfl rfl ?_)
   refine Cm (sv r7) rfl rfl ?_
   obtain⟨dx,jN,hF⟩:=bind_some hF
   refine aZ (.cons .h (.rd (.t .h) rfl .nil)) (bG Ug.h (.cons (.tmp rfl rfl) (.cons (.tmp rfl rfl) .nil)) (@Nz p3.1 ({b:=r1.b,i:=dm.2.i,h:=dm.2.h}:ai) p3.2 r7 _ jN)) (fun nK=>?_)
   refine Ca (sv dx.1) rfl rfl ?_
   refine bO (jI ?_)
   obtain rfl:=Option.some.inj hF
   exact fq () (.tmp rfl rfl .nil) rfl (.sel .nil)
 rw[if_neg (by rw[ma]; exact Bool.false_ne_true)]at hF
 refine bL (ax (jV (i:=dm.1) (j:=1) (.tmp rfl rfl) (.int _ _)) ?_)
 refine Ca (.bool ((dm.1:Int)==1)) rfl rfl ?_
 refine bO (iZ (b:=((dm.1:Int)==1)) (.tmp rfl rfl) (fun kF=>?_) (fun kF=>?_))
 · rw[if_pos kF]at hF
   refine bL (Cm (.pointer (some ⟨p3.1,0,some 0⟩)) rfl rfl ?_)
   refine bD rfl (bz (g:=true) kE.h jQ.h (.cons (.sv _) (.cons (.sv _) (.cons (.sv _) (.cons (.sv _) (.cons (.sv _) (.cons (.sv _) (.cons (.sv _) (.cons (.sv _) .nil)))))))) (vs:=[(sv []),(sv [110,111,110,101]),(sv [109,48,40,41]),(sv [109,48,40,49,41,32,109,49,40,41]),(sv [109,48,40,49,41,32,32,109,49,40,41]),(sv [109,57,40,41]),(sv [109,48,40,49,48,41]),(sv [110,48,40,41])]) rfl rfl rfl (by intro v hv; simp at hv; rcases hv with rfl|rfl|rfl|rfl|rfl|rfl|rfl|rfl<;>rfl)) (fun k16=>?_)
   refine uP (.cons .h .nil) (bB (Ro:=(ay rdStr)) (E:=9) (F:=([]++([]++([]++([]++([]++([]++([]++([]++[]))))))))) (xs:=([[],[110,111,110,101],[109,48,40,41],[109,48,40,49,41,32,109,49,40,41],[109,48,40,49,41,32,32,109,49,40,41],[109,57,40,41],[109,48,40,49,48,41],[110,48,40,41]]:List (List UInt8))) (aY (bF (fun _=>rfl)) (aY (bF (fun _=>rfl)) (aY (bF (fun _=>rfl)) (aY (bF (fun _=>rfl)) (aY (bF (fun _=>rfl)) (aY (bF (fun _=>rfl)) (aY (bF (fun _=>rfl)) (aY (bF (fun _=>rfl)) bA aR) aR) aR) aR) aR) aR) aR) aR) rfl rfl) aR ?_
   obtain⟨iW,fw,hF⟩:=bind_some hF
   refine iN (.cons .h (.cons .h (.rd (.t .h) rfl .nil))) (dW bU (fun _=>(.cons .nil)) (iI (.cons (.t .h) (.rd (.t .h) rfl (.rd .h rfl .nil))) (bG Uh.h (.cons (.tmp rfl rfl) (.cons (.tmp rfl rfl) .nil)) (@NT p3.1 ({b:=r1.b,i:=dm.2.i,h:=dm.2.h}:ai) p3.2 ([[],[110,111,110,101],[109,48,40,41],[109,48,40,49,41,32,109,49,40,41],[109,48,40,49,41,32,32,109,49,40,41],[109,57,40,41],[109,48,40,49,48,41],[110,48,40,41]]:List (List UInt8)) (⟨(some ⟨k16,0,none⟩),8,1⟩) _ fw)))) (fun kM=>?_)
   refine Ca (sv iW.1) rfl rfl ?_
   refine bO (jI ?_)
   obtain rfl:=Option.some.inj hF
   exact fq () (.tmp rfl rfl .nil) rfl (.sel .nil)
 rw[if_neg (by rw[kF]; exact Bool.false_ne_true)]at hF
 refine kU (bL (Cm (sv r7) rfl rfl ?_))
 refine Ca (sv r7) rfl rfl ?_
 refine bO (jI ?_)
 obtain rfl:=Option.some.inj hF
 exact fq () (.tmp rfl rfl .nil) rfl (.sel .nil)
def pF(aa:List UInt8)(ic:UInt8):Nat->(List (List UInt8))->(List UInt8)->Int->Option ((List (List UInt8)))
 |0,_,_,_=>none
 |m7+1,c2,c5,c6=>if (decide ((c6:Int)<(aa.length:Int)))then (
     ((ix aa c6).bind fun Fz=>
       if (((Fz.toNat:Int):Int)==(ic.toNat:Int))then (
         (app c2 ([c5]:List (List UInt8))).bind fun z22=>
         some (z22,[]))
       else (
         (fP (decide (0<=c6)&&decide (c6<=(IntKind.i64.wrap (c6+1)))&&decide ((IntKind.i64.wrap (c6+1))<=((aa).length:Int)))).bind fun u26=>
         (bM c5 ((aa.take ((IntKind.i64.wrap (c6+1))).toNat).drop (c6).toNat)).bind fun x28=>
         some (c2,x28))).bind fun tK=>
     match tK with
     |(iV,y7)=>pF aa ic m7 iV y7 (IntKind.i64.wrap (c6+1)))
   else (
     (app c2 ([c5]:List (List UInt8))).bind fun z39=>
     some z39)
def xh(aa:List UInt8)(ic:UInt8):Option ((List (List UInt8))):=
 pF aa ic (((aa.length:Int)-0).toNat+2) ([]:List (List UInt8)) [] 0
theorem Ht{aa:List UInt8}{ic:UInt8}{R:(List (List UInt8))}(hF:xh aa ic=some R):
   Fw.Spec Tryz.prog 43 [(sv aa),(.int .u8 (ic.toNat:Int))] [] (fun p:Sv×List Nat=>p.1.v) (fun p=>[vJ p.2 p.1 R]):=by
 refine Se 35 Tryz.func43 [.tmp 4] ?_
 intro H0 F0
 unfold xh at hF
 refine aM ?_
 refine bD rfl (bz (g:=true) kE.h jQ.h .nil (vs:=[]) rfl rfl rfl (by simp)) (fun k1=>?_)
 refine bX (.cons .h .nil) (bB (Ro:=(ay rdStr)) (E:=9) (F:=[]) (xs:=([]:List (List UInt8))) bA rfl rfl) ?_
 refine fO ?_
 refine bN (dG (m:=(((aa.length:Int)-0).toNat+2)) (fun m7 f' cs'=>∃(g:Fr)(c2:List (List UInt8))(c5:List UInt8)(c6:Int)(v3:Sv)(F4:List Nat),f'=aX g [(0,(sv aa)),(1,(.int .u8 (ic.toNat:Int))),(5,v3.v),(6,(sv c5)),(7,(zi c6))]/\aT cs' [vJ F4 v3 c2]/\pF aa ic m7 c2 c5 c6=some R) ⟨_,_,_,_,⟨(some ⟨k1,0,none⟩),0,1⟩,(k1::[]),aK,aJ,hF⟩ ?_)
 rintro m7 _ _ ⟨g8,c2,c5,c6,v3,F4,rfl,hE,hF⟩
 refine bV hE ?_
 rcases m7 with _|m7
 · rw[pF]at hF
   exact absurd hF (by simp)
 rw[pF]at hF
 refine aM ?_
 refine ax (gm (s:=aa) dw (.tmp rfl rfl)) ?_
 refine aG ?_
 refine Ci hF (fun DZ hF=>?_) (fun DZ hF=>?_)
 · refine au ?_
   obtain⟨tK,Dr,A9⟩:=bind_some hF
   refine jW (fun f' cs'=>∃(iV:List (List UInt8))(y7:List UInt8)(v34:Sv)(FB:List Nat)(g:Fr),tK=(iV,y7)/\f'=aX g [(0,(sv aa)),(1,(.int .u8 (ic.toNat:Int))),(5,v34.v),(6,(sv y7)),(7,(zi c6))]/\aT cs' [vJ FB v34 iV]) ?_ ?_
   · replace hF:=Dr
     refine bN (bL (Cm (sv aa) rfl rfl ?_))
     refine au ?_
     refine zI hF fun Fz KO lv hF=>?_
     refine ax (lN (u:=Fz) dw (.tmp rfl rfl) (.tmp rfl rfl) KO lv) ?_
     refine aU ?_
     refine Ci hF (fun kG hF=>?_) (fun kG hF=>?_)
     · refine aU ?_
       refine bD rfl (bz (g:=true) kE.h jQ.h bi (vs:=[(sv c5)]) rfl rfl rfl (by intro v hv; simp at hv; rcases hv with rfl<;>rfl)) (fun k21=>?_)
       refine bX (.cons .h .nil) (bB (Ro:=(ay rdStr)) (E:=9) (F:=([]++[])) (xs:=([c5]:List (List UInt8))) (aY (bF (fun _=>rfl)) bA aR) rfl rfl) ?_
       refine bnd hF fun z22 iQ hF=>aZ (.cons (.t .h) (.cons .h .nil)) (dH (Ro:=(ay rdStr)) kE.h AU jQ.h rfl rfl rfl (.tmp rfl rfl) (.tmp rfl rfl) iQ dS) (fun kL=>?_)
       refine aV ?_
       cases hF
       exact⟨_,_,kL.1,kL.2,_,rfl,aK,aJ⟩
     refine bC ?_
     refine bnd hF fun u26 hx27 hF=>?_
     have hc25:=iy hx27
     simp only[Bool.and_eq_true,decide_eq_true_eq]at hc25
     refine ax (Cv (s:=aa) (i:=c6) (j:=(IntKind.i64.wrap (c6+1))) dw (.tmp rfl rfl) (.tmp rfl rfl) (.tmp rfl rfl) hc25.1.1 hc25.1.2 hc25.2) ?_
     refine bnd hF fun x28 hx29 hF=>?_
     obtain⟨Vj,Vk⟩:=fT hx29
     refine ax (f_ (s:=c5) (t:=((aa.take ((IntKind.i64.wrap (c6+1))).toNat).drop (c6).toNat)) (u:=x28) (.tmp rfl rfl) (.tmp rfl rfl) hx29) ?_
     refine aG ?_
     cases hF
     exact⟨_,_,v3,F4,_,rfl,aK,aJ⟩
   rintro _ _ ⟨iV,y7,v34,FB,Wz,rfl,rfl,hE⟩
   replace hF:=A9
   try dsimp only at hF
   refine bV hE ?_
   refine aV ?_
   exact⟨m7,dM _,_,_,_,_,v34,FB,aK,aJ,hF⟩
 refine bE ?_
 refine bD rfl (bz (g:=true) kE.h jQ.h bi (vs:=[(sv c5)]) rfl rfl rfl (by intro v hv; simp at hv; rcases hv with rfl<;>rfl)) (fun EZ=>?_)
 refine bX (.cons .h .nil) (bB (Ro:=(ay rdStr)) (E:=9) (F:=([]++[])) (xs:=([c5]:List (List UInt8))) (aY (bF (fun _=>rfl)) bA aR) rfl rfl) ?_
 refine bnd hF fun z39 nD hF=>aZ (.cons (.t .h) (.cons .h .nil)) (dH (Ro:=(ay rdStr)) kE.h AU jQ.h rfl rfl rfl (.tmp rfl rfl) (.tmp rfl rfl) nD dS) (fun p41=>?_)
 refine aU ?_
 cases hF
 exact Er (p41.1,p41.2)
def qO(aa:List UInt8)(fuel:Nat):Nat->Int->Int->Int->Option (Int×Bool)
 |0,_,_,_=>none
 |m4+1,c1,c2,c3=>if ((decide ((c3:Int)<(aa.length:Int)))&&(decide ((c3:Int)<11)))then (
     (((ix aa c3).bind fun BD=>
         bif (decide ((48:Int)<=(BD.toNat:Int)))then ((ix aa c3).bind fun u23=>
           some (decide (((u23.toNat:Int):Int)<=57)))
         else (some false)).bind fun o16=>
       match o16 with
       |lG=>if lG then (
           (ix aa c3).bind fun u28=>
           some ((IntKind.i64.wrap ((IntKind.i64.wrap (c1*10))+(IntKind.i64.wrap (IntKind.u8.wrap ((u28.toNat:Int)-48))))),(IntKind.i64.wrap (c2+1))))
         else (
           some (c1,c2))).bind fun tJ=>
     match tJ with
     |(c34,iX)=>qO aa fuel m4 c34 iX (IntKind.i64.wrap (c3+1)))
   else (
     (bif (decide ((0:Int)<(aa.length:Int)))then ((ix aa 0).bind fun u40=>
         some (((u40.toNat:Int):Int)==45))
       else (some false)).bind fun FC=>
     match FC with
     |jR=>if jR then (
         (bif (decide ((9:Int)<c2))then (some true)
           else (bif (decide ((10:Int)<(aa.length:Int)))then (some true)
             else ((kr fuel (IntKind.i64.wrap (-c1))).bind fun tO=>
               some (!(tO==aa))))).bind fun FE=>
         match FE with
         |oV=>if oV then (
             some (0,false))
           else (
             some ((IntKind.i64.wrap (-c1)),true)))
       else (
         (bif (decide ((9:Int)<c2))then (some true)
           else (bif (decide ((10:Int)<(aa.length:Int)))then (some true)
             else ((kr fuel c1).bind fun y8=>
               some (!(y8==aa))))).bind fun FH=>
         match FH with
         |kP=>if kP then (
             some (0,false))
           else (
             some (c1,true))))
def zQ(fuel:Nat)(aa:List UInt8):Option (Int×Bool):=
 qO aa fuel (((aa.length:Int)-0).toNat+2) 0 0 0
theorem M_{fuel:Nat}{aa:List UInt8}{R:Int×Bool}(hF:zQ fuel aa=some R):
   Fw.Spec Tryz.prog 105 [(sv aa)] [] (fun _:Unit=>(.tuple [(zi R.1),(.bool R.2)].toArray)) (fun _=>[]):=by
 refine Se 61 Tryz.func105 [.tmp 2,.tmp 3] ?_
 intro H0 F0
 unfold zQ at hF
 refine Dn ?_
 refine bN (dG (m:=(((aa.length:Int)-0).toNat+2)) (fun m4 f' cs'=>∃(g:Fr)(c1 c2 c3:Int),f'=aX g [(0,(sv aa)),(4,(zi c1)),(5,(zi c2)),(6,(zi c3))]/\aT cs' []/\qO aa fuel m4 c1 c2 c3=some R) ⟨_,_,_,_,aK,aJ,hF⟩ ?_)
 rintro m4 _ _ ⟨g5,c1,c2,c3,rfl,hE,hF⟩
 refine bV hE ?_
 rcases m4 with _|m4
 · rw[qO]at hF
   exact absurd hF (by simp)
 rw[qO]at hF
 refine aG ?_
 refine fJ (fun f' cs'=>∃(g:Fr),f'=aX g [(0,(sv aa)),(4,(zi c1)),(5,(zi c2)),(6,(zi c3)),(14,(.bool ((decide ((c3:Int)<(aa.length:Int)))&&(decide ((c3:Int)<11)))))]/\aT cs' []) ?_ ?_
 · refine aG ?_
   refine ax (gm (s:=aa) dw (.tmp rfl rfl)) ?_
   refine aG ?_
   rcases dL (decide ((c3:Int)<(aa.length:Int)))with jd|jd
   · rw[jd]
     try rw[jd]at hF; dsimp only[bu,bq]at hF
     refine bC ?_
     exact⟨_,aK,aJ⟩
   rw[jd]
   try rw[jd]at hF; dsimp only[bu,bq]at hF
   refine aM ?_
   exact⟨_,aK,aJ⟩
 rintro _ _ ⟨g13,rfl,hE⟩
 refine bV hE ?_
 refine Ci hF (fun Vz hF=>?_) (fun Vz hF=>?_)
 · refine au ?_
   obtain⟨tJ,Dq,Ei⟩:=bind_some hF
   refine jW (fun f' cs'=>∃(c34 iX:Int)(g:Fr),tJ=(c34,iX)/\f'=aX g [(0,(sv aa)),(4,(zi c34)),(5,(zi iX)),(6,(zi c3))]/\aT cs' []) ?_ ?_
   · replace hF:=Dq
     refine bN ?_
     obtain⟨o16,Sb,VA⟩:=bind_some hF
     refine au ?_
     refine fJ (fun f' cs'=>∃(lG:Bool)(g:Fr),lG=o16/\f'=aX g [(0,(sv aa)),(4,(zi c1)),(5,(zi c2)),(6,(zi c3)),(26,(.bool lG))]/\aT cs' []) ?_ ?_
     · replace hF:=Sb
       refine aG ?_
       refine zI hF fun BD VB nE hF=>?_
       refine ax (lN (u:=BD) dw (.tmp rfl rfl) (.tmp rfl rfl) VB nE) ?_
       refine aG ?_
       rcases dL (decide ((48:Int)<=(BD.toNat:Int)))with mi|mi
       · rw[mi]
         try rw[mi]at hF; dsimp only[bu,bq]at hF
         refine aV ?_
         refine zI hF fun u23 VC j3 hF=>?_
         refine ax (lN (u:=u23) dw (.tmp rfl rfl) (.tmp rfl rfl) VC j3) ?_
         exact dh hF
       rw[mi]
       try rw[mi]at hF; dsimp only[bu,bq]at hF
       exact dh hF
     rintro _ _ ⟨lG,WE,rfl,rfl,hE⟩
     replace hF:=VA
     try dsimp only at hF
     refine bV hE ?_
     refine Ci hF (fun kG hF=>?_) (fun kG hF=>?_)
     · refine aV ?_
       refine zI hF fun u28 VD hx31 hF=>?_
       refine ax (lN (u:=u28) dw (.tmp rfl rfl) (.tmp rfl rfl) VD hx31) ?_
       refine au ?_
       refine ax (Cr (i:=(IntKind.u8.wrap ((u28.toNat:Int)-48))) iD ko (.tmp rfl rfl)) ?_
       exact KC hF
     exact KC hF
   rintro _ _ ⟨c34,iX,Lb,rfl,rfl,hE⟩
   replace hF:=Ei
   try dsimp only at hF
   refine bV hE ?_
   refine aV ?_
   exact⟨m4,dM _,_,_,_,_,aK,aJ,hF⟩
 refine aV ?_
 obtain⟨FC,Sc,VE⟩:=bind_some hF
 refine au ?_
 refine fJ (fun f' cs'=>∃(jR:Bool)(g:Fr),jR=FC/\f'=aX g [(0,(sv aa)),(4,(zi c1)),(5,(zi c2)),(44,(.bool jR))]/\aT cs' []) ?_ ?_
 · replace hF:=Sc
   refine au ?_
   refine ax (gm (s:=aa) dw (.tmp rfl rfl)) ?_
   refine aG ?_
   rcases dL (decide ((0:Int)<(aa.length:Int)))with yA|yA
   · rw[yA]
     try rw[yA]at hF; dsimp only[bu,bq]at hF
     refine aU ?_
     refine zI hF fun u40 VF mf hF=>?_
     refine ax (lN (u:=u40) dw (.tmp rfl rfl) (.int _ _) VF mf) ?_
     exact dh hF
   rw[yA]
   try rw[yA]at hF; dsimp only[bu,bq]at hF
   exact dh hF
 rintro _ _ ⟨jR,g66,rfl,rfl,hE⟩
 replace hF:=VE
 try dsimp only at hF
 refine bV hE ?_
 refine Ci hF (fun Em hF=>?_) (fun Em hF=>?_)
 · refine aG ?_
   refine ax (J7 (i:=c1) (.tmp rfl rfl)) ?_
   refine aU ?_
   obtain⟨FE,Sd,VG⟩:=bind_some hF
   refine au ?_
   refine fJ (fun f' cs'=>∃(oV:Bool)(g:Fr),oV=FE/\f'=aX g [(4,(zi (IntKind.i64.wrap (-c1)))),(59,(.bool oV))]/\aT cs' []) ?_ ?_
   · replace hF:=Sd
     refine aU ?_
     rcases dL (decide ((9:Int)<c2))with yB|yB
     · rw[yB]
       try rw[yB]at hF; dsimp only[bu,bq]at hF
       exact dh hF
     rw[yB]
     try rw[yB]at hF; dsimp only[bu,bq]at hF
     refine aU ?_
     refine ax (gm (s:=aa) dw (.tmp rfl rfl)) ?_
     refine aM ?_
     rcases dL (decide ((10:Int)<(aa.length:Int)))with yC|yC
     · rw[yC]
       try rw[yC]at hF; dsimp only[bu,bq]at hF
       exact dh hF
     rw[yC]
     try rw[yC]at hF; dsimp only[bu,bq]at hF
     refine aU ?_
     refine bnd hF fun tO vw hF=>dF (vZ vw) (fun _=>?_)
     refine aU ?_
     refine ax (uU (s:=tO) (t:=aa) (.tmp rfl rfl) (.tmp rfl rfl)) ?_
     exact dh hF
   rintro _ _ ⟨oV,WC,rfl,rfl,hE⟩
   replace hF:=VG
   try dsimp only at hF
   refine bV hE ?_
   refine Ci hF (fun VH hF=>?_) (fun VH hF=>?_)
   · exact ze hF
   exact ze hF
 refine aG ?_
 obtain⟨FH,Sg,VI⟩:=bind_some hF
 refine au ?_
 refine fJ (fun f' cs'=>∃(kP:Bool)(g:Fr),kP=FH/\f'=aX g [(4,(zi c1)),(59,(.bool kP))]/\aT cs' []) ?_ ?_
 · replace hF:=Sg
   refine aU ?_
   rcases dL (decide ((9:Int)<c2))with yD|yD
   · rw[yD]
     try rw[yD]at hF; dsimp only[bu,bq]at hF
     exact dh hF
   rw[yD]
   try rw[yD]at hF; dsimp only[bu,bq]at hF
   refine aU ?_
   refine ax (gm (s:=aa) dw (.tmp rfl rfl)) ?_
   refine aM ?_
   rcases dL (decide ((10:Int)<(aa.length:Int)))with yE|yE
   · rw[yE]
     try rw[yE]at hF; dsimp only[bu,bq]at hF
     exact dh hF
   rw[yE]
   try rw[yE]at hF; dsimp only[bu,bq]at hF
   refine aU ?_
   refine bnd hF fun y8 A_ hF=>dF (vZ A_) (fun _=>?_)
   refine aU ?_
   refine ax (uU (s:=y8) (t:=aa) (.tmp rfl rfl) (.tmp rfl rfl)) ?_
   exact dh hF
 rintro _ _ ⟨kP,g64,rfl,rfl,hE⟩
 replace hF:=VI
 try dsimp only at hF
 refine bV hE ?_
 refine Ci hF (fun Et hF=>?_) (fun Et hF=>?_)
 · exact ze hF
 exact ze hF
def uM(fuel:Nat)(aa:List UInt8):Option (Int):=
 (zQ fuel aa).bind fun r1=>
 if (!r1.2)then (
   some (-100000))
 else (
   some r1.1)
theorem Hu{fuel:Nat}{aa:List UInt8}{R:Int}(hF:uM fuel aa=some R):
   Fw.Spec Tryz.prog 66 [(sv aa)] [] (fun _:Unit=>(zi R)) (fun _=>[]):=by
 refine Se 13 Tryz.func66 [.tmp 2] ?_
 intro H0 F0
 unfold uM at hF
 refine aV ?_
 refine bnd hF fun r1 hx2 hF=>dF (M_ hx2) (fun _=>?_)
 refine au ?_
 refine zx ?_
 refine zx ?_
 refine g_ ?_
 refine Ci hF (fun hb4 hF=>?_) (fun hb4 hF=>?_)
 · exact ze hF
 exact ze hF
def qH(fuel:Nat)(jG:Int):List (List UInt8)->Nat->(List Int)->Option (Sum (ak) (Unit))
 |[],oW,tQ=>some (.inl (⟨jG,tQ⟩:ak))
 |Lr::oq,oW,tQ=>(uM fuel Lr).bind fun Ba=>
   (app tQ ([Ba]:List Int)).bind fun z107=>
   qH fuel jG oq (oW+1) z107
def o8(aa:List UInt8)(fuel:Nat):Nat->Int->Option (ak)
 |0,_=>none
 |m3+1,c2=>if (decide ((c2:Int)<(aa.length:Int)))then (
     ((((ix aa c2).bind fun BF=>
         bif (((BF.toNat:Int):Int)==40)then ((ix aa (IntKind.i64.wrap ((aa.length:Int)-1))).bind fun u20=>
           bif (((u20.toNat:Int):Int)==41)then ((ix aa 0).bind fun u25=>
             some (((u25.toNat:Int):Int)==109))
           else (some false))
         else (some false)).bind fun FI=>
       match FI with
       |gU=>if gU then (
           (fP (decide (0<=(1:Int))&&decide ((1:Int)<=c2)&&decide (c2<=((aa).length:Int)))).bind fun u31=>
           (uM fuel ((aa.take (c2).toNat).drop ((1:Int)).toNat)).bind fun jG=>
           (fP (decide (0<=(IntKind.i64.wrap (c2+1)))&&decide ((IntKind.i64.wrap (c2+1))<=(IntKind.i64.wrap ((aa.length:Int)-1)))&&decide ((IntKind.i64.wrap ((aa.length:Int)-1))<=((aa).length:Int)))).bind fun u38=>
           if (((aa.take ((IntKind.i64.wrap ((aa.length:Int)-1))).toNat).drop ((IntKind.i64.wrap (c2+1))).toNat)==[])then (
             some (.inl (⟨jG,[]⟩:ak)))
           else (
             (xh ((aa.take ((IntKind.i64.wrap ((aa.length:Int)-1))).toNat).drop ((IntKind.i64.wrap (c2+1))).toNat) (44:UInt8)).bind fun oQ=>
             qH fuel jG oQ 0 ([]:List Int)))
         else (
           some (.inr ()))):Option (Sum (ak) (Unit))).bind fun BG=>
     match BG with
     | .inl r=>some r
     | .inr _=>o8 aa fuel m3 (IntKind.i64.wrap (c2+1)))
   else (
     some (⟨(-1),[]⟩:ak))
def pu(fuel:Nat)(aa:List UInt8):Option (ak):=
 o8 aa fuel (((aa.length:Int)-0).toNat+2) 0
theorem MZ{fuel:Nat}{aa:List UInt8}{R:ak}(hF:pu fuel aa=some R):
   Fw.Spec Tryz.prog 44 [(sv aa)] [] (fun p:Sv×List Nat=>(zg [(zi R.Method),p.1.v])) (fun p=>[d_ p.2 p.1 R.Values]):=by
 refine Se 66 Tryz.func44 [.cell 2 34] ?_
 intro H0 F0
 unfold pu at hF
 refine au ?_
 refine iC (fun k1=>?_)
 refine aV ?_
 refine bN (dG (m:=(((aa.length:Int)-0).toNat+2)) (fun m3 f' cs'=>∃(g:Fr)(c2:Int),f'=aX g [(0,(sv aa)),(2,(pz k1)),(3,(zi c2))]/\aT cs' [bK k1 34 (zg [(zi 0),(.slice none 0 0)])]/\o8 aa fuel m3 c2=some R) ⟨_,_,aK,aJ,hF⟩ ?_)
 rintro m3 _ _ ⟨g4,c2,rfl,hE,hF⟩
 refine bV hE ?_
 rcases m3 with _|m3
 · rw[o8]at hF
   exact absurd hF (by simp)
 rw[o8]at hF
 refine aM ?_
 refine ax (gm (s:=aa) dw (.tmp rfl rfl)) ?_
 refine aG ?_
 refine Ci hF (fun Si hF=>?_) (fun Si hF=>?_)
 · refine au ?_
   obtain⟨BG,Sj,Ew⟩:=bind_some hF
   refine jW (fun f' cs'=>∃(g:Fr),BG= .inr ()/\f'=aX g [(0,(sv aa)),(2,(pz k1)),(3,(zi c2))]/\aT cs' [bK k1 34 (zg [(zi 0),(.slice none 0 0)])]) ?_ ?_
   · replace hF:=Sj
     refine bN ?_
     obtain⟨FI,Sk,VJ⟩:=bind_some hF
     refine au ?_
     refine fJ (fun f' cs'=>∃(gU:Bool)(g:Fr),gU=FI/\f'=aX g [(0,(sv aa)),(2,(pz k1)),(3,(zi c2)),(30,(.bool gU))]/\aT cs' [bK k1 34 (zg [(zi 0),(.slice none 0 0)])]) ?_ ?_
     · replace hF:=Sk
       refine aG ?_
       refine zI hF fun BF x_ fw hF=>?_
       refine ax (lN (u:=BF) dw (.tmp rfl rfl) (.tmp rfl rfl) x_ fw) ?_
       refine aG ?_
       rcases dL (((BF.toNat:Int):Int)==40)with yF|yF
       · rw[yF]
         try rw[yF]at hF; dsimp only[bu,bq]at hF
         refine aV ?_
         refine ax (gm (s:=aa) dw (.tmp rfl rfl)) ?_
         refine aU ?_
         refine zI hF fun u20 VK iQ hF=>?_
         refine ax (lN (u:=u20) dw (.tmp rfl rfl) (.tmp rfl rfl) VK iQ) ?_
         refine aM ?_
         rcases dL (((u20.toNat:Int):Int)==41)with yG|yG
         · rw[yG]
           try rw[yG]at hF; dsimp only[bu,bq]at hF
           refine aU ?_
           refine zI hF fun u25 VL hx28 hF=>?_
           refine ax (lN (u:=u25) dw (.tmp rfl rfl) (.int _ _) VL hx28) ?_
           exact dh hF
         rw[yG]
         try rw[yG]at hF; dsimp only[bu,bq]at hF
         exact dh hF
       rw[yF]
       try rw[yF]at hF; dsimp only[bu,bq]at hF
       exact dh hF
     rintro _ _ ⟨gU,YU,rfl,rfl,hE⟩
     replace hF:=VJ
     try dsimp only at hF
     refine bV hE ?_
     refine Ci hF (fun Sl hF=>?_) (fun Sl hF=>?_)
     · refine aU ?_
       refine bnd hF fun u31 hx32 hF=>?_
       have Bb:=iy hx32
       simp only[Bool.and_eq_true,decide_eq_true_eq]at Bb
       refine ax (Cv (s:=aa) (i:=(1:Int)) (j:=c2) dw (.tmp rfl rfl) (.int _ _) (.tmp rfl rfl) Bb.1.1 Bb.1.2 Bb.2) ?_
       refine bnd hF fun jG hx34 hF=>dF (Hu hx34) (fun _=>?_)
       refine ax (kw bQ.h rfl (vs:=[(zi jG)]) bi (cells:=[(zi jG),(.slice none 0 0)]) rfl) ?_
       refine iC (fun Fe=>?_)
       refine As (zg [(zi jG),(.slice none 0 0)]) ?_
       refine bC ?_
       refine ax (gm (s:=aa) dw (.tmp rfl rfl)) ?_
       refine au ?_
       refine bnd hF fun u38 hx39 hF=>?_
       have Bc:=iy hx39
       simp only[Bool.and_eq_true,decide_eq_true_eq]at Bc
       refine ax (Cv (s:=aa) (i:=(IntKind.i64.wrap (c2+1))) (j:=(IntKind.i64.wrap ((aa.length:Int)-1))) dw (.tmp rfl rfl) (.tmp rfl rfl) (.tmp rfl rfl) Bc.1.1 Bc.1.2 Bc.2) ?_
       refine aV ?_
       refine ax (kZ (s:=((aa.take ((IntKind.i64.wrap ((aa.length:Int)-1))).toNat).drop ((IntKind.i64.wrap (c2+1))).toNat)) (t:=[]) (.tmp rfl rfl) (.sv _)) ?_
       refine au ?_
       refine Ci hF (fun Sm hF=>?_) (fun Sm hF=>?_)
       · refine aG ?_
         refine As (zg [(zi jG),(.slice none 0 0)]) ?_
         refine aG ?_
         cases hF
         replace hF:=Ew
         try dsimp only at hF
         cases hF
         exact fq (⟨none,0,0⟩,[]) (.cellA rfl rfl .h rfl ja.h bQ.h.sz rfl rfl .nil) rfl (.conv .nil (jq (Ro:=(ay aF)) (E:=3)) (.cons .nil) (.sel (.cons .h .nil)))
       refine aU ?_
       refine bnd hF fun oQ yg hF=>cu (Ht yg) (fun p42=>?_)
       refine bC ?_
       refine bN (xB .h bU ?_)
       refine dG (m:=oQ.length) (fun Ls f' cs'=>∃(g:Fr)(oW:Nat)(oq:List (List UInt8))(tQ:List Int)(v87:Sv)(FJ:List Nat),Ls=oq.length/\f'=aX g [(2,(pz k1)),(4,(pz Fe)),(6,p42.1.v),(7,(zi (oW:Int)))]/\List.drop oW oQ=oq/\aT cs' [bK k1 34 (zg [(zi 0),(.slice none 0 0)]),bK Fe 34 (zg [(zi jG),v87.v]),d_ FJ v87 tQ,oO p42.1 oQ]/\qH fuel jG oq oW tQ=some BG) ⟨_,0,_,_,⟨none,0,0⟩,[],rfl,aK,rfl,(.conv .nil (jq (Ro:=(ay aF)) (E:=3)) (.cons .nil) aJ),hF⟩ ?_
       rintro Ls _ _ ⟨g91,oW,oq,tQ,v87,FJ,rfl,rfl,hd95,hE,hF⟩
       refine Kb hE oQ (fun WS=>?_)
       rcases oq with _|⟨Lr,oq⟩
       · have VM:=dn hd95
         rw[qH]at hF
         refine bE ?_
         refine fZ ?_
         refine bC ?_
         refine As (zg [(zi jG),v87.v]) ?_
         refine aG ?_
         cases hF
         replace hF:=Ew
         try dsimp only at hF
         cases hF
         exact Er (v87,FJ)
       obtain⟨VM,VN,hd98⟩:=fQ hd95
       rw[qH]at hF
       refine bE ?_
       refine fV ?_
       refine aG ?_
       refine mW [0,1,2,3,4,5,6,7,8,9,10] [0,1,0,0,12,28,60,124,255,511,1023] [6,8,10] mixed (by decide+kernel) ?_
       refine du ?_
       refine iJ rfl .no (.t .h) (fun ha hp=>fD (v:=v87.v) jL.h (EN ha (.tmp rfl rfl) rfl) hp.2 rfl rfl) ?_
       refine dQ ?_
       refine Di VN (fun YV YW=>?_)
       refine Dl Az ?_
       refine bnd hF fun Ba hx104 hF=>JA rfl rfl .no .nil (.own .q2 (fun _ h=>h) .nil) (fun ha=>bG Ui.h (.cons (EN ha (.tmp rfl rfl) rfl) .nil) (Hu hx104)) (fun _=>?_)
       refine lc rfl .no rfl (fun ha=>bz (g:=true) (len:=1) (parts:=[(0,.tmp 60)]) bI.h bH.h (.cons (EN ha (.tmp rfl rfl) rfl) .nil) (vs:=[(zi Ba)]) rfl rfl rfl (by intro v hv; simp at hv; rcases hv with rfl<;>rfl)) (fun YX=>?_)
       refine mD (.cons .h .nil) (bB (Ro:=(ay aF)) (E:=3) (F:=([]++[])) (xs:=([Ba]:List Int)) (aY (bF (fun _=>rfl)) bA aR) rfl rfl) ?_
       refine bnd hF fun z107 Sn hF=>gI rfl rfl .no (.cons .q4 (.cons .h .nil)) (.dep rfl (.dep rfl .nil)) (fun ha=>dH (Ro:=(ay aF)) bI.h gK bH.h rfl rfl rfl (EN ha (.tmp rfl rfl) rfl) (EN ha (.tmp rfl rfl) rfl) Sn dS) (fun Ex=>?_)
       refine du ?_
       refine gI rfl rfl .no (.cons .q3 .nil) (.dep rfl (.dep rfl .nil)) (fun ha=>fH (e':=(zg [(zi jG),Ex.1.v])) rR.h.sz (EN ha (.tmp rfl rfl) rfl) (EN ha (.tmp rfl rfl) rfl) rfl rfl rfl rfl rfl) (fun _=>?_)
       refine du ?_
       refine aV ?_
       rw[wk oW]
       exact⟨_,dM _,_,oW+1,oq,_,Ex.1,Ex.2,rfl,aK,hd98,aJ,hF⟩
     refine au ?_
     cases hF
     exact⟨_,rfl,aK,aJ⟩
   rintro _ _ ⟨YY,rfl,rfl,hE⟩
   replace hF:=Ew
   try dsimp only at hF
   refine bV hE ?_
   refine aV ?_
   exact⟨m3,dM _,_,_,aK,aJ,hF⟩
 refine aV ?_
 refine ax (kw bQ.h rfl (vs:=[(zi (-1))]) (.cons (.int _ _) .nil) (cells:=[(zi (-1)),(.slice none 0 0)]) rfl) ?_
 refine As (zg [(zi (-1)),(.slice none 0 0)]) ?_
 refine aG ?_
 cases hF
 exact fq (⟨none,0,0⟩,[]) (.cellA rfl rfl .h rfl ja.h bQ.h.sz rfl rfl .nil) rfl (.conv .nil (jq (Ro:=(ay aF)) (E:=3)) (.cons .nil) (.sel (.cons .h .nil)))
def qP(aa:List UInt8)(r4:(List (List UInt8)))(fuel:Nat):Nat->(List ak)->Int->Option ((List ak)×Bool)
 |0,_,_=>none
 |m11+1,c7,c10=>if (decide ((c10:Int)<(r4.length:Int)))then (
     (ix r4 c10).bind fun FK=>
     (pu fuel FK).bind fun jF=>
     (app c7 ([jF]:List ak)).bind fun z31=>
     qP aa r4 fuel m11 z31 (IntKind.i64.wrap (c10+1)))
   else (
     (lL fuel c7).bind fun FL=>
     if (!(FL==aa))then (
       some (([]:List ak),false))
     else (
       some (c7,true)))
def wN(fuel:Nat)(aa:List UInt8):Option ((List ak)×Bool):=
 if ((aa==[110,111,110,101])||(aa==[]))then (
   some (([]:List ak),(!(aa==[]))))
 else (
   (xh aa (32:UInt8)).bind fun r4=>
   qP aa r4 fuel (((r4.length:Int)-0).toNat+2) ([]:List ak) 0)
theorem Na{fuel:Nat}{aa:List UInt8}{R:(List ak)×Bool}(hF:wN fuel aa=some R):
   Fw.Spec Tryz.prog 16 [(sv aa)] [] (fun p:Sv×List Nat=>(.tuple [p.1.v,(.bool R.2)].toArray)) (fun p=>[jb p.2 p.1 R.1]):=by
 refine Se 41 Tryz.func16 [.tmp 2,.tmp 3] ?_
 intro H0 F0
 unfold wN at hF
 refine aV ?_
 refine bD rfl (bz (g:=true) fM.h bQ.h .nil (vs:=[]) rfl rfl rfl (by simp)) (fun k1=>?_)
 refine bX (.cons .h .nil) (bB (Ro:=fA) (E:=34) (F:=[]) (xs:=([]:List ak)) bA rfl rfl) ?_
 refine aM ?_
 refine fJ (fun f' cs'=>∃(g:Fr),f'=aX g [(0,(sv aa)),(4,(.slice (some ⟨k1,0,none⟩) 0 1)),(14,(.bool ((aa==[110,111,110,101])||(aa==[]))))]/\aT cs' [aS (aH 34 fA) (k1::[]) (.slice (some ⟨k1,0,none⟩) 0 1) ([]:List ak)]) ?_ ?_
 · refine au ?_
   refine ax (kZ (s:=aa) (t:=[110,111,110,101]) (.tmp rfl rfl) (.sv _)) ?_
   refine au ?_
   rcases dL (aa==[110,111,110,101])with hg2|hg2
   · rw[hg2]
     try rw[hg2]at hF; dsimp only[bu,bq]at hF
     refine aM ?_
     exact⟨_,aK,aJ⟩
   rw[hg2]
   try rw[hg2]at hF; dsimp only[bu,bq]at hF
   refine aU ?_
   refine ax (kZ (s:=aa) (t:=[]) (.tmp rfl rfl) (.sv _)) ?_
   refine aG ?_
   exact⟨_,aK,aJ⟩
 rintro _ _ ⟨g3,rfl,hE⟩
 refine bV hE ?_
 refine Ci hF (fun DW hF=>?_) (fun DW hF=>?_)
 · refine aU ?_
   refine ax (uU (s:=aa) (t:=[]) (.tmp rfl rfl) (.sv _)) ?_
   refine aM ?_
   cases hF
   exact Er (⟨(some ⟨k1,0,none⟩),0,1⟩,(k1::[]))
 refine aU ?_
 refine bnd hF fun r4 hx5 hF=>cu (Ht hx5) (fun p6=>?_)
 refine bC ?_
 refine bN (dG (m:=(((r4.length:Int)-0).toNat+2)) (fun m11 f' cs'=>∃(g:Fr)(c7:List ak)(c10:Int)(v8:Sv)(F9:List Nat),f'=aX g [(0,(sv aa)),(4,v8.v),(5,p6.1.v),(6,(zi c10))]/\aT cs' [jb F9 v8 c7,vJ p6.2 p6.1 r4]/\qP aa r4 fuel m11 c7 c10=some R) ⟨_,_,_,⟨(some ⟨k1,0,none⟩),0,1⟩,(k1::[]),aK,aJ,hF⟩ ?_)
 rintro m11 _ _ ⟨g12,c7,c10,v8,F9,rfl,hE,hF⟩
 refine bV hE ?_
 rcases m11 with _|m11
 · rw[qP]at hF
   exact absurd hF (by simp)
 rw[qP]at hF
 refine bE ?_
 refine Ci hF (fun DY hF=>?_) (fun DY hF=>?_)
 · refine aV ?_
   refine bnd hF fun FK iQ hF=>?_
   have hi21:=Ag iQ
   obtain⟨YZ,hx25⟩:=nT iQ
   refine uQ kE.h jQ.h.sz (.tmp rfl rfl) (.tmp rfl rfl) (.t .h) hi21 (fun k19 VO=>?_)
   refine Au (w:=(sv FK)) Wi.h (.tmp rfl rfl) (.t .h) VO hx25 RP ?_
   refine bnd hF fun jF hx27 hF=>cu (MZ hx27) (fun p28=>?_)
   refine iC (fun Li=>?_)
   refine As (zg [(zi jF.Method),p28.1.v]) ?_
   refine aM ?_
   refine bD rfl (bz (g:=true) fM.h bQ.h bi (vs:=[(zg [(zi jF.Method),p28.1.v])]) rfl rfl rfl (by intro v hv; simp at hv; rcases hv with rfl<;>rfl)) (fun k30=>?_)
   refine bX (.cons .h (.cons (.t .h) .nil)) (bB (Ro:=fA) (E:=34) (F:=(p28.2++[])) (xs:=([jF]:List ak)) (aY xW bA aR) rfl rfl) ?_
   refine bnd hF fun z31 hx32 hF=>aZ (.cons .q2 (.cons .h .nil)) (dH (Ro:=fA) fM.h vv bQ.h rfl rfl rfl (.tmp rfl rfl) (.tmp rfl rfl) hx32 dS) (fun p33=>?_)
   refine bE ?_
   exact⟨m11,dM _,_,_,_,p33.1,p33.2,aK,aJ,hF⟩
 refine bE ?_
 refine bnd hF fun FL sD hF=>aZ (.cons .h .nil) (dW bU (fun _=>.nil) (bG AV.h bi (wh sD))) (fun _=>?_)
 refine au ?_
 refine ax (uU (s:=FL) (t:=aa) (.tmp rfl rfl) (.tmp rfl rfl)) ?_
 refine au ?_
 refine Ci hF (fun Ej hF=>?_) (fun Ej hF=>?_)
 · refine au ?_
   refine bD rfl (bz (g:=true) fM.h bQ.h .nil (vs:=[]) rfl rfl rfl (by simp)) (fun EU=>?_)
   refine bX (.cons .h .nil) (bB (Ro:=fA) (E:=34) (F:=[]) (xs:=([]:List ak)) bA rfl rfl) ?_
   refine aM ?_
   cases hF
   exact Er (⟨(some ⟨EU,0,none⟩),0,1⟩,(EU::[]))
 refine bE ?_
 cases hF
 exact Er (v8,F9)
def zy(fuel:Nat)(bv:List UInt8):Option ((List Method)×(List ak)×(List ak)×Int):=
 (uL fuel bv).bind fun r1=>
 if ((decide ((1:Int)<(r1.2.length:Int)))&&(((Int.tmod (bv.length:Int) 2):Int)==0))then (
   (fP (decide (0<=(1:Int))&&decide ((1:Int)<=(r1.2.length:Int)))).bind fun u7=>
   some (r1.1,r1.2,(r1.2.drop (1:Int).toNat),(Int.tmod (bv.length:Int) 3)))
 else (
   (app ([]:List ak) r1.2).bind fun Lt=>
   some (r1.1,r1.2,Lt,(Int.tmod (bv.length:Int) 3)))
theorem Mh{fuel:Nat}{bv:List UInt8}{ae:Sv}{R:(List Method)×(List ak)×(List ak)×Int}(hF:zy fuel bv=some R):
   Fw.Spec Tryz.prog 17 [ae.v] [dU ae bv] (fun p:Sv×List Nat×Sv×Sv=>(.tuple [p.1.v,p.2.2.1.v,p.2.2.2.v,(zi R.2.2.2)].toArray)) (fun p=>[nC p.2.1 p.1 R.1,dK p.2.2.1 R.2.1,dK p.2.2.2 R.2.2.1]):=by
 refine Se 37 Tryz.func17 [.tmp 2,.tmp 3,.tmp 4,.tmp 5] ?_
 intro H0 F0
 unfold zy at hF
 refine g_ ?_
 refine bnd hF fun r1 hx2 hF=>iN (.rd .h rfl .nil) (Qy (post':=fun p3:Sv×List Nat×Sv×List Nat=>[nC p3.2.1 p3.1 r1.1,dK p3.2.2.1 r1.2]) (fun p3=>(.frz (.t .h) bU aJ)) (bG TM.h bi (Ck hx2))) (fun p3=>?_)
 refine au ?_
 refine zx ?_
 refine zx ?_
 refine aV ?_
 refine fJ (fun f' cs'=>∃(g:Fr),f'=aX g [(0,ae.v),(6,p3.1.v),(7,p3.2.2.1.v),(21,(.bool ((decide ((1:Int)<(r1.2.length:Int)))&&(((Int.tmod (bv.length:Int) 2):Int)==0))))]/\aT cs' [dU ae bv,nC p3.2.1 p3.1 r1.1,dK p3.2.2.1 r1.2]) ?_ ?_
 · refine aM ?_
   rcases dL (decide ((1:Int)<(r1.2.length:Int)))with hg4|hg4
   · rw[hg4]
     try rw[hg4]at hF; dsimp only[bu,bq]at hF
     refine aV ?_
     refine ax (lX (i:=(bv.length:Int)) (j:=2) (.tmp rfl rfl) (.int _ _) (by decide)) ?_
     refine aM ?_
     exact⟨_,aK,aJ⟩
   rw[hg4]
   try rw[hg4]at hF; dsimp only[bu,bq]at hF
   refine bC ?_
   exact⟨_,aK,aJ⟩
 rintro _ _ ⟨g5,rfl,hE⟩
 refine bV hE ?_
 refine Ci hF (fun El hF=>?_) (fun El hF=>?_)
 · refine gH [0,1,2,3,4,5,6,7,8,9,10] [0,0,0,4,0,16,48,1,131,399,1023] [] mixed (by decide+kernel) ?_
   refine jA ?_
   refine bnd hF fun u7 fC hF=>?_
   have hc6:=iy fC
   simp only[Bool.and_eq_true,decide_eq_true_eq]at hc6
   refine Oj fM.h bQ.h.sz rfl .no (.tmp rfl rfl) (.int _ _) rfl rfl .q2 hc6.1 hc6.2 (fun w8=>?_)
   refine dQ ?_
   refine bY rfl .no (fun ha=>lX (i:=(bv.length:Int)) (j:=3) (EN ha (.tmp rfl rfl) rfl) (EN ha (.int _ _) rfl) (by decide)) ?_
   refine DF ?_
   refine au ?_
   cases hF
   exact Er (p3.1,p3.2.1,p3.2.2.1,w8)
 refine aM ?_
 refine bD rfl (bz (g:=true) fM.h bQ.h .nil (vs:=[]) rfl rfl rfl (by simp)) (fun k10=>?_)
 refine bX (.cons .h .nil) (bB (Ro:=(ay jY)) (E:=34) (F:=[]) (xs:=([]:List ak)) bA rfl rfl) ?_
 refine au ?_
 refine bnd hF fun Lt r_ hF=>aZ (.cons .h (.rd .q2 rfl .nil)) (dH (Ro:=(ay jY)) fM.h vv bQ.h rfl rfl rfl (.tmp rfl rfl) (.tmp rfl rfl) r_ xn) (fun Bt=>?_)
 refine aG ?_
 refine ax (lX (i:=(bv.length:Int)) (j:=3) (.tmp rfl rfl) (.int _ _) (by decide)) ?_
 refine bC ?_
 cases hF
 exact fq (p3.1,p3.2.1,p3.2.2.1,Bt.1) (.tmp rfl rfl (.tmp rfl rfl (.tmp rfl rfl (.tmp rfl rfl .nil)))) rfl (.frz .h bU (.sel (.cons .q2 (.rd .q2 rfl (.rd .h rfl .nil)))))
def qy(gL:List Int):List Int->Nat->Option (Bool)
 |[],k4=>some true
 |x6::aW,k4=>(ix gL (k4:Int)).bind fun iG=>
   if ((x6:Int)!=iG)then (
     some false)
   else (
     qy gL aW (k4+1))
def zm(gM:List Int)(gL:List Int):Option (Bool):=
 if (((gM.length:Int):Int)!=(gL.length:Int))then (
   some false)
 else (
   qy gL gM 0)
theorem LV{gM:List Int}{ae:Sv}{gL:List Int}{aN:Sv}{R:Bool}(hF:zm gM gL=some R):
   Fw.Spec Tryz.prog 106 [ae.v,aN.v] [b_ ae gM,b_ aN gL] (fun _:Unit=>(.bool R)) (fun _=>[]):=by
 refine Se 26 Tryz.func106 [.tmp 4] ?_
 intro H0 F0
 unfold zm at hF
 refine lY ?_
 refine Ci hF (fun sj hF=>?_) (fun sj hF=>?_)
 · exact ze hF
 refine bE ?_
 refine bN (dG (m:=gM.length) (fun m2 f' cs'=>∃(g:Fr)(k4:Nat)(aW:List Int),m2=aW.length/\f'=aX g [(0,ae.v),(1,aN.v),(12,(zi (gM.length:Int))),(13,(zi (k4:Int)))]/\List.drop k4 gM=aW/\aT cs' [b_ ae gM,b_ aN gL]/\qy gL aW k4=some R) ⟨_,0,_,rfl,aK,rfl,aJ,hF⟩ ?_)
 rintro m2 _ _ ⟨g3,k4,aW,rfl,rfl,hd7,hE,hF⟩
 refine Kb hE gM (fun pX=>?_)
 rcases aW with _|⟨x6,aW⟩
 · have jk:=dn hd7
   rw[qy]at hF
   refine aM ?_
   refine fZ ?_
   exact ze hF
 obtain⟨jk,fC,jc⟩:=fQ hd7
 rw[qy]at hF
 refine aM ?_
 refine fV ?_
 refine bC ?_
 refine gH [0,1,2,3,4,5,6,7,8] [0,0,3,7,0,0,48,112,255] [] mixed (by decide+kernel) ?_
 refine dQ ?_
 refine Di fC (fun k13 tu=>?_)
 refine Dl gJ ?_
 refine dQ ?_
 refine zI hF fun iG x_ fw hF=>?_
 refine Di fw (fun k19 ET=>?_)
 refine Dl gJ ?_
 refine dQ ?_
 refine Ci hF (fun rW hF=>?_) (fun rW hF=>?_)
 · exact ze hF
 refine aV ?_
 rw[wk k4]
 exact⟨_,dM _,_,k4+1,aW,rfl,aK,jc,aJ,hF⟩
def uk(aC:ak)(bg:ak):Option (Bool):=
 (bif ((aC.Method:Int)==bg.Method)then ((zm aC.Values bg.Values).bind fun r6=>
     some r6)
   else (some false)).bind fun o3=>
 match o3 with
 |c9=>some c9
theorem MK{aC:ak}{eZ:Sv}{bg:ak}{fF:Sv}{R:Bool}(hF:uk aC bg=some R):
   Fw.Spec Tryz.prog 70 [(zg [(zi aC.Method),eZ.v]),(zg [(zi bg.Method),fF.v])] [b_ eZ aC.Values,b_ fF bg.Values] (fun _:Unit=>(.bool R)) (fun _=>[]):=by
 refine Se 17 Tryz.func70 [.tmp 4] ?_
 intro H0 F0
 unfold uk at hF
 refine au ?_
 refine j_ (fun k1=>?_)
 refine j_ (fun k2=>?_)
 refine aG ?_
 obtain⟨o3,D_,hO4⟩:=bind_some hF
 refine au ?_
 refine fJ (fun f' cs'=>∃(c9:Bool)(g:Fr),c9=o3/\f'=aX g [(4,(.bool c9))]/\aT cs' []) ?_ ?_
 · replace hF:=D_
   refine bC ?_
   rcases dL ((aC.Method:Int)==bg.Method)with hg5|hg5
   · rw[hg5]
     try rw[hg5]at hF; dsimp only[bu,bq]at hF
     refine fO ?_
     refine bnd hF fun r6 hx7 hF=>dF (LV hx7) (fun _=>?_)
     exact dh hF
   rw[hg5]
   try rw[hg5]at hF; dsimp only[bu,bq]at hF
   exact dh hF
 rintro _ _ ⟨c9,g10,rfl,rfl,hE⟩
 replace hF:=hO4
 try dsimp only at hF
 refine bV hE ?_
 exact ze hF
def qx(gL:List ak):List ak->Nat->Option (Bool)
 |[],k4=>some true
 |x6::aW,k4=>(ix gL (k4:Int)).bind fun BH=>
   (uk x6 BH).bind fun y9=>
   if (!y9)then (
     some false)
   else (
     qx gL aW (k4+1))
def y_(gM:List ak)(gL:List ak):Option (Bool):=
 if (((gM.length:Int):Int)!=(gL.length:Int))then (
   some false)
 else (
   qx gL gM 0)
theorem Lx{gM:List ak}{ae:Sv}{gL:List ak}{aN:Sv}{R:Bool}(hF:y_ gM gL=some R):
   Fw.Spec Tryz.prog 69 [ae.v,aN.v,(.func (.func 70) [].toArray [].toArray)] [dK ae gM,dK aN gL] (fun _:Unit=>(.bool R)) (fun _=>[]):=by
 refine Se 32 Tryz.func69 [.tmp 6] ?_
 intro H0 F0
 unfold y_ at hF
 refine lY ?_
 refine Ci hF (fun yj hF=>?_) (fun yj hF=>?_)
 · exact ze hF
 refine bE ?_
 refine bN (dG (m:=gM.length) (fun m2 f' cs'=>∃(g:Fr)(k4:Nat)(aW:List ak),m2=aW.length/\f'=aX g [(1,aN.v),(2,(.func (.func 70) [].toArray [].toArray)),(15,ae.v),(16,(zi (gM.length:Int))),(17,(zi (k4:Int)))]/\List.drop k4 gM=aW/\aT cs' [dK aN gL,dK ae gM]/\qx gL aW k4=some R) ⟨_,0,_,rfl,aK,rfl,aJ,hF⟩ ?_)
 rintro m2 _ _ ⟨g3,k4,aW,rfl,rfl,hd7,hE,hF⟩
 refine Kb hE gM (fun pX=>?_)
 rcases aW with _|⟨x6,aW⟩
 · have jk:=dn hd7
   rw[qx]at hF
   refine aM ?_
   refine fZ ?_
   exact ze hF
 obtain⟨jk,fC,jc⟩:=fQ hd7
 rw[qx]at hF
 refine aM ?_
 refine fV ?_
 refine aM ?_
 refine Ai fC (fun k13 tu=>?_)
 refine rQ (mQ x6) nP (fun nK=>?_)
 refine iC (fun k16=>?_)
 refine au ?_
 refine As (zg [(zi x6.Method),nK.v]) ?_
 refine aM ?_
 refine zI hF fun BH KO lv hF=>?_
 refine Ai lv (fun k21 WB=>?_)
 refine rQ (mQ BH) nP (fun vQ=>?_)
 refine iC (fun k24=>?_)
 refine As (zg [(zi BH.Method),vQ.v]) ?_
 refine aV ?_
 refine bnd hF fun y9 j3 hF=>qc (.rd .q4 rfl (.rd (.t .h) rfl .nil)) (zV Uk.h (.tmp rfl rfl) bi (MK j3)) (fun _=>?_)
 refine aG ?_
 refine Ci hF (fun yc hF=>?_) (fun yc hF=>?_)
 · exact ze hF
 refine aV ?_
 rw[wk k4]
 exact⟨_,dM _,_,k4+1,aW,rfl,aK,jc,aJ,hF⟩
def wm(aC:List ak)(bg:List ak):Option (Bool):=
 (y_ aC bg).bind fun r1=>
 some r1
theorem Mi{aC:List ak}{ae:Sv}{bg:List ak}{aN:Sv}{R:Bool}(hF:wm aC bg=some R):
   Fw.Spec Tryz.prog 46 [ae.v,aN.v] [dK ae aC,dK aN bg] (fun _:Unit=>(.bool R)) (fun _=>[]):=by
 refine Se 8 Tryz.func46 [.tmp 4] ?_
 intro H0 F0
 unfold wm at hF
 refine bC ?_
 refine bnd hF fun r1 hx2 hF=>dF (Lx hx2) (fun _=>?_)
 exact ze hF
def uB(aA:List Method)(aC:List ak)(bg:List ak)(dE:Int):Option (Bool):=
 (pO aA aC dE).bind fun r1=>
 (pO aA bg dE).bind fun r4=>
 (wm r1 r4).bind fun r7=>
 some r7
theorem GJ{aA:List Method}{ae:Sv}{aC:List ak}{aN:Sv}{bg:List ak}{yH:Sv}{dE:Int}{R:Bool}(hF:uB aA aC bg dE=some R):
   Fw.Spec Tryz.prog 19 [ae.v,aN.v,yH.v,(zi dE)] [jZ ae aA,dK aN aC,dK yH bg] (fun _:Unit=>(.bool R)) (fun _=>[]):=by
 refine Se 18 Tryz.func19 [.tmp 8] ?_
 intro H0 F0
 unfold uB at hF
 refine bE ?_
 refine bnd hF fun r1 hx2 hF=>cu (zJ hx2) (fun p3=>?_)
 refine aU ?_
 refine bnd hF fun r4 hx5 hF=>cu (zJ hx5) (fun p6=>?_)
 refine bnd hF fun r7 iF hF=>iN (.cons .h (.cons .h .nil)) (mX (pre:=[]) (.cons bU (.cons bU .nil)) (fun _=>.nil) (bG Uj.h bi (Mi iF))) (fun _=>?_)
 exact ze hF
def uC(aA:List Method)(aC:List ak)(bg:List ak)(dE:Int):Option (Bool):=
 (pQ aA aC dE).bind fun r1=>
 (pQ aA bg dE).bind fun r4=>
 (uf r1 r4).bind fun r7=>
 some r7
theorem GK{aA:List Method}{ae:Sv}{aC:List ak}{aN:Sv}{bg:List ak}{yH:Sv}{dE:Int}{R:Bool}(hF:uC aA aC bg dE=some R):
   Fw.Spec Tryz.prog 20 [ae.v,aN.v,yH.v,(zi dE)] [jZ ae aA,dK aN aC,dK yH bg] (fun _:Unit=>(.bool R)) (fun _=>[]):=by
 refine Se 18 Tryz.func20 [.tmp 8] ?_
 intro H0 F0
 unfold uC at hF
 refine bE ?_
 refine bnd hF fun r1 hx2 hF=>cu (zK hx2) (fun p3=>?_)
 refine aU ?_
 refine bnd hF fun r4 hx5 hF=>cu (zK hx5) (fun p6=>?_)
 refine bnd hF fun r7 iF hF=>iN (.cons .h (.cons .h .nil)) (mX (pre:=[]) (.cons bU (.cons bU .nil)) (fun _=>.nil) (bG EH.h bi (BL iF))) (fun _=>?_)
 exact ze hF
def qE(r1:(List UInt8)):Nat->Int->Int->Option (Int)
 |0,_,_=>none
 |m6+1,c4,c5=>if (decide ((c5:Int)<(r1.length:Int)))then (
     (ix r1 c5).bind fun kQ=>
     qE r1 m6 (Int.tmod (IntKind.i64.wrap ((IntKind.i64.wrap (257*c4))+(kQ.toNat:Int))) 1000003) (IntKind.i64.wrap (c5+1)))
   else (
     some c4)
def um(cK:List ak):Option (Int):=
 (uu cK).bind fun r1=>
 qE r1 (((r1.length:Int)-0).toNat+2) 1 0
theorem Gi{cK:List ak}{ae:Sv}{R:Int}(hF:um cK=some R):
   Fw.Spec Tryz.prog 21 [ae.v] [dK ae cK] (fun _:Unit=>(zi R)) (fun _=>[]):=by
 refine Se 23 Tryz.func21 [.tmp 2] ?_
 intro H0 F0
 unfold um at hF
 refine g_ ?_
 refine bnd hF fun r1 hx2 hF=>dF (Gq hx2) (fun _=>?_)
 refine aV ?_
 refine ax (gm (s:=r1) dw (.tmp rfl rfl)) ?_
 refine aG ?_
 refine bN (dG (m:=(((r1.length:Int)-0).toNat+2)) (fun m6 f' cs'=>∃(g:Fr)(c4 c5:Int),f'=aX g [(3,(zi c4)),(4,(sv r1)),(9,(zi (r1.length:Int))),(10,(zi c5))]/\aT cs' []/\qE r1 m6 c4 c5=some R) ⟨_,_,_,aK,aJ,hF⟩ ?_)
 rintro m6 _ _ ⟨g7,c4,c5,rfl,hE,hF⟩
 refine bV hE ?_
 rcases m6 with _|m6
 · rw[qE]at hF
   exact absurd hF (by simp)
 rw[qE]at hF
 refine aM ?_
 refine Ci hF (fun yl hF=>?_) (fun yl hF=>?_)
 · refine lY ?_
   refine zI hF fun kQ Ey iR hF=>?_
   refine ax (lN (u:=kQ) dw (.tmp rfl rfl) (.tmp rfl rfl) Ey iR) ?_
   refine ax (ww (u:=kQ) iD ko (.tmp rfl rfl)) ?_
   refine au ?_
   refine ax (lX (i:=(IntKind.i64.wrap ((IntKind.i64.wrap (257*c4))+(kQ.toNat:Int)))) (j:=1000003) (.tmp rfl rfl) (.int _ _) (by decide)) ?_
   refine bC ?_
   exact⟨m6,dM _,_,_,_,aK,aJ,hF⟩
 exact ze hF
def qF(r1:(List UInt8)):Nat->Int->Int->Option (Int)
 |0,_,_=>none
 |m6+1,c4,c5=>if (decide ((c5:Int)<(r1.length:Int)))then (
     (ix r1 c5).bind fun kQ=>
     qF r1 m6 (Int.tmod (IntKind.i64.wrap ((IntKind.i64.wrap (c4*257))+(kQ.toNat:Int))) 1000003) (IntKind.i64.wrap (c5+1)))
   else (
     some c4)
def uo(fuel:Nat)(cK:List ak):Option (Int):=
 (lL fuel cK).bind fun r1=>
 qF r1 (((r1.length:Int)-0).toNat+2) 1 0
theorem Gj{fuel:Nat}{cK:List ak}{ae:Sv}{R:Int}(hF:uo fuel cK=some R):
   Fw.Spec Tryz.prog 22 [ae.v] [dK ae cK] (fun _:Unit=>(zi R)) (fun _=>[]):=by
 refine Se 23 Tryz.func22 [.tmp 2] ?_
 intro H0 F0
 unfold uo at hF
 refine aV ?_
 refine bnd hF fun r1 hx2 hF=>dF (wh hx2) (fun _=>?_)
 refine fO ?_
 refine bN (dG (m:=(((r1.length:Int)-0).toNat+2)) (fun m6 f' cs'=>∃(g:Fr)(c4 c5:Int),f'=aX g [(3,(sv r1)),(4,(zi c4)),(5,(zi c5))]/\aT cs' []/\qF r1 m6 c4 c5=some R) ⟨_,_,_,aK,aJ,hF⟩ ?_)
 rintro m6 _ _ ⟨g7,c4,c5,rfl,hE,hF⟩
 refine bV hE ?_
 rcases m6 with _|m6
 · rw[qF]at hF
   exact absurd hF (by simp)
 rw[qF]at hF
 refine aM ?_
 refine ax (gm (s:=r1) dw (.tmp rfl rfl)) ?_
 refine aG ?_
 refine Ci hF (fun yl hF=>?_) (fun yl hF=>?_)
 · refine bE ?_
   refine zI hF fun kQ Ey iR hF=>?_
   refine ax (lN (u:=kQ) dw (.tmp rfl rfl) (.tmp rfl rfl) Ey iR) ?_
   refine ax (ww (u:=kQ) iD ko (.tmp rfl rfl)) ?_
   refine au ?_
   refine ax (lX (i:=(IntKind.i64.wrap ((IntKind.i64.wrap (c4*257))+(kQ.toNat:Int)))) (j:=1000003) (.tmp rfl rfl) (.int _ _) (by decide)) ?_
   refine bE ?_
   exact⟨m6,dM _,_,_,_,aK,aJ,hF⟩
 exact ze hF
def nM(bv:List UInt8)(fuel:Nat)(r4:(List Method)×(List ak)×Int):List ak->Nat->Option (Bool)
 |[],nG=>(vX fuel bv).bind fun oL=>
   (uu oL).bind fun yI=>
   (uA yI).bind fun sF=>
   (zw fuel bv).bind fun Ez=>
   (uA Ez).bind fun sG=>
   (wN fuel Ez).bind fun sH=>
   (zy fuel bv).bind fun je=>
   ((lL fuel oL).bind fun Bd=>
     bif (yI==Bd)then ((lL fuel oL).bind fun yJ=>
       bif (sF.2==(!(yJ==[])))then (bif (!sF.2)then (bif (sG.2==sH.2)then ((uB je.1 je.2.1 je.2.2.1 je.2.2.2).bind fun Be=>
             (uC je.1 je.2.1 je.2.2.1 je.2.2.2).bind fun Bf=>
             bif (Be==Bf)then ((um oL).bind fun KP=>
               (uo fuel oL).bind fun KQ=>
               some ((KP:Int)==KQ))
             else (some false))
           else (some false))
         else ((uf sF.1 oL).bind fun EA=>
           bif EA then (bif (sG.2==sH.2)then ((uB je.1 je.2.1 je.2.2.1 je.2.2.2).bind fun Bg=>
               (uC je.1 je.2.1 je.2.2.1 je.2.2.2).bind fun Bh=>
               bif (Bg==Bh)then ((um oL).bind fun KR=>
                 (uo fuel oL).bind fun KS=>
                 some ((KR:Int)==KS))
               else (some false))
             else (some false))
           else (some false)))
       else (some false))
     else (some false)).bind fun EB=>
   match EB with
   |c201=>some c201
 |vC::nW,nG=>(bif (decide ((vC.Method:Int)<0))then (some true)
     else (bif (decide (((r4.1.length:Int):Int)<=vC.Method))then (some true)
       else ((ix r4.1 vC.Method).bind fun KT=>
         some ((KT.Rel:Int)!=r4.2.2)))).bind fun EC=>
   match EC with
   |yK=>if yK then (
       some false)
     else (
       nM bv fuel r4 nW (nG+1))
def zS(fuel:Nat)(bv:List UInt8):Option (Bool):=
 (AA bv).bind fun r1=>
 if r1 then (
   some true)
 else (
   (wz fuel bv).bind fun r4=>
   (pO r4.1 r4.2.1 r4.2.2).bind fun r7=>
   ((pQ r4.1 r4.2.1 r4.2.2).bind fun eP=>
     (uf r7 eP).bind fun lD=>
     bif (!lD)then (some true)
     else ((wC r4.1 r4.2.1 r4.2.2).bind fun jT=>
       (wD r4.1 r4.2.1 r4.2.2).bind fun fo=>
       (zO jT fo).bind fun y9=>
       some (!y9))).bind fun tH=>
   match tH with
   |c28=>if c28 then (
       some false)
     else (
       nM bv fuel r4 r7 0))
theorem NA{fuel:Nat}{bv:List UInt8}{ae:Sv}{R:Bool}(hF:zS fuel bv=some R):
   Fw.Spec Tryz.prog 3 [ae.v] [dU ae bv] (fun _:Unit=>(.bool R)) (fun _=>[]):=by
 refine Se 160 Tryz.func3 [.tmp 2] ?_
 intro H0 F0
 unfold zS at hF
 refine bC ?_
 refine bnd hF fun r1 hx2 hF=>dF (Py hx2) (fun _=>?_)
 refine au ?_
 refine Ci hF (fun Sq hF=>?_) (fun Sq hF=>?_)
 · exact ze hF
 refine aU ?_
 refine bnd hF fun r4 hx5 hF=>kg (MF hx5) (fun p6=>?_)
 refine au ?_
 refine zx ?_
 refine zx ?_
 refine zx ?_
 refine g_ ?_
 refine bnd hF fun r7 iF hF=>lZ (.cons (.t .h) (.cons .h .nil)) (mX (pre:=[]) (.cons bU (.cons bU .nil)) (fun _=>(.cons .nil)) (bG Wd.h bi (zJ iF))) (fun p9=>?_)
 refine aU ?_
 obtain⟨tH,Dp,Eg⟩:=bind_some hF
 refine au ?_
 refine fJ (fun f' cs'=>∃(c28:Bool)(g:Fr),c28=tH/\f'=aX g [(0,ae.v),(3,p6.1.v),(5,(zi r4.2.2)),(6,p9.1.v),(51,(.bool c28))]/\aT cs' [dU ae bv,nC p6.2.1 p6.1 r4.1,jb p9.2 p9.1 r7]) ?_ ?_
 · replace hF:=Dp
   refine aM ?_
   refine bnd hF fun eP h_ hF=>lZ (.cons .h (.cons .h .nil)) (mX (pre:=[]) (.cons bU (.cons bU .nil)) (fun _=>(.cons .nil)) (bG We.h bi (zK h_))) (fun yP=>?_)
   refine bnd hF fun lD hx16 hF=>iN (.cons .q2 (.cons .q2 .nil)) (mX (pre:=[]) (.cons bU (.cons bU .nil)) (fun _=>.nil) (bG EH.h bi (BL hx16))) (fun _=>?_)
   refine aG ?_
   rcases dL (!lD)with yL|yL
   · rw[yL]
     try rw[yL]at hF; dsimp only[bu,bq]at hF
     exact dh hF
   rw[yL]
   try rw[yL]at hF; dsimp only[bu,bq]at hF
   refine bE ?_
   refine bnd hF fun jT lv hF=>lZ (.cons .q2 (.cons .q2 .nil)) (mX (pre:=[]) (.cons bU (.cons bU .nil)) (fun _=>(.cons .nil)) (bG T9.h bi (MH lv))) (fun Wx=>?_)
   refine bE ?_
   refine bnd hF fun fo iQ hF=>lZ (.cons .h (.cons .h .nil)) (mX (pre:=[]) (.cons bU (.cons bU .nil)) (fun _=>(.cons .nil)) (bG T_.h bi (MI iQ))) (fun kL=>?_)
   refine au ?_
   refine bnd hF fun y9 j3 hF=>iN (.cons .q2 (.cons .q2 .nil)) (mX (pre:=[]) (.cons bU (.cons bU .nil)) (fun _=>.nil) (bG Wh.h bi (M7 j3))) (fun _=>?_)
   exact dh hF
 rintro _ _ ⟨c28,Y0,rfl,rfl,hE⟩
 replace hF:=Eg
 try dsimp only at hF
 refine bV hE ?_
 refine Ci hF (fun Sr hF=>?_) (fun Sr hF=>?_)
 · exact ze hF
 refine aV ?_
 refine bN (xB (.t .h) bU ?_)
 refine xB .q2 bU ?_
 refine dG (m:=r7.length) (fun KU f' cs'=>∃(g:Fr)(nG:Nat)(nW:List ak),KU=nW.length/\f'=aX g [(0,ae.v),(3,p6.1.v),(5,(zi r4.2.2)),(6,p9.1.v),(7,(zi (nG:Int)))]/\List.drop nG r7=nW/\aT cs' [dU ae bv,jZ p6.1 r4.1,dK p9.1 r7]/\nM bv fuel r4 nW nG=some R) ⟨_,0,_,rfl,aK,rfl,aJ,hF⟩ ?_
 rintro KU _ _ ⟨Y1,nG,nW,rfl,rfl,Ke,hE,hF⟩
 refine Kb hE r7 (fun WT=>?_)
 rcases nW with _|⟨vC,nW⟩
 · have Su:=dn Ke
   rw[nM]at hF
   refine bE ?_
   refine fZ ?_
   refine bC ?_
   refine bnd hF fun oL Sw hF=>cu (L_ Sw) (fun Y2=>?_)
   refine aM ?_
   refine bnd hF fun yI Sy hF=>aZ (.cons .h .nil) (dW bU (fun _=>.nil) (bG Uc.h bi (Gq Sy))) (fun _=>?_)
   refine aM ?_
   refine bnd hF fun sF Sz hF=>cu (GI Sz) (fun Y3=>?_)
   refine au ?_
   refine zx ?_
   refine zx ?_
   refine aV ?_
   refine bnd hF fun Ez SA hF=>dF (Mg SA) (fun _=>?_)
   refine aM ?_
   refine bnd hF fun sG hx150 hF=>cu (GI hx150) (fun Y4=>?_)
   refine au ?_
   refine zx ?_
   refine zx ?_
   refine aV ?_
   refine bnd hF fun sH hx153 hF=>cu (Na hx153) (fun Y5=>?_)
   refine au ?_
   refine zx ?_
   refine zx ?_
   refine aV ?_
   refine bnd hF fun je SB hF=>V9 (Mh SB) (fun Y6=>?_)
   refine au ?_
   refine zx ?_
   refine zx ?_
   refine zx ?_
   refine zx ?_
   refine aV ?_
   obtain⟨EB,QF,SC⟩:=bind_some hF
   refine au ?_
   refine fJ (fun f' cs'=>∃(c201:Bool)(g:Fr),c201=EB/\f'=aX g [(2,(.bool c201))]/\aT cs' []) ?_ ?_
   · replace hF:=QF
     refine aG ?_
     refine bnd hF fun Bd SE hF=>aZ (.cons .q6 .nil) (dW bU (fun _=>.nil) (bG AV.h bi (wh SE))) (fun _=>?_)
     refine ax (kZ (s:=yI) (t:=Bd) (.tmp rfl rfl) (.tmp rfl rfl)) ?_
     refine au ?_
     rcases dL (yI==Bd)with xH|xH
     · rw[xH]
       try rw[xH]at hF; dsimp only[bu,bq]at hF
       refine aV ?_
       refine bnd hF fun yJ SF hF=>aZ (.cons .h .nil) (dW bU (fun _=>.nil) (bG AV.h bi (wh SF))) (fun _=>?_)
       refine au ?_
       refine ax (uU (s:=yJ) (t:=[]) (.tmp rfl rfl) (.sv _)) ?_
       refine au ?_
       refine ax (xG (a:=sF.2) (b:=(!(yJ==[]))) Tryz.underlying4 (.tmp rfl rfl) (.tmp rfl rfl)) ?_
       refine aG ?_
       rcases dL (sF.2==(!(yJ==[])))with xI|xI
       · rw[xI]
         try rw[xI]at hF; dsimp only[bu,bq]at hF
         refine bC ?_
         rcases dL (!sF.2)with xJ|xJ
         · rw[xJ]
           try rw[xJ]at hF; dsimp only[bu,bq]at hF
           refine Ka ?_
           refine ax (xG (a:=sG.2) (b:=sH.2) Tryz.underlying4 (.tmp rfl rfl) (.tmp rfl rfl)) ?_
           refine aG ?_
           rcases dL (sG.2==sH.2)with xK|xK
           · rw[xK]
             try rw[xK]at hF; dsimp only[bu,bq]at hF
             refine fO ?_
             refine bnd hF fun Be SG hF=>aZ (.cons (.t .h) (.rd (.t .h) rfl (.rd .q2 rfl .nil))) (dW bU (fun _=>.nil) (bG Kw.h bi (GJ SG))) (fun _=>?_)
             refine fO ?_
             refine bnd hF fun Bf SH hF=>aZ (.cons .h (.rd (.t .h) rfl (.rd .q2 rfl .nil))) (dW bU (fun _=>.nil) (bG Ky.h bi (GK SH))) (fun _=>?_)
             refine au ?_
             refine ax (xG (a:=Be) (b:=Bf) Tryz.underlying4 (.tmp rfl rfl) (.tmp rfl rfl)) ?_
             refine aG ?_
             rcases dL (Be==Bf)with xL|xL
             · rw[xL]
               try rw[xL]at hF; dsimp only[bu,bq]at hF
               refine aU ?_
               refine bnd hF fun KP SI hF=>aZ (.cons (.t .h) .nil) (dW bU (fun _=>.nil) (bG Kz.h bi (Gi SI))) (fun _=>?_)
               refine aU ?_
               refine bnd hF fun KQ SK hF=>aZ (.cons .h .nil) (dW bU (fun _=>.nil) (bG KA.h bi (Gj SK))) (fun _=>?_)
               exact dh hF
             rw[xL]
             try rw[xL]at hF; dsimp only[bu,bq]at hF
             exact dh hF
           rw[xK]
           try rw[xK]at hF; dsimp only[bu,bq]at hF
           exact dh hF
         rw[xJ]
         try rw[xJ]at hF; dsimp only[bu,bq]at hF
         refine aV ?_
         refine bnd hF fun EA SN hF=>iN (.cons .h (.cons .q5 .nil)) (mX (pre:=[]) (.cons bU (.cons bU .nil)) (fun _=>.nil) (bG EH.h bi (BL SN))) (fun _=>?_)
         refine aM ?_
         rcases dL EA with xM|xM
         · rw[xM]
           try rw[xM]at hF; dsimp only[bu,bq]at hF
           refine aV ?_
           refine ax (xG (a:=sG.2) (b:=sH.2) Tryz.underlying4 (.tmp rfl rfl) (.tmp rfl rfl)) ?_
           refine aG ?_
           rcases dL (sG.2==sH.2)with xN|xN
           · rw[xN]
             try rw[xN]at hF; dsimp only[bu,bq]at hF
             refine fO ?_
             refine bnd hF fun Bg SQ hF=>aZ (.cons .q2 (.rd .q2 rfl (.rd .q3 rfl .nil))) (dW bU (fun _=>.nil) (bG Kw.h bi (GJ SQ))) (fun _=>?_)
             refine fO ?_
             refine bnd hF fun Bh SS hF=>aZ (.cons .h (.rd .q2 rfl (.rd .q3 rfl .nil))) (dW bU (fun _=>.nil) (bG Ky.h bi (GK SS))) (fun _=>?_)
             refine au ?_
             refine ax (xG (a:=Bg) (b:=Bh) Tryz.underlying4 (.tmp rfl rfl) (.tmp rfl rfl)) ?_
             refine aG ?_
             rcases dL (Bg==Bh)with xO|xO
             · rw[xO]
               try rw[xO]at hF; dsimp only[bu,bq]at hF
               refine aU ?_
               refine bnd hF fun KR SV hF=>aZ (.cons (.t .h) .nil) (dW bU (fun _=>.nil) (bG Kz.h bi (Gi SV))) (fun _=>?_)
               refine aU ?_
               refine bnd hF fun KS SX hF=>aZ (.cons .h .nil) (dW bU (fun _=>.nil) (bG KA.h bi (Gj SX))) (fun _=>?_)
               exact dh hF
             rw[xO]
             try rw[xO]at hF; dsimp only[bu,bq]at hF
             exact dh hF
           rw[xN]
           try rw[xN]at hF; dsimp only[bu,bq]at hF
           exact dh hF
         rw[xM]
         try rw[xM]at hF; dsimp only[bu,bq]at hF
         exact dh hF
       rw[xI]
       try rw[xI]at hF; dsimp only[bu,bq]at hF
       exact dh hF
     rw[xH]
     try rw[xH]at hF; dsimp only[bu,bq]at hF
     exact dh hF
   rintro _ _ ⟨c201,Y7,rfl,rfl,hE⟩
   replace hF:=SC
   try dsimp only at hF
   refine bV hE ?_
   exact ze hF
 obtain⟨Su,Dt,SY⟩:=fQ Ke
 rw[nM]at hF
 refine bE ?_
 refine fV ?_
 refine aG ?_
 obtain⟨EC,QG,S9⟩:=bind_some hF
 refine au ?_
 refine fJ (fun f' cs'=>∃(yK:Bool)(g:Fr),yK=EC/\f'=aX g [(0,ae.v),(3,p6.1.v),(5,(zi r4.2.2)),(6,p9.1.v),(7,(zi (nG:Int))),(86,(.bool yK))]/\aT cs' [dU ae bv,jZ p6.1 r4.1,dK p9.1 r7]) ?_ ?_
 · replace hF:=QG
   refine aG ?_
   refine Ai Dt (fun Y8 Y9=>?_)
   refine au ?_
   refine Al uR ?_
   refine aG ?_
   rcases dL (decide ((vC.Method:Int)<0))with xP|xP
   · rw[xP]
     try rw[xP]at hF; dsimp only[bu,bq]at hF
     exact dh hF
   rw[xP]
   try rw[xP]at hF; dsimp only[bu,bq]at hF
   refine aV ?_
   refine Ai Dt (fun Y_ Za=>?_)
   refine aU ?_
   refine Al uR ?_
   refine g_ ?_
   rcases dL (decide (((r4.1.length:Int):Int)<=vC.Method))with xQ|xQ
   · rw[xQ]
     try rw[xQ]at hF; dsimp only[bu,bq]at hF
     exact dh hF
   rw[xQ]
   try rw[xQ]at hF; dsimp only[bu,bq]at hF
   refine bE ?_
   refine Ai Dt (fun Zb Zc=>?_)
   refine aU ?_
   refine Al uR ?_
   refine au ?_
   refine zI hF fun KT Xu S_ hF=>?_
   refine Ai S_ (fun Zd Ze=>?_)
   refine aU ?_
   refine Al C9 ?_
   exact dh hF
 rintro _ _ ⟨yK,Zf,rfl,rfl,hE⟩
 replace hF:=S9
 try dsimp only at hF
 refine bV hE ?_
 refine Ci hF (fun Ta hF=>?_) (fun Ta hF=>?_)
 · exact ze hF
 refine bC ?_
 rw[wk nG]
 exact⟨_,dM _,_,nG+1,nW,rfl,aK,SY,aJ,hF⟩
end Go.Proofs.YtmmlepaliceaiaaGreatDoor
