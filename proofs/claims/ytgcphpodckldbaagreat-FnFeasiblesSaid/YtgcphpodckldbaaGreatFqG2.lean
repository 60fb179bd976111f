/-
  Functions of the program as Lean functions, and that the calls return what these say: part 3. No conditions.
-/
import Derived.Shelf.Sort.Plain
import Derived.Shelf.Slices.In.SortNone
import Derived.Shelf.Slices.CompactI
import Derived.Test.YtgcphpodckldbaaGreatFqG1
import Derived.KernelRfl
set_option maxRecDepth 100000
set_option maxHeartbeats 1000000
set_option linter.unusedVariables false
namespace Go.Proofs.YtgcphpodckldbaaGreat
open Go Go.Fw

def C_(mJ:Int)(ay:Atom)(aI:aM):List Int->Nat->(List Int)->Option (aV)
 |[],vF,c40=>some (⟨mJ,c40⟩:aV)
 |x48::AY,vF,c40=>(ix ay.Terms x48).bind fun x57=>
   (xh aI x57).bind fun XW=>
   (app c40 ([XW]:List Int)).bind fun z67=>
   C_ mJ ay aI AY (vF+1) z67
def KV(ag:List Method)(mJ:Int)(ay:Atom)(aI:aM):Option (aV):=
 (ix ag mJ).bind fun x6=>
 C_ mJ ay aI x6.Inputs 0 ([]:List Int)
theorem ant{ag:List Method}{aa:Sv}{mJ:Int}{ay:Atom}{dw:Sv}{aI:aM}{jG pO:Sv}{R:aV}(hF:KV ag mJ ay aI=some R):
   Fw.Spec Tryz.prog 145 [aa.v,(zi mJ),(zg [(zi ay.Rel),dw.v]),(zg [jG.v,pO.v])] [dQ aa ag,ah dw ay.Terms,ah jG aI.Vars,ah pO aI.Values] (fun p:Sv×List Nat=>(zg [(zi R.Method),p.1.v])) (fun p=>[bv p.2 p.1 R.Values]):=by
 refine Se 39 Tryz.func145 [.cell 8 115] ?_
 intro H0 F0
 unfold KV at hF
 refine au ?_
 refine bW (fun k1=>?_)
 refine bW (fun k2=>?_)
 refine cO (fun k3=>?_)
 refine aZ ?_
 refine b_ rfl (bI (g:=true) bH.h bC.h .nil (vs:=[]) rfl rfl rfl (by simp)) (fun k4=>?_)
 refine dh (.cons .h .nil) (bK (Ro:=(aj ax)) (E:=3) (F:=[]) (xs:=([]:List Int)) bJ rfl rfl) ?_
 refine aK (gH lv.h rfl (vs:=[(zi mJ),(.slice (some ⟨k4,0,none⟩) 0 1)]) bz (cells:=[(zi mJ),(.slice (some ⟨k4,0,none⟩) 0 1)]) rfl) ?_
 refine cO (fun k5=>?_)
 refine As (zg [(zi mJ),(.slice (some ⟨k4,0,none⟩) 0 1)]) ?_
 refine bf ?_
 refine zI hF fun x6 hp8 dm hF=>?_
 refine Ai dm (fun k10 j11=>?_)
 refine au ?_
 refine ng (R':=(aW 3 ax)) fT.h (.tmp rfl rfl) .h ah8 (fun w12=>?_)
 refine aZ ?_
 refine bn (bU (m:=x6.Inputs.length) (fun m44 f' cs'=>∃(g:Fr)(vF:Nat)(AY c40:List Int)(v41:Sv)(F42:List Nat),m44=AY.length/\f'=aR g [(6,(pz k1)),(7,(pz k2)),(8,(pz k3)),(9,(pz k5)),(19,w12.v),(20,(zi (x6.Inputs.length:Int))),(21,(zi (vF:Int)))]/\List.drop vF x6.Inputs=AY/\aP cs' [a_ k1 66 (zg [(zi ay.Rel),dw.v]),ah dw ay.Terms,a_ k2 85 (zg [jG.v,pO.v]),ah jG aI.Vars,ah pO aI.Values,bq k3 115 (zg [(zi 0),(.slice none 0 0)]),bq k5 115 (zg [(zi mJ),v41.v]),bv F42 v41 c40,ah w12 x6.Inputs]/\C_ mJ ay aI AY vF c40=some R) ⟨_,0,_,_,⟨(some ⟨k4,0,none⟩),0,1⟩,(k4::[]),rfl,aB,rfl,aA,hF⟩ ?_)
 rintro m44 _ _ ⟨g45,vF,AY,c40,v41,F42,rfl,rfl,akm,hE,hF⟩
 refine Kb hE x6.Inputs (fun aB'=>?_)
 rcases AY with _|⟨x48,AY⟩
 · have ay8:=dn akm
   rw[C_]at hF
   refine aL ?_
   refine dE ?_
   refine bG ?_
   refine As (zg [(zi mJ),v41.v]) ?_
   refine aT ?_
   cases hF
   exact Er (v41,F42)
 obtain⟨ay8,uY,ay9⟩:=dA akm
 rw[C_]at hF
 refine aL ?_
 refine dD ?_
 refine aZ ?_
 refine Ai uY (fun k55 j56=>?_)
 refine Al dN ?_
 refine aT ?_
 refine jK [0,1,2,3,4,5,6,7,8,9,10,11,12] [0,1,0,0,8,0,56,120,252,508,1023,2047,4095] [8,10,12] mixed (by decide+kernel) ?_
 refine du ?_
 refine dH rfl .no .q7 (fun ha hp=>fZ (v:=v41.v) fT.h (EN ha (.tmp rfl rfl) rfl) hp.2 rfl rfl) ?_
 refine sG ?_
 refine zI hF fun x57 aD_ ay_ hF=>?_
 refine Di ay_ (fun k61 j62=>?_)
 refine Dl dN ?_
 refine bnd hF fun XW acv hF=>Vv rfl rfl .no (.rd .q5 rfl (.rd .q6 rfl .nil)) (.own .q8 (fun _ h=>h) .nil) (fun ha=>bP VK.h (.cons (EN ha (.tmp rfl rfl) rfl) (.cons (EN ha (.tmp rfl rfl) rfl) .nil)) (NY acv)) (fun _=>?_)
 refine gP rfl .no rfl (fun ha=>bI (g:=true) (len:=1) (parts:=[(0,.tmp 33)]) bH.h bC.h (.cons (EN ha (.tmp rfl rfl) rfl) .nil) (vs:=[(zi XW)]) rfl rfl rfl (by intro v hv; simp at hv; rcases hv with rfl<;>rfl)) (fun k66=>?_)
 refine gZ (.cons .h .nil) (bK (Ro:=(aj ax)) (E:=3) (F:=([]++[])) (xs:=([XW]:List Int)) (bS (dK (fun _=>rfl)) bJ bB) rfl rfl) ?_
 refine bnd hF fun z67 I4 hF=>bZ rfl rfl .no (.cons .q10 (.cons .h .nil)) (.dep rfl (.dep rfl .nil)) (fun ha=>dL (Ro:=(aj ax)) bH.h gL bC.h rfl rfl rfl (EN ha (.tmp rfl rfl) rfl) (EN ha (.tmp rfl rfl) rfl) I4 eX) (fun p69=>?_)
 refine du ?_
 refine bZ rfl rfl .no (.cons .q9 .nil) (.dep rfl (.dep rfl .nil)) (fun ha=>fA (e':=(zg [(zi mJ),p69.1.v])) fB.h.sz (EN ha (.tmp rfl rfl) rfl) (EN ha (.tmp rfl rfl) rfl) rfl rfl rfl rfl rfl) (fun _=>?_)
 refine du ?_
 refine aL ?_
 rw[wk vF]
 exact⟨_,bY _,_,vF+1,AY,_,p69.1,p69.2,rfl,aB,ay9,aA,hF⟩
def FY:List Fact->Nat->(List Fact)->Option ((List Fact))
 |[],k8,c2=>some c2
 |fq::fD,k8,c2=>(G8 fq).bind fun kP=>
   (app c2 ([kP]:List Fact)).bind fun z25=>
   FY fD (k8+1) z25
def UG(ag:List Fact):Option ((List Fact)):=
 FY ag 0 ([]:List Fact)
theorem anu{ag:List Fact}{aa:Sv}{R:(List Fact)}(hF:UG ag=some R):
   Fw.Spec Tryz.prog 151 [aa.v] [cz aa ag] (fun p:Sv×List Nat=>p.1.v) (fun p=>[h_ p.2 p.1 R]):=by
 refine Se 20 Tryz.func151 [.tmp 2] ?_
 intro H0 F0
 unfold UG at hF
 refine aL ?_
 refine b_ rfl (bI (g:=true) fU.h eG.h .nil (vs:=[]) rfl rfl rfl (by simp)) (fun k1=>?_)
 refine dh (.cons .h .nil) (bK (Ro:=gD) (E:=71) (F:=[]) (xs:=([]:List Fact)) bJ rfl rfl) ?_
 refine fI ?_
 refine bn (bU (m:=ag.length) (fun m6 f' cs'=>∃(g:Fr)(k8:Nat)(fD c2:List Fact)(v3:Sv)(F4:List Nat),m6=fD.length/\f'=aR g [(3,v3.v),(7,aa.v),(8,(zi (ag.length:Int))),(9,(zi (k8:Int)))]/\List.drop k8 ag=fD/\aP cs' [h_ F4 v3 c2,cz aa ag]/\FY fD k8 c2=some R) ⟨_,0,_,_,⟨(some ⟨k1,0,none⟩),0,1⟩,(k1::[]),rfl,aB,rfl,aA,hF⟩ ?_)
 rintro m6 _ _ ⟨g7,k8,fD,c2,v3,F4,rfl,rfl,jA,hE,hF⟩
 refine Kb hE ag (fun LX=>?_)
 rcases fD with _|⟨fq,fD⟩
 · have u7:=dn jA
   rw[FY]at hF
   refine aL ?_
   refine dE ?_
   refine eU ?_
   cases hF
   exact Er (v3,F4)
 obtain⟨u7,jc,u_⟩:=dA jA
 rw[FY]at hF
 refine aL ?_
 refine dD ?_
 refine aZ ?_
 refine Ai jc (fun k17 SB=>?_)
 refine j_ (mZ fq) nI (fun yl=>?_)
 refine cO (fun k20=>?_)
 refine As (zg [(zi fq.Rel),yl.v]) ?_
 refine aL ?_
 refine bnd hF fun kP uk hF=>dW (YF uk) (fun qb=>?_)
 refine b_ rfl (bI (g:=true) fU.h eG.h bz (vs:=[(zg [(zi kP.Rel),qb.1.v])]) rfl rfl rfl (by intro v hv; simp at hv; rcases hv with rfl<;>rfl)) (fun k24=>?_)
 refine dh (.cons .h (.cons .h .nil)) (bK (Ro:=gD) (E:=71) (F:=(qb.2++[])) (xs:=([kP]:List Fact)) (bS xE bJ bB) rfl rfl) ?_
 refine bnd hF fun z25 jP hF=>dC (.cons .q4 (.cons .h .nil)) (dL (Ro:=gD) fU.h xG eG.h rfl rfl rfl (.tmp rfl rfl) (.tmp rfl rfl) jP eX) (fun p27=>?_)
 refine bG ?_
 rw[wk k8]
 exact⟨_,bY _,_,k8+1,fD,_,p27.1,p27.2,rfl,aB,u_,aA,hF⟩
def FZ(bN:Fact)(dz:aV):List Int->Nat->Option (Bool)
 |[],k5=>some false
 |x7::eP,k5=>(ix bN.Values x7).bind fun qa=>
   (ix dz.Values (k5:Int)).bind fun lI=>
   if ((qa:Int)!=lI)then (
     some true)
   else (
     FZ bN dz eP (k5+1))
def xg(bN:Fact)(aD:Method)(dz:aV):Option (Bool):=
 if ((bN.Rel:Int)!=aD.Rel)then (
   some true)
 else (
   FZ bN dz aD.Inputs 0)
theorem aeq{bN:Fact}{aQ:Sv}{bD:Nat}{aD:Method}{fE:Sv}{fP:Nat}{dz:aV}{oo:Sv}{R:Bool}(hF:xg bN aD dz=some R):
   Fw.Spec Tryz.prog 152 [(zg [(zi bN.Rel),aQ.v]),(pz bD),(pz fP)] [ah aQ bN.Values,a_ bD 92 (zg [(zi aD.Rel),fE.v,(zi aD.Limit),(zi aD.Cost),(zi aD.Quota)]),ah fE aD.Inputs,a_ fP 115 (zg [(zi dz.Method),oo.v]),ah oo dz.Values] (fun _:Unit=>(.bool R)) (fun _=>[]):=by
 refine Se 32 Tryz.func152 [.tmp 4] ?_
 intro H0 F0
 unfold xg at hF
 refine au ?_
 refine bW (fun k1=>?_)
 refine lT ?_
 refine Ci hF (fun qJ hF=>?_) (fun qJ hF=>?_)
 · exact ze hF
 refine fI ?_
 refine bn (bU (m:=aD.Inputs.length) (fun m3 f' cs'=>∃(g:Fr)(k5:Nat)(eP:List Int),m3=eP.length/\f'=aR g [(2,(pz fP)),(3,(pz k1)),(13,fE.v),(14,(zi (aD.Inputs.length:Int))),(15,(zi (k5:Int)))]/\List.drop k5 aD.Inputs=eP/\aP cs' [a_ fP 115 (zg [(zi dz.Method),oo.v]),ah oo dz.Values,a_ k1 71 (zg [(zi bN.Rel),aQ.v]),ah aQ bN.Values,ah fE aD.Inputs]/\FZ bN dz eP k5=some R) ⟨_,0,_,rfl,aB,rfl,aA,hF⟩ ?_)
 rintro m3 _ _ ⟨g4,k5,eP,rfl,rfl,mY,hE,hF⟩
 refine Kb hE aD.Inputs (fun Im=>?_)
 rcases eP with _|⟨x7,eP⟩
 · have tq:=dn mY
   rw[FZ]at hF
   refine aL ?_
   refine dE ?_
   exact ze hF
 obtain⟨tq,gu,jA⟩:=dA mY
 rw[FZ]at hF
 refine aL ?_
 refine dD ?_
 refine aL ?_
 refine Ai gu (fun k14 M8=>?_)
 refine Al dN ?_
 refine aZ ?_
 refine dM [0,1,2,3,4,5,6,7,8,9,10] [0,1,0,7,15,0,32,0,224,480,1023] [] mixed (by decide+kernel) ?_
 refine fw ?_
 refine zI hF fun qa Rk kC hF=>?_
 refine Di kC (fun k20 zt=>?_)
 refine Dl dN ?_
 refine fw ?_
 refine zI hF fun lI abV hx25 hF=>?_
 refine Di hx25 (fun k26 j27=>?_)
 refine Dl dN ?_
 refine bV ?_
 refine Ci hF (fun u6 hF=>?_) (fun u6 hF=>?_)
 · exact ze hF
 refine bf ?_
 rw[wk k5]
 exact⟨_,bY _,_,k5+1,eP,rfl,aB,jA,aA,hF⟩
def J7(aD:Method)(dz:aV):List Fact->Nat->Option (Int)
 |[],k4=>some (-1)
 |x6::aG,k4=>(xg x6 aD dz).bind fun r16=>
   if r16 then (
     some (k4:Int))
   else (
     J7 aD dz aG (k4+1))
def Ya(ae:List Fact)(aD:Method)(dz:aV):Option (Int):=
 J7 aD dz ae 0
theorem alC{ae:List Fact}{aa:Sv}{bD:Nat}{aD:Method}{fE:Sv}{fP:Nat}{dz:aV}{oo:Sv}{R:Int}(hF:Ya ae aD dz=some R):
   Fw.Spec Tryz.prog 195 [aa.v,(.func (.func 152) [].toArray [(pz bD),(pz fP)].toArray)] [cz aa ae,a_ bD 92 (zg [(zi aD.Rel),fE.v,(zi aD.Limit),(zi aD.Cost),(zi aD.Quota)]),ah fE aD.Inputs,a_ fP 115 (zg [(zi dz.Method),oo.v]),ah oo dz.Values] (fun _:Unit=>(zi R)) (fun _=>[]):=by
 refine Se 19 Tryz.func195 [.tmp 4] ?_
 intro H0 F0
 unfold Ya at hF
 refine eU ?_
 refine bn (bU (m:=ae.length) (fun m2 f' cs'=>∃(g:Fr)(k4:Nat)(aG:List Fact),m2=aG.length/\f'=aR g [(0,aa.v),(1,(.func (.func 152) [].toArray [(pz bD),(pz fP)].toArray)),(7,(zi (ae.length:Int))),(8,(zi (k4:Int)))]/\List.drop k4 ae=aG/\aP cs' [cz aa ae,a_ bD 92 (zg [(zi aD.Rel),fE.v,(zi aD.Limit),(zi aD.Cost),(zi aD.Quota)]),ah fE aD.Inputs,a_ fP 115 (zg [(zi dz.Method),oo.v]),ah oo dz.Values]/\J7 aD dz aG k4=some R) ⟨_,0,_,rfl,aB,rfl,aA,hF⟩ ?_)
 rintro m2 _ _ ⟨g3,k4,aG,rfl,rfl,hd7,hE,hF⟩
 refine Kb hE ae (fun jL=>?_)
 rcases aG with _|⟨x6,aG⟩
 · have fG:=dn hd7
   rw[J7]at hF
   refine aL ?_
   refine dE ?_
   exact ze hF
 obtain⟨fG,dm,fF⟩:=dA hd7
 rw[J7]at hF
 refine aL ?_
 refine dD ?_
 refine lT ?_
 refine Ai dm (fun k13 lc=>?_)
 refine j_ (mZ x6) nI (fun gT=>?_)
 refine bnd hF fun r16 jy hF=>mh (.rd .h rfl (.rd .q3 rfl (.rd .q4 rfl (.rd .q5 rfl (.rd .q6 rfl .nil))))) (lm aiz.h (.tmp rfl rfl) bz (aeq jy)) (fun _=>?_)
 refine au ?_
 refine Ci hF (fun kW hF=>?_) (fun kW hF=>?_)
 · exact ze hF
 refine bf ?_
 rw[wk k4]
 exact⟨_,bY _,_,k4+1,aG,rfl,aB,fF,aA,hF⟩
def Tu(ae:List Fact)(aD:Method)(dz:aV):Option (List Fact):=
 IE (fun ai=>xg ai aD dz) ae
theorem aly(qs:List (Value×Fact))(v:Sv)(F:List Nat)(bD:Nat)(aD:Method)(fE:Sv)(fP:Nat)(dz:aV)(oo:Sv)(p:Value×Fact->Bool)(hcl:∀q∈qs,xg q.2 aD dz=some (p q))(hidx:Ya (qs.map Prod.snd) aD dz=some (iU p qs 0))(hbd:qs.length<4611686018427387904):
   Fw.Spec Tryz.prog 150 [v.v,(.func (.func 152) [].toArray [(.pointer (some ⟨bD,0,some 0⟩)),(.pointer (some ⟨fP,0,some 0⟩))].toArray)] [aJ (az 71 (aj (rq lV))) F v.v qs,a_ bD 92 (.agg [(.int .i64 aD.Rel),fE.v,(.int .i64 aD.Limit),(.int .i64 aD.Cost),(.int .i64 aD.Quota)].toArray),bT (aW 3 ax) fE.v aD.Inputs,a_ fP 115 (.agg [(.int .i64 dz.Method),oo.v].toArray),bT (aW 3 ax) oo.v dz.Values] (fun q:Sv×List Nat=>q.1.v) (fun q=>[aJ (az 71 (aj (rq lV))) q.2 q.1.v (qs.filter fun a=>!p a)]):=by
 refine zV (n:=42) Tryz.func150 rfl rfl (rs:=[.tmp 4]) rfl rfl rfl ?_
 intro H0 F0
 refine cB ?_
 refine aK (iG (v:=(.slice none 0 0)) EV.nilSlice) ?_
 refine dS ?_
 refine cB ?_
 refine aK (cu (v:=v.v) (.tmp rfl rfl)) ?_
 refine aK (cu (v:=(.func (.func 152) [].toArray [(.pointer (some ⟨bD,0,some 0⟩)),(.pointer (some ⟨fP,0,some 0⟩))].toArray)) (.tmp rfl rfl)) ?_
 refine dC (.cons .h (.rd .h rfl (.rd (.t .h) rfl (.rd (.t (.t .h)) rfl (.rd (.t (.t (.t .h))) rfl .nil))))) (ahk ahW (fun _=>.nil) (fM (.rd (.t (.t (.t (.t .h)))) rfl (.rd .h rfl (.rd (.t .h) rfl (.rd (.t (.t .h)) rfl (.rd (.t (.t (.t .h))) rfl .nil))))) (bP aix.h (.cons (.tmp rfl rfl) (.cons (.tmp rfl rfl) .nil)) (@alC (qs.map Prod.snd) v bD aD fE fP dz oo _ hidx)))) (fun _=>?_)
 generalize hR:iU p qs 0=R0
 refine aK (iG (v:=(.int .i64 R0)) (.tmp rfl rfl)) ?_
 refine dS ?_
 refine j6 ?_
 refine cB ?_
 refine aK (cu (v:=(.int .i64 R0)) (.tmp rfl rfl)) ?_
 refine aK (rE (i:=R0) (j:=(-1)) (.tmp rfl rfl) (.int _ _)) ?_
 refine dS ?_
 refine kQ (b:=(R0==(-1:Int))) (.tmp rfl rfl) (fun hb=>?_) (fun hb=>?_)
 · refine cB ?_
   refine aK (cu (v:=v.v) (.tmp rfl rfl)) ?_
   refine aK (iG (v:=v.v) (.tmp rfl rfl)) ?_
   refine dS ?_
   refine tY ?_
   have e:qs.filter (fun q=>!p q)=qs:=ZX (k:=0) (by rw[hR]; simpa using hb)
   rw[e]
   exact eO (v,F) (.tmp rfl rfl .nil) rfl (.sel (.cons .h .nil))
 refine qd ?_
 obtain⟨i0,hi0,hi1⟩:∃i:Nat,R0=(i:Int)/\i<qs.length:=by
   rcases Zv p qs 0 with h|⟨i,h,hi⟩
   · rw[hR]at h; subst h; simp at hb
   · exact⟨i,by rw[←hR,h],by omega⟩
 subst hi0
 refine j6 ?_
 refine cB ?_
 refine aK (cu (v:=(.int .i64 (i0:Int))) (.tmp rfl rfl)) ?_
 refine aK (kL (i:=(i0:Int)) (j:=1) (.tmp rfl rfl) (.int _ _)) ?_
 rw[show IntKind.i64.wrap ((i0:Int)+1)=((i0+1:Nat):Int)from by rw[dX (by omega) (by omega)]; rfl]
 refine aK (iG (v:=(.int .i64 ((i0+1:Nat):Int))) (.tmp rfl rfl)) ?_
 refine dS ?_
 refine bn ?_
 refine bU (m:=qs.length-(i0+1)) (fun m f' cs'=>∃(g:Fr)(cur:List (Value×Fact))(i j:Nat)(F':List Nat),m=qs.length-j/\f'=aR g [(0,v.v),(1,(.func (.func 152) [].toArray [(.pointer (some ⟨bD,0,some 0⟩)),(.pointer (some ⟨fP,0,some 0⟩))].toArray)),(5,(.int .i64 (i:Int))),(6,(.int .i64 (j:Int)))]/\rH p qs cur i j/\aP cs' [aJ (az 71 (aj (rq lV))) F' v.v cur,a_ bD 92 (.agg [(.int .i64 aD.Rel),fE.v,(.int .i64 aD.Limit),(.int .i64 aD.Cost),(.int .i64 aD.Quota)].toArray),bT (aW 3 ax) fE.v aD.Inputs,a_ fP 115 (.agg [(.int .i64 dz.Method),oo.v].toArray),bT (aW 3 ax) oo.v dz.Values]) ⟨_,qs,i0,i0+1,F,rfl,(cZ.cons rfl (cZ.cons rfl (cZ.cons rfl (cZ.cons rfl (cZ.nil))))).eq,rH.init (by rw[hR]),.sel (.cons .h (.rd .h rfl (.rd (.t .h) rfl (.rd (.t (.t .h)) rfl (.rd (.t (.t (.t .h))) rfl .nil)))))⟩ ?_
 rintro m _ _ ⟨g,cur,i,j,F',rfl,rfl,hI,hE⟩
 refine bM hE ?_
 clear hE
 refine j6 ?_
 refine cB ?_
 refine aK (cu (v:=(.int .i64 (j:Int))) (.tmp rfl rfl)) ?_
 refine aK (cu (v:=v.v) (.tmp rfl rfl)) ?_
 refine iH .h (fun hp=>qD (l:=cur.length) fU.h (.tmp rfl rfl) (Ab hp)) ?_
 refine aK (yP (i:=(j:Int)) (j:=(cur.length:Int)) (.tmp rfl rfl) (.tmp rfl rfl)) ?_
 refine dS ?_
 have hlen:=hI.len
 have hij:=hI.lt
 have hjl:=hI.le
 refine kQ (b:=(decide ((j:Int)<(cur.length:Int)))) (.tmp rfl rfl) (fun hb2=>?_) (fun hb2=>?_)
 · refine qd ?_
   have hj:j<qs.length:=by simp at hb2; omega
   obtain⟨x,hx1,hx2⟩:=hI.at hj
   refine PH ?_
   refine cB ?_
   refine aK (cu (v:=v.v) (.tmp rfl rfl)) ?_
   refine aK (cu (v:=(.int .i64 (j:Int))) (.tmp rfl rfl)) ?_
   refine rA fU.h eG.h.sz (.tmp rfl rfl) (.tmp rfl rfl) .h (by simp; omega) (fun k hk=>?_)
   refine arB (a:=x) (ul:=fun i:Sv=>[(.int .i64 x.2.Rel),i.v]) (cc:=fun i=>[bT (aW 3 ax) i.v x.2.Values]) Bz.h eG.h.sz rfl (.tmp rfl rfl) .h hk (by simpa using hx1) (fun H e h=>by obtain⟨-,v0,h1,h0⟩:=h; exact⟨v0,h1,rfl,by simp[bT,h0]⟩) (fun w=>?_)
   refine b_ rfl (ru (g:=true) eG.h rfl rfl) (fun k1=>?_)
   refine dC (.cons .h .nil) (fA (e:=(.agg [(.int .i64 0),(.slice none 0 0)].toArray)) (e':=(.agg [(.int .i64 x.2.Rel),w.v].toArray)) (v:=(.agg [(.int .i64 x.2.Rel),w.v].toArray)) eG.h.sz (.tmp rfl rfl) (.tmp rfl rfl) rfl rfl rfl rfl rfl) (fun _=>?_)
   refine dS ?_
   refine cB ?_
   refine aK (cu (v:=(.func (.func 152) [].toArray [(.pointer (some ⟨bD,0,some 0⟩)),(.pointer (some ⟨fP,0,some 0⟩))].toArray)) (.tmp rfl rfl)) ?_
   refine iH .h (fun hp=>gM Bz.h eG.h.sz rfl (.tmp rfl rfl) hp.2 rfl) ?_
   refine mh (.rd (.t (.t .h)) rfl (.rd (.t (.t (.t (.t .h)))) rfl (.rd (.t (.t (.t (.t (.t .h))))) rfl (.rd (.t (.t (.t (.t (.t (.t .h)))))) rfl (.rd (.t (.t (.t (.t (.t (.t (.t .h))))))) rfl .nil))))) (lm aiz.h (.tmp rfl rfl) (.cons (.tmp rfl rfl) .nil) (@aeq x.2 w bD aD fE fP dz oo _ (hcl x (List.mem_of_getElem? hx2)))) (fun _=>?_)
   refine aK (LV (b:=p x) (.tmp rfl rfl)) ?_
   refine dS ?_
   refine kQ (b:=(!p x)) (.tmp rfl rfl) (fun hb3=>?_) (fun hb3=>?_)
   · refine cB ?_
     refine aK (cu (v:=v.v) (.tmp rfl rfl)) ?_
     refine aK (cu (v:=(.int .i64 (i:Int))) (.tmp rfl rfl)) ?_
     refine iH .h (fun hp=>gM Bz.h eG.h.sz rfl (.tmp rfl rfl) hp.2 rfl) ?_
     have hii:(decide ((0:Int)<=(i:Int))&&decide ((i:Int)<(cur.length:Int)))=true:=by simp; omega
     refine rA fU.h eG.h.sz (.tmp rfl rfl) (.tmp rfl rfl) (.t (.t (.t .h))) hii (fun k2 hk2=>?_)
     refine dC (.cons (.t (.t (.t .h))) (.rd (.t .h) rfl .nil)) (D8 (Ro:=aj (rq lV)) (a:=x) (i:=(i:Int)) eG.h.sz rfl (.tmp rfl rfl) (.tmp rfl rfl) hk2 hii VG (fun _ _ _ _ h=>by obtain⟨-,-,v0,rfl,_⟩:=h; rfl)) (fun F2=>?_)
     refine dS ?_
     refine qY ?_
     refine aK (cu (v:=(.int .i64 (i:Int))) (.tmp rfl rfl)) ?_
     refine aK (kL (i:=(i:Int)) (j:=1) (.tmp rfl rfl) (.int _ _)) ?_
     rw[show IntKind.i64.wrap ((i:Int)+1)=((i+1:Nat):Int)from by rw[dX (by omega) (by omega)]; rfl]
     refine aK (iG (v:=(.int .i64 ((i+1:Nat):Int))) (.tmp rfl rfl)) ?_
     refine dS ?_
     refine qY ?_
     refine aK (cu (v:=(.int .i64 (j:Int))) (.tmp rfl rfl)) ?_
     refine aK (kL (i:=(j:Int)) (j:=1) (.tmp rfl rfl) (.int _ _)) ?_
     rw[show IntKind.i64.wrap ((j:Int)+1)=((j+1:Nat):Int)from by rw[dX (by omega) (by omega)]; rfl]
     refine aK (iG (v:=(.int .i64 ((j+1:Nat):Int))) (.tmp rfl rfl)) ?_
     refine dS ?_
     exact⟨_,by omega,_,cur.set i x,i+1,j+1,F2,rfl,(cZ.cons rfl (cZ.cons rfl (cZ.cons rfl (cZ.cons rfl (cZ.nil))))).eq,hI.no hx2 (by simpa using hb3),.sel (.cons .h (.rd (.t (.t (.t .h))) rfl (.rd (.t (.t (.t (.t .h)))) rfl (.rd (.t (.t (.t (.t (.t .h))))) rfl (.rd (.t (.t (.t (.t (.t (.t .h)))))) rfl .nil)))))⟩
   · refine qd ?_
     refine qY ?_
     refine aK (cu (v:=(.int .i64 (j:Int))) (.tmp rfl rfl)) ?_
     refine aK (kL (i:=(j:Int)) (j:=1) (.tmp rfl rfl) (.int _ _)) ?_
     rw[show IntKind.i64.wrap ((j:Int)+1)=((j+1:Nat):Int)from by rw[dX (by omega) (by omega)]; rfl]
     refine aK (iG (v:=(.int .i64 ((j+1:Nat):Int))) (.tmp rfl rfl)) ?_
     refine dS ?_
     exact⟨_,by omega,_,cur,i,j+1,F',rfl,(cZ.cons rfl (cZ.cons rfl (cZ.cons rfl (cZ.cons rfl (cZ.nil))))).eq,hI.yes hx2 (by simpa using hb3),.sel (.cons (.t (.t (.t .h))) (.rd (.t (.t (.t .h))) rfl (.rd (.t (.t (.t (.t .h)))) rfl (.rd (.t (.t (.t (.t (.t .h))))) rfl (.rd (.t (.t (.t (.t (.t (.t .h)))))) rfl .nil)))))⟩
 · refine H9 ?_
   refine zU ?_
   refine zU ?_
   refine Hz ?_
   have hj:qs.length<=j:=by simp at hb2; omega
   refine yO .h (Lh (by intro e; rw[e]at hlen; simp at hlen; omega)) (fun hv=>?_)
   obtain⟨k0,m0,rfl,hm0⟩:=hv
   refine cB ?_
   refine aK (cu (v:=(.slice (some ⟨k0,0,none⟩) cur.length m0)) (.tmp rfl rfl)) ?_
   refine aK (cu (v:=(.int .i64 (i:Int))) (.tmp rfl rfl)) ?_
   refine af1 fU.h eG.h.sz (.tmp rfl rfl) (.tmp rfl rfl) .h (by omega) (by omega) ?_
   refine dC (.cons .h .nil) (ahn (l:=cur.length) (m:=m0) (k:=k0) (i:=i) (j:=cur.length-i) fU.h eG.h rfl rfl rfl rfl rfl (by omega) (.tmp rfl rfl)) (fun _=>?_)
   refine dS ?_
   refine cB ?_
   refine aK (cu (v:=(.slice (some ⟨k0,0,none⟩) cur.length m0)) (.tmp rfl rfl)) ?_
   refine aK (cu (v:=(.int .i64 (i:Int))) (.tmp rfl rfl)) ?_
   refine af2 fU.h eG.h.sz (.tmp rfl rfl) hm0 (.tmp rfl rfl) .h rfl (by omega) (by omega) (by omega) ?_
   refine aK (iG (v:=(.slice (some ⟨k0,0,none⟩) i 2)) (.tmp rfl rfl)) ?_
   refine dS ?_
   refine tY ?_
   rw[←hI.fin hj]
   exact eO (⟨some ⟨k0,0,none⟩,i,2⟩,F') (.tmp rfl rfl .nil) rfl (.sel (.cons .h .nil))
theorem alz{ae:List Fact}{aa:Sv}{lF:List Nat}{bD:Nat}{aD:Method}{fE:Sv}{fP:Nat}{dz:aV}{oo:Sv}{R:List Fact}(hF:Tu ae aD dz=some R):
   Fw.Spec Tryz.prog 150 [aa.v,(.func (.func 152) [].toArray [(.pointer (some ⟨bD,0,some 0⟩)),(.pointer (some ⟨fP,0,some 0⟩))].toArray)] [aJ (az 71 gD) lF aa.v ae,a_ bD 92 (.agg [(.int .i64 aD.Rel),fE.v,(.int .i64 aD.Limit),(.int .i64 aD.Cost),(.int .i64 aD.Quota)].toArray),bT (aW 3 ax) fE.v aD.Inputs,a_ fP 115 (.agg [(.int .i64 dz.Method),oo.v].toArray),bT (aW 3 ax) oo.v dz.Values] (fun p:Sv×List Nat=>p.1.v) (fun p=>[aJ (az 71 gD) p.2 p.1.v R]):=by
 unfold Tu at hF
 obtain⟨h1,h2⟩:=Zu hF
 refine af3 afA (fun hb=>?_)
 refine af0 (R:=lV) rfl (fun es F1 hel=>⟨(es.zip ae).filter (fun a=>!(xg a.2 aD dz).getD false),List.filter_sublist,by rw[h2]; exact afC (fun a=>(xg a aD dz).getD false) es ae hel,?_⟩)
 refine aly (es.zip ae) aa F1 bD aD fE fP dz oo (fun a=>(xg a.2 aD dz).getD false) (fun q hq=>h1 q.2 (List.of_mem_zip hq).2) ?_ (by simp; omega)
 rw[List.map_snd_zip (Nat.le_of_eq hel.symm),←aad Prod.snd (fun a=>(xg a aD dz).getD false),List.map_snd_zip (Nat.le_of_eq hel.symm)]
 exact oQ (L:=J7 aD dz) (fun _=>rfl) (fun _ _ _=>rfl) ae 0 h1
def Hr(ag:List Method)(bA:List Fact)(ay:aV):Option ((List Fact)):=
 (ix ag ay.Method).bind fun x2=>
 (UG bA).bind fun fC=>
 (Tu fC x2 ay).bind fun r16=>
 some r16
theorem aeY{ag:List Method}{aa:Sv}{bA:List Fact}{ak:Sv}{ay:aV}{dw:Sv}{R:(List Fact)}(hF:Hr ag bA ay=some R):
   Fw.Spec Tryz.prog 83 [aa.v,ak.v,(zg [(zi ay.Method),dw.v])] [dQ aa ag,cz ak bA,ah dw ay.Values] (fun p:Sv×List Nat=>p.1.v) (fun p=>[h_ p.2 p.1 R]):=by
 refine Se 17 Tryz.func83 [.tmp 6] ?_
 intro H0 F0
 unfold Hr at hF
 refine au ?_
 refine bW (fun k1=>?_)
 refine bG ?_
 refine zI hF fun x2 hp4 hx5 hF=>?_
 refine Ai hx5 (fun k6 j7=>?_)
 refine j_ (yF x2) zZ (fun p8=>?_)
 refine cO (fun k9=>?_)
 refine As (zg [(zi x2.Rel),p8.v,(zi x2.Limit),(zi x2.Cost),(zi x2.Quota)]) ?_
 refine au ?_
 refine lS .h H_ ?_
 refine aT ?_
 refine bnd hF fun fC fQ hF=>dW (anu fQ) (fun gT=>?_)
 refine aK (rV (fn:=.func 152) (vs:=[]) (us:=[(pz k9),(pz k1)]) .nil bz) ?_
 refine bnd hF fun r16 jy hF=>dW (alz jy) (fun rU=>?_)
 refine aZ ?_
 cases hF
 exact Er (rU.1,rU.2)
def Om(ay:aV)(aD:List Method)(dz:List Fact):Option ((List Fact)):=
 (Hr aD dz ay).bind fun r2=>
 some r2
theorem anv{ay:aV}{aQ:Sv}{bD:Nat}{aD:List Method}{dO:Sv}{fP:Nat}{dz:List Fact}{iT:Sv}{R:(List Fact)}(hF:Om ay aD dz=some R):
   Fw.Spec Tryz.prog 82 [(zg [(zi ay.Method),aQ.v]),(pz bD),(pz fP)] [ah aQ ay.Values,a_ bD 25 dO.v,dQ dO aD,a_ fP 29 iT.v,cz iT dz] (fun p:Sv×List Nat=>p.1.v) (fun p=>[h_ p.2 p.1 R]):=by
 refine Se 9 Tryz.func82 [.tmp 4] ?_
 intro H0 F0
 unfold Om at hF
 refine au ?_
 refine bW (fun k1=>?_)
 refine bG ?_
 refine bnd hF fun r2 hx3 hF=>dW (aeY hx3) (fun p4=>?_)
 refine aZ ?_
 cases hF
 exact Er (p4.1,p4.2)
def Gt(ay:aV)(aI:aV):Option (Bool):=
 (bif ((ay.Method:Int)==aI.Method)then ((Fs ay.Values aI.Values).bind fun r6=>
     some r6)
   else (some false)).bind fun o3=>
 match o3 with
 |c9=>some c9
theorem ad2{ay:aV}{aQ:Sv}{aI:aV}{aU:Sv}{R:Bool}(hF:Gt ay aI=some R):
   Fw.Spec Tryz.prog 180 [(zg [(zi ay.Method),aQ.v]),(zg [(zi aI.Method),aU.v])] [ah aQ ay.Values,ah aU aI.Values] (fun _:Unit=>(.bool R)) (fun _=>[]):=by
 refine Se 17 Tryz.func180 [.tmp 4] ?_
 intro H0 F0
 unfold Gt at hF
 refine au ?_
 refine bW (fun k1=>?_)
 refine bW (fun k2=>?_)
 refine aT ?_
 obtain⟨o3,lW,hO4⟩:=bind_some hF
 refine au ?_
 refine gB (fun f' cs'=>∃(c9:Bool)(g:Fr),c9=o3/\f'=aR g [(4,(.bool c9))]/\aP cs' []) ?_ ?_
 · replace hF:=lW
   refine bG ?_
   rcases df ((ay.Method:Int)==aI.Method)with hg5|hg5
   · rw[hg5]
     try rw[hg5]at hF; dsimp only[aY,aX]at hF
     refine eU ?_
     refine bnd hF fun r6 hx7 hF=>bR (TM hx7) (fun _=>?_)
     exact cK hF
   rw[hg5]
   try rw[hg5]at hF; dsimp only[aY,aX]at hF
   exact cK hF
 rintro _ _ ⟨c9,g10,rfl,rfl,hE⟩
 replace hF:=hO4
 try dsimp only at hF
 refine bM hE ?_
 exact ze hF
def NK(dI:aV)(aD:aV):Option (Bool):=
 (Gt dI aD).bind fun r2=>
 some r2
theorem amJ{dI:aV}{aQ:Sv}{bD:Nat}{aD:aV}{fE:Sv}{R:Bool}(hF:NK dI aD=some R):
   Fw.Spec Tryz.prog 193 [(zg [(zi dI.Method),aQ.v]),(pz bD)] [ah aQ dI.Values,a_ bD 115 (zg [(zi aD.Method),fE.v]),ah fE aD.Values] (fun _:Unit=>(.bool R)) (fun _=>[]):=by
 refine Se 7 Tryz.func193 [.tmp 3] ?_
 intro H0 F0
 unfold NK at hF
 refine au ?_
 refine bW (fun k1=>?_)
 refine bf ?_
 refine bnd hF fun r2 hx3 hF=>bR (ad2 hx3) (fun _=>?_)
 exact ze hF
def J4(aD:aV):List aV->Nat->Option (Int)
 |[],k4=>some (-1)
 |x6::aG,k4=>(NK x6 aD).bind fun r16=>
   if r16 then (
     some (k4:Int))
   else (
     J4 aD aG (k4+1))
def Tt(ae:List aV)(aD:aV):Option (Int):=
 J4 aD ae 0
theorem als{ae:List aV}{aa:Sv}{bD:Nat}{aD:aV}{fE:Sv}{R:Int}(hF:Tt ae aD=some R):
   Fw.Spec Tryz.prog 217 [aa.v,(.func (.func 193) [].toArray [(pz bD)].toArray)] [gU aa ae,a_ bD 115 (zg [(zi aD.Method),fE.v]),ah fE aD.Values] (fun _:Unit=>(zi R)) (fun _=>[]):=by
 refine Se 19 Tryz.func217 [.tmp 4] ?_
 intro H0 F0
 unfold Tt at hF
 refine eU ?_
 refine bn (bU (m:=ae.length) (fun m2 f' cs'=>∃(g:Fr)(k4:Nat)(aG:List aV),m2=aG.length/\f'=aR g [(0,aa.v),(1,(.func (.func 193) [].toArray [(pz bD)].toArray)),(7,(zi (ae.length:Int))),(8,(zi (k4:Int)))]/\List.drop k4 ae=aG/\aP cs' [gU aa ae,a_ bD 115 (zg [(zi aD.Method),fE.v]),ah fE aD.Values]/\J4 aD aG k4=some R) ⟨_,0,_,rfl,aB,rfl,aA,hF⟩ ?_)
 rintro m2 _ _ ⟨g3,k4,aG,rfl,rfl,hd7,hE,hF⟩
 refine Kb hE ae (fun jL=>?_)
 rcases aG with _|⟨x6,aG⟩
 · have fG:=dn hd7
   rw[J4]at hF
   refine aL ?_
   refine dE ?_
   exact ze hF
 obtain⟨fG,dm,fF⟩:=dA hd7
 rw[J4]at hF
 refine aL ?_
 refine dD ?_
 refine lT ?_
 refine Ai dm (fun k13 lc=>?_)
 refine j_ (zQ x6) Dv (fun gT=>?_)
 refine bnd hF fun r16 jy hF=>mh (.rd .h rfl (.rd .q3 rfl (.rd .q4 rfl .nil))) (lm at0.h (.tmp rfl rfl) bz (amJ jy)) (fun _=>?_)
 refine au ?_
 refine Ci hF (fun kW hF=>?_) (fun kW hF=>?_)
 · exact ze hF
 refine bf ?_
 rw[wk k4]
 exact⟨_,bY _,_,k4+1,aG,rfl,aB,fF,aA,hF⟩
def Nj(ae:List aV)(aD:aV):Option (Bool):=
 (Tt ae aD).bind fun r1=>
 some (decide ((0:Int)<=r1))
theorem alp{ae:List aV}{aa:Sv}{bD:Nat}{aD:aV}{fE:Sv}{R:Bool}(hF:Nj ae aD=some R):
   Fw.Spec Tryz.prog 192 [aa.v,(.func (.func 193) [].toArray [(pz bD)].toArray)] [gU aa ae,a_ bD 115 (zg [(zi aD.Method),fE.v]),ah fE aD.Values] (fun _:Unit=>(.bool R)) (fun _=>[]):=by
 refine Se 9 Tryz.func192 [.tmp 4] ?_
 intro H0 F0
 unfold Nj at hF
 refine bG ?_
 refine bnd hF fun r1 hx2 hF=>bR (als hx2) (fun _=>?_)
 exact ze hF
def GM(ag:List aV)(ay:aV):Option (Bool):=
 (Nj ag ay).bind fun r2=>
 some r2
theorem aer{ag:List aV}{aa:Sv}{ay:aV}{aU:Sv}{R:Bool}(hF:GM ag ay=some R):
   Fw.Spec Tryz.prog 146 [aa.v,(zg [(zi ay.Method),aU.v])] [gU aa ag,ah aU ay.Values] (fun _:Unit=>(.bool R)) (fun _=>[]):=by
 refine Se 8 Tryz.func146 [.tmp 4] ?_
 intro H0 F0
 unfold GM at hF
 refine au ?_
 refine bW (fun k1=>?_)
 refine aL ?_
 refine aK (rV (fn:=.func 193) (vs:=[]) (us:=[(pz k1)]) .nil bz) ?_
 refine bnd hF fun r2 hx3 hF=>bR (alp hx3) (fun _=>?_)
 exact ze hF
def CJ(ai:aO)(kN:Step)(vo:List aM)(qP:aM)(sK:(List Fact))(I7:List aV):List Fact->Nat->(List Fact)->Option ((List aV)×(List Fact)×(List aM))
 |[],BP,I8=>(ix ai.Atoms kN.Atom).bind fun WG=>
   (zW ([qP]:List aM) WG sK).bind fun akn=>
   (app vo akn).bind fun ako=>
   some (I7,I8,ako)
 |WH::Ak,BP,I8=>(Ic I8 WH).bind fun akp=>
   CJ ai kN vo qP sK I7 Ak (BP+1) akp
def w9(ag:List Method)(ai:aO)(aD:List Method)(dz:List Fact)(kN:Step):List aM->Nat->(List aV)->(List Fact)->(List aM)->Option ((List aV)×(List Fact)×(List aM))
 |[],wE,y8,Ew,vo=>some (y8,Ew,vo)
 |qP::Am,wE,y8,Ew,vo=>((ix ai.Atoms kN.Atom).bind fun WI=>
     (KV ag kN.Method WI qP).bind fun y9=>
     (Om y9 aD dz).bind fun sK=>
     (GM y8 y9).bind fun akq=>
     if (!akq)then (
       (app y8 ([y9]:List aV)).bind fun I7=>
       CJ ai kN vo qP sK I7 sK 0 Ew)
     else (
       (ix ai.Atoms kN.Atom).bind fun VO=>
       (zW ([qP]:List aM) VO sK).bind fun aiI=>
       (app vo aiI).bind fun aiJ=>
       some (y8,Ew,aiJ))).bind fun WJ=>
   match WJ with
   |(Qk,Ql,Qm)=>w9 ag ai aD dz kN Am (wE+1) Qk Ql Qm
def CK(ag:List Method)(ai:aO)(aD:List Method)(dz:List Fact):List Step->Nat->(List aV)->(List Fact)->(List aM)->Option (Run)
 |[],uo,BQ,I9,qQ=>(K5 ai qQ).bind fun akr=>
   (UY ag BQ).bind fun Rt=>
   some (⟨akr,BQ,I9,Rt⟩:Run)
 |kN::Ao,uo,BQ,I9,qQ=>(w9 ag ai aD dz kN qQ 0 BQ I9 ([]:List aM)).bind fun WK=>
   match WK with
   |(Qn,Qo,Qp)=>CK ag ai aD dz Ao (uo+1) Qn Qo Qp
def TS(ag:List Method)(ai:aO)(qB:List Step)(aD:List Method)(dz:List Fact):Option (Run):=
 CK ag ai aD dz qB 0 ([]:List aV) ([]:List Fact) ([(⟨[],[]⟩:aM)]:List aM)
theorem al9{ag:List Method}{aa:Sv}{ai:aO}{ak aU:Sv}{qB:List Step}{bu:Sv}{bD:Nat}{aD:List Method}{dO:Sv}{fP:Nat}{dz:List Fact}{iT:Sv}{R:Run}(hF:TS ag ai qB aD dz=some R):
   Fw.Spec Tryz.prog 81 [aa.v,(zg [ak.v,aU.v]),bu.v,(.func (.func 82) [].toArray [(pz bD),(pz fP)].toArray)] [dQ aa ag,ah ak ai.Head,bX aU ai.Atoms,Ml bu qB,a_ bD 25 dO.v,dQ dO aD,a_ fP 29 iT.v,cz iT dz] (fun p:Sv×List Nat×Sv×List Nat×Sv×List Nat=>(zg [p.1.v,p.2.2.1.v,p.2.2.2.2.1.v,(zi R.Cost)])) (fun p=>[aJ (az 24 (az 3 (aj ax))) p.2.1 p.1.v R.Answers,mM p.2.2.2.1 p.2.2.1 R.Log,h_ p.2.2.2.2.2 p.2.2.2.2.1 R.Got]):=by
 refine Se 98 Tryz.func81 [.cell 8 112] ?_
 intro H0 F0
 unfold TS at hF
 refine au ?_
 refine bW (fun k1=>?_)
 refine cO (fun k2=>?_)
 refine aT ?_
 refine aK (gH atU.h rfl (vs:=[]) .nil (cells:=[(.slice none 0 0),(.slice none 0 0),(.slice none 0 0),(zi 0)]) rfl) ?_
 refine cO (fun k3=>?_)
 refine As (zg [(.slice none 0 0),(.slice none 0 0),(.slice none 0 0),(zi 0)]) ?_
 refine aT ?_
 refine aK (gH d_.h rfl (vs:=[]) .nil (cells:=[(.slice none 0 0),(.slice none 0 0)]) rfl) ?_
 refine b_ rfl (bI (g:=true) rJ.h d_.h bz (vs:=[(zg [(.slice none 0 0),(.slice none 0 0)])]) rfl rfl rfl (by intro v hv; simp at hv; rcases hv with rfl<;>rfl)) (fun k4=>?_)
 iterate 2 refine Ee .nil (fu (Ro:=(aj ax)) (E:=3)) bB ?_
 refine dh (.cons .q2 (.cons (.t .h) (.cons .h .nil))) (bK (Ro:=pE) (E:=85) (F:=(([]++[])++[])) (xs:=([(⟨[],[]⟩:aM)]:List aM)) (bS (QI (v0:=⟨none,0,0⟩) (v1:=⟨none,0,0⟩) (a:=(⟨[],[]⟩:aM))) bJ bB) rfl rfl) ?_
 refine fI ?_
 refine bn (bU (m:=qB.length) (fun aks f' cs'=>∃(g:Fr)(uo:Nat)(Ao:List Step)(BQ:List aV)(I9:List Fact)(qQ:List aM)(y_:Sv)(WL:List Nat)(Ex:Sv)(WM:List Nat)(za:Sv)(akt:List Nat),aks=Ao.length/\f'=aR g [(0,aa.v),(3,(.func (.func 82) [].toArray [(pz bD),(pz fP)].toArray)),(5,(pz k1)),(8,(pz k2)),(9,(pz k3)),(10,za.v),(23,bu.v),(24,(zi (qB.length:Int))),(25,(zi (uo:Int)))]/\List.drop uo qB=Ao/\aP cs' [dQ aa ag,a_ bD 25 dO.v,dQ dO aD,a_ fP 29 iT.v,cz iT dz,a_ k1 28 (zg [ak.v,aU.v]),ah ak ai.Head,bX aU ai.Atoms,bq k2 112 (zg [(.slice none 0 0),(.slice none 0 0),(.slice none 0 0),(zi 0)]),bq k3 112 (zg [(.slice none 0 0),y_.v,Ex.v,(zi 0)]),mM WL y_ BQ,h_ WM Ex I9,pJ akt za qQ,Ml bu qB]/\CK ag ai aD dz Ao uo BQ I9 qQ=some R) ⟨_,0,_,_,_,_,⟨none,0,0⟩,[],⟨none,0,0⟩,[],⟨(some ⟨k4,0,none⟩),1,1⟩,(k4::(([]++[])++[])),rfl,aB,rfl,(.conv .nil (fu (Ro:=j4) (E:=115)) (.cons .nil) (.conv .nil (fu (Ro:=gD) (E:=71)) (.cons .nil) aA)),hF⟩ ?_)
 rintro aks _ _ ⟨aD',uo,Ao,BQ,I9,qQ,y_,WL,Ex,WM,za,akt,rfl,rfl,aiK,hE,hF⟩
 refine Kb hE qB (fun aAs=>?_)
 rcases Ao with _|⟨kN,Ao⟩
 · have au6:=dn aiK
   rw[CK]at hF
   refine aL ?_
   refine dE ?_
   refine aL ?_
   refine dM [0,1,3,4,5,2,7,6,8,9,10] [0,0,3,0,0,16,63,55,255,511,1023] [2,6,8,10] mixed (by decide+kernel) ?_
   refine sG ?_
   refine dH rfl .no .q9 (fun ha hp=>fZ (v:=y_.v) aby.h (EN ha (.tmp rfl rfl) rfl) hp.2 rfl rfl) ?_
   refine bnd hF fun akr au7 hF=>lq rfl rfl .no (.cons .q12 (.rd .q6 rfl (.rd .q7 rfl .nil))) (.own .q9 (fun _ h=>h) .nil) (fun ha=>eY bi (fun _=>(.cons .nil)) (fM (.rd (.t .h) rfl (.rd .q2 rfl (.rd .h rfl .nil))) (bP ajz.h (.cons (EN ha (.tmp rfl rfl) rfl) (.cons (EN ha (.tmp rfl rfl) rfl) .nil)) (@aeJ ai ak aU qQ za _ au7)))) (fun Ru=>?_)
   refine du ?_
   refine bnd hF fun Rt au8 hF=>bZ rfl rfl .no (.cons .q12 (.rd .q2 rfl .nil)) (.dep rfl .nil) (fun ha=>eY bi (fun _=>.nil) (fM (.rd (.t .h) rfl (.rd .h rfl .nil)) (bP atY.h (.cons (EN ha (.tmp rfl rfl) rfl) (.cons (EN ha (.tmp rfl rfl) rfl) .nil)) (@aox ag aa BQ y_ _ au8)))) (fun _=>?_)
   refine bZ rfl rfl .no (.cons .q12 .nil) (.dep rfl .nil) (fun ha=>fA (e':=(zg [Ru.1.v,y_.v,Ex.v,(zi 0)])) axE.h.sz (EN ha (.tmp rfl rfl) rfl) (EN ha (.tmp rfl rfl) rfl) rfl rfl rfl rfl rfl) (fun _=>?_)
   refine du ?_
   refine bZ rfl rfl .no (.cons .h .nil) (.dep rfl .nil) (fun ha=>fA (e':=(zg [Ru.1.v,y_.v,Ex.v,(zi Rt)])) (v:=(zi Rt)) bC.h.sz (EN ha (.tmp rfl rfl) rfl) (EN ha (.tmp rfl rfl) rfl) rfl rfl rfl rfl rfl) (fun _=>?_)
   refine du ?_
   refine aT ?_
   refine As (zg [Ru.1.v,y_.v,Ex.v,(zi Rt)]) ?_
   refine aT ?_
   cases hF
   exact Er (Ru.1,Ru.2,y_,WL,Ex,WM)
 obtain⟨au6,au9,au_⟩:=dA aiK
 rw[CK]at hF
 refine aL ?_
 refine dD ?_
 refine au ?_
 obtain⟨WK,arV,au'⟩:=bind_some hF
 refine gN (fun f' cs'=>∃(Qn:List aV)(Qo:List Fact)(Qp:List aM)(VP:Sv)(aa0:List Nat)(VQ:Sv)(aa1:List Nat)(VR:Sv)(aa2:List Nat)(g:Fr),WK=(Qn,Qo,Qp)/\f'=aR g [(0,aa.v),(3,(.func (.func 82) [].toArray [(pz bD),(pz fP)].toArray)),(5,(pz k1)),(8,(pz k2)),(9,(pz k3)),(10,VR.v),(23,bu.v),(24,(zi (qB.length:Int))),(25,(zi (uo:Int)))]/\aP cs' [dQ aa ag,a_ bD 25 dO.v,dQ dO aD,a_ fP 29 iT.v,cz iT dz,a_ k1 28 (zg [ak.v,aU.v]),ah ak ai.Head,bX aU ai.Atoms,bq k2 112 (zg [(.slice none 0 0),(.slice none 0 0),(.slice none 0 0),(zi 0)]),bq k3 112 (zg [(.slice none 0 0),VP.v,VQ.v,(zi 0)]),mM aa0 VP Qn,h_ aa1 VQ Qo,pJ aa2 VR Qp,Ml bu qB]) ?_ ?_
 · replace hF:=arV
   refine bn (cB (rF (a:=kN) Eo.h uW.h.sz (.tmp rfl rfl) (.tmp rfl rfl) .q13 (Int.natCast_nonneg uo) au9 (fun aEa aEb=>?_)))
   refine axs (af6 kN) ap' (fun _=>?_)
   refine cO (fun ME=>?_)
   refine As (zg [(zi kN.Atom),(zi kN.Method)]) ?_
   refine aT ?_
   refine b_ rfl (bI (g:=true) rJ.h d_.h .nil (vs:=[]) rfl rfl rfl (by simp)) (fun aku=>?_)
   refine dh (.cons .h .nil) (bK (Ro:=pE) (E:=85) (F:=[]) (xs:=([]:List aM)) bJ rfl rfl) ?_
   refine fI ?_
   refine bn (lS (.t (.t (.t (.t (.t (.t (.t (.t (.t (.t (.t (.t (.t (.t (.t .h))))))))))))))) bi ?_)
   refine bU (m:=qQ.length) (fun akv f' cs'=>∃(g:Fr)(wE:Nat)(Am:List aM)(y8:List aV)(Ew:List Fact)(vo:List aM)(MF:Sv)(WN:List Nat)(I_:Sv)(Rv:List Nat)(MG:Sv)(WO:List Nat),akv=Am.length/\f'=aR g [(0,aa.v),(3,(.func (.func 82) [].toArray [(pz bD),(pz fP)].toArray)),(5,(pz k1)),(8,(pz k2)),(9,(pz k3)),(12,(pz ME)),(13,MG.v),(23,bu.v),(24,(zi (qB.length:Int))),(25,(zi (uo:Int))),(30,za.v),(31,(zi (qQ.length:Int))),(32,(zi (wE:Int)))]/\List.drop wE qQ=Am/\aP cs' [dQ aa ag,a_ bD 25 dO.v,dQ dO aD,a_ fP 29 iT.v,cz iT dz,a_ k1 28 (zg [ak.v,aU.v]),ah ak ai.Head,bX aU ai.Atoms,bq k2 112 (zg [(.slice none 0 0),(.slice none 0 0),(.slice none 0 0),(zi 0)]),bq k3 112 (zg [(.slice none 0 0),MF.v,I_.v,(zi 0)]),mM WN MF y8,h_ Rv I_ Ew,bq ME 64 (zg [(zi kN.Atom),(zi kN.Method)]),pJ WO MG vo,Ml bu qB,nQ za qQ]/\w9 ag ai aD dz kN Am wE y8 Ew vo=some WK) ⟨_,0,_,_,_,_,y_,WL,Ex,WM,⟨(some ⟨aku,0,none⟩),0,1⟩,(aku::[]),rfl,aB,rfl,aA,hF⟩ ?_
   rintro akv _ _ ⟨aEc,wE,Am,y8,Ew,vo,MF,WN,I_,Rv,MG,WO,rfl,rfl,aiL,hE,hF⟩
   refine Kb hE qQ (fun aAt=>?_)
   rcases Am with _|⟨qP,Am⟩
   · have ava:=dn aiL
     rw[w9]at hF
     refine aL ?_
     refine dE ?_
     refine fI ?_
     cases hF
     exact⟨_,_,_,MF,WN,I_,Rv,MG,WO,_,rfl,aB,aA⟩
   obtain⟨ava,avb,avc⟩:=dA aiL
   rw[w9]at hF
   refine aL ?_
   refine dD ?_
   refine au ?_
   obtain⟨WJ,arW,avd⟩:=bind_some hF
   refine gN (fun f' cs'=>∃(Qk:List aV)(Ql:List Fact)(Qm:List aM)(VS:Sv)(aa3:List Nat)(VT:Sv)(aa4:List Nat)(VU:Sv)(aa5:List Nat)(g:Fr),WJ=(Qk,Ql,Qm)/\f'=aR g [(0,aa.v),(3,(.func (.func 82) [].toArray [(pz bD),(pz fP)].toArray)),(5,(pz k1)),(8,(pz k2)),(9,(pz k3)),(12,(pz ME)),(13,VU.v),(23,bu.v),(24,(zi (qB.length:Int))),(25,(zi (uo:Int))),(30,za.v),(31,(zi (qQ.length:Int))),(32,(zi (wE:Int)))]/\aP cs' [dQ aa ag,a_ bD 25 dO.v,dQ dO aD,a_ fP 29 iT.v,cz iT dz,a_ k1 28 (zg [ak.v,aU.v]),ah ak ai.Head,bX aU ai.Atoms,bq k2 112 (zg [(.slice none 0 0),(.slice none 0 0),(.slice none 0 0),(zi 0)]),bq k3 112 (zg [(.slice none 0 0),VS.v,VT.v,(zi 0)]),mM aa3 VS Qk,h_ aa4 VT Ql,bq ME 64 (zg [(zi kN.Atom),(zi kN.Method)]),pJ aa5 VU Qm,Ml bu qB,nQ za qQ]) ?_ ?_
   · replace hF:=arW
     refine bn (cB (rF (a:=qP) rJ.h d_.h.sz (.tmp rfl rfl) (.tmp rfl rfl) (.t (.t (.t (.t (.t (.t (.t (.t (.t (.t (.t (.t (.t (.t (.t .h))))))))))))))) (Int.natCast_nonneg wE) avb (fun aEd aEe=>?_)))
     refine QG (z_ qP) DX (fun wF=>?_)
     refine cO (fun akw=>?_)
     refine As (zg [wF.1.v,wF.2.v]) ?_
     refine au ?_
     refine dM [0,1,2,3,4,5,6,7,8,9,11,10,12] [0,0,2,0,8,0,32,120,248,0,1023,0,4095] [10,12] mixed (by decide+kernel) ?_
     refine bV ?_
     refine dH rfl .no (.t (.t (.t (.t (.t (.t (.t (.t (.t (.t (.t (.t (.t (.t (.t (.t .h)))))))))))))))) (fun ha hp=>fZ (v:=(zi kN.Method)) oI.h (EN ha (.tmp rfl rfl) rfl) hp.2 rfl rfl) ?_
     refine fw ?_
     refine dH rfl .no (.t (.t (.t (.t (.t (.t (.t (.t (.t (.t (.t (.t (.t (.t (.t (.t .h)))))))))))))))) (fun ha hp=>fZ (v:=(zi kN.Atom)) oI.h (EN ha (.tmp rfl rfl) rfl) hp.2 rfl rfl) ?_
     refine zI hF fun WI aCa ave hF=>?_
     refine Di ave (fun aEf aEg=>?_)
     refine oz (qZ WI) rZ (fun ay'=>?_)
     refine dH rfl .no .q2 (fun ha hp=>gM jN.h d_.h.sz rfl (EN ha (.tmp rfl rfl) rfl) hp.2 rfl) ?_
     refine gP rfl .no rfl (fun ha=>ru (g:=true) lv.h rfl rfl) (fun aEh=>?_)
     refine bnd hF fun y9 avf hF=>bZ rfl rfl .no (.rd .q7 rfl (.rd (.t .h) rfl (.rd .q4 rfl (.rd .q5 rfl .nil)))) (.own .h (fun _ h=>h) (.dep rfl (.dep rfl (.dep rfl .nil)))) (fun ha=>bP atZ.h (.cons (EN ha (.tmp rfl rfl) rfl) (.cons (EN ha (.tmp rfl rfl) rfl) (.cons (EN ha (.tmp rfl rfl) rfl) (.cons (EN ha (.tmp rfl rfl) rfl) .nil)))) (@ant ag aa kN.Method WI ay' qP wF.1 wF.2 _ avf)) (fun MH=>?_)
     refine bZ rfl rfl .no (.cons (.t .h) .nil) (.dep rfl (.dep rfl (.dep rfl (.dep rfl .nil)))) (fun ha=>fA (e':=(zg [(zi y9.Method),MH.1.v])) (v:=(zg [(zi y9.Method),MH.1.v])) lv.h.sz (EN ha (.tmp rfl rfl) rfl) (EN ha (.tmp rfl rfl) rfl) rfl rfl rfl rfl rfl) (fun _=>?_)
     refine du ?_
     refine aZ ?_
     refine bnd hF fun sK avg hF=>jM (.cons (.t .h) (.rd .q8 rfl (.rd .q9 rfl (.rd .q10 rfl (.rd .q11 rfl .nil))))) (eY bi (fun _=>(.cons .nil)) (lm axF.h (.tmp rfl rfl) bz (@anv y9 MH.1 bD aD dO fP dz iT _ avg))) (fun Rw=>?_)
     refine bQ ?_
     refine bnd hF fun akq avh hF=>jM (.cons .h (.cons (.t (.t (.t (.t (.t (.t (.t (.t (.t (.t (.t (.t (.t (.t (.t (.t (.t (.t .h)))))))))))))))))) .nil)) (iW (pre:=[]) (.cons bi (.cons bi .nil)) (fun _=>.nil) (bP aiA.h bz (@aer y8 MF y9 MH.1 _ avh))) (fun _=>?_)
     refine aT ?_
     refine Ci hF (fun arX hF=>?_) (fun arX hF=>?_)
     · refine aL ?_
       refine b_ rfl (bI (g:=true) pF.h lv.h bz (vs:=[(zg [(zi y9.Method),MH.1.v])]) rfl rfl rfl (by intro v hv; simp at hv; rcases hv with rfl<;>rfl)) (fun aEi=>?_)
       refine dh (.cons .h (.cons .h .nil)) (bK (Ro:=j4) (E:=115) (F:=(MH.2++[])) (xs:=([y9]:List aV)) (bS Qb bJ bB) rfl rfl) ?_
       refine bnd hF fun I7 avi hF=>dC (.cons (.t .h) (.cons .h .nil)) (dL (Ro:=j4) pF.h Mi lv.h rfl rfl rfl (.tmp rfl rfl) (.tmp rfl rfl) avi eX) (fun Ja=>?_)
       refine au ?_
       refine As (zg [(.slice none 0 0),Ja.1.v,I_.v,(zi 0)]) ?_
       refine bG ?_
       refine bn (lS .q2 bi ?_)
       refine bU (m:=sK.length) (fun akx f' cs'=>∃(g:Fr)(BP:Nat)(Ak I8:List Fact)(WP:Sv)(acw:List Nat),akx=Ak.length/\f'=aR g [(0,aa.v),(3,(.func (.func 82) [].toArray [(pz bD),(pz fP)].toArray)),(5,(pz k1)),(8,(pz k2)),(9,(pz k3)),(12,(pz ME)),(13,MG.v),(15,(pz akw)),(17,Rw.1.v),(23,bu.v),(24,(zi (qB.length:Int))),(25,(zi (uo:Int))),(30,za.v),(31,(zi (qQ.length:Int))),(32,(zi (wE:Int))),(61,Rw.1.v),(62,(zi (sK.length:Int))),(63,(zi (BP:Int)))]/\List.drop BP sK=Ak/\aP cs' [dQ aa ag,a_ bD 25 dO.v,dQ dO aD,a_ fP 29 iT.v,cz iT dz,a_ k1 28 (zg [ak.v,aU.v]),ah ak ai.Head,bX aU ai.Atoms,bq k2 112 (zg [(.slice none 0 0),(.slice none 0 0),(.slice none 0 0),(zi 0)]),bq k3 112 (zg [(.slice none 0 0),Ja.1.v,WP.v,(zi 0)]),mM Ja.2 Ja.1 I7,h_ acw WP I8,bq ME 64 (zg [(zi kN.Atom),(zi kN.Method)]),pJ WO MG vo,bq akw 85 (zg [wF.1.v,wF.2.v]),ah wF.1 qP.Vars,ah wF.2 qP.Values,cz Rw.1 sK,Ml bu qB,nQ za qQ]/\CJ ai kN vo qP sK I7 Ak BP I8=some WJ) ⟨_,0,_,_,I_,Rv,rfl,aB,rfl,aA,hF⟩ ?_
       rintro akx _ _ ⟨aEj,BP,Ak,I8,WP,acw,rfl,rfl,aiM,hE,hF⟩
       refine Kb hE sK (fun aAu=>?_)
       rcases Ak with _|⟨WH,Ak⟩
       · have avj:=dn aiM
         rw[CJ]at hF
         refine aL ?_
         refine dE ?_
         refine aL ?_
         refine jK [0,1,2,3,4,5,6,7,8,9,10,11,12] [0,0,2,0,8,0,32,120,248,0,1022,2047,4095] [10,11] mixed (by decide+kernel) ?_
         refine du ?_
         refine dH rfl .no .q14 (fun ha hp=>gM jN.h d_.h.sz rfl (EN ha (.tmp rfl rfl) rfl) hp.2 rfl) ?_
         refine gP rfl .no rfl (fun ha=>bI (g:=true) (len:=1) (parts:=[(0,.tmp 74)]) rJ.h d_.h (.cons (EN ha (.tmp rfl rfl) rfl) .nil) (vs:=[(zg [wF.1.v,wF.2.v])]) rfl rfl rfl (by intro v hv; simp at hv; rcases hv with rfl<;>rfl)) (fun aza=>?_)
         refine gZ (.cons .h (.rd (.t (.t (.t (.t (.t (.t (.t (.t (.t (.t (.t (.t (.t (.t (.t .h))))))))))))))) rfl (.rd (.t (.t (.t (.t (.t (.t (.t (.t (.t (.t (.t (.t (.t (.t (.t (.t .h)))))))))))))))) rfl .nil))) (bK (Ro:=(aj Ep)) (E:=85) (F:=([]++[])) (xs:=([qP]:List aM)) (bS ajB bJ bB) rfl rfl) ?_
         refine fw ?_
         refine dH rfl .no .q13 (fun ha hp=>fZ (v:=(zi kN.Atom)) oI.h (EN ha (.tmp rfl rfl) rfl) hp.2 rfl rfl) ?_
         refine zI hF fun WG aCb avk hF=>?_
         refine Di avk (fun azb aEk=>?_)
         refine oz (qZ WG) rZ (fun azc=>?_)
         refine du ?_
         refine bnd hF fun akn avl hF=>lq rfl rfl .no (.cons .q2 (.rd .h rfl (.rd (.t (.t (.t (.t (.t (.t (.t (.t (.t (.t (.t (.t (.t (.t (.t (.t (.t (.t (.t .h))))))))))))))))))) rfl .nil))) (.dep rfl (.dep rfl (.dep rfl .nil))) (fun ha=>eY bi (fun _=>(.cons .nil)) (bP aaL.h (.cons (EN ha (.tmp rfl rfl) rfl) (.cons (EN ha (.tmp rfl rfl) rfl) (.cons (EN ha (.tmp rfl rfl) rfl) .nil))) (@YG ([qP]:List aM) (⟨(some ⟨aza,0,none⟩),1,1⟩) WG azc sK Rw.1 _ avl))) (fun aEl=>?_)
         refine bnd hF fun ako avm hF=>bZ rfl rfl .no (.cons (.t (.t (.t (.t (.t (.t (.t (.t (.t (.t (.t (.t (.t (.t (.t (.t (.t .h))))))))))))))))) (.cons (.t .h) .nil)) (.dep rfl (.dep rfl (.dep rfl .nil))) (fun ha=>dL (Ro:=pE) rJ.h Wi d_.h rfl rfl rfl (EN ha (.tmp rfl rfl) rfl) (EN ha (.tmp rfl rfl) rfl) avm eX) (fun aky=>?_)
         refine bV ?_
         cases hF
         exact⟨_,_,_,Ja.1,Ja.2,WP,acw,aky.1,aky.2,_,rfl,aB,aA⟩
       obtain⟨avj,avn,avo⟩:=dA aiM
       rw[CJ]at hF
       refine aL ?_
       refine dD ?_
       refine aZ ?_
       refine Ai avn (fun aEm aEn=>?_)
       refine j_ (mZ WH) nI (fun azd=>?_)
       refine cO (fun aEo=>?_)
       refine As (zg [(zi WH.Rel),azd.v]) ?_
       refine bf ?_
       refine bnd hF fun akp avp hF=>dW (Ze avp) (fun aa6=>?_)
       refine au ?_
       refine As (zg [(.slice none 0 0),Ja.1.v,aa6.1.v,(zi 0)]) ?_
       refine bf ?_
       rw[wk BP]
       exact⟨_,bY _,_,BP+1,Ak,_,aa6.1,aa6.2,rfl,aB,avo,aA,hF⟩
     refine au ?_
     refine jK [0,1,2,3,4,5,6,7,8,9,10,11,12] [0,0,2,0,8,0,32,120,248,0,1022,2047,4095] [10,11] mixed (by decide+kernel) ?_
     refine du ?_
     refine dH rfl .no .q6 (fun ha hp=>gM jN.h d_.h.sz rfl (EN ha (.tmp rfl rfl) rfl) hp.2 rfl) ?_
     refine gP rfl .no rfl (fun ha=>bI (g:=true) (len:=1) (parts:=[(0,.tmp 74)]) rJ.h d_.h (.cons (EN ha (.tmp rfl rfl) rfl) .nil) (vs:=[(zg [wF.1.v,wF.2.v])]) rfl rfl rfl (by intro v hv; simp at hv; rcases hv with rfl<;>rfl)) (fun avq=>?_)
     refine gZ (.cons .h (.rd .q7 rfl (.rd .q8 rfl .nil))) (bK (Ro:=(aj Ep)) (E:=85) (F:=([]++[])) (xs:=([qP]:List aM)) (bS ajB bJ bB) rfl rfl) ?_
     refine fw ?_
     refine dH rfl .no (.t (.t (.t (.t (.t (.t (.t (.t (.t (.t (.t (.t (.t (.t (.t (.t (.t (.t (.t (.t (.t (.t .h)))))))))))))))))))))) (fun ha hp=>fZ (v:=(zi kN.Atom)) oI.h (EN ha (.tmp rfl rfl) rfl) hp.2 rfl rfl) ?_
     refine zI hF fun VO aAv arY hF=>?_
     refine Di arY (fun aCc aCd=>?_)
     refine oz (qZ VO) rZ (fun avr=>?_)
     refine du ?_
     refine bnd hF fun aiI arZ hF=>AL rfl rfl .no (.cons .q5 (.cons .q2 (.rd .h rfl .nil))) (.dep rfl (.dep rfl (.dep rfl .nil))) (fun ha=>ahp (pre:=_) (.cons bi (.cons bi .nil)) (fun _=>(.cons .nil)) (fM (.rd (.t .h) rfl (.rd .q2 rfl (.rd .h rfl .nil))) (bP aaL.h (.cons (EN ha (.tmp rfl rfl) rfl) (.cons (EN ha (.tmp rfl rfl) rfl) (.cons (EN ha (.tmp rfl rfl) rfl) .nil))) (@YG ([qP]:List aM) (⟨(some ⟨avq,0,none⟩),1,1⟩) VO avr sK Rw.1 _ arZ)))) (fun aCe=>?_)
     refine bnd hF fun aiJ ar0 hF=>bZ rfl rfl .no (.cons (.t (.t (.t (.t (.t (.t (.t (.t (.t (.t (.t (.t (.t (.t (.t (.t (.t (.t (.t (.t (.t (.t (.t (.t (.t (.t .h)))))))))))))))))))))))))) (.cons .q2 .nil)) (.dep rfl (.dep rfl (.dep rfl .nil))) (fun ha=>dL (Ro:=pE) rJ.h Wi d_.h rfl rfl rfl (EN ha (.tmp rfl rfl) rfl) (EN ha (.tmp rfl rfl) rfl) ar0 eX) (fun aiN=>?_)
     refine bV ?_
     cases hF
     exact⟨_,_,_,MF,WN,I_,Rv,aiN.1,aiN.2,_,rfl,aB,aA⟩
   rintro _ _ ⟨Qk,Ql,Qm,VS,aa3,VT,aa4,VU,aa5,aCf,rfl,rfl,hE⟩
   replace hF:=avd
   try dsimp only at hF
   refine bM hE ?_
   refine aL ?_
   rw[wk wE]
   exact⟨_,bY _,_,wE+1,Am,_,_,_,VS,aa3,VT,aa4,VU,aa5,rfl,aB,avc,aA,hF⟩
 rintro _ _ ⟨Qn,Qo,Qp,VP,aa0,VQ,aa1,VR,aa2,aCg,rfl,rfl,hE⟩
 replace hF:=au'
 try dsimp only at hF
 refine bM hE ?_
 refine aL ?_
 rw[wk uo]
 exact⟨_,bY _,_,uo+1,Ao,_,_,_,VP,aa0,VQ,aa1,VR,aa2,rfl,aB,au_,aA,hF⟩
def OY(fuel:Nat)(ag:List Method)(jJ:aO)(bA:List Fact):Option ((List (List Int))):=
 (KT ag).bind fun r4=>
 (Lj fuel r4 jJ.Atoms).bind fun r7=>
 (TS ag jJ r7.1 ag bA).bind fun kK=>
 some kK.Answers
theorem aoy{fuel:Nat}{ag:List Method}{aa:Sv}{jJ:aO}{ak aU:Sv}{bA:List Fact}{bu:Sv}{R:(List (List Int))}(hF:OY fuel ag jJ bA=some R):
   Fw.Spec Tryz.prog 31 [aa.v,(zg [ak.v,aU.v]),bu.v] [dQ aa ag,ah ak jJ.Head,bX aU jJ.Atoms,cz bu bA] (fun p:Sv×List Nat=>p.1.v) (fun p=>[aJ (az 24 (az 3 (aj ax))) p.2 p.1.v R]):=by
 refine Se 23 Tryz.func31 [.tmp 6] ?_
 intro H0 F0
 unfold OY at hF
 refine au ?_
 refine bW (fun k1=>?_)
 refine bW (fun k2=>?_)
 refine bW (fun k3=>?_)
 refine aT ?_
 refine dM [0,2,3,1,4,5,6,7,8,9] [0,1,0,4,15,31,63,63,127,511] [1,4] mixed (by decide+kernel) ?_
 refine fw ?_
 refine bnd hF fun r4 hx5 hF=>kZ (aep hx5) (fun p6=>?_)
 refine bnd hF fun r7 nY hF=>AL rfl rfl .no (.cons .h (.rd .q5 rfl .nil)) .nil (fun ha=>eY bi (fun _=>(.cons (.cons .nil))) (bP ajs.h (.cons (EN ha (.tmp rfl rfl) rfl) (.cons (EN ha (.tmp rfl rfl) rfl) .nil)) (ae9 nY))) (fun p9=>?_)
 refine du ?_
 refine dJ rfl .no (fun ha=>qz (l:=[p9.1.v,p9.2.2.1.v]) (v:=p9.1.v) (EN ha (.tmp rfl rfl) rfl) rfl) ?_
 refine dJ rfl .no (fun ha=>qz (l:=[p9.1.v,p9.2.2.1.v]) (v:=p9.2.2.1.v) (EN ha (.tmp rfl rfl) rfl) rfl) ?_
 refine fw ?_
 refine aL ?_
 refine aK (rV (fn:=.func 82) (vs:=[]) (us:=[(pz k1),(pz k3)]) .nil bz) ?_
 refine bnd hF fun kK mD hF=>uV (.cons (.t .h) (.rd .q5 rfl (.rd .q6 rfl (.rd .q7 rfl (.rd .q4 rfl (.rd .q5 rfl (.rd .q2 rfl (.rd .q8 rfl .nil)))))))) (eY bi (fun _=>(.cons (.cons (.cons .nil)))) (fM (.rd (.t .h) rfl (.rd .q2 rfl (.rd .q3 rfl (.rd .h rfl (.rd .q4 rfl (.rd (.t .h) rfl (.rd .q6 rfl (.rd .q7 rfl .nil)))))))) (bP axD.h bz (al9 mD)))) (fun iP=>?_)
 refine aK (aaf (v:=iP.1.v) aqB axH.h (.tmp rfl rfl) rfl) ?_
 refine aZ ?_
 cases hF
 exact Er (iP.1,iP.2.1)
def Nu(fuel:Nat)(ae:List Int)(ag:List Method)(ai:aO)(bA:List Fact):Option ((List (List Int))×Bool):=
 ((yD fuel ae ag ai).bind fun r4=>
   bif (!r4)then (some true)
   else ((DL ae bA).bind fun r8=>
     some (!r8))).bind fun o2=>
 match o2 with
 |c11=>if c11 then (
     some ([],false))
   else (
     (LM fuel ae ag ai).bind fun eZ=>
     (OY fuel ag eZ.1 bA).bind fun r16=>
     some (r16,true))
theorem ame{fuel:Nat}{ae:List Int}{aa:Sv}{ag:List Method}{ak:Sv}{ai:aO}{bu dw:Sv}{bA:List Fact}{jG:Sv}{R:(List (List Int))×Bool}(hF:Nu fuel ae ag ai bA=some R):
   Fw.Spec Tryz.prog 6 [aa.v,ak.v,(zg [bu.v,dw.v]),jG.v] [ah aa ae,dQ ak ag,ah bu ai.Head,bX dw ai.Atoms,cz jG bA] (fun p:Sv×List Nat=>(.tuple [p.1.v,(.bool R.2)].toArray)) (fun p=>[aJ (az 24 (az 3 (aj ax))) p.2 p.1.v R.1]):=by
 refine Se 34 Tryz.func6 [.tmp 8,.tmp 9] ?_
 intro H0 F0
 unfold Nu at hF
 refine au ?_
 refine bW (fun k1=>?_)
 refine aL ?_
 obtain⟨o2,kX,hO3⟩:=bind_some hF
 refine au ?_
 refine gB (fun f' cs'=>∃(c11:Bool)(g:Fr),c11=o2/\f'=aR g [(0,aa.v),(1,ak.v),(3,jG.v),(6,(pz k1)),(22,(.bool c11))]/\aP cs' [ah aa ae,dQ ak ag,cz jG bA,a_ k1 28 (zg [bu.v,dw.v]),ah bu ai.Head,bX dw ai.Atoms]) ?_ ?_
 · replace hF:=kX
   refine aZ ?_
   refine bnd hF fun r4 hx5 hF=>bR (Ub hx5) (fun _=>?_)
   refine aT ?_
   rcases df (!r4)with ek|ek
   · rw[ek]
     try rw[ek]at hF; dsimp only[aY,aX]at hF
     exact cK hF
   rw[ek]
   try rw[ek]at hF; dsimp only[aY,aX]at hF
   refine bf ?_
   refine bnd hF fun r8 dm hF=>bR (NJ dm) (fun _=>?_)
   exact cK hF
 rintro _ _ ⟨c11,g20,rfl,rfl,hE⟩
 replace hF:=hO3
 try dsimp only at hF
 refine bM hE ?_
 refine Ci hF (fun qK hF=>?_) (fun qK hF=>?_)
 · refine bf ?_
   cases hF
   exact eO (⟨none,0,0⟩,[]) (.tmp rfl rfl (.tmp rfl rfl .nil)) rfl (.conv .nil (fu (Ro:=(az 3 (aj ax))) (E:=24)) (.cons .nil) (.sel (.cons .h .nil)))
 refine bf ?_
 refine bnd hF fun eZ jc hF=>mV (af7 jc) (fun pX=>?_)
 refine au ?_
 refine zx ?_
 refine zx ?_
 refine cO (fun k15=>?_)
 refine As (zg [pX.1.v,pX.2.2.1.v]) ?_
 refine bG ?_
 refine bnd hF fun r16 jy hF=>Bu (.cons .q2 (.cons (.t .h) (.rd .q2 rfl (.rd .q3 rfl .nil)))) (iW (pre:=_) (.cons bi (.cons bi .nil)) (fun _=>(.cons .nil)) (fM (.rd .q2 rfl (.rd .h rfl (.rd (.t .h) rfl (.rd .q3 rfl .nil)))) (bP axC.h bz (aoy jy)))) (fun rU=>?_)
 refine aL ?_
 cases hF
 exact Er (rU.1,rU.2)
def zJ(ae:List Int)(bF:Method):List Int->Nat->Option (Bool)
 |[],k27=>some true
 |x29::o9,k27=>((ix ae bF.Rel).bind fun x40=>
     (mK x29 0 (IntKind.i64.wrap (x40-1))).bind fun Co=>
     bif (!Co)then (some true)
     else (bif (decide ((0:Int)<(k27:Int)))then ((ix bF.Inputs (IntKind.i64.wrap ((k27:Int)-1))).bind fun x53=>
         some (decide ((x29:Int)<=x53)))
       else (some false))).bind fun o36=>
   match o36 with
   |c59=>if c59 then (
       some false)
     else (
       zJ ae bF o9 (k27+1))
def K6(ae:List Int)(bF:Method):Option (Bool):=
 ((rX ae).bind fun r4=>
   bif (!r4)then (some true)
   else ((mK bF.Rel 0 (IntKind.i64.wrap ((ae.length:Int)-1))).bind fun r8=>
     bif (!r8)then (some true)
     else ((mK bF.Limit 0 9).bind fun eZ=>
       bif (!eZ)then (some true)
       else ((mK bF.Cost 0 99).bind fun r16=>
         bif (!r16)then (some true)
         else ((mK bF.Quota 1 99).bind fun nG=>
           some (!nG)))))).bind fun o2=>
 match o2 with
 |c23=>if c23 then (
     some false)
   else (
     zJ ae bF bF.Inputs 0)
theorem anY{ae:List Int}{aa:Sv}{bF:Method}{aU:Sv}{R:Bool}(hF:K6 ae bF=some R):
   Fw.Spec Tryz.prog 57 [aa.v,(zg [(zi bF.Rel),aU.v,(zi bF.Limit),(zi bF.Cost),(zi bF.Quota)])] [ah aa ae,ah aU bF.Inputs] (fun _:Unit=>(.bool R)) (fun _=>[]):=by
 refine Se 74 Tryz.func57 [.tmp 4] ?_
 intro H0 F0
 unfold K6 at hF
 refine au ?_
 refine bW (fun k1=>?_)
 refine aZ ?_
 obtain⟨o2,kX,hO3⟩:=bind_some hF
 refine au ?_
 refine gB (fun f' cs'=>∃(c23:Bool)(g:Fr),c23=o2/\f'=aR g [(0,aa.v),(3,(pz k1)),(35,(.bool c23))]/\aP cs' [ah aa ae,a_ k1 92 (zg [(zi bF.Rel),aU.v,(zi bF.Limit),(zi bF.Cost),(zi bF.Quota)]),ah aU bF.Inputs]) ?_ ?_
 · replace hF:=kX
   refine au ?_
   refine bnd hF fun r4 hx5 hF=>bR (xc hx5) (fun _=>?_)
   refine aT ?_
   rcases df (!r4)with ek|ek
   · rw[ek]
     try rw[ek]at hF; dsimp only[aY,aX]at hF
     exact cK hF
   rw[ek]
   try rw[ek]at hF; dsimp only[aY,aX]at hF
   refine v_ ?_
   refine bnd hF fun r8 dm hF=>bR (qc dm) (fun _=>?_)
   refine aL ?_
   rcases df (!r8)with jE|jE
   · rw[jE]
     try rw[jE]at hF; dsimp only[aY,aX]at hF
     exact cK hF
   rw[jE]
   try rw[jE]at hF; dsimp only[aY,aX]at hF
   refine bf ?_
   refine bnd hF fun eZ jc hF=>bR (qc jc) (fun _=>?_)
   refine aL ?_
   rcases df (!eZ)with xR|xR
   · rw[xR]
     try rw[xR]at hF; dsimp only[aY,aX]at hF
     exact cK hF
   rw[xR]
   try rw[xR]at hF; dsimp only[aY,aX]at hF
   refine bf ?_
   refine bnd hF fun r16 jy hF=>bR (qc jy) (fun _=>?_)
   refine aL ?_
   rcases df (!r16)with Rx|Rx
   · rw[Rx]
     try rw[Rx]at hF; dsimp only[aY,aX]at hF
     exact cK hF
   rw[Rx]
   try rw[Rx]at hF; dsimp only[aY,aX]at hF
   refine bf ?_
   refine bnd hF fun nG nS hF=>bR (qc nS) (fun _=>?_)
   exact cK hF
 rintro _ _ ⟨c23,g64,rfl,rfl,hE⟩
 replace hF:=hO3
 try dsimp only at hF
 refine bM hE ?_
 refine Ci hF (fun abU hF=>?_) (fun abU hF=>?_)
 · exact ze hF
 refine bf ?_
 refine bn (bU (m:=bF.Inputs.length) (fun SX f' cs'=>∃(g:Fr)(k27:Nat)(o9:List Int),SX=o9.length/\f'=aR g [(0,aa.v),(3,(pz k1)),(5,(zi (k27:Int)))]/\List.drop k27 bF.Inputs=o9/\aP cs' [ah aa ae,a_ k1 92 (zg [(zi bF.Rel),aU.v,(zi bF.Limit),(zi bF.Cost),(zi bF.Quota)]),ah aU bF.Inputs]/\zJ ae bF o9 k27=some R) ⟨_,0,_,rfl,aB,rfl,aA,hF⟩ ?_)
 rintro SX _ _ ⟨g26,k27,o9,rfl,rfl,Ry,hE,hF⟩
 refine Kb hE bF.Inputs (fun avs=>?_)
 rcases o9 with _|⟨x29,o9⟩
 · have hk31:=dn Ry
   rw[zJ]at hF
   refine fI ?_
   refine dE ?_
   exact ze hF
 obtain⟨hk31,hx32,MC⟩:=dA Ry
 rw[zJ]at hF
 refine fI ?_
 refine dD ?_
 refine aT ?_
 obtain⟨o36,avt,aze⟩:=bind_some hF
 refine dM [0,1,2,3,4,5,6,7,8,9,10,11,12,13,14,15,16,17,18,19,20,21,22,23,24,25,26,27,28,29,30] [0,1,0,7,15,0,0,64,224,480,992,2047,4095,8191,16383,32767,65535,131071,262143,131071,1048575,2097151,131071,4325375,131071,16908287,63045631,130154495,268435455,536870911,1073741823] [11] mixed (by decide+kernel) ?_
 refine qH (fun f' cs'=>∃(c59:Bool)(g:Fr),c59=o36/\f'=aR g [(0,aa.v),(3,(pz k1)),(5,(zi (k27:Int))),(73,(.bool c59))]/\aP cs' [ah aa ae,a_ k1 92 (zg [(zi bF.Rel),aU.v,(zi bF.Limit),(zi bF.Cost),(zi bF.Quota)]),ah aU bF.Inputs]) ?_ ?_
 · replace hF:=avt
   refine fw ?_
   refine Di hx32 (fun vG j39=>?_)
   refine Dl dN ?_
   refine fw ?_
   refine zI hF fun x40 ajO oD hF=>?_
   refine Di oD (fun XL j45=>?_)
   refine Dl dN ?_
   refine du ?_
   refine bnd hF fun Co BB hF=>jB (qc BB) (fun _=>?_)
   refine bV ?_
   rcases df (!Co)with Rz|Rz
   · rw[Rz]
     try rw[Rz]at hF; dsimp only[aY,aX]at hF
     exact iC hF
   rw[Rz]
   try rw[Rz]at hF; dsimp only[aY,aX]at hF
   refine fw ?_
   rcases df (decide ((0:Int)<(k27:Int)))with RA|RA
   · rw[RA]
     try rw[RA]at hF; dsimp only[aY,aX]at hF
     refine fw ?_
     refine Di hx32 (fun XQ j52=>?_)
     refine Dl dN ?_
     refine sG ?_
     refine zI hF fun x53 aEp QM hF=>?_
     refine Di QM (fun k57 j58=>?_)
     refine Dl dN ?_
     exact iC hF
   rw[RA]
   try rw[RA]at hF; dsimp only[aY,aX]at hF
   exact iC hF
 rintro _ _ ⟨c59,g62,rfl,rfl,hE⟩
 replace hF:=aze
 try dsimp only at hF
 refine bM hE ?_
 refine Ci hF (fun IP hF=>?_) (fun IP hF=>?_)
 · exact ze hF
 refine bG ?_
 rw[wk k27]
 exact⟨_,bY _,_,k27+1,o9,rfl,aB,MC,aA,hF⟩
def FN(ae:List Int)(ag:List Method):List Method->Nat->Option (Bool)
 |[],k4=>((rX ae).bind fun eT=>
     bif eT then (some (decide (((ag.length:Int):Int)<=5)))
     else (some false)).bind fun p_=>
   match p_ with
   |c19=>some c19
 |x6::aG,k4=>(K6 ae x6).bind fun iV=>
   if (!iV)then (
     some false)
   else (
     FN ae ag aG (k4+1))
def zP(ae:List Int)(ag:List Method):Option (Bool):=
 FN ae ag ag 0
theorem Yv{ae:List Int}{aa:Sv}{ag:List Method}{ak:Sv}{R:Bool}(hF:zP ae ag=some R):
   Fw.Spec Tryz.prog 21 [aa.v,ak.v] [ah aa ae,dQ ak ag] (fun _:Unit=>(.bool R)) (fun _=>[]):=by
 refine Se 26 Tryz.func21 [.tmp 4] ?_
 intro H0 F0
 unfold zP at hF
 refine bQ ?_
 refine bn (bU (m:=ag.length) (fun m2 f' cs'=>∃(g:Fr)(k4:Nat)(aG:List Method),m2=aG.length/\f'=aR g [(0,aa.v),(1,ak.v),(5,(zi (k4:Int)))]/\List.drop k4 ag=aG/\aP cs' [ah aa ae,dQ ak ag]/\FN ae ag aG k4=some R) ⟨_,0,_,rfl,aB,rfl,aA,hF⟩ ?_)
 rintro m2 _ _ ⟨g3,k4,aG,rfl,rfl,hd7,hE,hF⟩
 refine Kb hE ag (fun jL=>?_)
 rcases aG with _|⟨x6,aG⟩
 · have fG:=dn hd7
   rw[FN]at hF
   refine bQ ?_
   refine dE ?_
   refine aL ?_
   obtain⟨p_,Bn,BK⟩:=bind_some hF
   refine au ?_
   refine gB (fun f' cs'=>∃(c19:Bool)(g:Fr),c19=p_/\f'=aR g [(4,(.bool c19))]/\aP cs' []) ?_ ?_
   · replace hF:=Bn
     refine au ?_
     refine bnd hF fun eT hx16 hF=>bR (xc hx16) (fun _=>?_)
     refine au ?_
     rcases df eT with qO|qO
     · rw[qO]
       try rw[qO]at hF; dsimp only[aY,aX]at hF
       exact cK hF
     rw[qO]
     try rw[qO]at hF; dsimp only[aY,aX]at hF
     exact cK hF
   rintro _ _ ⟨c19,g20,rfl,rfl,hE⟩
   replace hF:=BK
   try dsimp only at hF
   refine bM hE ?_
   exact ze hF
 obtain⟨fG,dm,fF⟩:=dA hd7
 rw[FN]at hF
 refine bQ ?_
 refine dD ?_
 refine bG ?_
 refine Ai dm (fun k21 M_=>?_)
 refine j_ (yF x6) zZ (fun qb=>?_)
 refine bnd hF fun iV hx25 hF=>bR (anY hx25) (fun _=>?_)
 refine aT ?_
 refine Ci hF (fun xN hF=>?_) (fun xN hF=>?_)
 · exact ze hF
 refine bG ?_
 rw[wk k4]
 exact⟨_,bY _,_,k4+1,aG,rfl,aB,fF,aA,hF⟩
def Lp(dY:Int):Option (Bool):=
 ((mK dY 0 9).bind fun r3=>
   bif r3 then (some true)
   else ((Af dY).bind fun r7=>
     some r7)).bind fun o1=>
 match o1 with
 |c10=>some c10
theorem ao5{dY:Int}{R:Bool}(hF:Lp dY=some R):
   Fw.Spec Tryz.prog 112 [(zi dY)] [] (fun _:Unit=>(.bool R)) (fun _=>[]):=by
 refine Se 9 Tryz.func112 [.tmp 2] ?_
 intro H0 F0
 unfold Lp at hF
 refine aZ ?_
 obtain⟨o1,xQ,hO2⟩:=bind_some hF
 refine au ?_
 refine gB (fun f' cs'=>∃(c10:Bool)(g:Fr),c10=o1/\f'=aR g [(2,(.bool c10))]/\aP cs' []) ?_ ?_
 · replace hF:=xQ
   refine au ?_
   refine bnd hF fun r3 hx4 hF=>bR (qc hx4) (fun _=>?_)
   refine au ?_
   rcases df r3 with iA|iA
   · rw[iA]
     try rw[iA]at hF; dsimp only[aY,aX]at hF
     exact cK hF
   rw[iA]
   try rw[iA]at hF; dsimp only[aY,aX]at hF
   refine aZ ?_
   refine bnd hF fun r7 nY hF=>bR (KZ nY) (fun _=>?_)
   exact cK hF
 rintro _ _ ⟨c10,g11,rfl,rfl,hE⟩
 replace hF:=hO2
 try dsimp only at hF
 refine bM hE ?_
 exact ze hF
def GN:List Int->Nat->Option (Bool)
 |[],k22=>some true
 |x24::kH,k22=>(Lp x24).bind fun Cw=>
   if (!Cw)then (
     some false)
   else (
     GN kH (k22+1))
def Po(ae:List Int)(ay:Atom):Option (Bool):=
 ((rX ae).bind fun r4=>
   bif (!r4)then (some true)
   else ((mK ay.Rel 0 (IntKind.i64.wrap ((ae.length:Int)-1))).bind fun r8=>
     bif (!r8)then (some true)
     else ((ix ae ay.Rel).bind fun uH=>
       some (((ay.Terms.length:Int):Int)!=uH)))).bind fun o2=>
 match o2 with
 |c18=>if c18 then (
     some false)
   else (
     GN ay.Terms 0)
theorem ao6{ae:List Int}{aa:Sv}{ay:Atom}{aU:Sv}{R:Bool}(hF:Po ae ay=some R):
   Fw.Spec Tryz.prog 58 [aa.v,(zg [(zi ay.Rel),aU.v])] [ah aa ae,ah aU ay.Terms] (fun _:Unit=>(.bool R)) (fun _=>[]):=by
 refine Se 43 Tryz.func58 [.tmp 4] ?_
 intro H0 F0
 unfold Po at hF
 refine au ?_
 refine bW (fun k1=>?_)
 refine aZ ?_
 obtain⟨o2,kX,hO3⟩:=bind_some hF
 refine dM [0,1,2,3,4,5,6,7,8,9,10,11,12,13,14,15,16,17,18,19,20,21,22] [0,1,3,7,15,31,15,79,207,511,1023,2047,4095,8191,16383,32767,8191,8191,139263,466943,991231,2097151,4194303] [1,9] mixed (by decide+kernel) ?_
 refine qH (fun f' cs'=>∃(c18:Bool)(g:Fr),c18=o2/\f'=aR g [(3,(pz k1)),(28,(.bool c18))]/\aP cs' [a_ k1 66 (zg [(zi ay.Rel),aU.v]),ah aU ay.Terms]) ?_ ?_
 · replace hF:=kX
   refine du ?_
   refine bnd hF fun r4 hx5 hF=>jB (xc hx5) (fun _=>?_)
   refine bV ?_
   rcases df (!r4)with ek|ek
   · rw[ek]
     try rw[ek]at hF; dsimp only[aY,aX]at hF
     exact iC hF
   rw[ek]
   try rw[ek]at hF; dsimp only[aY,aX]at hF
   refine xH ?_
   refine bnd hF fun r8 dm hF=>jB (qc dm) (fun _=>?_)
   refine fw ?_
   rcases df (!r8)with jE|jE
   · rw[jE]
     try rw[jE]at hF; dsimp only[aY,aX]at hF
     exact iC hF
   rw[jE]
   try rw[jE]at hF; dsimp only[aY,aX]at hF
   refine Mj ?_
   refine zI hF fun uH akz mR hF=>?_
   refine Di mR (fun k16 XN=>?_)
   refine Dl dN ?_
   exact iC hF
 rintro _ _ ⟨c18,g39,rfl,rfl,hE⟩
 replace hF:=hO3
 try dsimp only at hF
 refine bM hE ?_
 refine Ci hF (fun RB hF=>?_) (fun RB hF=>?_)
 · exact ze hF
 refine bf ?_
 refine bn (bU (m:=ay.Terms.length) (fun m20 f' cs'=>∃(g:Fr)(k22:Nat)(kH:List Int),m20=kH.length/\f'=aR g [(3,(pz k1)),(5,(zi (k22:Int)))]/\List.drop k22 ay.Terms=kH/\aP cs' [a_ k1 66 (zg [(zi ay.Rel),aU.v]),ah aU ay.Terms]/\GN kH k22=some R) ⟨_,0,_,rfl,aB,rfl,aA,hF⟩ ?_)
 rintro m20 _ _ ⟨g21,k22,kH,rfl,rfl,hd25,hE,hF⟩
 refine Kb hE ay.Terms (fun aiO=>?_)
 rcases kH with _|⟨x24,kH⟩
 · have RD:=dn hd25
   rw[GN]at hF
   refine fI ?_
   refine dE ?_
   exact ze hF
 obtain⟨RD,hx27,hd28⟩:=dA hd25
 rw[GN]at hF
 refine fI ?_
 refine dD ?_
 refine bG ?_
 refine Ai hx27 (fun SF j32=>?_)
 refine Al dN ?_
 refine bnd hF fun Cw hx34 hF=>bR (ao5 hx34) (fun _=>?_)
 refine aT ?_
 refine Ci hF (fun RF hF=>?_) (fun RF hF=>?_)
 · exact ze hF
 refine bG ?_
 rw[wk k22]
 exact⟨_,bY _,_,k22+1,kH,rfl,aB,hd28,aA,hF⟩
def Dp(ae:List Int)(ai:aO)(iK:(List Int)):List Int->Nat->Option (Bool)
 |[],k20=>((rX ae).bind fun EY=>
     bif EY then ((mK (ai.Atoms.length:Int) 1 4).bind fun il=>
       bif il then (some (decide (((ai.Head.length:Int):Int)<=3)))
       else (some false))
     else (some false)).bind fun o29=>
   match o29 with
   |qw=>some qw
 |lI::AZ,k20=>(Ag iK lI).bind fun SY=>
   if (!SY)then (
     some false)
   else (
     Dp ae ai iK AZ (k20+1))
def Dq(ae:List Int)(ai:aO):List Atom->Nat->Option (Bool)
 |[],k5=>(HZ ai).bind fun iK=>
   Dp ae ai iK ai.Head 0
 |x7::eP,k5=>(Po ae x7).bind fun r51=>
   if (!r51)then (
     some false)
   else (
     Dq ae ai eP (k5+1))
def vT(ae:List Int)(ai:aO):Option (Bool):=
 Dq ae ai ai.Atoms 0
theorem KN{ae:List Int}{aa:Sv}{ai:aO}{ak aU:Sv}{R:Bool}(hF:vT ae ai=some R):
   Fw.Spec Tryz.prog 22 [aa.v,(zg [ak.v,aU.v])] [ah aa ae,ah ak ai.Head,bX aU ai.Atoms] (fun _:Unit=>(.bool R)) (fun _=>[]):=by
 refine Se 54 Tryz.func22 [.tmp 4] ?_
 intro H0 F0
 unfold vT at hF
 refine au ?_
 refine bW (fun k1=>?_)
 refine bG ?_
 refine bn (bU (m:=ai.Atoms.length) (fun m3 f' cs'=>∃(g:Fr)(k5:Nat)(eP:List Atom),m3=eP.length/\f'=aR g [(0,aa.v),(3,(pz k1)),(5,(zi (k5:Int)))]/\List.drop k5 ai.Atoms=eP/\aP cs' [ah aa ae,a_ k1 28 (zg [ak.v,aU.v]),ah ak ai.Head,bX aU ai.Atoms]/\Dq ae ai eP k5=some R) ⟨_,0,_,rfl,aB,rfl,aA,hF⟩ ?_)
 rintro m3 _ _ ⟨g4,k5,eP,rfl,rfl,mY,hE,hF⟩
 refine Kb hE ai.Atoms (fun Im=>?_)
 rcases eP with _|⟨x7,eP⟩
 · have tq:=dn mY
   rw[Dq]at hF
   refine fI ?_
   refine dE ?_
   refine bG ?_
   refine bnd hF fun iK mR hF=>dW (YZ mR) (fun p16=>?_)
   refine bG ?_
   refine bn (bU (m:=ai.Head.length) (fun m18 f' cs'=>∃(g:Fr)(k20:Nat)(AZ:List Int),m18=AZ.length/\f'=aR g [(0,aa.v),(3,(pz k1)),(6,p16.1.v),(7,(zi (k20:Int)))]/\List.drop k20 ai.Head=AZ/\aP cs' [ah aa ae,a_ k1 28 (zg [ak.v,aU.v]),ah ak ai.Head,bX aU ai.Atoms,bv p16.2 p16.1 iK]/\Dp ae ai iK AZ k20=some R) ⟨_,0,_,rfl,aB,rfl,aA,hF⟩ ?_)
   rintro m18 _ _ ⟨g19,k20,AZ,rfl,rfl,WQ,hE,hF⟩
   refine Kb hE ai.Head (fun aCh=>?_)
   rcases AZ with _|⟨lI,AZ⟩
   · have abF:=dn WQ
     rw[Dp]at hF
     refine fI ?_
     refine dE ?_
     refine aL ?_
     obtain⟨o29,avu,azf⟩:=bind_some hF
     refine au ?_
     refine gB (fun f' cs'=>∃(qw:Bool)(g:Fr),qw=o29/\f'=aR g [(4,(.bool qw))]/\aP cs' []) ?_ ?_
     · replace hF:=avu
       refine au ?_
       refine bnd hF fun EY hx32 hF=>bR (xc hx32) (fun _=>?_)
       refine au ?_
       rcases df EY with xP|xP
       · rw[xP]
         try rw[xP]at hF; dsimp only[aY,aX]at hF
         refine bQ ?_
         refine bnd hF fun il uX hF=>bR (qc uX) (fun _=>?_)
         refine aT ?_
         rcases df il with xW|xW
         · rw[xW]
           try rw[xW]at hF; dsimp only[aY,aX]at hF
           exact cK hF
         rw[xW]
         try rw[xW]at hF; dsimp only[aY,aX]at hF
         exact cK hF
       rw[xP]
       try rw[xP]at hF; dsimp only[aY,aX]at hF
       exact cK hF
     rintro _ _ ⟨qw,g40,rfl,rfl,hE⟩
     replace hF:=azf
     try dsimp only at hF
     refine bM hE ?_
     exact ze hF
   obtain⟨abF,hx25,WA⟩:=dA WQ
   rw[Dp]at hF
   refine fI ?_
   refine dD ?_
   refine bQ ?_
   refine Ai hx25 (fun tC j42=>?_)
   refine Al dN ?_
   refine bnd hF fun SY IL hF=>dC (.cons .q5 .nil) (eY bi (fun _=>.nil) (bP Wh.h bz (OA IL))) (fun _=>?_)
   refine aT ?_
   refine Ci hF (fun QP hF=>?_) (fun QP hF=>?_)
   · exact ze hF
   refine bG ?_
   rw[wk k20]
   exact⟨_,bY _,_,k20+1,AZ,rfl,aB,WA,aA,hF⟩
 obtain⟨tq,gu,jA⟩:=dA mY
 rw[Dq]at hF
 refine fI ?_
 refine dD ?_
 refine bQ ?_
 refine Ai gu (fun k48 j49=>?_)
 refine j_ (qZ x7) rZ (fun p50=>?_)
 refine bnd hF fun r51 Mm hF=>bR (ao6 Mm) (fun _=>?_)
 refine aT ?_
 refine Ci hF (fun BI hF=>?_) (fun BI hF=>?_)
 · exact ze hF
 refine bG ?_
 rw[wk k5]
 exact⟨_,bY _,_,k5+1,eP,rfl,aB,jA,aA,hF⟩
def H7(ae:List Int)(ag:List Method)(ai:aO):Option (Bool):=
 ((zP ae ag).bind fun r4=>
   bif r4 then ((vT ae ai).bind fun r8=>
     some r8)
   else (some false)).bind fun o2=>
 match o2 with
 |c11=>some c11
theorem Y2{ae:List Int}{aa:Sv}{ag:List Method}{ak:Sv}{ai:aO}{bu dw:Sv}{R:Bool}(hF:H7 ae ag ai=some R):
   Fw.Spec Tryz.prog 34 [aa.v,ak.v,(zg [bu.v,dw.v])] [ah aa ae,dQ ak ag,ah bu ai.Head,bX dw ai.Atoms] (fun _:Unit=>(.bool R)) (fun _=>[]):=by
 refine Se 15 Tryz.func34 [.tmp 6] ?_
 intro H0 F0
 unfold H7 at hF
 refine au ?_
 refine bW (fun k1=>?_)
 refine aT ?_
 obtain⟨o2,kX,hO3⟩:=bind_some hF
 refine au ?_
 refine gB (fun f' cs'=>∃(c11:Bool)(g:Fr),c11=o2/\f'=aR g [(6,(.bool c11))]/\aP cs' []) ?_ ?_
 · replace hF:=kX
   refine aT ?_
   refine bnd hF fun r4 hx5 hF=>bR (Yv hx5) (fun _=>?_)
   refine au ?_
   rcases df r4 with ek|ek
   · rw[ek]
     try rw[ek]at hF; dsimp only[aY,aX]at hF
     refine bf ?_
     refine bnd hF fun r8 dm hF=>bR (KN dm) (fun _=>?_)
     exact cK hF
   rw[ek]
   try rw[ek]at hF; dsimp only[aY,aX]at hF
   exact cK hF
 rintro _ _ ⟨c11,g12,rfl,rfl,hE⟩
 replace hF:=hO3
 try dsimp only at hF
 refine bM hE ?_
 exact ze hF
def Gi:List Method->Nat->(List Method)->Option ((List Method))
 |[],k8,c2=>some c2
 |fq::fD,k8,c2=>(if ((fq.Limit:Int)!=0)then (
       (app c2 ([(⟨(-1),fq.Inputs,fq.Limit,fq.Cost,fq.Quota⟩:Method)]:List Method)).bind fun z24=>
       some z24)
     else (
       (app c2 ([fq]:List Method)).bind fun z28=>
       some z28)).bind fun o17=>
   match o17 with
   |c32=>Gi fD (k8+1) c32
def OG(ag:List Method):Option ((List Method)):=
 Gi ag 0 ([]:List Method)
theorem anZ{ag:List Method}{aa:Sv}{R:(List Method)}(hF:OG ag=some R):
   Fw.Spec Tryz.prog 36 [aa.v] [dQ aa ag] (fun p:Sv×List Nat=>p.1.v) (fun p=>[II p.2 p.1 R]):=by
 refine Se 26 Tryz.func36 [.tmp 2] ?_
 intro H0 F0
 unfold OG at hF
 refine aL ?_
 refine b_ rfl (bI (g:=true) sD.h kV.h .nil (vs:=[]) rfl rfl rfl (by simp)) (fun k1=>?_)
 refine dh (.cons .h .nil) (bK (Ro:=(aj lC)) (E:=92) (F:=[]) (xs:=([]:List Method)) bJ rfl rfl) ?_
 refine bG ?_
 refine bn (bU (m:=ag.length) (fun m6 f' cs'=>∃(g:Fr)(k8:Nat)(fD c2:List Method)(v3:Sv)(F4:List Nat),m6=fD.length/\f'=aR g [(0,aa.v),(3,v3.v),(4,(zi (k8:Int)))]/\List.drop k8 ag=fD/\aP cs' [dQ aa ag,II F4 v3 c2]/\Gi fD k8 c2=some R) ⟨_,0,_,_,⟨(some ⟨k1,0,none⟩),0,1⟩,(k1::[]),rfl,aB,rfl,aA,hF⟩ ?_)
 rintro m6 _ _ ⟨g7,k8,fD,c2,v3,F4,rfl,rfl,jA,hE,hF⟩
 refine Kb hE ag (fun LX=>?_)
 rcases fD with _|⟨fq,fD⟩
 · have u7:=dn jA
   rw[Gi]at hF
   refine bQ ?_
   refine dE ?_
   refine eU ?_
   cases hF
   exact Er (v3,F4)
 obtain⟨u7,jc,u_⟩:=dA jA
 rw[Gi]at hF
 refine bQ ?_
 refine dD ?_
 refine au ?_
 obtain⟨o17,avv,azg⟩:=bind_some hF
 refine gN (fun f' cs'=>∃(c32:List Method)(v33:Sv)(JU:List Nat)(g:Fr),c32=o17/\f'=aR g [(0,aa.v),(3,v33.v),(4,(zi (k8:Int)))]/\aP cs' [dQ aa ag,II JU v33 c32]) ?_ ?_
 · replace hF:=avv
   refine bn (cB (Cm aa.v rfl rfl ?_))
   refine au ?_
   refine Ai jc (fun k19 EU=>?_)
   refine j_ (yF fq) zZ (fun oJ=>?_)
   refine cO (fun k22=>?_)
   refine As (zg [(zi fq.Rel),oJ.v,(zi fq.Limit),(zi fq.Cost),(zi fq.Quota)]) ?_
   refine bQ ?_
   refine Ci hF (fun BG hF=>?_) (fun BG hF=>?_)
   · refine aT ?_
     refine As (zg [(zi (-1)),oJ.v,(zi fq.Limit),(zi fq.Cost),(zi fq.Quota)]) ?_
     refine aL ?_
     refine b_ rfl (bI (g:=true) sD.h kV.h bz (vs:=[(zg [(zi (-1)),oJ.v,(zi fq.Limit),(zi fq.Cost),(zi fq.Quota)])]) rfl rfl rfl (by intro v hv; simp at hv; rcases hv with rfl<;>rfl)) (fun k23=>?_)
     refine dh (.cons .h (.rd (.t .h) rfl .nil)) (bK (Ro:=(aj lC)) (E:=92) (F:=([]++[])) (xs:=([(⟨(-1),fq.Inputs,fq.Limit,fq.Cost,fq.Quota⟩:Method)]:List Method)) (bS (ajC (a:=(⟨(-1),fq.Inputs,fq.Limit,fq.Cost,fq.Quota⟩:Method))) bJ bB) rfl rfl) ?_
     refine bnd hF fun z24 hx25 hF=>dC (.cons .q5 (.cons .h .nil)) (dL (Ro:=(aj lC)) sD.h QH kV.h rfl rfl rfl (.tmp rfl rfl) (.tmp rfl rfl) hx25 eX) (fun p26=>?_)
     refine aT ?_
     cases hF
     exact⟨_,p26.1,p26.2,_,rfl,aB,aA⟩
   refine aL ?_
   refine b_ rfl (bI (g:=true) sD.h kV.h bz (vs:=[(zg [(zi fq.Rel),oJ.v,(zi fq.Limit),(zi fq.Cost),(zi fq.Quota)])]) rfl rfl rfl (by intro v hv; simp at hv; rcases hv with rfl<;>rfl)) (fun k27=>?_)
   refine dh (.cons .h (.rd (.t .h) rfl .nil)) (bK (Ro:=(aj lC)) (E:=92) (F:=([]++[])) (xs:=([fq]:List Method)) (bS ajC bJ bB) rfl rfl) ?_
   refine bnd hF fun z28 hx29 hF=>dC (.cons .q5 (.cons .h .nil)) (dL (Ro:=(aj lC)) sD.h QH kV.h rfl rfl rfl (.tmp rfl rfl) (.tmp rfl rfl) hx29 eX) (fun p30=>?_)
   refine aT ?_
   cases hF
   exact⟨_,p30.1,p30.2,_,rfl,aB,aA⟩
 rintro _ _ ⟨c32,v33,JU,g36,rfl,rfl,hE⟩
 replace hF:=azg
 try dsimp only at hF
 refine bM hE ?_
 refine bf ?_
 rw[wk k8]
 exact⟨_,bY _,_,k8+1,fD,_,v33,JU,rfl,aB,u_,aA,hF⟩
def Gu(ay:Atom)(kv:List Int):List Int->Nat->Option (Bool)
 |[],k6=>some true
 |x8::kI,k6=>(mK x8 0 (IntKind.i64.wrap ((ay.Terms.length:Int)-1))).bind fun iq=>
   if (!iq)then (
     some false)
   else (
     (ix ay.Terms x8).bind fun lI=>
     ((Af lI).bind fun Nc=>
       bif Nc then ((Ag kv lI).bind fun Nf=>
         some (!Nf))
       else (some false)).bind fun o28=>
     match o28 with
     |c37=>if c37 then (
         some false)
       else (
         Gu ay kv kI (k6+1)))
def Ld(bF:Method)(ay:Atom)(kv:List Int):Option (Bool):=
 if ((bF.Rel:Int)!=ay.Rel)then (
   some false)
 else (
   Gu ay kv bF.Inputs 0)
theorem aoz{bF:Method}{aQ:Sv}{ay:Atom}{aU:Sv}{kv:List Int}{bu:Sv}{R:Bool}(hF:Ld bF ay kv=some R):
   Fw.Spec Tryz.prog 157 [(zg [(zi bF.Rel),aQ.v,(zi bF.Limit),(zi bF.Cost),(zi bF.Quota)]),(zg [(zi ay.Rel),aU.v]),bu.v] [ah aQ bF.Inputs,ah aU ay.Terms,ah bu kv] (fun _:Unit=>(.bool R)) (fun _=>[]):=by
 refine Se 49 Tryz.func157 [.tmp 6] ?_
 intro H0 F0
 unfold Ld at hF
 refine au ?_
 refine bW (fun k1=>?_)
 refine bW (fun k2=>?_)
 refine lT ?_
 refine Ci hF (fun ab2 hF=>?_) (fun ab2 hF=>?_)
 · exact ze hF
 refine bf ?_
 refine bn (bU (m:=bF.Inputs.length) (fun m4 f' cs'=>∃(g:Fr)(k6:Nat)(kI:List Int),m4=kI.length/\f'=aR g [(2,bu.v),(3,(pz k1)),(4,(pz k2)),(7,(zi (k6:Int)))]/\List.drop k6 bF.Inputs=kI/\aP cs' [ah bu kv,a_ k1 92 (zg [(zi bF.Rel),aQ.v,(zi bF.Limit),(zi bF.Cost),(zi bF.Quota)]),ah aQ bF.Inputs,a_ k2 66 (zg [(zi ay.Rel),aU.v]),ah aU ay.Terms]/\Gu ay kv kI k6=some R) ⟨_,0,_,rfl,aB,rfl,aA,hF⟩ ?_)
 rintro m4 _ _ ⟨g5,k6,kI,rfl,rfl,EZ,hE,hF⟩
 refine Kb hE bF.Inputs (fun aiP=>?_)
 rcases kI with _|⟨x8,kI⟩
 · have hk10:=dn EZ
   rw[Gu]at hF
   refine fI ?_
   refine dE ?_
   exact ze hF
 obtain⟨hk10,mD,je⟩:=dA EZ
 rw[Gu]at hF
 refine fI ?_
 refine dD ?_
 refine aZ ?_
 refine dM [0,1,2,3,4,5,6,7,8,9,10] [0,1,0,7,15,0,32,96,224,511,1023] [9] mixed (by decide+kernel) ?_
 refine fw ?_
 refine Di mD (fun k15 j16=>?_)
 refine Dl dN ?_
 refine sG ?_
 refine bnd hF fun iq iL hF=>jB (qc iL) (fun _=>?_)
 refine bV ?_
 refine Ci hF (fun Re hF=>?_) (fun Re hF=>?_)
 · exact ze hF
 refine au ?_
 refine dM [0,1,2,3,4,5,6,7,8,9] [0,1,0,4,0,28,60,127,255,511] [] mixed (by decide+kernel) ?_
 refine xH ?_
 refine Di mD (fun k20 zt=>?_)
 refine Dl dN ?_
 refine zI hF fun lI abV hx25 hF=>?_
 refine Di hx25 (fun k26 j27=>?_)
 refine Dl dN ?_
 refine bV ?_
 obtain⟨o28,avw,azh⟩:=bind_some hF
 refine au ?_
 refine gB (fun f' cs'=>∃(c37:Bool)(g:Fr),c37=o28/\f'=aR g [(2,bu.v),(3,(pz k1)),(4,(pz k2)),(7,(zi (k6:Int))),(48,(.bool c37))]/\aP cs' [ah bu kv,a_ k1 92 (zg [(zi bF.Rel),aQ.v,(zi bF.Limit),(zi bF.Cost),(zi bF.Quota)]),ah aQ bF.Inputs,a_ k2 66 (zg [(zi ay.Rel),aU.v]),ah aU ay.Terms]) ?_ ?_
 · replace hF:=avw
   refine au ?_
   refine bnd hF fun Nc hx31 hF=>bR (KZ hx31) (fun _=>?_)
   refine au ?_
   rcases df Nc with xX|xX
   · rw[xX]
     try rw[xX]at hF; dsimp only[aY,aX]at hF
     refine bf ?_
     refine bnd hF fun Nf I6 hF=>bR (OA I6) (fun _=>?_)
     exact cK hF
   rw[xX]
   try rw[xX]at hF; dsimp only[aY,aX]at hF
   exact cK hF
 rintro _ _ ⟨c37,g40,rfl,rfl,hE⟩
 replace hF:=azh
 try dsimp only at hF
 refine bM hE ?_
 refine Ci hF (fun Rc hF=>?_) (fun Rc hF=>?_)
 · exact ze hF
 refine bG ?_
 rw[wk k6]
 exact⟨_,bY _,_,k6+1,kI,rfl,aB,je,aA,hF⟩
def KO(ay:Atom)(kv:List Int):List Method->Nat->Option (Int)
 |[],k5=>some (-1)
 |x7::eP,k5=>(Ld x7 ay kv).bind fun iq=>
   if iq then (
     some (k5:Int))
   else (
     KO ay kv eP (k5+1))
def UZ(ag:List Method)(ay:Atom)(kv:List Int):Option (Int):=
 KO ay kv ag 0
theorem aoA{ag:List Method}{aa:Sv}{ay:Atom}{aU:Sv}{kv:List Int}{bu:Sv}{R:Int}(hF:UZ ag ay kv=some R):
   Fw.Spec Tryz.prog 87 [aa.v,(zg [(zi ay.Rel),aU.v]),bu.v] [dQ aa ag,ah aU ay.Terms,ah bu kv] (fun _:Unit=>(zi R)) (fun _=>[]):=by
 refine Se 22 Tryz.func87 [.tmp 6] ?_
 intro H0 F0
 unfold UZ at hF
 refine au ?_
 refine bW (fun k1=>?_)
 refine bG ?_
 refine bn (bU (m:=ag.length) (fun m3 f' cs'=>∃(g:Fr)(k5:Nat)(eP:List Method),m3=eP.length/\f'=aR g [(0,aa.v),(2,bu.v),(4,(pz k1)),(7,(zi (k5:Int)))]/\List.drop k5 ag=eP/\aP cs' [dQ aa ag,ah bu kv,a_ k1 66 (zg [(zi ay.Rel),aU.v]),ah aU ay.Terms]/\KO ay kv eP k5=some R) ⟨_,0,_,rfl,aB,rfl,aA,hF⟩ ?_)
 rintro m3 _ _ ⟨g4,k5,eP,rfl,rfl,mY,hE,hF⟩
 refine Kb hE ag (fun Im=>?_)
 rcases eP with _|⟨x7,eP⟩
 · have tq:=dn mY
   rw[KO]at hF
   refine bQ ?_
   refine dE ?_
   exact ze hF
 obtain⟨tq,gu,jA⟩:=dA mY
 rw[KO]at hF
 refine bQ ?_
 refine dD ?_
 refine aT ?_
 refine dM [0,1,2,3,4,5,6] [0,0,3,7,0,0,63] [6] mixed (by decide+kernel) ?_
 refine bV ?_
 refine Di gu (fun k14 M8=>?_)
 refine oz (yF x7) zZ (fun p16=>?_)
 refine bV ?_
 refine bnd hF fun iq iL hF=>jB (aoz iL) (fun _=>?_)
 refine du ?_
 refine Ci hF (fun xI hF=>?_) (fun xI hF=>?_)
 · exact ze hF
 refine bG ?_
 rw[wk k5]
 exact⟨_,bY _,_,k5+1,eP,rfl,aB,jA,aA,hF⟩
def GQ:List Int->Nat->(List Int)->Option ((List Int))
 |[],k12,c6=>some c6
 |x14::A7,k12,c6=>((Af x14).bind fun jd=>
     if jd then (
       (Ah c6 x14).bind fun Nc=>
       some Nc)
     else (
       some c6)).bind fun yn=>
   match yn with
   |c34=>GQ A7 (k12+1) c34
def Pp(kv:List Int)(ay:Atom):Option ((List Int)):=
 (app ([]:List Int) kv).bind fun z3=>
 GQ ay.Terms 0 z3
theorem ao7{kv:List Int}{aa:Sv}{ay:Atom}{aU:Sv}{R:(List Int)}(hF:Pp kv ay=some R):
   Fw.Spec Tryz.prog 88 [aa.v,(zg [(zi ay.Rel),aU.v])] [ah aa kv,ah aU ay.Terms] (fun p:Sv×List Nat=>p.1.v) (fun p=>[bv p.2 p.1 R]):=by
 refine Se 31 Tryz.func88 [.tmp 4] ?_
 intro H0 F0
 unfold Pp at hF
 refine au ?_
 refine bW (fun k1=>?_)
 refine aZ ?_
 refine b_ rfl (bI (g:=true) bH.h bC.h .nil (vs:=[]) rfl rfl rfl (by simp)) (fun k2=>?_)
 refine dh (.cons .h .nil) (bK (Ro:=(aj ax)) (E:=3) (F:=[]) (xs:=([]:List Int)) bJ rfl rfl) ?_
 refine au ?_
 refine bnd hF fun z3 hx4 hF=>dC (.cons .h (.rd (.t .h) rfl .nil)) (dL (Ro:=(aj ax)) bH.h gL bC.h rfl rfl rfl (.tmp rfl rfl) (.tmp rfl rfl) hx4 nK) (fun p5=>?_)
 refine bG ?_
 refine bn (bU (m:=ay.Terms.length) (fun m10 f' cs'=>∃(g:Fr)(k12:Nat)(A7 c6:List Int)(v7:Sv)(F8:List Nat),m10=A7.length/\f'=aR g [(3,(pz k1)),(5,v7.v),(6,(zi (k12:Int)))]/\List.drop k12 ay.Terms=A7/\aP cs' [a_ k1 66 (zg [(zi ay.Rel),aU.v]),ah aU ay.Terms,bv F8 v7 c6]/\GQ A7 k12 c6=some R) ⟨_,0,_,_,p5.1,p5.2,rfl,aB,rfl,aA,hF⟩ ?_)
 rintro m10 _ _ ⟨g11,k12,A7,c6,v7,F8,rfl,rfl,mr,hE,hF⟩
 refine Kb hE ay.Terms (fun aCi=>?_)
 rcases A7 with _|⟨x14,A7⟩
 · have abZ:=dn mr
   rw[GQ]at hF
   refine fI ?_
   refine dE ?_
   refine eU ?_
   cases hF
   exact Er (v7,F8)
 obtain⟨abZ,jy,azi⟩:=dA mr
 rw[GQ]at hF
 refine fI ?_
 refine dD ?_
 refine au ?_
 obtain⟨yn,Qg,Rj⟩:=bind_some hF
 refine gN (fun f' cs'=>∃(c34:List Int)(v35:Sv)(tJ:List Nat)(g:Fr),c34=yn/\f'=aR g [(3,(pz k1)),(5,v35.v),(6,(zi (k12:Int)))]/\aP cs' [a_ k1 66 (zg [(zi ay.Rel),aU.v]),ah aU ay.Terms,bv tJ v35 c34]) ?_ ?_
 · replace hF:=Qg
   refine bn (cB (aK (nH (off:=1) arL.h (.tmp rfl rfl)) ?_))
   refine aT ?_
   refine Ai jy (fun k23 j24=>?_)
   refine Al dN ?_
   refine bnd hF fun jd jP hF=>bR (KZ jP) (fun _=>?_)
   refine au ?_
   refine Ci hF (fun Q5 hF=>?_) (fun Q5 hF=>?_)
   · refine bf ?_
     refine Ai jy (fun k28 j29=>?_)
     refine Al dN ?_
     refine bnd hF fun Nc hx31 hF=>dW (OB hx31) (fun p32=>?_)
     refine aT ?_
     cases hF
     exact⟨_,p32.1,p32.2,_,rfl,aB,aA⟩
   refine au ?_
   cases hF
   exact⟨_,v7,F8,_,rfl,aB,aA⟩
 rintro _ _ ⟨c34,v35,tJ,g38,rfl,rfl,hE⟩
 replace hF:=Rj
 try dsimp only at hF
 refine bM hE ?_
 refine bf ?_
 rw[wk k12]
 exact⟨_,bY _,_,k12+1,A7,_,v35,tJ,rfl,aB,azi,aA,hF⟩
def Gj(ag:List Method):List Atom->Nat->(List Step)->(List Int)->(List Int)->Option ((List Step)×(List Int)×(List Int))
 |[],nE,c28,c31,c34=>some (c28,c31,c34)
 |wT::A8,nE,c28,c31,c34=>(UZ ag wT c31).bind fun qy=>
   (bif (decide ((0:Int)<=qy))then ((Ag c34 (nE:Int)).bind fun sU=>
       some (!sU))
     else (some false)).bind fun o55=>
   match o55 with
   |qU=>if qU then (
       (app c28 ([(⟨(nE:Int),qy⟩:Step)]:List Step)).bind fun z63=>
       (app c34 ([(nE:Int)]:List Int)).bind fun z67=>
       (Pp c31 wT).bind fun r73=>
       some (z63,r73,z67))
     else (
       Gj ag A8 (nE+1) c28 c31 c34)
def Gl(ag:List Method)(ai:aO):List Atom->Nat->(List Step)->(List Int)->(List Int)->Option ((List Step))
 |[],k17,c5,c8,c11=>some c5
 |x19::A9,k17,c5,c8,c11=>(Gj ag ai.Atoms 0 c5 c8 c11).bind fun XX=>
   match XX with
   |(S9,yw,c85)=>Gl ag ai A9 (k17+1) S9 yw c85
def OH(ag:List Method)(ai:aO):Option ((List Step)):=
 Gl ag ai ai.Atoms 0 ([]:List Step) ([]:List Int) ([]:List Int)
theorem an0{ag:List Method}{aa:Sv}{ai:aO}{ak aU:Sv}{R:(List Step)}(hF:OH ag ai=some R):
   Fw.Spec Tryz.prog 35 [aa.v,(zg [ak.v,aU.v])] [dQ aa ag,ah ak ai.Head,bX aU ai.Atoms] (fun p:Sv×List Nat=>p.1.v) (fun p=>[wy p.2 p.1 R]):=by
 refine Se 62 Tryz.func35 [.tmp 4] ?_
 intro H0 F0
 unfold OH at hF
 refine au ?_
 refine bW (fun k1=>?_)
 refine aZ ?_
 refine b_ rfl (bI (g:=true) Eo.h uW.h .nil (vs:=[]) rfl rfl rfl (by simp)) (fun k2=>?_)
 refine dh (.cons .h .nil) (bK (Ro:=(aj ww)) (E:=64) (F:=[]) (xs:=([]:List Step)) bJ rfl rfl) ?_
 refine aZ ?_
 refine b_ rfl (bI (g:=true) bH.h bC.h .nil (vs:=[]) rfl rfl rfl (by simp)) (fun k3=>?_)
 refine dh (.cons .h .nil) (bK (Ro:=(aj ax)) (E:=3) (F:=[]) (xs:=([]:List Int)) bJ rfl rfl) ?_
 refine aZ ?_
 refine b_ rfl (bI (g:=true) bH.h bC.h .nil (vs:=[]) rfl rfl rfl (by simp)) (fun k4=>?_)
 refine dh (.cons .h .nil) (bK (Ro:=(aj ax)) (E:=3) (F:=[]) (xs:=([]:List Int)) bJ rfl rfl) ?_
 refine bG ?_
 refine bn (bU (m:=ai.Atoms.length) (fun m15 f' cs'=>∃(g:Fr)(k17:Nat)(A9:List Atom)(c5:List Step)(c8 c11:List Int)(v6:Sv)(F7:List Nat)(v9:Sv)(F10:List Nat)(v12:Sv)(F13:List Nat),m15=A9.length/\f'=aR g [(0,aa.v),(3,(pz k1)),(5,v6.v),(6,v9.v),(7,v12.v),(8,(zi (k17:Int)))]/\List.drop k17 ai.Atoms=A9/\aP cs' [dQ aa ag,a_ k1 28 (zg [ak.v,aU.v]),ah ak ai.Head,bX aU ai.Atoms,wy F7 v6 c5,bv F10 v9 c8,bv F13 v12 c11]/\Gl ag ai A9 k17 c5 c8 c11=some R) ⟨_,0,_,_,_,_,⟨(some ⟨k2,0,none⟩),0,1⟩,(k2::[]),⟨(some ⟨k3,0,none⟩),0,1⟩,(k3::[]),⟨(some ⟨k4,0,none⟩),0,1⟩,(k4::[]),rfl,aB,rfl,aA,hF⟩ ?_)
 rintro m15 _ _ ⟨g16,k17,A9,c5,c8,c11,v6,F7,v9,F10,v12,F13,rfl,rfl,akA,hE,hF⟩
 refine Kb hE ai.Atoms (fun aCj=>?_)
 rcases A9 with _|⟨x19,A9⟩
 · have Rh:=dn akA
   rw[Gl]at hF
   refine fI ?_
   refine dE ?_
   refine eU ?_
   cases hF
   exact Er (v6,F7)
 obtain⟨Rh,uk,WQ⟩:=dA akA
 rw[Gl]at hF
 refine fI ?_
 refine dD ?_
 refine au ?_
 obtain⟨XX,avx,azj⟩:=bind_some hF
 refine gN (fun f' cs'=>∃(S9:List Step)(yw c85:List Int)(v80:Sv)(F81:List Nat)(v83:Sv)(Cu:List Nat)(v86:Sv)(F87:List Nat)(g:Fr),XX=(S9,yw,c85)/\f'=aR g [(0,aa.v),(3,(pz k1)),(5,v80.v),(6,v83.v),(7,v86.v),(8,(zi (k17:Int)))]/\aP cs' [dQ aa ag,a_ k1 28 (zg [ak.v,aU.v]),ah ak ai.Head,bX aU ai.Atoms,wy F81 v80 S9,bv Cu v83 yw,bv F87 v86 c85]) ?_ ?_
 · replace hF:=avx
   refine bn (cB (aK (iG (v:=(zi 0)) (.int _ _)) ?_))
   refine au ?_
   refine bn (bU (m:=ai.Atoms.length) (fun zo f' cs'=>∃(g:Fr)(nE:Nat)(A8:List Atom)(c28:List Step)(c31 c34:List Int)(v29:Sv)(S_:List Nat)(v32:Sv)(zw:List Nat)(v35:Sv)(tJ:List Nat),zo=A8.length/\f'=aR g [(0,aa.v),(3,(pz k1)),(5,v29.v),(6,v32.v),(7,v35.v),(8,(zi (k17:Int))),(9,(zi (nE:Int)))]/\List.drop nE ai.Atoms=A8/\aP cs' [dQ aa ag,a_ k1 28 (zg [ak.v,aU.v]),ah ak ai.Head,bX aU ai.Atoms,wy S_ v29 c28,bv zw v32 c31,bv tJ v35 c34]/\Gj ag A8 nE c28 c31 c34=some XX) ⟨_,0,_,_,_,_,v6,F7,v9,F10,v12,F13,rfl,aB,rfl,aA,hF⟩ ?_)
   rintro zo _ _ ⟨g39,nE,A8,c28,c31,c34,v29,S_,v32,zw,v35,tJ,rfl,rfl,WR,hE,hF⟩
   refine Kb hE ai.Atoms (fun aCk=>?_)
   rcases A8 with _|⟨wT,A8⟩
   · have azk:=dn WR
     rw[Gj]at hF
     refine fI ?_
     refine dE ?_
     refine aL ?_
     cases hF
     exact⟨_,_,_,v29,S_,v32,zw,v35,tJ,_,rfl,aB,aA⟩
   obtain⟨azk,uj,azl⟩:=dA WR
   rw[Gj]at hF
   refine fI ?_
   refine dD ?_
   refine bQ ?_
   refine Ai uj (fun JA XM=>?_)
   refine j_ (qZ wT) rZ (fun p51=>?_)
   refine au ?_
   refine bnd hF fun qy xO hF=>dC (.cons .q7 (.rd .q2 rfl (.rd .h rfl .nil))) (eY bi (fun _=>.nil) (fM (.rd (.t .h) rfl (.rd .q2 rfl (.rd .h rfl .nil))) (bP axK.h bz (aoA xO)))) (fun _=>?_)
   refine aT ?_
   obtain⟨o55,avy,azm⟩:=bind_some hF
   refine au ?_
   refine gB (fun f' cs'=>∃(qU:Bool)(g:Fr),qU=o55/\f'=aR g [(0,aa.v),(3,(pz k1)),(5,v29.v),(6,v32.v),(7,v35.v),(8,(zi (k17:Int))),(9,(zi (nE:Int))),(10,(zi qy)),(43,(.bool qU))]/\aP cs' [dQ aa ag,a_ k1 28 (zg [ak.v,aU.v]),ah ak ai.Head,bX aU ai.Atoms,wy S_ v29 c28,bv zw v32 c31,bv tJ v35 c34]) ?_ ?_
   · replace hF:=avy
     refine aZ ?_
     rcases df (decide ((0:Int)<=qy))with RG|RG
     · rw[RG]
       try rw[RG]at hF; dsimp only[aY,aX]at hF
       refine bf ?_
       refine bnd hF fun sU xJ hF=>dC (.cons .q8 .nil) (eY bi (fun _=>.nil) (bP Wh.h bz (OA xJ))) (fun _=>?_)
       exact cK hF
     rw[RG]
     try rw[RG]at hF; dsimp only[aY,aX]at hF
     exact cK hF
   rintro _ _ ⟨qU,g78,rfl,rfl,hE⟩
   replace hF:=azm
   try dsimp only at hF
   refine bM hE ?_
   refine Ci hF (fun azn hF=>?_) (fun azn hF=>?_)
   · refine aL ?_
     refine aK (gH uW.h rfl (vs:=[(zi (nE:Int)),(zi qy)]) bz (cells:=[(zi (nE:Int)),(zi qy)]) rfl) ?_
     refine b_ rfl (bI (g:=true) Eo.h uW.h bz (vs:=[(zg [(zi (nE:Int)),(zi qy)])]) rfl rfl rfl (by intro v hv; simp at hv; rcases hv with rfl<;>rfl)) (fun k62=>?_)
     refine dh (.cons .h .nil) (bK (Ro:=(aj ww)) (E:=64) (F:=([]++[])) (xs:=([(⟨(nE:Int),qy⟩:Step)]:List Step)) (bS (dK (fun _=>rfl)) bJ bB) rfl rfl) ?_
     refine bnd hF fun z63 acv hF=>dC (.cons .q5 (.cons .h .nil)) (dL (Ro:=(aj ww)) Eo.h aju uW.h rfl rfl rfl (.tmp rfl rfl) (.tmp rfl rfl) acv eX) (fun p65=>?_)
     refine bf ?_
     refine b_ rfl (bI (g:=true) bH.h bC.h bz (vs:=[(zi (nE:Int))]) rfl rfl rfl (by intro v hv; simp at hv; rcases hv with rfl<;>rfl)) (fun k66=>?_)
     refine dh (.cons .h .nil) (bK (Ro:=(aj ax)) (E:=3) (F:=([]++[])) (xs:=([(nE:Int)]:List Int)) (bS (dK (fun _=>rfl)) bJ bB) rfl rfl) ?_
     refine bnd hF fun z67 I4 hF=>dC (.cons .q7 (.cons .h .nil)) (dL (Ro:=(aj ax)) bH.h gL bC.h rfl rfl rfl (.tmp rfl rfl) (.tmp rfl rfl) I4 eX) (fun p69=>?_)
     refine bQ ?_
     refine Ai uj (fun wZ j71=>?_)
     refine j_ (qZ wT) rZ (fun p72=>?_)
     refine bnd hF fun r73 abY hF=>jM (.cons .q8 (.rd .h rfl .nil)) (eY bi (fun _=>(.cons .nil)) (bP axL.h bz (ao7 abY))) (fun p75=>?_)
     refine aZ ?_
     refine aap rfl ?_
     refine aZ ?_
     cases hF
     exact⟨_,_,_,p65.1,p65.2,p75.1,p75.2,p69.1,p69.2,_,rfl,aB,aA⟩
   refine bG ?_
   rw[wk nE]
   exact⟨_,bY _,_,nE+1,A8,_,_,_,v29,S_,v32,zw,v35,tJ,rfl,aB,azl,aA,hF⟩
 rintro _ _ ⟨S9,yw,c85,v80,F81,v83,Cu,v86,F87,g89,rfl,rfl,hE⟩
 replace hF:=azj
 try dsimp only at hF
 refine bM hE ?_
 refine bf ?_
 rw[wk k17]
 exact⟨_,bY _,_,k17+1,A9,_,_,_,v80,F81,v83,Cu,v86,F87,rfl,aB,WQ,aA,hF⟩
def Fv(r9:(List Step))(qm:Nat)(Jb:Atom):Nat->(List Atom)->Int->Option ((List Atom))
 |0,_,_=>none
 |Jc+1,Jd,Ey=>if (decide ((Ey:Int)<(r9.length:Int)))then (
     ((ix r9 Ey).bind fun acx=>
       if ((acx.Atom:Int)==(qm:Int))then (
         (H5 Jb.Rel Jb.Terms).bind fun WS=>
         (app Jd ([WS]:List Atom)).bind fun z196=>
         some z196)
       else (
         some Jd)).bind fun acy=>
     match acy with
     |RH=>Fv r9 qm Jb Jc RH (IntKind.i64.wrap (Ey+1)))
   else (
     some Jd)
def CR(ae:List Int)(r9:(List Step))(uI:List Int):List Atom->Nat->(List Atom)->Option (aO×Bool)
 |[],qm,um=>(vT ae (⟨uI,um⟩:aO)).bind fun akB=>
   if (!akB)then (
     some ((⟨[],[]⟩:aO),false))
   else (
     some ((⟨uI,um⟩:aO),true))
 |Jb::Ap,qm,um=>(Fv r9 qm Jb (((r9.length:Int)-0).toNat+2) um 0).bind fun WT=>
   match WT with
   |RI=>CR ae r9 uI Ap (qm+1) RI
def Ky(ae:List Int)(ag:List Method)(ai:aO):Option (aO×Bool):=
 (H7 ae ag ai).bind fun r3=>
 if (!r3)then (
   some ((⟨[],[]⟩:aO),false))
 else (
   (OG ag).bind fun r6=>
   (OH r6 ai).bind fun r9=>
   (app ([]:List Int) ai.Head).bind fun uI=>
   CR ae r9 uI ai.Atoms 0 ([]:List Atom))
theorem adr{ae:List Int}{aa:Sv}{ag:List Method}{ak:Sv}{ai:aO}{bu dw:Sv}{R:aO×Bool}(hF:Ky ae ag ai=some R):
   Fw.Spec Tryz.prog 9 [aa.v,ak.v,(zg [bu.v,dw.v])] [ah aa ae,dQ ak ag,ah bu ai.Head,bX dw ai.Atoms] (fun p:Sv×List Nat×Sv×List Nat=>(.tuple [(zg [p.1.v,p.2.2.1.v]),(.bool R.2)].toArray)) (fun p=>[bv p.2.1 p.1 R.1.Head,mq p.2.2.2 p.2.2.1 R.1.Atoms]):=by
 refine Se 71 Tryz.func9 [.cell 6 28,.tmp 7] ?_
 intro H0 F0
 unfold Ky at hF
 refine au ?_
 refine bW (fun k1=>?_)
 refine cO (fun k2=>?_)
 refine bQ ?_
 refine bnd hF fun r3 hx4 hF=>bR (Y2 hx4) (fun _=>?_)
 refine aT ?_
 refine Ci hF (fun avz hF=>?_) (fun avz hF=>?_)
 · refine au ?_
   refine aK (gH gI.h rfl (vs:=[]) .nil (cells:=[(.slice none 0 0),(.slice none 0 0)]) rfl) ?_
   refine As (zg [(.slice none 0 0),(.slice none 0 0)]) ?_
   refine aZ ?_
   cases hF
   exact eO (⟨none,0,0⟩,[],⟨none,0,0⟩,[]) (.cellA rfl rfl .h rfl jo.h gI.h.sz rfl rfl (.tmp rfl rfl .nil)) rfl (.conv .nil (fu (Ro:=(aj ax)) (E:=3)) (.cons .nil) (.conv .nil (fu (Ro:=jO) (E:=66)) (.cons .nil) (.sel (.cons (.t .h) (.cons .h .nil)))))
 refine au ?_
 refine dM [0,2,1,3,4] [0,1,0,7,15] [1,3] mixed (by decide+kernel) ?_
 refine bV ?_
 refine bnd hF fun r6 hx7 hF=>kZ (anZ hx7) (fun p8=>?_)
 refine bnd hF fun r9 gu hF=>lq rfl rfl .no (.cons .h (.rd .q4 rfl (.rd .q5 rfl .nil))) .nil (fun ha=>eY bi (fun _=>(.cons .nil)) (bP axJ.h (.cons (EN ha (.tmp rfl rfl) rfl) (.cons (EN ha (.tmp rfl rfl) rfl) .nil)) (an0 gu))) (fun jI=>?_)
 refine bV ?_
 refine au ?_
 refine b_ rfl (bI (g:=true) bH.h bC.h .nil (vs:=[]) rfl rfl rfl (by simp)) (fun k12=>?_)
 refine dh (.cons .h .nil) (bK (Ro:=(aj ax)) (E:=3) (F:=[]) (xs:=([]:List Int)) bJ rfl rfl) ?_
 refine aT ?_
 refine bnd hF fun uI fQ hF=>dC (.cons .h (.rd .q6 rfl .nil)) (dL (Ro:=(aj ax)) bH.h gL bC.h rfl rfl rfl (.tmp rfl rfl) (.tmp rfl rfl) fQ nK) (fun gT=>?_)
 refine aK (gH gI.h rfl (vs:=[gT.1.v]) bz (cells:=[gT.1.v,(.slice none 0 0)]) rfl) ?_
 refine cO (fun k16=>?_)
 refine As (zg [gT.1.v,(.slice none 0 0)]) ?_
 refine bf ?_
 refine bn (bU (m:=ai.Atoms.length) (fun akC f' cs'=>∃(g:Fr)(qm:Nat)(Ap um:List Atom)(MI:Sv)(WU:List Nat),akC=Ap.length/\f'=aR g [(0,aa.v),(5,(pz k1)),(6,(pz k2)),(8,jI.1.v),(9,(pz k16)),(10,(zi (qm:Int)))]/\List.drop qm ai.Atoms=Ap/\aP cs' [ah aa ae,a_ k1 28 (zg [bu.v,dw.v]),ah bu ai.Head,bX dw ai.Atoms,bq k2 28 (zg [(.slice none 0 0),(.slice none 0 0)]),wy jI.2 jI.1 r9,bq k16 28 (zg [gT.1.v,MI.v]),bv gT.2 gT.1 uI,mq WU MI um]/\CR ae r9 uI Ap qm um=some R) ⟨_,0,_,_,⟨none,0,0⟩,[],rfl,aB,rfl,(.conv .nil (fu (Ro:=jO) (E:=66)) (.cons .nil) aA),hF⟩ ?_)
 rintro akC _ _ ⟨aEq,qm,Ap,um,MI,WU,rfl,rfl,aiQ,hE,hF⟩
 refine Kb hE ai.Atoms (fun aAw=>?_)
 rcases Ap with _|⟨Jb,Ap⟩
 · have avA:=dn aiQ
   rw[CR]at hF
   refine fI ?_
   refine dE ?_
   refine fI ?_
   refine bnd hF fun akB avB hF=>jM (.cons .q8 (.cons .q7 (.rd .h rfl .nil))) (iW (pre:=_) (.cons bi (.cons bi .nil)) (fun _=>.nil) (fM (.rd .q2 rfl (.rd .h rfl (.rd (.t .h) rfl .nil))) (bP axI.h bz (KN avB)))) (fun _=>?_)
   refine aT ?_
   refine Ci hF (fun aa7 hF=>?_) (fun aa7 hF=>?_)
   · refine au ?_
     refine aK (gH gI.h rfl (vs:=[]) .nil (cells:=[(.slice none 0 0),(.slice none 0 0)]) rfl) ?_
     refine As (zg [(.slice none 0 0),(.slice none 0 0)]) ?_
     refine aZ ?_
     cases hF
     exact eO (⟨none,0,0⟩,[],⟨none,0,0⟩,[]) (.cellA rfl rfl .h rfl jo.h gI.h.sz rfl rfl (.tmp rfl rfl .nil)) rfl (.conv .nil (fu (Ro:=(aj ax)) (E:=3)) (.cons .nil) (.conv .nil (fu (Ro:=jO) (E:=66)) (.cons .nil) (.sel (.cons (.t .h) (.cons .h .nil)))))
   refine aZ ?_
   refine As (zg [gT.1.v,MI.v]) ?_
   refine aZ ?_
   cases hF
   exact eO (gT.1,gT.2,MI,WU) (.cellA rfl rfl .h rfl jo.h gI.h.sz rfl rfl (.tmp rfl rfl .nil)) rfl (.sel (.cons .q2 (.cons (.t .h) .nil)))
 obtain⟨avA,aiR,avC⟩:=dA aiQ
 rw[CR]at hF
 refine fI ?_
 refine dD ?_
 refine au ?_
 obtain⟨WT,ar1,avD⟩:=bind_some hF
 refine gN (fun f' cs'=>∃(RI:List Atom)(v206:Sv)(acz:List Nat)(g:Fr),RI=WT/\f'=aR g [(0,aa.v),(5,(pz k1)),(6,(pz k2)),(8,jI.1.v),(9,(pz k16)),(10,(zi (qm:Int)))]/\aP cs' [ah aa ae,a_ k1 28 (zg [bu.v,dw.v]),ah bu ai.Head,bX dw ai.Atoms,bq k2 28 (zg [(.slice none 0 0),(.slice none 0 0)]),wy jI.2 jI.1 r9,bq k16 28 (zg [gT.1.v,v206.v]),bv gT.2 gT.1 uI,mq acz v206 RI]) ?_ ?_
 · replace hF:=ar1
   refine bn (cB (aK (iG (v:=(zi 0)) (.int _ _)) ?_))
   refine au ?_
   refine bn (bU (m:=(((r9.length:Int)-0).toNat+2)) (fun Jc f' cs'=>∃(g:Fr)(Jd:List Atom)(Ey:Int)(v167:Sv)(WV:List Nat),f'=aR g [(0,aa.v),(5,(pz k1)),(6,(pz k2)),(8,jI.1.v),(9,(pz k16)),(10,(zi (qm:Int))),(11,(zi Ey))]/\aP cs' [ah aa ae,a_ k1 28 (zg [bu.v,dw.v]),ah bu ai.Head,bX dw ai.Atoms,bq k2 28 (zg [(.slice none 0 0),(.slice none 0 0)]),wy jI.2 jI.1 r9,bq k16 28 (zg [gT.1.v,v167.v]),bv gT.2 gT.1 uI,mq WV v167 Jd]/\Fv r9 qm Jb Jc Jd Ey=some WT) ⟨_,_,_,MI,WU,aB,aA,hF⟩ ?_)
   rintro Jc _ _ ⟨aEr,Jd,Ey,v167,WV,rfl,hE,hF⟩
   refine bM hE ?_
   rcases Jc with _|Jc
   · rw[Fv]at hF
     exact absurd hF (by simp)
   rw[Fv]at hF
   refine bQ ?_
   refine Ci hF (fun avE hF=>?_) (fun avE hF=>?_)
   · refine au ?_
     obtain⟨acy,ar2,avF⟩:=bind_some hF
     refine gN (fun f' cs'=>∃(RH:List Atom)(v201:Sv)(acA:List Nat)(g:Fr),RH=acy/\f'=aR g [(0,aa.v),(5,(pz k1)),(6,(pz k2)),(8,jI.1.v),(9,(pz k16)),(10,(zi (qm:Int))),(11,(zi Ey))]/\aP cs' [ah aa ae,a_ k1 28 (zg [bu.v,dw.v]),ah bu ai.Head,bX dw ai.Atoms,bq k2 28 (zg [(.slice none 0 0),(.slice none 0 0)]),wy jI.2 jI.1 r9,bq k16 28 (zg [gT.1.v,v201.v]),bv gT.2 gT.1 uI,mq acA v201 RH]) ?_ ?_
     · replace hF:=ar2
       refine bn (cB (Cm jI.1.v rfl rfl ?_))
       refine au ?_
       refine bnd hF fun acx aiS hF=>?_
       have avG:=tZ aiS
       obtain⟨aCl,avH⟩:=qf aiS
       refine rA Eo.h uW.h.sz (.tmp rfl rfl) (.tmp rfl rfl) .q5 avG (fun aEs avI=>?_)
       refine au ?_
       refine Ij (w:=(zi acx.Atom)) oI.h (.tmp rfl rfl) .q5 avI avH arP ?_
       refine aZ ?_
       refine Ci hF (fun avJ hF=>?_) (fun avJ hF=>?_)
       · refine jK [0,1,2,3,4,5,6,7,8,9,10,11,12,13,14,15,16,17,18] [0,1,0,4,0,28,60,124,0,256,0,1792,3840,7936,16380,32764,65535,131071,262143] [14,16,18] mixed (by decide+kernel) ?_
         refine du ?_
         refine dH rfl .no .q6 (fun ha hp=>fZ (v:=v167.v) Em.h (EN ha (.tmp rfl rfl) rfl) hp.2 rfl rfl) ?_
         refine fw ?_
         refine Di aiR (fun aEt aEu=>?_)
         refine du ?_
         refine Dl PV ?_
         refine fw ?_
         refine Di aiR (fun aEv aEw=>?_)
         refine du ?_
         refine qG (R':=(aW 3 ax)) fT.h rfl .no (.tmp rfl rfl) rfl .h uS (fun aEx=>?_)
         refine bnd hF fun WS avK hF=>bZ rfl rfl .no (.rd .h rfl .nil) (.own .q9 (fun _ h=>h) .nil) (fun ha=>bP ajr.h (.cons (EN ha (.tmp rfl rfl) rfl) (.cons (EN ha (.tmp rfl rfl) rfl) .nil)) (Y0 avK)) (fun akD=>?_)
         refine gP rfl .no rfl (fun ha=>bI (g:=true) (len:=1) (parts:=[(0,.tmp 61)]) oC.h kM.h (.cons (EN ha (.tmp rfl rfl) rfl) .nil) (vs:=[(zg [(zi WS.Rel),akD.1.v])]) rfl rfl rfl (by intro v hv; simp at hv; rcases hv with rfl<;>rfl)) (fun ayj=>?_)
         refine gZ (.cons .h (.cons .h .nil)) (bK (Ro:=jO) (E:=66) (F:=(akD.2++[])) (xs:=([WS]:List Atom)) (bS Bw bJ bB) rfl rfl) ?_
         refine bnd hF fun z196 avL hF=>bZ rfl rfl .no (.cons .q12 (.cons .h .nil)) (.dep rfl (.dep rfl .nil)) (fun ha=>dL (Ro:=jO) oC.h Mh kM.h rfl rfl rfl (EN ha (.tmp rfl rfl) rfl) (EN ha (.tmp rfl rfl) rfl) avL eX) (fun RJ=>?_)
         refine du ?_
         refine bZ rfl rfl .no (.cons .q10 .nil) (.dep rfl (.dep rfl .nil)) (fun ha=>fA (e':=(zg [gT.1.v,RJ.1.v])) We.h.sz (EN ha (.tmp rfl rfl) rfl) (EN ha (.tmp rfl rfl) rfl) rfl rfl rfl rfl rfl) (fun _=>?_)
         refine du ?_
         cases hF
         exact⟨_,RJ.1,RJ.2,_,rfl,aB,aA⟩
       refine au ?_
       cases hF
       exact⟨_,v167,WV,_,rfl,aB,aA⟩
     rintro _ _ ⟨RH,v201,acA,aEy,rfl,rfl,hE⟩
     replace hF:=avF
     try dsimp only at hF
     refine bM hE ?_
     refine bf ?_
     exact⟨Jc,bY _,_,_,_,v201,acA,aB,aA,hF⟩
   refine aL ?_
   cases hF
   exact⟨_,v167,WV,_,rfl,aB,aA⟩
 rintro _ _ ⟨RI,v206,acz,aEz,rfl,rfl,hE⟩
 replace hF:=avD
 try dsimp only at hF
 refine bM hE ?_
 refine bf ?_
 rw[wk qm]
 exact⟨_,bY _,_,qm+1,Ap,_,v206,acz,rfl,aB,avC,aA,hF⟩
def Dy(z4:List Int):List Atom->Nat->(List Atom)->Option (aO)
 |[],vG,c32=>some (⟨z4,c32⟩:aO)
 |x40::A_,vG,c32=>(H5 x40.Rel x40.Terms).bind fun qy=>
   (app c32 ([qy]:List Atom)).bind fun z56=>
   Dy z4 A_ (vG+1) z56
def Pq(ai:aO):Option (aO):=
 (app ([]:List Int) ai.Head).bind fun z4=>
 Dy z4 ai.Atoms 0 ([]:List Atom)
theorem ao8{ai:aO}{aa aQ:Sv}{R:aO}(hF:Pq ai=some R):
   Fw.Spec Tryz.prog 158 [(zg [aa.v,aQ.v])] [ah aa ai.Head,bX aQ ai.Atoms] (fun p:Sv×List Nat×Sv×List Nat=>(zg [p.1.v,p.2.2.1.v])) (fun p=>[bv p.2.1 p.1 R.Head,mq p.2.2.2 p.2.2.1 R.Atoms]):=by
 refine Se 36 Tryz.func158 [.cell 2 28] ?_
 intro H0 F0
 unfold Pq at hF
 refine au ?_
 refine bW (fun k1=>?_)
 refine cO (fun k2=>?_)
 refine aT ?_
 refine b_ rfl (bI (g:=true) bH.h bC.h .nil (vs:=[]) rfl rfl rfl (by simp)) (fun k3=>?_)
 refine dh (.cons .h .nil) (bK (Ro:=(aj ax)) (E:=3) (F:=[]) (xs:=([]:List Int)) bJ rfl rfl) ?_
 refine aT ?_
 refine bnd hF fun z4 hx5 hF=>dC (.cons .h (.rd .q2 rfl .nil)) (dL (Ro:=(aj ax)) bH.h gL bC.h rfl rfl rfl (.tmp rfl rfl) (.tmp rfl rfl) hx5 nK) (fun p6=>?_)
 refine aK (gH gI.h rfl (vs:=[p6.1.v]) bz (cells:=[p6.1.v,(.slice none 0 0)]) rfl) ?_
 refine cO (fun k7=>?_)
 refine As (zg [p6.1.v,(.slice none 0 0)]) ?_
 refine bf ?_
 refine bn (bU (m:=ai.Atoms.length) (fun m36 f' cs'=>∃(g:Fr)(vG:Nat)(A_ c32:List Atom)(v33:Sv)(JU:List Nat),m36=A_.length/\f'=aR g [(1,(pz k1)),(2,(pz k2)),(3,(pz k7)),(4,(zi (vG:Int)))]/\List.drop vG ai.Atoms=A_/\aP cs' [a_ k1 28 (zg [aa.v,aQ.v]),ah aa ai.Head,bX aQ ai.Atoms,bq k2 28 (zg [(.slice none 0 0),(.slice none 0 0)]),bq k7 28 (zg [p6.1.v,v33.v]),bv p6.2 p6.1 z4,mq JU v33 c32]/\Dy z4 A_ vG c32=some R) ⟨_,0,_,_,⟨none,0,0⟩,[],rfl,aB,rfl,(.conv .nil (fu (Ro:=jO) (E:=66)) (.cons .nil) aA),hF⟩ ?_)
 rintro m36 _ _ ⟨g37,vG,A_,c32,v33,JU,rfl,rfl,Mw,hE,hF⟩
 refine Kb hE ai.Atoms (fun aCm=>?_)
 rcases A_ with _|⟨x40,A_⟩
 · have azo:=dn Mw
   rw[Dy]at hF
   refine fI ?_
   refine dE ?_
   refine bG ?_
   refine As (zg [p6.1.v,v33.v]) ?_
   refine aT ?_
   cases hF
   exact Er (p6.1,p6.2,v33,JU)
 obtain⟨azo,oD,WW⟩:=dA Mw
 rw[Dy]at hF
 refine fI ?_
 refine dD ?_
 refine aT ?_
 refine jK [0,1,2,3,4,5,6,7,8,9,10,11,12,13,14,15,16,17,18] [0,1,0,4,0,28,60,124,0,256,0,1792,3840,7936,16380,32764,65535,131071,262143] [14,16,18] mixed (by decide+kernel) ?_
 refine du ?_
 refine dH rfl .no .q4 (fun ha hp=>fZ (v:=v33.v) Em.h (EN ha (.tmp rfl rfl) rfl) hp.2 rfl rfl) ?_
 refine fw ?_
 refine Di oD (fun k47 j48=>?_)
 refine du ?_
 refine Dl PV ?_
 refine fw ?_
 refine Di oD (fun JA XM=>?_)
 refine du ?_
 refine qG (R':=(aW 3 ax)) fT.h rfl .no (.tmp rfl rfl) rfl .h uS (fun w51=>?_)
 refine bnd hF fun qy xO hF=>bZ rfl rfl .no (.rd .h rfl .nil) (.own .q7 (fun _ h=>h) .nil) (fun ha=>bP ajr.h (.cons (EN ha (.tmp rfl rfl) rfl) (.cons (EN ha (.tmp rfl rfl) rfl) .nil)) (Y0 xO)) (fun p54=>?_)
 refine gP rfl .no rfl (fun ha=>bI (g:=true) (len:=1) (parts:=[(0,.tmp 31)]) oC.h kM.h (.cons (EN ha (.tmp rfl rfl) rfl) .nil) (vs:=[(zg [(zi qy.Rel),p54.1.v])]) rfl rfl rfl (by intro v hv; simp at hv; rcases hv with rfl<;>rfl)) (fun k55=>?_)
 refine gZ (.cons .h (.cons .h .nil)) (bK (Ro:=jO) (E:=66) (F:=(p54.2++[])) (xs:=([qy]:List Atom)) (bS Bw bJ bB) rfl rfl) ?_
 refine bnd hF fun z56 Ev hF=>bZ rfl rfl .no (.cons .q10 (.cons .h .nil)) (.dep rfl (.dep rfl .nil)) (fun ha=>dL (Ro:=jO) oC.h Mh kM.h rfl rfl rfl (EN ha (.tmp rfl rfl) rfl) (EN ha (.tmp rfl rfl) rfl) Ev eX) (fun p58=>?_)
 refine du ?_
 refine bZ rfl rfl .no (.cons .q8 .nil) (.dep rfl (.dep rfl .nil)) (fun ha=>fA (e':=(zg [p6.1.v,p58.1.v])) We.h.sz (EN ha (.tmp rfl rfl) rfl) (EN ha (.tmp rfl rfl) rfl) rfl rfl rfl rfl rfl) (fun _=>?_)
 refine du ?_
 refine bf ?_
 rw[wk vG]
 exact⟨_,bY _,_,vG+1,A_,_,p58.1,p58.2,rfl,aB,WW,aA,hF⟩
def CV(eF:Atom):Nat->(List Int)->Int->Option ((List Int))
 |0,_,_=>none
 |m24+1,c20,c23=>if (decide ((c23:Int)<(eF.Terms.length:Int)))then (
     ((ix eF.Terms c23).bind fun x40=>
       (mK x40 0 9).bind fun Co=>
       if Co then (
         (ix eF.Terms c23).bind fun yg=>
         (Ah c20 yg).bind fun sU=>
         some sU)
       else (
         some c20)).bind fun yh=>
     match yh with
     |jh=>CV eF m24 jh (IntKind.i64.wrap (c23+1)))
   else (
     some c20)
def FC:List Atom->Nat->(List Int)->Option ((List Int))
 |[],k9,c3=>some c3
 |eF::dB,k9,c3=>(CV eF (((eF.Terms.length:Int)-0).toNat+2) c3 0).bind fun iD=>
   match iD with
   |lH=>FC dB (k9+1) lH
def zK(ai:aO):Option ((List Int)):=
 FC ai.Atoms 0 ([]:List Int)
theorem Nv{ai:aO}{aa aQ:Sv}{R:(List Int)}(hF:zK ai=some R):
   Fw.Spec Tryz.prog 55 [(zg [aa.v,aQ.v])] [ah aa ai.Head,bX aQ ai.Atoms] (fun p:Sv×List Nat=>p.1.v) (fun p=>[bv p.2 p.1 R]):=by
 refine Se 47 Tryz.func55 [.tmp 2] ?_
 intro H0 F0
 unfold zK at hF
 refine au ?_
 refine bW (fun k1=>?_)
 refine aZ ?_
 refine b_ rfl (bI (g:=true) bH.h bC.h .nil (vs:=[]) rfl rfl rfl (by simp)) (fun k2=>?_)
 refine dh (.cons .h .nil) (bK (Ro:=(aj ax)) (E:=3) (F:=[]) (xs:=([]:List Int)) bJ rfl rfl) ?_
 refine bG ?_
 refine bn (bU (m:=ai.Atoms.length) (fun m7 f' cs'=>∃(g:Fr)(k9:Nat)(dB:List Atom)(c3:List Int)(v4:Sv)(F5:List Nat),m7=dB.length/\f'=aR g [(1,(pz k1)),(3,v4.v),(4,(zi (k9:Int)))]/\List.drop k9 ai.Atoms=dB/\aP cs' [a_ k1 28 (zg [aa.v,aQ.v]),ah aa ai.Head,bX aQ ai.Atoms,bv F5 v4 c3]/\FC dB k9 c3=some R) ⟨_,0,_,_,⟨(some ⟨k2,0,none⟩),0,1⟩,(k2::[]),rfl,aB,rfl,aA,hF⟩ ?_)
 rintro m7 _ _ ⟨g8,k9,dB,c3,v4,F5,rfl,rfl,je,hE,hF⟩
 refine Kb hE ai.Atoms (fun yQ=>?_)
 rcases dB with _|⟨eF,dB⟩
 · have nR:=dn je
   rw[FC]at hF
   refine fI ?_
   refine dE ?_
   refine eU ?_
   cases hF
   exact Er (v4,F5)
 obtain⟨nR,fQ,mr⟩:=dA je
 rw[FC]at hF
 refine fI ?_
 refine dD ?_
 refine au ?_
 obtain⟨iD,pg,pK⟩:=bind_some hF
 refine gN (fun f' cs'=>∃(lH:List Int)(v68:Sv)(Jz:List Nat)(g:Fr),lH=iD/\f'=aR g [(1,(pz k1)),(3,v68.v),(4,(zi (k9:Int)))]/\aP cs' [a_ k1 28 (zg [aa.v,aQ.v]),ah aa ai.Head,bX aQ ai.Atoms,bv Jz v68 lH]) ?_ ?_
 · replace hF:=pg
   refine bn (cB (aK (iG (v:=(zi 0)) (.int _ _)) ?_))
   refine au ?_
   refine bn (bU (m:=(((eF.Terms.length:Int)-0).toNat+2)) (fun m24 f' cs'=>∃(g:Fr)(c20:List Int)(c23:Int)(v21:Sv)(uC:List Nat),f'=aR g [(1,(pz k1)),(3,v21.v),(4,(zi (k9:Int))),(5,(zi c23))]/\aP cs' [a_ k1 28 (zg [aa.v,aQ.v]),ah aa ai.Head,bX aQ ai.Atoms,bv uC v21 c20]/\CV eF m24 c20 c23=some iD) ⟨_,_,_,v4,F5,aB,aA,hF⟩ ?_)
   rintro m24 _ _ ⟨g25,c20,c23,v21,uC,rfl,hE,hF⟩
   refine bM hE ?_
   rcases m24 with _|m24
   · rw[CV]at hF
     exact absurd hF (by simp)
   rw[CV]at hF
   refine bG ?_
   refine Ai fQ (fun wR j33=>?_)
   refine au ?_
   refine ng (R':=(aW 3 ax)) fT.h (.tmp rfl rfl) .h uS (fun w34=>?_)
   refine aZ ?_
   refine Ci hF (fun IM hF=>?_) (fun IM hF=>?_)
   · refine au ?_
     obtain⟨yh,Qe,QU⟩:=bind_some hF
     refine gN (fun f' cs'=>∃(jh:List Int)(v63:Sv)(qR:List Nat)(g:Fr),jh=yh/\f'=aR g [(1,(pz k1)),(3,v63.v),(4,(zi (k9:Int))),(5,(zi c23))]/\aP cs' [a_ k1 28 (zg [aa.v,aQ.v]),ah aa ai.Head,bX aQ ai.Atoms,bv qR v63 jh]) ?_ ?_
     · replace hF:=Qe
       refine bn (cB (aK (nH (off:=1) aav.h (.tmp rfl rfl)) ?_))
       refine aT ?_
       refine Ai fQ (fun uD j38=>?_)
       refine au ?_
       refine ng (R':=(aW 3 ax)) fT.h (.tmp rfl rfl) .h uS (fun w39=>?_)
       refine au ?_
       refine zI hF fun x40 ajO oD hF=>?_
       refine Ai oD (fun XL j45=>?_)
       refine Al dN ?_
       refine bnd hF fun Co BB hF=>bR (qc BB) (fun _=>?_)
       refine au ?_
       refine Ci hF (fun IP hF=>?_) (fun IP hF=>?_)
       · refine bf ?_
         refine Ai fQ (fun JA XM=>?_)
         refine au ?_
         refine ng (R':=(aW 3 ax)) fT.h (.tmp rfl rfl) .h uS (fun w51=>?_)
         refine au ?_
         refine zI hF fun yg ayh wB hF=>?_
         refine Ai wB (fun k56 j57=>?_)
         refine Al dN ?_
         refine bnd hF fun sU xJ hF=>dW (OB xJ) (fun p60=>?_)
         refine aT ?_
         cases hF
         exact⟨_,p60.1,p60.2,_,rfl,aB,aA⟩
       refine au ?_
       cases hF
       exact⟨_,v21,uC,_,rfl,aB,aA⟩
     rintro _ _ ⟨jh,v63,qR,g65,rfl,rfl,hE⟩
     replace hF:=QU
     try dsimp only at hF
     refine bM hE ?_
     refine bf ?_
     exact⟨m24,bY _,_,_,_,v63,qR,aB,aA,hF⟩
   refine aL ?_
   cases hF
   exact⟨_,v21,uC,_,rfl,aB,aA⟩
 rintro _ _ ⟨lH,v68,Jz,g71,rfl,rfl,hE⟩
 replace hF:=pK
 try dsimp only at hF
 refine bM hE ?_
 refine bf ?_
 rw[wk k9]
 exact⟨_,bY _,_,k9+1,dB,_,v68,Jz,rfl,aB,mr,aA,hF⟩
def D9(aI:aM)(iN:Int)(dI:Int):Option (aM):=
 (app ([]:List Int) aI.Vars).bind fun z7=>
 (app z7 ([iN]:List Int)).bind fun z10=>
 (app ([]:List Int) aI.Values).bind fun uI=>
 (app uI ([dI]:List Int)).bind fun z16=>
 some (⟨z10,z16⟩:aM)
theorem ae'{aI:aM}{aa aQ:Sv}{iN dI:Int}{R:aM}(hF:D9 aI iN dI=some R):
   Fw.Spec Tryz.prog 107 [(zg [aa.v,aQ.v]),(zi iN),(zi dI)] [ah aa aI.Vars,ah aQ aI.Values] (fun p:Sv×List Nat×Sv×List Nat=>(zg [p.1.v,p.2.2.1.v])) (fun p=>[bv p.2.1 p.1 R.Vars,bv p.2.2.2 p.2.2.1 R.Values]):=by
 refine Se 22 Tryz.func107 [.cell 6 85] ?_
 intro H0 F0
 unfold D9 at hF
 refine au ?_
 refine bW (fun k1=>?_)
 refine cO (fun k2=>?_)
 refine au ?_
 refine dM [0,1,2,4,5,7,8,9,11,12,3,6,10,13,14,15] [0,0,2,7,0,16,63,0,0,256,1023,0,2048,8191,16383,32767] [3,6,10,13,15] mixed (by decide+kernel) ?_
 refine gP rfl .no rfl (fun ha=>bI (g:=true) (len:=0) (parts:=[]) bH.h bC.h .nil (vs:=[]) rfl rfl rfl (by simp)) (fun k3=>?_)
 refine gZ (.cons .h .nil) (bK (Ro:=(aj ax)) (E:=3) (F:=[]) (xs:=([]:List Int)) bJ rfl rfl) ?_
 refine fw ?_
 refine gP rfl .no rfl (fun ha=>bI (g:=true) (len:=1) (parts:=[(0,.tmp 11)]) bH.h bC.h (.cons (EN ha (.tmp rfl rfl) rfl) .nil) (vs:=[(zi iN)]) rfl rfl rfl (by intro v hv; simp at hv; rcases hv with rfl<;>rfl)) (fun k4=>?_)
 refine gZ (.cons .h .nil) (bK (Ro:=(aj ax)) (E:=3) (F:=([]++[])) (xs:=([iN]:List Int)) (bS (dK (fun _=>rfl)) bJ bB) rfl rfl) ?_
 refine gP rfl .no rfl (fun ha=>bI (g:=true) (len:=0) (parts:=[]) bH.h bC.h .nil (vs:=[]) rfl rfl rfl (by simp)) (fun k5=>?_)
 refine gZ (.cons .h .nil) (bK (Ro:=(aj ax)) (E:=3) (F:=[]) (xs:=([]:List Int)) bJ rfl rfl) ?_
 refine fw ?_
 refine gP rfl .no rfl (fun ha=>bI (g:=true) (len:=1) (parts:=[(0,.tmp 18)]) bH.h bC.h (.cons (EN ha (.tmp rfl rfl) rfl) .nil) (vs:=[(zi dI)]) rfl rfl rfl (by intro v hv; simp at hv; rcases hv with rfl<;>rfl)) (fun k6=>?_)
 refine gZ (.cons .h .nil) (bK (Ro:=(aj ax)) (E:=3) (F:=([]++[])) (xs:=([dI]:List Int)) (bS (dK (fun _=>rfl)) bJ bB) rfl rfl) ?_
 refine bnd hF fun z7 nY hF=>bZ rfl rfl .no (.cons .q3 (.rd .q5 rfl .nil)) (.own .h (by simp[aJ]) (.own (.t .h) (by simp[aJ]) (.own .q2 (by simp[aJ]) (.dep rfl .nil)))) (fun ha=>dL (Ro:=(aj ax)) bH.h gL bC.h rfl rfl rfl (EN ha (.tmp rfl rfl) rfl) (EN ha (.tmp rfl rfl) rfl) nY nK) (fun p9=>?_)
 refine bnd hF fun z10 mD hF=>bZ rfl rfl .no (.cons .h (.cons .q2 .nil)) (.own .h (by simp[aJ]) (.own (.t .h) (by simp[aJ]) (.dep rfl (.dep rfl .nil)))) (fun ha=>dL (Ro:=(aj ax)) bH.h gL bC.h rfl rfl rfl (EN ha (.tmp rfl rfl) rfl) (EN ha (.tmp rfl rfl) rfl) mD eX) (fun iP=>?_)
 refine bnd hF fun uI fQ hF=>bZ rfl rfl .no (.cons .q2 (.rd .q5 rfl .nil)) (.own (.t .h) (by simp[aJ]) (.dep rfl (.dep rfl (.dep rfl .nil)))) (fun ha=>dL (Ro:=(aj ax)) bH.h gL bC.h rfl rfl rfl (EN ha (.tmp rfl rfl) rfl) (EN ha (.tmp rfl rfl) rfl) fQ nK) (fun gT=>?_)
 refine bnd hF fun z16 jy hF=>bZ rfl rfl .no (.cons .h (.cons (.t .h) .nil)) (.dep rfl (.dep rfl (.dep rfl (.dep rfl .nil)))) (fun ha=>dL (Ro:=(aj ax)) bH.h gL bC.h rfl rfl rfl (EN ha (.tmp rfl rfl) rfl) (EN ha (.tmp rfl rfl) rfl) jy eX) (fun rU=>?_)
 refine dJ rfl .no (fun ha=>gH d_.h rfl (vs:=[iP.1.v,rU.1.v]) (.cons (EN ha (.tmp rfl rfl) rfl) (.cons (EN ha (.tmp rfl rfl) rfl) .nil)) (cells:=[iP.1.v,rU.1.v]) rfl) ?_
 refine bZ rfl rfl .no (.cons .q2 .nil) (.dep rfl (.dep rfl (.dep rfl (.dep rfl .nil)))) (fun ha=>fA (e':=(zg [iP.1.v,rU.1.v])) (v:=(zg [iP.1.v,rU.1.v])) d_.h.sz (EN ha (.tmp rfl rfl) rfl) (EN ha (.tmp rfl rfl) rfl) rfl rfl rfl rfl rfl) (fun _=>?_)
 refine du ?_
 refine au ?_
 cases hF
 exact Er (iP.1,iP.2,rU.1,rU.2)
def Gv(aI:aM)(oZ:Int):Nat->Int->Option (Int)
 |0,_=>none
 |m6+1,c5=>if ((decide ((c5:Int)<(aI.Vars.length:Int)))&&(decide ((c5:Int)<(aI.Values.length:Int))))then (
     (ix aI.Vars c5).bind fun qa=>
     if ((qa:Int)==oZ)then (
       (ix aI.Values c5).bind fun lI=>
       some lI)
     else (
       Gv aI oZ m6 (IntKind.i64.wrap (c5+1))))
   else (
     some (-1))
def yG(aI:aM)(oZ:Int):Option (Int):=
 (Af oZ).bind fun r2=>
 if (!r2)then (
   some oZ)
 else (
   Gv aI oZ (((aI.Vars.length:Int)-0).toNat+2) 0)
theorem Uv{aI:aM}{aa aQ:Sv}{oZ R:Int}(hF:yG aI oZ=some R):
   Fw.Spec Tryz.prog 91 [(zg [aa.v,aQ.v]),(zi oZ)] [ah aa aI.Vars,ah aQ aI.Values] (fun _:Unit=>(zi R)) (fun _=>[]):=by
 refine Se 36 Tryz.func91 [.tmp 4] ?_
 intro H0 F0
 unfold yG at hF
 refine au ?_
 refine bW (fun k1=>?_)
 refine bf ?_
 refine bnd hF fun r2 hx3 hF=>bR (KZ hx3) (fun _=>?_)
 refine aT ?_
 refine Ci hF (fun qJ hF=>?_) (fun qJ hF=>?_)
 · exact ze hF
 refine bf ?_
 refine bn (bU (m:=(((aI.Vars.length:Int)-0).toNat+2)) (fun m6 f' cs'=>∃(g:Fr)(c5:Int),f'=aR g [(1,(zi oZ)),(2,(pz k1)),(5,(zi c5))]/\aP cs' [a_ k1 85 (zg [aa.v,aQ.v]),ah aa aI.Vars,ah aQ aI.Values]/\Gv aI oZ m6 c5=some R) ⟨_,_,aB,aA,hF⟩ ?_)
 rintro m6 _ _ ⟨g7,c5,rfl,hE,hF⟩
 refine bM hE ?_
 rcases m6 with _|m6
 · rw[Gv]at hF
   exact absurd hF (by simp)
 rw[Gv]at hF
 refine aT ?_
 refine gB (fun f' cs'=>∃(g:Fr),f'=aR g [(1,(zi oZ)),(2,(pz k1)),(5,(zi c5)),(21,(.bool ((decide ((c5:Int)<(aI.Vars.length:Int)))&&(decide ((c5:Int)<(aI.Values.length:Int))))))]/\aP cs' [a_ k1 85 (zg [aa.v,aQ.v]),ah aa aI.Vars,ah aQ aI.Values]) ?_ ?_
 · refine bG ?_
   rcases df (decide ((c5:Int)<(aI.Vars.length:Int)))with qM|qM
   · rw[qM]
     try rw[qM]at hF; dsimp only[aY,aX]at hF
     refine Ei ?_
     exact⟨_,aB,aA⟩
   rw[qM]
   try rw[qM]at hF; dsimp only[aY,aX]at hF
   refine bQ ?_
   exact⟨_,aB,aA⟩
 rintro _ _ ⟨g15,rfl,hE⟩
 refine bM hE ?_
 refine Ci hF (fun u6 hF=>?_) (fun u6 hF=>?_)
 · refine bG ?_
   refine zI hF fun qa Rk kC hF=>?_
   refine Ai kC (fun k20 zt=>?_)
   refine Al dN ?_
   refine aZ ?_
   refine Ci hF (fun xN hF=>?_) (fun xN hF=>?_)
   · refine aL ?_
     refine zI hF fun lI abV hx25 hF=>?_
     refine Ai hx25 (fun k26 j27=>?_)
     refine Al dN ?_
     exact ze hF
   refine bG ?_
   exact⟨m6,bY _,_,_,aB,aA,hF⟩
 exact ze hF
def CX(nV:List Int)(nW:List Int)(c212:List Fact)(sM:Atom):Nat->(List Int)->Int->Option ((List Fact))
 |0,_,_=>none
 |Je+1,wG,Jf=>if (decide ((Jf:Int)<(sM.Terms.length:Int)))then (
     (ix sM.Terms Jf).bind fun akE=>
     (yG (⟨nV,nW⟩:aM) akE).bind fun WX=>
     (app wG ([WX]:List Int)).bind fun akF=>
     CX nV nW c212 sM Je akF (IntKind.i64.wrap (Jf+1)))
   else (
     (Ho c212 (⟨sM.Rel,wG⟩:Fact)).bind fun akG=>
     some akG)
def FE(nV:List Int)(nW:List Int):List Atom->Nat->(List Fact)->Option ((List Fact)×aM×Bool)
 |[],xY,c212=>some (c212,(⟨nV,nW⟩:aM),true)
 |sM::Aq,xY,c212=>(CX nV nW c212 sM (((sM.Terms.length:Int)-0).toNat+2) ([]:List Int) 0).bind fun WY=>
   match WY with
   |RL=>FE nV nW Aq (xY+1) RL
def FH(r3:(List Int)):Nat->Int->Option (Int)
 |0,_=>none
 |Jg+1,Ez=>(Ag r3 Ez).bind fun akH=>
   if akH then (
     FH r3 Jg (IntKind.i64.wrap (Ez+1)))
   else (
     some Ez)
def CY(ai:aO)(r3:(List Int))(fuel:Nat):List Int->Nat->(List Int)->(List Int)->Int->Option ((List Fact)×aM×Bool)
 |[],wH,nV,nW,c198=>FE nV nW ai.Atoms 0 ([]:List Fact)
 |akI::Ar,wH,nV,nW,c198=>(((FH r3 fuel c198).bind fun WZ=>
     match WZ with
     |Jh=>if (decide ((9:Int)<Jh))then (
         some (.inl (([]:List Fact),(⟨[],[]⟩:aM),false)))
       else (
         (D9 (⟨nV,nW⟩:aM) akI Jh).bind fun acB=>
         some (.inr (acB.Vars,acB.Values,(IntKind.i64.wrap (Jh+1)))))):Option (Sum ((List Fact)×aM×Bool) ((List Int)×(List Int)×Int))).bind fun acC=>
   match acC with
   | .inl r=>some r
   | .inr (RN,RO,RP)=>CY ai r3 fuel Ar (wH+1) RN RO RP
def KE(fuel:Nat)(ai:aO):Option ((List Fact)×aM×Bool):=
 (zK ai).bind fun r3=>
 (HZ ai).bind fun r6=>
 CY ai r3 fuel r6 0 ([]:List Int) ([]:List Int) 0
theorem adL{fuel:Nat}{ai:aO}{aa aQ:Sv}{R:(List Fact)×aM×Bool}(hF:KE fuel ai=some R):
   Fw.Spec Tryz.prog 53 [(zg [aa.v,aQ.v])] [ah aa ai.Head,bX aQ ai.Atoms] (fun p:Sv×List Nat×Sv×List Nat×Sv×List Nat=>(.tuple [p.1.v,(zg [p.2.2.1.v,p.2.2.2.2.1.v]),(.bool R.2.2)].toArray)) (fun p=>[h_ p.2.1 p.1 R.1,bv p.2.2.2.1 p.2.2.1 R.2.1.Vars,bv p.2.2.2.2.2 p.2.2.2.2.1 R.2.1.Values]):=by
 refine Se 90 Tryz.func53 [.tmp 2,.cell 3 85,.tmp 4] ?_
 intro H0 F0
 unfold KE at hF
 refine au ?_
 refine bW (fun k1=>?_)
 refine au ?_
 refine cO (fun k2=>?_)
 refine aL ?_
 refine bnd hF fun r3 hx4 hF=>dW (Nv hx4) (fun p5=>?_)
 refine aL ?_
 refine bnd hF fun r6 hx7 hF=>dW (YZ hx7) (fun p8=>?_)
 refine aZ ?_
 refine aK (gH d_.h rfl (vs:=[]) .nil (cells:=[(.slice none 0 0),(.slice none 0 0)]) rfl) ?_
 refine cO (fun k9=>?_)
 refine As (zg [(.slice none 0 0),(.slice none 0 0)]) ?_
 refine fI ?_
 refine bn (lS (.t .h) bi ?_)
 refine bU (m:=r6.length) (fun akJ f' cs'=>∃(g:Fr)(wH:Nat)(Ar nV nW:List Int)(c198:Int)(v193:Sv)(EA:List Nat)(v196:Sv)(EB:List Nat),akJ=Ar.length/\f'=aR g [(1,(pz k1)),(3,(pz k2)),(5,p5.1.v),(6,p8.1.v),(7,(pz k9)),(8,(zi c198)),(9,(zi (wH:Int)))]/\List.drop wH r6=Ar/\aP cs' [a_ k1 28 (zg [aa.v,aQ.v]),ah aa ai.Head,bX aQ ai.Atoms,bq k2 85 (zg [(.slice none 0 0),(.slice none 0 0)]),bv p5.2 p5.1 r3,ah p8.1 r6,bq k9 85 (zg [v193.v,v196.v]),bv EA v193 nV,bv EB v196 nW]/\CY ai r3 fuel Ar wH nV nW c198=some R) ⟨_,0,_,_,_,_,⟨none,0,0⟩,[],⟨none,0,0⟩,[],rfl,aB,rfl,(.conv .nil (fu (Ro:=(aj ax)) (E:=3)) (.cons .nil) (.conv .nil (fu (Ro:=(aj ax)) (E:=3)) (.cons .nil) aA)),hF⟩ ?_
 rintro akJ _ _ ⟨aEA,wH,Ar,nV,nW,c198,v193,EA,v196,EB,rfl,rfl,aiT,hE,hF⟩
 refine Kb hE r6 (fun aAx=>?_)
 rcases Ar with _|⟨akI,Ar⟩
 · have avM:=dn aiT
   rw[CY]at hF
   refine bQ ?_
   refine dE ?_
   refine bf ?_
   refine b_ rfl (bI (g:=true) fU.h eG.h .nil (vs:=[]) rfl rfl rfl (by simp)) (fun EC=>?_)
   refine dh (.cons .h .nil) (bK (Ro:=gD) (E:=71) (F:=[]) (xs:=([]:List Fact)) bJ rfl rfl) ?_
   refine bG ?_
   refine bn (bU (m:=ai.Atoms.length) (fun akK f' cs'=>∃(g:Fr)(xY:Nat)(Aq:List Atom)(c212:List Fact)(MJ:Sv)(W9:List Nat),akK=Aq.length/\f'=aR g [(1,(pz k1)),(3,(pz k2)),(7,(pz k9)),(10,MJ.v),(11,(zi (xY:Int)))]/\List.drop xY ai.Atoms=Aq/\aP cs' [a_ k1 28 (zg [aa.v,aQ.v]),ah aa ai.Head,bX aQ ai.Atoms,bq k2 85 (zg [(.slice none 0 0),(.slice none 0 0)]),bq k9 85 (zg [v193.v,v196.v]),bv EA v193 nV,bv EB v196 nW,h_ W9 MJ c212]/\FE nV nW Aq xY c212=some R) ⟨_,0,_,_,⟨(some ⟨EC,0,none⟩),0,1⟩,(EC::[]),rfl,aB,rfl,aA,hF⟩ ?_)
   rintro akK _ _ ⟨aEB,xY,Aq,c212,MJ,W9,rfl,rfl,aiU,hE,hF⟩
   refine Kb hE ai.Atoms (fun aAy=>?_)
   rcases Aq with _|⟨sM,Aq⟩
   · have avN:=dn aiU
     rw[FE]at hF
     refine fI ?_
     refine dE ?_
     refine aL ?_
     refine dM [0,1,2,3,4] [0,0,1,7,15] [3] mixed (by decide+kernel) ?_
     refine du ?_
     refine dH rfl .no .q4 (fun ha hp=>gM jN.h d_.h.sz rfl (EN ha (.tmp rfl rfl) rfl) hp.2 rfl) ?_
     refine du ?_
     refine bZ rfl rfl .no (.cons .q3 .nil) (.dep rfl .nil) (fun ha=>fA (e':=(zg [v193.v,v196.v])) (v:=(zg [v193.v,v196.v])) d_.h.sz (EN ha (.tmp rfl rfl) rfl) (EN ha (.tmp rfl rfl) rfl) rfl rfl rfl rfl rfl) (fun _=>?_)
     refine bV ?_
     refine au ?_
     cases hF
     exact eO (MJ,W9,v193,EA,v196,EB) (.tmp rfl rfl (.cellA rfl rfl .h rfl jN.h d_.h.sz rfl rfl (.tmp rfl rfl .nil))) rfl (.sel (.cons .q7 (.cons .q5 (.cons .q5 .nil))))
   obtain⟨avN,aa8,avO⟩:=dA aiU
   rw[FE]at hF
   refine fI ?_
   refine dD ?_
   refine au ?_
   obtain⟨WY,ar3,avP⟩:=bind_some hF
   refine gN (fun f' cs'=>∃(RL:List Fact)(W_:Sv)(acD:List Nat)(g:Fr),RL=WY/\f'=aR g [(1,(pz k1)),(3,(pz k2)),(7,(pz k9)),(10,W_.v),(11,(zi (xY:Int)))]/\aP cs' [a_ k1 28 (zg [aa.v,aQ.v]),ah aa ai.Head,bX aQ ai.Atoms,bq k2 85 (zg [(.slice none 0 0),(.slice none 0 0)]),bq k9 85 (zg [v193.v,v196.v]),bv EA v193 nV,bv EB v196 nW,h_ acD W_ RL]) ?_ ?_
   · replace hF:=ar3
     refine bn (cB (aK (nH (off:=1) aav.h (.tmp rfl rfl)) ?_))
     refine aT ?_
     refine Ai aa8 (fun zb aEC=>?_)
     refine au ?_
     refine Al PV ?_
     refine aK (gH eG.h rfl (vs:=[(zi sM.Rel)]) bz (cells:=[(zi sM.Rel),(.slice none 0 0)]) rfl) ?_
     refine cO (fun akL=>?_)
     refine As (zg [(zi sM.Rel),(.slice none 0 0)]) ?_
     refine bf ?_
     refine bn (bU (m:=(((sM.Terms.length:Int)-0).toNat+2)) (fun Je f' cs'=>∃(g:Fr)(wG:List Int)(Jf:Int)(BR:Sv)(MK:List Nat),f'=aR g [(1,(pz k1)),(3,(pz k2)),(7,(pz k9)),(10,MJ.v),(11,(zi (xY:Int))),(12,(pz akL)),(13,(zi Jf))]/\aP cs' [a_ k1 28 (zg [aa.v,aQ.v]),ah aa ai.Head,bX aQ ai.Atoms,bq k2 85 (zg [(.slice none 0 0),(.slice none 0 0)]),bq k9 85 (zg [v193.v,v196.v]),bv EA v193 nV,bv EB v196 nW,h_ W9 MJ c212,bq akL 71 (zg [(zi sM.Rel),BR.v]),bv MK BR wG]/\CX nV nW c212 sM Je wG Jf=some WY) ⟨_,_,_,⟨none,0,0⟩,[],aB,(.conv .nil (fu (Ro:=(aj ax)) (E:=3)) (.cons .nil) aA),hF⟩ ?_)
     rintro Je _ _ ⟨aED,wG,Jf,BR,MK,rfl,hE,hF⟩
     refine bM hE ?_
     rcases Je with _|Je
     · rw[CX]at hF
       exact absurd hF (by simp)
     rw[CX]at hF
     refine bG ?_
     refine Ai aa8 (fun aEE aEF=>?_)
     refine au ?_
     refine ng (R':=(aW 3 ax)) fT.h (.tmp rfl rfl) .h uS (fun aEG=>?_)
     refine aZ ?_
     refine Ci hF (fun avQ hF=>?_) (fun avQ hF=>?_)
     · refine aT ?_
       refine jK [0,1,2,3,4,5,6,7,8,9,10,11,12,13,14,15,16] [0,1,0,0,8,0,56,120,248,0,1016,2040,4092,8188,16383,32767,65535] [12,14,16] mixed (by decide+kernel) ?_
       refine du ?_
       refine dH rfl .no .q10 (fun ha hp=>fZ (v:=BR.v) fT.h (EN ha (.tmp rfl rfl) rfl) hp.2 rfl rfl) ?_
       refine dH rfl .no .q6 (fun ha hp=>gM jN.h d_.h.sz rfl (EN ha (.tmp rfl rfl) rfl) hp.2 rfl) ?_
       refine fw ?_
       refine Di aa8 (fun aEH aEI=>?_)
       refine du ?_
       refine qG (R':=(aW 3 ax)) fT.h rfl .no (.tmp rfl rfl) rfl .h uS (fun aEJ=>?_)
       refine du ?_
       refine zI hF fun akE aCn avR hF=>?_
       refine Di avR (fun aEK aEL=>?_)
       refine Dl dN ?_
       refine bnd hF fun WX avS hF=>lq rfl rfl .no (.cons .q11 (.cons .q10 .nil)) (.dep rfl (.own .q11 (fun _ h=>h) .nil)) (fun ha=>iW (pre:=[]) (.cons bi (.cons bi .nil)) (fun _=>.nil) (bP ajE.h (.cons (EN ha (.tmp rfl rfl) rfl) (.cons (EN ha (.tmp rfl rfl) rfl) .nil)) (Uv avS))) (fun _=>?_)
       refine gP rfl .no rfl (fun ha=>bI (g:=true) (len:=1) (parts:=[(0,.tmp 81)]) bH.h bC.h (.cons (EN ha (.tmp rfl rfl) rfl) .nil) (vs:=[(zi WX)]) rfl rfl rfl (by intro v hv; simp at hv; rcases hv with rfl<;>rfl)) (fun aEM=>?_)
       refine gZ (.cons .h .nil) (bK (Ro:=(aj ax)) (E:=3) (F:=([]++[])) (xs:=([WX]:List Int)) (bS (dK (fun _=>rfl)) bJ bB) rfl rfl) ?_
       refine bnd hF fun akF avT hF=>bZ rfl rfl .no (.cons (.t (.t (.t (.t (.t (.t (.t (.t (.t (.t (.t (.t (.t (.t (.t .h))))))))))))))) (.cons .h .nil)) (.dep rfl (.dep rfl (.dep rfl .nil))) (fun ha=>dL (Ro:=(aj ax)) bH.h gL bC.h rfl rfl rfl (EN ha (.tmp rfl rfl) rfl) (EN ha (.tmp rfl rfl) rfl) avT eX) (fun acE=>?_)
       refine du ?_
       refine bZ rfl rfl .no (.cons .q14 .nil) (.dep rfl (.dep rfl (.dep rfl .nil))) (fun ha=>fA (e':=(zg [(zi sM.Rel),acE.1.v])) fB.h.sz (EN ha (.tmp rfl rfl) rfl) (EN ha (.tmp rfl rfl) rfl) rfl rfl rfl rfl rfl) (fun _=>?_)
       refine du ?_
       refine bf ?_
       exact⟨Je,bY _,_,_,_,acE.1,acE.2,aB,aA,hF⟩
     refine bQ ?_
     refine bnd hF fun akG avU hF=>Bu (.cons .q11 (.cons .q9 .nil)) (iW (pre:=[]) (.cons bi (.cons bi .nil)) (fun _=>(.cons .nil)) (bP aaJ.h bz (YM avU))) (fun akM=>?_)
     refine aT ?_
     cases hF
     exact⟨_,akM.1,akM.2,_,rfl,aB,aA⟩
   rintro _ _ ⟨RL,W_,acD,aEN,rfl,rfl,hE⟩
   replace hF:=avP
   try dsimp only at hF
   refine bM hE ?_
   refine bf ?_
   rw[wk xY]
   exact⟨_,bY _,_,xY+1,Aq,_,W_,acD,rfl,aB,avO,aA,hF⟩
 obtain⟨avM,avV,avW⟩:=dA aiT
 rw[CY]at hF
 refine bQ ?_
 refine dD ?_
 refine au ?_
 obtain⟨acC,ar4,aiV⟩:=bind_some hF
 refine gN (fun f' cs'=>∃(RN RO:List Int)(RP:Int)(Xa:Sv)(acF:List Nat)(Xb:Sv)(acG:List Nat)(g:Fr),acC= .inr (RN,RO,RP)/\f'=aR g [(1,(pz k1)),(3,(pz k2)),(5,p5.1.v),(6,p8.1.v),(7,(pz k9)),(8,(zi RP)),(9,(zi (wH:Int)))]/\aP cs' [a_ k1 28 (zg [aa.v,aQ.v]),ah aa ai.Head,bX aQ ai.Atoms,bq k2 85 (zg [(.slice none 0 0),(.slice none 0 0)]),bv p5.2 p5.1 r3,ah p8.1 r6,bq k9 85 (zg [Xa.v,Xb.v]),bv acF Xa RN,bv acG Xb RO]) ?_ ?_
 · replace hF:=ar4
   refine bn ?_
   obtain⟨WZ,ar5,avX⟩:=bind_some hF
   refine gN (fun f' cs'=>∃(Jh:Int)(g:Fr),Jh=WZ/\f'=aR g [(1,(pz k1)),(3,(pz k2)),(5,p5.1.v),(6,p8.1.v),(7,(pz k9)),(8,(zi Jh)),(9,(zi (wH:Int)))]/\aP cs' [a_ k1 28 (zg [aa.v,aQ.v]),ah aa ai.Head,bX aQ ai.Atoms,bq k2 85 (zg [(.slice none 0 0),(.slice none 0 0)]),bv p5.2 p5.1 r3,ah p8.1 r6,bq k9 85 (zg [v193.v,v196.v]),bv EA v193 nV,bv EB v196 nW]) ?_ ?_
   · replace hF:=ar5
     refine bn (bU (m:=fuel) (fun Jg f' cs'=>∃(g:Fr)(Ez:Int),f'=aR g [(1,(pz k1)),(3,(pz k2)),(5,p5.1.v),(6,p8.1.v),(7,(pz k9)),(8,(zi Ez)),(9,(zi (wH:Int)))]/\aP cs' [a_ k1 28 (zg [aa.v,aQ.v]),ah aa ai.Head,bX aQ ai.Atoms,bq k2 85 (zg [(.slice none 0 0),(.slice none 0 0)]),bv p5.2 p5.1 r3,ah p8.1 r6,bq k9 85 (zg [v193.v,v196.v]),bv EA v193 nV,bv EB v196 nW]/\FH r3 Jg Ez=some WZ) ⟨_,_,aB,aA,hF⟩ ?_)
     rintro Jg _ _ ⟨aEO,Ez,rfl,hE,hF⟩
     refine bM hE ?_
     rcases Jg with _|Jg
     · rw[FH]at hF
       exact absurd hF (by simp)
     rw[FH]at hF
     refine aL ?_
     refine bnd hF fun akH avY hF=>dC (.cons .q4 .nil) (eY bi (fun _=>.nil) (bP Wh.h bz (OA avY))) (fun _=>?_)
     refine au ?_
     refine Ci hF (fun avZ hF=>?_) (fun avZ hF=>?_)
     · refine au ?_
       refine bn (qY (Cm (zi Ez) rfl rfl ?_))
       refine aZ ?_
       exact⟨Jg,bY _,_,_,aB,aA,hF⟩
     exact cK hF
   rintro _ _ ⟨Jh,aEP,rfl,rfl,hE⟩
   replace hF:=avX
   try dsimp only at hF
   refine bM hE ?_
   refine bf ?_
   refine Ci hF (fun av1 hF=>?_) (fun av1 hF=>?_)
   · refine au ?_
     refine b_ rfl (bI (g:=true) fU.h eG.h .nil (vs:=[]) rfl rfl rfl (by simp)) (fun akN=>?_)
     refine dh (.cons .h .nil) (bK (Ro:=gD) (E:=71) (F:=[]) (xs:=([]:List Fact)) bJ rfl rfl) ?_
     refine aK (gH d_.h rfl (vs:=[]) .nil (cells:=[(.slice none 0 0),(.slice none 0 0)]) rfl) ?_
     refine au ?_
     refine As (zg [(.slice none 0 0),(.slice none 0 0)]) ?_
     refine aZ ?_
     cases hF
     replace hF:=aiV
     try dsimp only at hF
     cases hF
     exact eO (⟨(some ⟨akN,0,none⟩),0,1⟩,(akN::[]),⟨none,0,0⟩,[],⟨none,0,0⟩,[]) (.tmp rfl rfl (.cellA rfl rfl .h rfl jN.h d_.h.sz rfl rfl (.tmp rfl rfl .nil))) rfl (.conv .nil (fu (Ro:=(aj ax)) (E:=3)) (.cons .nil) (.conv .nil (fu (Ro:=(aj ax)) (E:=3)) (.cons .nil) (.sel (.cons .q3 (.cons (.t .h) (.cons .h .nil))))))
   refine au ?_
   refine dM [0,1,2,3,4,5,6,7] [0,0,0,6,14,0,63,127] [6,7] mixed (by decide+kernel) ?_
   refine dH rfl .no .q6 (fun ha hp=>gM jN.h d_.h.sz rfl (EN ha (.tmp rfl rfl) rfl) hp.2 rfl) ?_
   refine bV ?_
   refine Di avV (fun aEQ aER=>?_)
   refine Dl dN ?_
   refine du ?_
   refine bnd hF fun acB av2 hF=>Eg rfl rfl .no (.cons .q9 (.cons .q8 .nil)) (.dep rfl .nil) (fun ha=>iW (pre:=[]) (.cons bi (.cons bi .nil)) (fun _=>(.cons (.cons .nil))) (bP aiB.h (.cons (EN ha (.tmp rfl rfl) rfl) (.cons (EN ha (.tmp rfl rfl) rfl) (.cons (EN ha (.tmp rfl rfl) rfl) .nil))) (ae' av2))) (fun ED=>?_)
   refine bZ rfl rfl .no (.cons .q11 .nil) (.dep rfl .nil) (fun ha=>fA (e':=(zg [ED.1.v,ED.2.2.1.v])) (v:=(zg [ED.1.v,ED.2.2.1.v])) d_.h.sz (EN ha (.tmp rfl rfl) rfl) (EN ha (.tmp rfl rfl) rfl) rfl rfl rfl rfl rfl) (fun _=>?_)
   refine du ?_
   refine bf ?_
   cases hF
   exact⟨_,_,_,ED.1,ED.2.1,ED.2.2.1,ED.2.2.2,_,rfl,aB,aA⟩
 rintro _ _ ⟨RN,RO,RP,Xa,acF,Xb,acG,aES,rfl,rfl,hE⟩
 replace hF:=aiV
 try dsimp only at hF
 refine bM hE ?_
 refine bf ?_
 rw[wk wH]
 exact⟨_,bY _,_,wH+1,Ar,_,_,_,Xa,acF,Xb,acG,rfl,aB,avW,aA,hF⟩
def Dc(pQ:(List Fact)×aM×Bool):List Fact->Nat->(List Fact)->Option ((List Fact)×aM×Bool)
 |[],zf,sI=>some (sI,pQ.2.1,pQ.2.2)
 |ML::Au,zf,sI=>(if (decide ((ML.Rel:Int)<3))then (
       (app sI ([ML]:List Fact)).bind fun akO=>
       some akO)
     else (
       some sI)).bind fun acH=>
   match acH with
   |RQ=>Dc pQ Au (zf+1) RQ
def zL(r4:aO)(fuel:Nat):List Int->Nat->(List Atom)->Option ((List Fact)×aM×Bool)
 |[],BS,mQ=>(KE fuel (⟨r4.Head,mQ⟩:aO)).bind fun pQ=>
   Dc pQ pQ.1 0 ([]:List Fact)
 |MM::Av,BS,mQ=>(app mQ ([(⟨3,([MM]:List Int)⟩:Atom)]:List Atom)).bind fun z213=>
   zL r4 fuel Av (BS+1) z213
def OI(fuel:Nat)(jJ:aO)(ai:aO):Option ((List Fact)×aM×Bool):=
 (Pq jJ).bind fun r4=>
 (zK ai).bind fun r8=>
 zL r4 fuel r8 0 r4.Atoms
theorem an1{fuel:Nat}{jJ:aO}{aa aQ:Sv}{ai:aO}{ak aU:Sv}{R:(List Fact)×aM×Bool}(hF:OI fuel jJ ai=some R):
   Fw.Spec Tryz.prog 89 [(zg [aa.v,aQ.v]),(zg [ak.v,aU.v])] [ah aa jJ.Head,bX aQ jJ.Atoms,ah ak ai.Head,bX aU ai.Atoms] (fun p:Sv×List Nat×Sv×List Nat×Sv×List Nat=>(.tuple [p.1.v,(zg [p.2.2.1.v,p.2.2.2.2.1.v]),(.bool R.2.2)].toArray)) (fun p=>[abA p.2.1 p.1 R.1,bv p.2.2.2.1 p.2.2.1 R.2.1.Vars,bv p.2.2.2.2.2 p.2.2.2.2.1 R.2.1.Values]):=by
 refine Se 65 Tryz.func89 [.tmp 4,.cell 5 85,.tmp 6] ?_
 intro H0 F0
 unfold OI at hF
 refine au ?_
 refine bW (fun k1=>?_)
 refine bW (fun k2=>?_)
 refine au ?_
 refine cO (fun k3=>?_)
 refine aL ?_
 refine bnd hF fun r4 hx5 hF=>mV (ao8 hx5) (fun p6=>?_)
 refine cO (fun k7=>?_)
 refine As (zg [p6.1.v,p6.2.2.1.v]) ?_
 refine aZ ?_
 refine bnd hF fun r8 dm hF=>dW (Nv dm) (fun dP=>?_)
 refine bG ?_
 refine bn (lS .h bi ?_)
 refine bU (m:=r8.length) (fun akP f' cs'=>∃(g:Fr)(BS:Nat)(Av:List Int)(mQ:List Atom)(Xc:Sv)(akQ:List Nat),akP=Av.length/\f'=aR g [(5,(pz k3)),(7,(pz k7)),(8,dP.1.v),(9,(zi (BS:Int)))]/\List.drop BS r8=Av/\aP cs' [bq k3 85 (zg [(.slice none 0 0),(.slice none 0 0)]),bq k7 28 (zg [p6.1.v,Xc.v]),bv p6.2.1 p6.1 r4.Head,mq akQ Xc mQ,ah dP.1 r8]/\zL r4 fuel Av BS mQ=some R) ⟨_,0,_,_,p6.2.2.1,p6.2.2.2,rfl,aB,rfl,aA,hF⟩ ?_
 rintro akP _ _ ⟨azp,BS,Av,mQ,Xc,akQ,rfl,rfl,aiW,hE,hF⟩
 refine Kb hE r8 (fun aAz=>?_)
 rcases Av with _|⟨MM,Av⟩
 · have av3:=dn aiW
   rw[zL]at hF
   refine bQ ?_
   refine dE ?_
   refine bG ?_
   refine bnd hF fun pQ av4 hF=>abt (.cons .q3 (.cons .q2 .nil)) (iW (pre:=[]) (.cons bi (.cons bi .nil)) (fun _=>(.cons (.cons (.cons .nil)))) (bP axO.h bz (adL av4))) (fun kY=>?_)
   refine au ?_
   refine zx ?_
   refine zx ?_
   refine zx ?_
   refine cO (fun MB=>?_)
   refine au ?_
   refine As (zg [kY.2.2.1.v,kY.2.2.2.2.1.v]) ?_
   refine aZ ?_
   refine b_ rfl (bI (g:=true) fU.h eG.h .nil (vs:=[]) rfl rfl rfl (by simp)) (fun akR=>?_)
   refine dh (.cons .h .nil) (bK (Ro:=(aj lV)) (E:=71) (F:=[]) (xs:=([]:List Fact)) bJ rfl rfl) ?_
   refine bG ?_
   refine bn (lS .q4 bi ?_)
   refine bU (m:=pQ.1.length) (fun akS f' cs'=>∃(g:Fr)(zf:Nat)(Au sI:List Fact)(RS:Sv)(Xd:List Nat),akS=Au.length/\f'=aR g [(5,(pz k3)),(10,kY.1.v),(11,(pz MB)),(12,(.bool pQ.2.2)),(13,RS.v),(14,(zi (zf:Int)))]/\List.drop zf pQ.1=Au/\aP cs' [bq k3 85 (zg [(.slice none 0 0),(.slice none 0 0)]),cz kY.1 pQ.1,bq MB 85 (zg [kY.2.2.1.v,kY.2.2.2.2.1.v]),bv kY.2.2.2.1 kY.2.2.1 pQ.2.1.Vars,bv kY.2.2.2.2.2 kY.2.2.2.2.1 pQ.2.1.Values,abA Xd RS sI]/\Dc pQ Au zf sI=some R) ⟨_,0,_,_,⟨(some ⟨akR,0,none⟩),0,1⟩,(akR::[]),rfl,aB,rfl,aA,hF⟩ ?_
   rintro akS _ _ ⟨aET,zf,Au,sI,RS,Xd,rfl,rfl,aiX,hE,hF⟩
   refine Kb hE pQ.1 (fun aAA=>?_)
   rcases Au with _|⟨ML,Au⟩
   · have av5:=dn aiX
     rw[Dc]at hF
     refine bQ ?_
     refine dE ?_
     refine aL ?_
     refine dM [0,1,2,3,4,5] [0,0,0,1,11,31] [4] mixed (by decide+kernel) ?_
     refine du ?_
     refine dH rfl .no .q2 (fun ha hp=>gM jN.h d_.h.sz rfl (EN ha (.tmp rfl rfl) rfl) hp.2 rfl) ?_
     refine bV ?_
     refine bZ rfl rfl .no (.cons .h .nil) (.dep rfl .nil) (fun ha=>fA (e':=(zg [kY.2.2.1.v,kY.2.2.2.2.1.v])) (v:=(zg [kY.2.2.1.v,kY.2.2.2.2.1.v])) d_.h.sz (EN ha (.tmp rfl rfl) rfl) (EN ha (.tmp rfl rfl) rfl) rfl rfl rfl rfl rfl) (fun _=>?_)
     refine bV ?_
     refine au ?_
     cases hF
     exact eO (RS,Xd,kY.2.2.1,kY.2.2.2.1,kY.2.2.2.2.1,kY.2.2.2.2.2) (.tmp rfl rfl (.cellA rfl rfl .h rfl jN.h d_.h.sz rfl rfl (.tmp rfl rfl .nil))) rfl (.sel (.cons .q5 (.cons .q3 (.cons .q3 .nil))))
   obtain⟨av5,aiY,av6⟩:=dA aiX
   rw[Dc]at hF
   refine bQ ?_
   refine dD ?_
   refine au ?_
   obtain⟨acH,ar6,av7⟩:=bind_some hF
   refine gN (fun f' cs'=>∃(RQ:List Fact)(Xe:Sv)(acI:List Nat)(g:Fr),RQ=acH/\f'=aR g [(5,(pz k3)),(10,kY.1.v),(11,(pz MB)),(12,(.bool pQ.2.2)),(13,Xe.v),(14,(zi (zf:Int)))]/\aP cs' [bq k3 85 (zg [(.slice none 0 0),(.slice none 0 0)]),cz kY.1 pQ.1,bq MB 85 (zg [kY.2.2.1.v,kY.2.2.2.2.1.v]),bv kY.2.2.2.1 kY.2.2.1 pQ.2.1.Vars,bv kY.2.2.2.2.2 kY.2.2.2.2.1 pQ.2.1.Values,abA acI Xe RQ]) ?_ ?_
   · replace hF:=ar6
     refine bn (cB (Cm kY.1.v rfl rfl ?_))
     refine au ?_
     refine Ai aiY (fun aEU aEV=>?_)
     refine au ?_
     refine Al PU ?_
     refine aT ?_
     refine Ci hF (fun av8 hF=>?_) (fun av8 hF=>?_)
     · refine aL ?_
       refine Ai aiY (fun aEW aEX=>?_)
       refine j_ (mZ ML) nI (fun RJ=>?_)
       refine b_ rfl (bI (g:=true) fU.h eG.h bz (vs:=[(zg [(zi ML.Rel),RJ.v])]) rfl rfl rfl (by intro v hv; simp at hv; rcases hv with rfl<;>rfl)) (fun aEY=>?_)
       refine dh (.cons .h (.rd .h rfl .nil)) (bK (Ro:=(aj lV)) (E:=71) (F:=([]++[])) (xs:=([ML]:List Fact)) (bS axP bJ bB) rfl rfl) ?_
       refine bnd hF fun akO av9 hF=>dC (.cons .q9 (.cons .h .nil)) (dL (Ro:=(aj lV)) fU.h xG eG.h rfl rfl rfl (.tmp rfl rfl) (.tmp rfl rfl) av9 eX) (fun akT=>?_)
       refine aT ?_
       cases hF
       exact⟨_,akT.1,akT.2,_,rfl,aB,aA⟩
     refine au ?_
     cases hF
     exact⟨_,RS,Xd,_,rfl,aB,aA⟩
   rintro _ _ ⟨RQ,Xe,acI,aEZ,rfl,rfl,hE⟩
   replace hF:=av7
   try dsimp only at hF
   refine bM hE ?_
   refine bf ?_
   rw[wk zf]
   exact⟨_,bY _,_,zf+1,Au,_,Xe,acI,rfl,aB,av6,aA,hF⟩
 obtain⟨av3,aaZ,VN⟩:=dA aiW
 rw[zL]at hF
 refine bQ ?_
 refine dD ?_
 refine aT ?_
 refine jK [0,1,2,3,4,5,6,7,8,9,10,11] [0,1,0,0,12,28,60,124,252,511,1023,2047] [9,11] mixed (by decide+kernel) ?_
 refine du ?_
 refine dH rfl .no (.t .h) (fun ha hp=>fZ (v:=Xc.v) Em.h (EN ha (.tmp rfl rfl) rfl) hp.2 rfl rfl) ?_
 refine bV ?_
 refine Di aaZ (fun aE0 aE1=>?_)
 refine Dl dN ?_
 refine gP rfl .no rfl (fun ha=>bI (g:=true) (len:=1) (parts:=[(0,.tmp 30)]) bH.h bC.h (.cons (EN ha (.tmp rfl rfl) rfl) .nil) (vs:=[(zi MM)]) rfl rfl rfl (by intro v hv; simp at hv; rcases hv with rfl<;>rfl)) (fun EC=>?_)
 refine gZ (.cons .h .nil) (bK (Ro:=(aj ax)) (E:=3) (F:=([]++[])) (xs:=([MM]:List Int)) (bS (dK (fun _=>rfl)) bJ bB) rfl rfl) ?_
 refine dJ rfl .no (fun ha=>gH kM.h rfl (vs:=[(zi 3),(.slice (some ⟨EC,0,none⟩) 1 1)]) (.cons (EN ha (.int _ _) rfl) (.cons (EN ha (.tmp rfl rfl) rfl) .nil)) (cells:=[(zi 3),(.slice (some ⟨EC,0,none⟩) 1 1)]) rfl) ?_
 refine gP rfl .no rfl (fun ha=>bI (g:=true) (len:=1) (parts:=[(0,.tmp 32)]) oC.h kM.h (.cons (EN ha (.tmp rfl rfl) rfl) .nil) (vs:=[(zg [(zi 3),(.slice (some ⟨EC,0,none⟩) 1 1)])]) rfl rfl rfl (by intro v hv; simp at hv; rcases hv with rfl<;>rfl)) (fun ayk=>?_)
 refine gZ (.cons .h (.cons .h .nil)) (bK (Ro:=jO) (E:=66) (F:=((EC::([]++[]))++[])) (xs:=([(⟨3,([MM]:List Int)⟩:Atom)]:List Atom)) (bS (Bw (v0:=⟨(some ⟨EC,0,none⟩),1,1⟩) (a:=(⟨3,([MM]:List Int)⟩:Atom))) bJ bB) rfl rfl) ?_
 refine bnd hF fun z213 aaP hF=>bZ rfl rfl .no (.cons .q5 (.cons .h .nil)) (.dep rfl (.dep rfl (.dep rfl .nil))) (fun ha=>dL (Ro:=jO) oC.h Mh kM.h rfl rfl rfl (EN ha (.tmp rfl rfl) rfl) (EN ha (.tmp rfl rfl) rfl) aaP eX) (fun IX=>?_)
 refine du ?_
 refine bZ rfl rfl .no (.cons .q3 .nil) (.dep rfl (.dep rfl (.dep rfl .nil))) (fun ha=>fA (e':=(zg [p6.1.v,IX.1.v])) We.h.sz (EN ha (.tmp rfl rfl) rfl) (EN ha (.tmp rfl rfl) rfl) rfl rfl rfl rfl rfl) (fun _=>?_)
 refine du ?_
 refine bf ?_
 rw[wk BS]
 exact⟨_,bY _,_,BS+1,Av,_,IX.1,IX.2,rfl,aB,VN,aA,hF⟩
def Dr(aI:aM):List Int->Nat->(List Int)->Option ((List Int))
 |[],k10,c4=>some c4
 |uH::o5,k10,c4=>(yG aI uH).bind fun kP=>
   (app c4 ([kP]:List Int)).bind fun z25=>
   Dr aI o5 (k10+1) z25
def Ht(ai:aO)(aI:aM):Option ((List Int)):=
 Dr aI ai.Head 0 ([]:List Int)
theorem YO{ai:aO}{aa aQ:Sv}{aI:aM}{ak aU:Sv}{R:(List Int)}(hF:Ht ai aI=some R):
   Fw.Spec Tryz.prog 56 [(zg [aa.v,aQ.v]),(zg [ak.v,aU.v])] [ah aa ai.Head,bX aQ ai.Atoms,ah ak aI.Vars,ah aU aI.Values] (fun p:Sv×List Nat=>p.1.v) (fun p=>[bv p.2 p.1 R]):=by
 refine Se 26 Tryz.func56 [.tmp 4] ?_
 intro H0 F0
 unfold Ht at hF
 refine au ?_
 refine bW (fun k1=>?_)
 refine bW (fun k2=>?_)
 refine aZ ?_
 refine b_ rfl (bI (g:=true) bH.h bC.h .nil (vs:=[]) rfl rfl rfl (by simp)) (fun k3=>?_)
 refine dh (.cons .h .nil) (bK (Ro:=(aj ax)) (E:=3) (F:=[]) (xs:=([]:List Int)) bJ rfl rfl) ?_
 refine bG ?_
 refine bn (bU (m:=ai.Head.length) (fun m8 f' cs'=>∃(g:Fr)(k10:Nat)(o5 c4:List Int)(v5:Sv)(F6:List Nat),m8=o5.length/\f'=aR g [(2,(pz k1)),(3,(pz k2)),(5,v5.v),(6,(zi (k10:Int)))]/\List.drop k10 ai.Head=o5/\aP cs' [a_ k1 28 (zg [aa.v,aQ.v]),ah aa ai.Head,bX aQ ai.Atoms,a_ k2 85 (zg [ak.v,aU.v]),ah ak aI.Vars,ah aU aI.Values,bv F6 v5 c4]/\Dr aI o5 k10 c4=some R) ⟨_,0,_,_,⟨(some ⟨k3,0,none⟩),0,1⟩,(k3::[]),rfl,aB,rfl,aA,hF⟩ ?_)
 rintro m8 _ _ ⟨g9,k10,o5,c4,v5,F6,rfl,rfl,Rm,hE,hF⟩
 refine Kb hE ai.Head (fun auU=>?_)
 rcases o5 with _|⟨uH,o5⟩
 · have ack:=dn Rm
   rw[Dr]at hF
   refine fI ?_
   refine dE ?_
   refine eU ?_
   cases hF
   exact Er (v5,F6)
 obtain⟨ack,mR,BJ⟩:=dA Rm
 rw[Dr]at hF
 refine fI ?_
 refine dD ?_
 refine aT ?_
 refine jK [0,1,2,3,4,5,6,7,8,9,10] [0,0,0,4,0,28,60,126,254,511,1023] [7,9] mixed (by decide+kernel) ?_
 refine xH ?_
 refine Di mR (fun k19 EU=>?_)
 refine Dl dN ?_
 refine bnd hF fun kP uk hF=>jB (Uv uk) (fun _=>?_)
 refine gP rfl .no rfl (fun ha=>bI (g:=true) (len:=1) (parts:=[(0,.tmp 22)]) bH.h bC.h (.cons (EN ha (.tmp rfl rfl) rfl) .nil) (vs:=[(zi kP)]) rfl rfl rfl (by intro v hv; simp at hv; rcases hv with rfl<;>rfl)) (fun k24=>?_)
 refine gZ (.cons .h .nil) (bK (Ro:=(aj ax)) (E:=3) (F:=([]++[])) (xs:=([kP]:List Int)) (bS (dK (fun _=>rfl)) bJ bB) rfl rfl) ?_
 refine bnd hF fun z25 jP hF=>bZ rfl rfl .no (.cons .q8 (.cons .h .nil)) (.dep rfl .nil) (fun ha=>dL (Ro:=(aj ax)) bH.h gL bC.h rfl rfl rfl (EN ha (.tmp rfl rfl) rfl) (EN ha (.tmp rfl rfl) rfl) jP eX) (fun p27=>?_)
 refine bV ?_
 refine bf ?_
 rw[wk k10]
 exact⟨_,bY _,_,k10+1,o5,_,p27.1,p27.2,rfl,aB,BJ,aA,hF⟩
def Lr(aI:aM):Option (aM):=
 (app ([]:List Int) aI.Vars).bind fun z5=>
 (app ([]:List Int) aI.Values).bind fun z8=>
 some (⟨z5,z8⟩:aM)
theorem afa{aI:aM}{aa aQ:Sv}{R:aM}(hF:Lr aI=some R):
   Fw.Spec Tryz.prog 159 [(zg [aa.v,aQ.v])] [ah aa aI.Vars,ah aQ aI.Values] (fun p:Sv×List Nat×Sv×List Nat=>(zg [p.1.v,p.2.2.1.v])) (fun p=>[bv p.2.1 p.1 R.Vars,bv p.2.2.2 p.2.2.1 R.Values]):=by
 refine Se 12 Tryz.func159 [.cell 2 85] ?_
 intro H0 F0
 unfold Lr at hF
 refine au ?_
 refine bW (fun k1=>?_)
 refine cO (fun k2=>?_)
 refine au ?_
 refine dM [0,1,2,4,5,6,3,7,8,9] [0,0,2,7,0,0,32,127,255,511] [3,7,9] mixed (by decide+kernel) ?_
 refine gP rfl .no rfl (fun ha=>bI (g:=true) (len:=0) (parts:=[]) bH.h bC.h .nil (vs:=[]) rfl rfl rfl (by simp)) (fun k3=>?_)
 refine gZ (.cons .h .nil) (bK (Ro:=(aj ax)) (E:=3) (F:=[]) (xs:=([]:List Int)) bJ rfl rfl) ?_
 refine bV ?_
 refine gP rfl .no rfl (fun ha=>bI (g:=true) (len:=0) (parts:=[]) bH.h bC.h .nil (vs:=[]) rfl rfl rfl (by simp)) (fun k4=>?_)
 refine gZ (.cons .h .nil) (bK (Ro:=(aj ax)) (E:=3) (F:=[]) (xs:=([]:List Int)) bJ rfl rfl) ?_
 refine bV ?_
 refine bnd hF fun z5 hx6 hF=>bZ rfl rfl .no (.cons (.t .h) (.rd .q3 rfl .nil)) (.own .h (by simp[aJ]) (.dep rfl .nil)) (fun ha=>dL (Ro:=(aj ax)) bH.h gL bC.h rfl rfl rfl (EN ha (.tmp rfl rfl) rfl) (EN ha (.tmp rfl rfl) rfl) hx6 nK) (fun p7=>?_)
 refine bnd hF fun z8 dm hF=>bZ rfl rfl .no (.cons (.t .h) (.rd .q4 rfl .nil)) (.dep rfl (.dep rfl .nil)) (fun ha=>dL (Ro:=(aj ax)) bH.h gL bC.h rfl rfl rfl (EN ha (.tmp rfl rfl) rfl) (EN ha (.tmp rfl rfl) rfl) dm nK) (fun dP=>?_)
 refine dJ rfl .no (fun ha=>gH d_.h rfl (vs:=[p7.1.v,dP.1.v]) (.cons (EN ha (.tmp rfl rfl) rfl) (.cons (EN ha (.tmp rfl rfl) rfl) .nil)) (cells:=[p7.1.v,dP.1.v]) rfl) ?_
 refine bZ rfl rfl .no (.cons .q2 .nil) (.dep rfl (.dep rfl .nil)) (fun ha=>fA (e':=(zg [p7.1.v,dP.1.v])) (v:=(zg [p7.1.v,dP.1.v])) d_.h.sz (EN ha (.tmp rfl rfl) rfl) (EN ha (.tmp rfl rfl) rfl) rfl rfl rfl rfl rfl) (fun _=>?_)
 refine du ?_
 refine au ?_
 cases hF
 exact Er (p7.1,p7.2,dP.1,dP.2)
def Gw(aI:aM)(iN:Int):Nat->Int->Option (Bool)
 |0,_=>none
 |m3+1,c2=>if ((decide ((c2:Int)<(aI.Vars.length:Int)))&&(decide ((c2:Int)<(aI.Values.length:Int))))then (
     (ix aI.Vars c2).bind fun Js=>
     if ((Js:Int)==iN)then (
       some true)
     else (
       Gw aI iN m3 (IntKind.i64.wrap (c2+1))))
   else (
     some false)
def Le(aI:aM)(iN:Int):Option (Bool):=
 Gw aI iN (((aI.Vars.length:Int)-0).toNat+2) 0
theorem aoB{aI:aM}{aa aQ:Sv}{iN:Int}{R:Bool}(hF:Le aI iN=some R):
   Fw.Spec Tryz.prog 202 [(zg [aa.v,aQ.v]),(zi iN)] [ah aa aI.Vars,ah aQ aI.Values] (fun _:Unit=>(.bool R)) (fun _=>[]):=by
 refine Se 27 Tryz.func202 [.tmp 4] ?_
 intro H0 F0
 unfold Le at hF
 refine au ?_
 refine bW (fun k1=>?_)
 refine bG ?_
 refine bn (bU (m:=(((aI.Vars.length:Int)-0).toNat+2)) (fun m3 f' cs'=>∃(g:Fr)(c2:Int),f'=aR g [(1,(zi iN)),(2,(pz k1)),(5,(zi c2))]/\aP cs' [a_ k1 85 (zg [aa.v,aQ.v]),ah aa aI.Vars,ah aQ aI.Values]/\Gw aI iN m3 c2=some R) ⟨_,_,aB,aA,hF⟩ ?_)
 rintro m3 _ _ ⟨g4,c2,rfl,hE,hF⟩
 refine bM hE ?_
 rcases m3 with _|m3
 · rw[Gw]at hF
   exact absurd hF (by simp)
 rw[Gw]at hF
 refine aT ?_
 refine gB (fun f' cs'=>∃(g:Fr),f'=aR g [(1,(zi iN)),(2,(pz k1)),(5,(zi c2)),(17,(.bool ((decide ((c2:Int)<(aI.Vars.length:Int)))&&(decide ((c2:Int)<(aI.Values.length:Int))))))]/\aP cs' [a_ k1 85 (zg [aa.v,aQ.v]),ah aa aI.Vars,ah aQ aI.Values]) ?_ ?_
 · refine bG ?_
   rcases df (decide ((c2:Int)<(aI.Vars.length:Int)))with jE|jE
   · rw[jE]
     try rw[jE]at hF; dsimp only[aY,aX]at hF
     refine Ei ?_
     exact⟨_,aB,aA⟩
   rw[jE]
   try rw[jE]at hF; dsimp only[aY,aX]at hF
   refine bQ ?_
   exact⟨_,aB,aA⟩
 rintro _ _ ⟨g12,rfl,hE⟩
 refine bM hE ?_
 refine Ci hF (fun kW hF=>?_) (fun kW hF=>?_)
 · refine bG ?_
   refine zI hF fun Js ax8 hx16 hF=>?_
   refine Ai hx16 (fun k17 SB=>?_)
   refine Al dN ?_
   refine aZ ?_
   refine Ci hF (fun qK hF=>?_) (fun qK hF=>?_)
   · exact ze hF
   refine bG ?_
   exact⟨m3,bY _,_,_,aB,aA,hF⟩
 exact ze hF
def F3(bN:Fact):List Int->Nat->(List Int)->(List Int)->Option (aM×Bool)
 |[],uG,lZ,yx=>some ((⟨lZ,yx⟩:aM),true)
 |x82::Ba,uG,lZ,yx=>(((yG (⟨lZ,yx⟩:aM) x82).bind fun zy=>
     ((Af x82).bind fun y7=>
       bif y7 then ((Le (⟨lZ,yx⟩:aM) x82).bind fun akU=>
         some (!akU))
       else (some false)).bind fun o96=>
     match o96 with
     |c109=>if c109 then (
         (ix bN.Values (uG:Int)).bind fun x112=>
         (D9 (⟨lZ,yx⟩:aM) x82 x112).bind fun acJ=>
         some (.inr (acJ.Vars,acJ.Values)))
       else (
         (ix bN.Values (uG:Int)).bind fun akV=>
         if ((zy:Int)!=akV)then (
           some (.inl ((⟨[],[]⟩:aM),false)))
         else (
           some (.inr (lZ,yx))))):Option (Sum (aM×Bool) ((List Int)×(List Int)))).bind fun o89=>
   match o89 with
   | .inl r=>some r
   | .inr (c130,vv)=>F3 bN Ba (uG+1) c130 vv
def Oo(aI:aM)(ay:Atom)(bN:Fact):Option (aM×Bool):=
 (Lr aI).bind fun r5=>
 if (((ay.Rel:Int)!=bN.Rel)||((((ay.Terms.length:Int):Int)!=(bN.Values.length:Int))||(((aI.Vars.length:Int):Int)!=(aI.Values.length:Int))))then (
   some ((⟨[],[]⟩:aM),false))
 else (
   F3 bN ay.Terms 0 r5.Vars r5.Values)
theorem anw{aI:aM}{aa aQ:Sv}{ay:Atom}{aU:Sv}{bN:Fact}{dw:Sv}{R:aM×Bool}(hF:Oo aI ay bN=some R):
   Fw.Spec Tryz.prog 161 [(zg [aa.v,aQ.v]),(zg [(zi ay.Rel),aU.v]),(zg [(zi bN.Rel),dw.v])] [ah aa aI.Vars,ah aQ aI.Values,ah aU ay.Terms,ah dw bN.Values] (fun p:Sv×List Nat×Sv×List Nat=>(.tuple [(zg [p.1.v,p.2.2.1.v]),(.bool R.2)].toArray)) (fun p=>[bv p.2.1 p.1 R.1.Vars,bv p.2.2.2 p.2.2.1 R.1.Values]):=by
 refine Se 88 Tryz.func161 [.cell 6 85,.tmp 7] ?_
 intro H0 F0
 unfold Oo at hF
 refine au ?_
 refine bW (fun k1=>?_)
 refine bW (fun k2=>?_)
 refine bW (fun k3=>?_)
 refine cO (fun k4=>?_)
 refine aL ?_
 refine bnd hF fun r5 hx6 hF=>mV (afa hx6) (fun p7=>?_)
 refine cO (fun k8=>?_)
 refine As (zg [p7.1.v,p7.2.2.1.v]) ?_
 refine aZ ?_
 refine gB (fun f' cs'=>∃(g:Fr),f'=aR g [(4,(pz k2)),(5,(pz k3)),(6,(pz k4)),(8,(pz k8)),(35,(.bool (((ay.Rel:Int)!=bN.Rel)||((((ay.Terms.length:Int):Int)!=(bN.Values.length:Int))||(((aI.Vars.length:Int):Int)!=(aI.Values.length:Int))))))]/\aP cs' [a_ k2 66 (zg [(zi ay.Rel),aU.v]),ah aU ay.Terms,a_ k3 71 (zg [(zi bN.Rel),dw.v]),ah dw bN.Values,bq k4 85 (zg [(.slice none 0 0),(.slice none 0 0)]),bq k8 85 (zg [p7.1.v,p7.2.2.1.v]),bv p7.2.1 p7.1 r5.Vars,bv p7.2.2.2 p7.2.2.1 r5.Values]) ?_ ?_
 · refine bG ?_
   rcases df ((ay.Rel:Int)!=bN.Rel)with Ta|Ta
   · rw[Ta]
     try rw[Ta]at hF; dsimp only[aY,aX]at hF
     refine aaN ?_
     exact⟨_,aB,aA⟩
   rw[Ta]
   try rw[Ta]at hF; dsimp only[aY,aX]at hF
   refine VL ?_
   rcases df (((ay.Terms.length:Int):Int)!=(bN.Values.length:Int))with qN|qN
   · rw[qN]
     try rw[qN]at hF; dsimp only[aY,aX]at hF
     refine eU ?_
     exact⟨_,aB,aA⟩
   rw[qN]
   try rw[qN]at hF; dsimp only[aY,aX]at hF
   refine VL ?_
   exact⟨_,aB,aA⟩
 rintro _ _ ⟨g11,rfl,hE⟩
 refine bM hE ?_
 refine Ci hF (fun av_ hF=>?_) (fun av_ hF=>?_)
 · refine au ?_
   refine aK (gH d_.h rfl (vs:=[]) .nil (cells:=[(.slice none 0 0),(.slice none 0 0)]) rfl) ?_
   refine As (zg [(.slice none 0 0),(.slice none 0 0)]) ?_
   refine aZ ?_
   cases hF
   exact eO (⟨none,0,0⟩,[],⟨none,0,0⟩,[]) (.cellA rfl rfl .h rfl jN.h d_.h.sz rfl rfl (.tmp rfl rfl .nil)) rfl (.conv .nil (fu (Ro:=(aj ax)) (E:=3)) (.cons .nil) (.conv .nil (fu (Ro:=(aj ax)) (E:=3)) (.cons .nil) (.sel (.cons (.t .h) (.cons .h .nil)))))
 refine bf ?_
 refine bn (bU (m:=ay.Terms.length) (fun m78 f' cs'=>∃(g:Fr)(uG:Nat)(Ba lZ yx:List Int)(v72:Sv)(zz:List Nat)(v75:Sv)(Tc:List Nat),m78=Ba.length/\f'=aR g [(4,(pz k2)),(5,(pz k3)),(6,(pz k4)),(8,(pz k8)),(9,(zi (uG:Int)))]/\List.drop uG ay.Terms=Ba/\aP cs' [a_ k2 66 (zg [(zi ay.Rel),aU.v]),ah aU ay.Terms,a_ k3 71 (zg [(zi bN.Rel),dw.v]),ah dw bN.Values,bq k4 85 (zg [(.slice none 0 0),(.slice none 0 0)]),bq k8 85 (zg [v72.v,v75.v]),bv zz v72 lZ,bv Tc v75 yx]/\F3 bN Ba uG lZ yx=some R) ⟨_,0,_,_,_,p7.1,p7.2.1,p7.2.2.1,p7.2.2.2,rfl,aB,rfl,aA,hF⟩ ?_)
 rintro m78 _ _ ⟨g79,uG,Ba,lZ,yx,v72,zz,v75,Tc,rfl,rfl,Xf,hE,hF⟩
 refine Kb hE ay.Terms (fun aCo=>?_)
 rcases Ba with _|⟨x82,Ba⟩
 · have azq:=dn Xf
   rw[F3]at hF
   refine fI ?_
   refine dE ?_
   refine bG ?_
   refine As (zg [v72.v,v75.v]) ?_
   refine aZ ?_
   cases hF
   exact eO (v72,zz,v75,Tc) (.cellA rfl rfl .h rfl jN.h d_.h.sz rfl rfl (.tmp rfl rfl .nil)) rfl (.sel (.cons .q6 (.cons .q6 .nil)))
 obtain⟨azq,EE,azr⟩:=dA Xf
 rw[F3]at hF
 refine fI ?_
 refine dD ?_
 refine au ?_
 obtain⟨o89,av',akW⟩:=bind_some hF
 refine gN (fun f' cs'=>∃(c130 vv:List Int)(v131:Sv)(EF:List Nat)(wI:Sv)(EG:List Nat)(g:Fr),o89= .inr (c130,vv)/\f'=aR g [(4,(pz k2)),(5,(pz k3)),(6,(pz k4)),(8,(pz k8)),(9,(zi (uG:Int)))]/\aP cs' [a_ k2 66 (zg [(zi ay.Rel),aU.v]),ah aU ay.Terms,a_ k3 71 (zg [(zi bN.Rel),dw.v]),ah dw bN.Values,bq k4 85 (zg [(.slice none 0 0),(.slice none 0 0)]),bq k8 85 (zg [v131.v,wI.v]),bv EF v131 c130,bv EG wI vv]) ?_ ?_
 · replace hF:=av'
   refine bn (dM [0,1,2,3,4,5,6,7] [0,0,2,0,14,30,63,127] [6] mixed (by decide+kernel) ?_)
   refine dH rfl .no .q5 (fun ha hp=>gM jN.h d_.h.sz rfl (EN ha (.tmp rfl rfl) rfl) hp.2 rfl) ?_
   refine fw ?_
   refine Di EE (fun k91 j92=>?_)
   refine Dl dN ?_
   refine bnd hF fun zy Rq hF=>lq rfl rfl .no (.cons .q8 (.cons .q7 .nil)) (.dep rfl .nil) (fun ha=>iW (pre:=[]) (.cons bi (.cons bi .nil)) (fun _=>.nil) (bP ajE.h (.cons (EN ha (.tmp rfl rfl) rfl) (.cons (EN ha (.tmp rfl rfl) rfl) .nil)) (Uv Rq))) (fun _=>?_)
   refine bV ?_
   obtain⟨o96,awc,azs⟩:=bind_some hF
   refine dM [0,1,2,3,4,5,6,7,8,9,10,11,12,13,14,15] [0,1,0,7,15,31,63,127,127,383,127,1919,3967,8191,16383,32767] [5,13] mixed (by decide+kernel) ?_
   refine qH (fun f' cs'=>∃(c109:Bool)(g:Fr),c109=o96/\f'=aR g [(4,(pz k2)),(5,(pz k3)),(6,(pz k4)),(8,(pz k8)),(9,(zi (uG:Int))),(10,(zi zy)),(66,(.bool c109))]/\aP cs' [a_ k2 66 (zg [(zi ay.Rel),aU.v]),ah aU ay.Terms,a_ k3 71 (zg [(zi bN.Rel),dw.v]),ah dw bN.Values,bq k4 85 (zg [(.slice none 0 0),(.slice none 0 0)]),bq k8 85 (zg [v72.v,v75.v]),bv zz v72 lZ,bv Tc v75 yx]) ?_ ?_
   · replace hF:=awc
     refine fw ?_
     refine Di EE (fun k98 j99=>?_)
     refine Dl dN ?_
     refine bnd hF fun y7 hx101 hF=>jB (KZ hx101) (fun _=>?_)
     refine du ?_
     rcases df y7 with Qq|Qq
     · rw[Qq]
       try rw[Qq]at hF; dsimp only[aY,aX]at hF
       refine dH rfl (.on 57 rfl rfl rfl) .q9 (fun ha hp=>gM jN.h d_.h.sz rfl (EN ha (.tmp rfl rfl) rfl) hp.2 rfl) ?_
       refine fw ?_
       refine Di EE (fun aE2 aE3=>?_)
       refine Dl dN ?_
       refine bnd hF fun akU awd hF=>lq rfl rfl (.on 57 rfl rfl rfl) (.cons .q2 (.cons .q2 .nil)) (.dep rfl .nil) (fun ha=>iW (pre:=[]) (.cons bi (.cons bi .nil)) (fun _=>.nil) (bP at6.h (.cons (EN ha (.tmp rfl rfl) rfl) (.cons (EN ha (.tmp rfl rfl) rfl) .nil)) (aoB awd))) (fun _=>?_)
       exact iC hF
     rw[Qq]
     try rw[Qq]at hF; dsimp only[aY,aX]at hF
     exact iC hF
   rintro _ _ ⟨c109,azt,rfl,rfl,hE⟩
   replace hF:=azs
   try dsimp only at hF
   refine bM hE ?_
   refine Ci hF (fun aa9 hF=>?_) (fun aa9 hF=>?_)
   · refine jK [0,1,2,3,4,5,6,7,8,9,10,11,12] [0,0,2,0,14,30,0,64,0,448,960,2047,4095] [11,12] mixed (by decide+kernel) ?_
     refine dH rfl .no .q5 (fun ha hp=>gM jN.h d_.h.sz rfl (EN ha (.tmp rfl rfl) rfl) hp.2 rfl) ?_
     refine fw ?_
     refine Di EE (fun aE4 aE5=>?_)
     refine Dl dN ?_
     refine fw ?_
     refine zI hF fun x112 aCp hx115 hF=>?_
     refine Di hx115 (fun aE6 aE7=>?_)
     refine Dl dN ?_
     refine bnd hF fun acJ awe hF=>Eg rfl rfl .no (.cons .q9 (.cons .q8 .nil)) (.dep rfl .nil) (fun ha=>iW (pre:=[]) (.cons bi (.cons bi .nil)) (fun _=>(.cons (.cons .nil))) (bP aiB.h (.cons (EN ha (.tmp rfl rfl) rfl) (.cons (EN ha (.tmp rfl rfl) rfl) (.cons (EN ha (.tmp rfl rfl) rfl) .nil))) (ae' awe))) (fun EH=>?_)
     refine bZ rfl rfl .no (.cons .q11 .nil) (.dep rfl .nil) (fun ha=>fA (e':=(zg [EH.1.v,EH.2.2.1.v])) (v:=(zg [EH.1.v,EH.2.2.1.v])) d_.h.sz (EN ha (.tmp rfl rfl) rfl) (EN ha (.tmp rfl rfl) rfl) rfl rfl rfl rfl rfl) (fun _=>?_)
     refine du ?_
     cases hF
     exact⟨_,_,EH.1,EH.2.1,EH.2.2.1,EH.2.2.2,_,rfl,aB,aA⟩
   refine bf ?_
   refine zI hF fun akV aCq Qj hF=>?_
   refine Ai Qj (fun aE8 aE9=>?_)
   refine Al dN ?_
   refine aT ?_
   refine Ci hF (fun awf hF=>?_) (fun awf hF=>?_)
   · refine au ?_
     refine aK (gH d_.h rfl (vs:=[]) .nil (cells:=[(.slice none 0 0),(.slice none 0 0)]) rfl) ?_
     refine As (zg [(.slice none 0 0),(.slice none 0 0)]) ?_
     refine aZ ?_
     cases hF
     replace hF:=akW
     try dsimp only at hF
     cases hF
     exact eO (⟨none,0,0⟩,[],⟨none,0,0⟩,[]) (.cellA rfl rfl .h rfl jN.h d_.h.sz rfl rfl (.tmp rfl rfl .nil)) rfl (.conv .nil (fu (Ro:=(aj ax)) (E:=3)) (.cons .nil) (.conv .nil (fu (Ro:=(aj ax)) (E:=3)) (.cons .nil) (.sel (.cons (.t .h) (.cons .h .nil)))))
   refine au ?_
   cases hF
   exact⟨_,_,v72,zz,v75,Tc,_,rfl,aB,aA⟩
 rintro _ _ ⟨c130,vv,v131,EF,wI,EG,aE_,rfl,rfl,hE⟩
 replace hF:=akW
 try dsimp only at hF
 refine bM hE ?_
 refine bf ?_
 rw[wk uG]
 exact⟨_,bY _,_,uG+1,Ba,_,_,v131,EF,wI,EG,rfl,aB,azr,aA,hF⟩
def De(ay:Atom)(eF:aM):List Fact->Nat->(List aM)->Option ((List aM))
 |[],k26,c20=>some c20
 |x28::Bb,k26,c20=>((Oo eF ay x28).bind fun oL=>
     if oL.2 then (
       (app c20 ([oL.1]:List aM)).bind fun z48=>
       some z48)
     else (
       some c20)).bind fun yh=>
   match yh with
   |og=>De ay eF Bb (k26+1) og
def Df(ay:Atom)(bA:List Fact):List aM->Nat->(List aM)->Option ((List aM))
 |[],k9,c3=>some c3
 |eF::dB,k9,c3=>(De ay eF bA 0 c3).bind fun iD=>
   match iD with
   |wU=>Df ay bA dB (k9+1) wU
def UN(ag:List aM)(ay:Atom)(bA:List Fact):Option ((List aM)):=
 Df ay bA ag 0 ([]:List aM)
theorem an2{ag:List aM}{aa:Sv}{ay:Atom}{aU:Sv}{bA:List Fact}{bu:Sv}{R:(List aM)}(hF:UN ag ay bA=some R):
   Fw.Spec Tryz.prog 93 [aa.v,(zg [(zi ay.Rel),aU.v]),bu.v] [nQ aa ag,ah aU ay.Terms,cz bu bA] (fun p:Sv×List Nat=>p.1.v) (fun p=>[pJ p.2 p.1 R]):=by
 refine Se 44 Tryz.func93 [.tmp 6] ?_
 intro H0 F0
 unfold UN at hF
 refine au ?_
 refine bW (fun k1=>?_)
 refine aZ ?_
 refine b_ rfl (bI (g:=true) rJ.h d_.h .nil (vs:=[]) rfl rfl rfl (by simp)) (fun k2=>?_)
 refine dh (.cons .h .nil) (bK (Ro:=pE) (E:=85) (F:=[]) (xs:=([]:List aM)) bJ rfl rfl) ?_
 refine bG ?_
 refine bn (bU (m:=ag.length) (fun m7 f' cs'=>∃(g:Fr)(k9:Nat)(dB c3:List aM)(v4:Sv)(F5:List Nat),m7=dB.length/\f'=aR g [(0,aa.v),(2,bu.v),(4,(pz k1)),(7,v4.v),(8,(zi (k9:Int)))]/\List.drop k9 ag=dB/\aP cs' [nQ aa ag,cz bu bA,a_ k1 66 (zg [(zi ay.Rel),aU.v]),ah aU ay.Terms,pJ F5 v4 c3]/\Df ay bA dB k9 c3=some R) ⟨_,0,_,_,⟨(some ⟨k2,0,none⟩),0,1⟩,(k2::[]),rfl,aB,rfl,aA,hF⟩ ?_)
 rintro m7 _ _ ⟨g8,k9,dB,c3,v4,F5,rfl,rfl,je,hE,hF⟩
 refine Kb hE ag (fun yQ=>?_)
 rcases dB with _|⟨eF,dB⟩
 · have nR:=dn je
   rw[Df]at hF
   refine bQ ?_
   refine dE ?_
   refine eU ?_
   cases hF
   exact Er (v4,F5)
 obtain⟨nR,fQ,mr⟩:=dA je
 rw[Df]at hF
 refine bQ ?_
 refine dD ?_
 refine au ?_
 obtain⟨iD,pg,pK⟩:=bind_some hF
 refine gN (fun f' cs'=>∃(wU:List aM)(v58:Sv)(JN:List Nat)(g:Fr),wU=iD/\f'=aR g [(0,aa.v),(2,bu.v),(4,(pz k1)),(7,v58.v),(8,(zi (k9:Int)))]/\aP cs' [nQ aa ag,cz bu bA,a_ k1 66 (zg [(zi ay.Rel),aU.v]),ah aU ay.Terms,pJ JN v58 wU]) ?_ ?_
 · replace hF:=pg
   refine bn (cB (aK (iG (v:=(zi 0)) (.int _ _)) ?_))
   refine au ?_
   refine bn (bU (m:=bA.length) (fun m24 f' cs'=>∃(g:Fr)(k26:Nat)(Bb:List Fact)(c20:List aM)(v21:Sv)(uC:List Nat),m24=Bb.length/\f'=aR g [(0,aa.v),(2,bu.v),(4,(pz k1)),(7,v21.v),(8,(zi (k9:Int))),(9,(zi (k26:Int)))]/\List.drop k26 bA=Bb/\aP cs' [nQ aa ag,cz bu bA,a_ k1 66 (zg [(zi ay.Rel),aU.v]),ah aU ay.Terms,pJ uC v21 c20]/\De ay eF Bb k26 c20=some iD) ⟨_,0,_,_,v4,F5,rfl,aB,rfl,aA,hF⟩ ?_)
   rintro m24 _ _ ⟨g25,k26,Bb,c20,v21,uC,rfl,rfl,hd29,hE,hF⟩
   refine Kb hE bA (fun aCr=>?_)
   rcases Bb with _|⟨x28,Bb⟩
   · have azu:=dn hd29
     rw[De]at hF
     refine bQ ?_
     refine dE ?_
     refine aL ?_
     cases hF
     exact⟨_,v21,uC,_,rfl,aB,aA⟩
   obtain⟨azu,hx31,hd32⟩:=dA hd29
   rw[De]at hF
   refine bQ ?_
   refine dD ?_
   refine au ?_
   obtain⟨yh,Qe,QU⟩:=bind_some hF
   refine gN (fun f' cs'=>∃(og:List aM)(v53:Sv)(wX:List Nat)(g:Fr),og=yh/\f'=aR g [(0,aa.v),(2,bu.v),(4,(pz k1)),(7,v53.v),(8,(zi (k9:Int))),(9,(zi (k26:Int)))]/\aP cs' [nQ aa ag,cz bu bA,a_ k1 66 (zg [(zi ay.Rel),aU.v]),ah aU ay.Terms,pJ wX v53 og]) ?_ ?_
   · replace hF:=Qe
     refine bn (dM [0,1,2,3,4,5,6,7,8,13,9,10,11,12,14,15] [0,0,3,7,0,0,0,96,224,511,1023,2047,2047,0,12287,32767] [9,14] mixed (by decide+kernel) ?_)
     refine bV ?_
     refine Di fQ (fun uD j38=>?_)
     refine abw (z_ eF) DX (fun p39=>?_)
     refine fw ?_
     refine Di hx31 (fun nE j41=>?_)
     refine oz (mZ x28) nI (fun p42=>?_)
     refine gP rfl .no rfl (fun ha=>ru (g:=true) d_.h rfl rfl) (fun k43=>?_)
     refine bnd hF fun oL uj hF=>lq rfl rfl .no (.rd .q3 rfl (.rd .q4 rfl (.rd .q9 rfl (.rd (.t .h) rfl .nil)))) (.own .h (fun _ h=>h) .nil) (fun ha=>bP at5.h (.cons (EN ha (.tmp rfl rfl) rfl) (.cons (EN ha (.tmp rfl rfl) rfl) (.cons (EN ha (.tmp rfl rfl) rfl) .nil))) (anw uj)) (fun p46=>?_)
     refine du ?_
     refine dJ rfl .no (fun ha=>qz (l:=[(zg [p46.1.v,p46.2.2.1.v]),(.bool oL.2)]) (v:=(zg [p46.1.v,p46.2.2.1.v])) (EN ha (.tmp rfl rfl) rfl) rfl) ?_
     refine dJ rfl .no (fun ha=>qz (l:=[(zg [p46.1.v,p46.2.2.1.v]),(.bool oL.2)]) (v:=(.bool oL.2)) (EN ha (.tmp rfl rfl) rfl) rfl) ?_
     refine bZ rfl rfl .no (.cons .q2 .nil) (.dep rfl .nil) (fun ha=>fA (e':=(zg [p46.1.v,p46.2.2.1.v])) (v:=(zg [p46.1.v,p46.2.2.1.v])) d_.h.sz (EN ha (.tmp rfl rfl) rfl) (EN ha (.tmp rfl rfl) rfl) rfl rfl rfl rfl rfl) (fun _=>?_)
     refine bV ?_
     refine aZ ?_
     refine Ci hF (fun azv hF=>?_) (fun azv hF=>?_)
     · refine aZ ?_
       refine b_ rfl (bI (g:=true) rJ.h d_.h bz (vs:=[(zg [p46.1.v,p46.2.2.1.v])]) rfl rfl rfl (by intro v hv; simp at hv; rcases hv with rfl<;>rfl)) (fun k47=>?_)
       refine dh (.cons .h (.cons (.t .h) (.cons (.t .h) .nil))) (bK (Ro:=pE) (E:=85) (F:=((p46.2.1++p46.2.2.2)++[])) (xs:=([oL.1]:List aM)) (bS QI bJ bB) rfl rfl) ?_
       refine bnd hF fun z48 nU hF=>dC (.cons .q11 (.cons .h .nil)) (dL (Ro:=pE) rJ.h Wi d_.h rfl rfl rfl (.tmp rfl rfl) (.tmp rfl rfl) nU eX) (fun p50=>?_)
       refine aT ?_
       cases hF
       exact⟨_,p50.1,p50.2,_,rfl,aB,aA⟩
     refine au ?_
     cases hF
     exact⟨_,v21,uC,_,rfl,aB,aA⟩
   rintro _ _ ⟨og,v53,wX,g56,rfl,rfl,hE⟩
   replace hF:=QU
   try dsimp only at hF
   refine bM hE ?_
   refine bf ?_
   rw[wk k26]
   exact⟨_,bY _,_,k26+1,Bb,_,v53,wX,rfl,aB,hd32,aA,hF⟩
 rintro _ _ ⟨wU,v58,JN,g61,rfl,rfl,hE⟩
 replace hF:=pK
 try dsimp only at hF
 refine bM hE ?_
 refine bf ?_
 rw[wk k9]
 exact⟨_,bY _,_,k9+1,dB,_,v58,JN,rfl,aB,mr,aA,hF⟩
def FO(bA:List Fact):List Atom->Nat->(List aM)->Option ((List aM))
 |[],k9,c3=>some c3
 |eF::dB,k9,c3=>(UN c3 eF bA).bind fun kP=>
   FO bA dB (k9+1) kP
def KP(ai:aO)(bA:List Fact):Option ((List aM)):=
 FO bA ai.Atoms 0 ([(⟨[],[]⟩:aM)]:List aM)
theorem ad3{ai:aO}{aa aQ:Sv}{bA:List Fact}{ak:Sv}{R:(List aM)}(hF:KP ai bA=some R):
   Fw.Spec Tryz.prog 44 [(zg [aa.v,aQ.v]),ak.v] [ah aa ai.Head,bX aQ ai.Atoms,cz ak bA] (fun p:Sv×List Nat=>p.1.v) (fun p=>[pJ p.2 p.1 R]):=by
 refine Se 25 Tryz.func44 [.tmp 4] ?_
 intro H0 F0
 unfold KP at hF
 refine au ?_
 refine bW (fun k1=>?_)
 refine aZ ?_
 refine aK (gH d_.h rfl (vs:=[]) .nil (cells:=[(.slice none 0 0),(.slice none 0 0)]) rfl) ?_
 refine b_ rfl (bI (g:=true) rJ.h d_.h bz (vs:=[(zg [(.slice none 0 0),(.slice none 0 0)])]) rfl rfl rfl (by intro v hv; simp at hv; rcases hv with rfl<;>rfl)) (fun k2=>?_)
 iterate 2 refine Ee .nil (fu (Ro:=(aj ax)) (E:=3)) bB ?_
 refine dh (.cons .q2 (.cons (.t .h) (.cons .h .nil))) (bK (Ro:=pE) (E:=85) (F:=(([]++[])++[])) (xs:=([(⟨[],[]⟩:aM)]:List aM)) (bS (QI (v0:=⟨none,0,0⟩) (v1:=⟨none,0,0⟩) (a:=(⟨[],[]⟩:aM))) bJ bB) rfl rfl) ?_
 refine bG ?_
 refine bn (bU (m:=ai.Atoms.length) (fun m7 f' cs'=>∃(g:Fr)(k9:Nat)(dB:List Atom)(c3:List aM)(v4:Sv)(F5:List Nat),m7=dB.length/\f'=aR g [(1,ak.v),(2,(pz k1)),(5,v4.v),(6,(zi (k9:Int)))]/\List.drop k9 ai.Atoms=dB/\aP cs' [cz ak bA,a_ k1 28 (zg [aa.v,aQ.v]),ah aa ai.Head,bX aQ ai.Atoms,pJ F5 v4 c3]/\FO bA dB k9 c3=some R) ⟨_,0,_,_,⟨(some ⟨k2,0,none⟩),1,1⟩,(k2::(([]++[])++[])),rfl,aB,rfl,aA,hF⟩ ?_)
 rintro m7 _ _ ⟨g8,k9,dB,c3,v4,F5,rfl,rfl,je,hE,hF⟩
 refine Kb hE ai.Atoms (fun yQ=>?_)
 rcases dB with _|⟨eF,dB⟩
 · have nR:=dn je
   rw[FO]at hF
   refine fI ?_
   refine dE ?_
   refine eU ?_
   cases hF
   exact Er (v4,F5)
 obtain⟨nR,fQ,mr⟩:=dA je
 rw[FO]at hF
 refine fI ?_
 refine dD ?_
 refine bQ ?_
 refine Ai fQ (fun k18 j19=>?_)
 refine j_ (qZ eF) rZ (fun nZ=>?_)
 refine au ?_
 refine bnd hF fun kP uk hF=>jM (.cons .q6 (.rd .h rfl (.rd .q2 rfl .nil))) (eY bi (fun _=>(.cons .nil)) (bP axR.h bz (an2 uk))) (fun qb=>?_)
 refine bQ ?_
 rw[wk k9]
 exact⟨_,bY _,_,k9+1,dB,_,qb.1,qb.2,rfl,aB,mr,aA,hF⟩
def GR(aI:List Int):List Int->Nat->Option (Bool)
 |[],k4=>some true
 |x6::aG,k4=>(ix aI (k4:Int)).bind fun mH=>
   if ((x6:Int)!=mH)then (
     some false)
   else (
     GR aI aG (k4+1))
def uP(ay:List Int)(aI:List Int):Option (Bool):=
 if (((ay.length:Int):Int)!=(aI.length:Int))then (
   some false)
 else (
   GR aI ay 0)
theorem Dz{ay:List Int}{aa:Sv}{aI:List Int}{ak:Sv}{R:Bool}(hF:uP ay aI=some R):
   Fw.Spec Tryz.prog 39 [aa.v,ak.v] [ah aa ay,ah ak aI] (fun _:Unit=>(.bool R)) (fun _=>[]):=by
 refine Se 26 Tryz.func39 [.tmp 4] ?_
 intro H0 F0
 unfold uP at hF
 refine v_ ?_
 refine Ci hF (fun ve hF=>?_) (fun ve hF=>?_)
 · exact ze hF
 refine bf ?_
 refine bn (bU (m:=ay.length) (fun m2 f' cs'=>∃(g:Fr)(k4:Nat)(aG:List Int),m2=aG.length/\f'=aR g [(0,aa.v),(1,ak.v),(5,(zi (k4:Int)))]/\List.drop k4 ay=aG/\aP cs' [ah aa ay,ah ak aI]/\GR aI aG k4=some R) ⟨_,0,_,rfl,aB,rfl,aA,hF⟩ ?_)
 rintro m2 _ _ ⟨g3,k4,aG,rfl,rfl,hd7,hE,hF⟩
 refine Kb hE ay (fun jL=>?_)
 rcases aG with _|⟨x6,aG⟩
 · have fG:=dn hd7
   rw[GR]at hF
   refine bQ ?_
   refine dE ?_
   exact ze hF
 obtain⟨fG,dm,fF⟩:=dA hd7
 rw[GR]at hF
 refine bQ ?_
 refine dD ?_
 refine aT ?_
 refine dM [0,1,2,3,4,5,6,7,8] [0,0,3,7,0,0,48,112,255] [] mixed (by decide+kernel) ?_
 refine bV ?_
 refine Di dm (fun k13 lc=>?_)
 refine Dl dN ?_
 refine bV ?_
 refine zI hF fun mH ab1 iL hF=>?_
 refine Di iL (fun k19 EU=>?_)
 refine Dl dN ?_
 refine bV ?_
 refine Ci hF (fun xM hF=>?_) (fun xM hF=>?_)
 · exact ze hF
 refine bG ?_
 rw[wk k4]
 exact⟨_,bY _,_,k4+1,aG,rfl,aB,fF,aA,hF⟩
def FI(ai:aO)(o7:List Int):List aM->Nat->Option (aM×Bool)
 |[],tC=>some ((⟨[],[]⟩:aM),false)
 |x43::Bc,tC=>(Ht ai x43).bind fun r53=>
   (uP r53 o7).bind fun Td=>
   if Td then (
     (Lr x43).bind fun r62=>
     some (r62,true))
   else (
     FI ai o7 Bc (tC+1))
def NL(ai:aO)(bA:List Fact)(o7:List Int):Option (aM×Bool):=
 (KP ai bA).bind fun r3=>
 FI ai o7 r3 0
theorem amK{ai:aO}{aa aQ:Sv}{bA:List Fact}{ak:Sv}{o7:List Int}{bu:Sv}{R:aM×Bool}(hF:NL ai bA o7=some R):
   Fw.Spec Tryz.prog 90 [(zg [aa.v,aQ.v]),ak.v,bu.v] [ah aa ai.Head,bX aQ ai.Atoms,cz ak bA,ah bu o7] (fun p:Sv×List Nat×Sv×List Nat=>(.tuple [(zg [p.1.v,p.2.2.1.v]),(.bool R.2)].toArray)) (fun p=>[bv p.2.1 p.1 R.1.Vars,bv p.2.2.2 p.2.2.1 R.1.Values]):=by
 refine Se 33 Tryz.func90 [.cell 6 85,.tmp 7] ?_
 intro H0 F0
 unfold NL at hF
 refine au ?_
 refine bW (fun k1=>?_)
 refine cO (fun k2=>?_)
 refine bf ?_
 refine bnd hF fun r3 hx4 hF=>dW (ad3 hx4) (fun p5=>?_)
 refine bG ?_
 refine bn (lS .h bi ?_)
 refine bU (m:=r3.length) (fun m39 f' cs'=>∃(g:Fr)(tC:Nat)(Bc:List aM),m39=Bc.length/\f'=aR g [(2,bu.v),(3,(pz k1)),(6,(pz k2)),(8,p5.1.v),(9,(zi (tC:Int)))]/\List.drop tC r3=Bc/\aP cs' [ah bu o7,a_ k1 28 (zg [aa.v,aQ.v]),ah aa ai.Head,bX aQ ai.Atoms,bq k2 85 (zg [(.slice none 0 0),(.slice none 0 0)]),nQ p5.1 r3]/\FI ai o7 Bc tC=some R) ⟨_,0,_,rfl,aB,rfl,aA,hF⟩ ?_
 rintro m39 _ _ ⟨g40,tC,Bc,rfl,rfl,WW,hE,hF⟩
 refine Kb hE r3 (fun aCs=>?_)
 rcases Bc with _|⟨x43,Bc⟩
 · have azw:=dn WW
   rw[FI]at hF
   refine bQ ?_
   refine dE ?_
   refine bf ?_
   refine aK (gH d_.h rfl (vs:=[]) .nil (cells:=[(.slice none 0 0),(.slice none 0 0)]) rfl) ?_
   refine As (zg [(.slice none 0 0),(.slice none 0 0)]) ?_
   refine aZ ?_
   cases hF
   exact eO (⟨none,0,0⟩,[],⟨none,0,0⟩,[]) (.cellA rfl rfl .h rfl jN.h d_.h.sz rfl rfl (.tmp rfl rfl .nil)) rfl (.conv .nil (fu (Ro:=(aj ax)) (E:=3)) (.cons .nil) (.conv .nil (fu (Ro:=(aj ax)) (E:=3)) (.cons .nil) (.sel (.cons (.t .h) (.cons .h .nil)))))
 obtain⟨azw,wD,azx⟩:=dA WW
 rw[FI]at hF
 refine bQ ?_
 refine dD ?_
 refine aT ?_
 refine dM [0,1,2,3,4,6,5,7] [0,0,0,6,14,31,0,127] [5,7] mixed (by decide+kernel) ?_
 refine fw ?_
 refine Di wD (fun tN j51=>?_)
 refine abw (z_ x43) DX (fun p52=>?_)
 refine du ?_
 refine bnd hF fun r53 Ri hF=>kZ (YO Ri) (fun p55=>?_)
 refine bnd hF fun Td Ev hF=>bZ rfl rfl .no (.cons .h (.rd .q3 rfl .nil)) .nil (fun ha=>eY bi (fun _=>.nil) (bP axS.h (.cons (EN ha (.tmp rfl rfl) rfl) (.cons (EN ha (.tmp rfl rfl) rfl) .nil)) (Dz Ev))) (fun _=>?_)
 refine du ?_
 refine Ci hF (fun IM hF=>?_) (fun IM hF=>?_)
 · refine aZ ?_
   refine Ai wD (fun k59 j60=>?_)
   refine QG (z_ x43) DX (fun p61=>?_)
   refine bnd hF fun r62 BA hF=>mV (afa BA) (fun p64=>?_)
   refine As (zg [p64.1.v,p64.2.2.1.v]) ?_
   refine aZ ?_
   cases hF
   exact eO (p64.1,p64.2.1,p64.2.2.1,p64.2.2.2) (.cellA rfl rfl .h rfl jN.h d_.h.sz rfl rfl (.tmp rfl rfl .nil)) rfl (.sel (.cons (.t .h) (.cons (.t .h) .nil)))
 refine bG ?_
 rw[wk tC]
 exact⟨_,bY _,_,tC+1,Bc,rfl,aB,azx,aA,hF⟩
def NM(fuel:Nat)(ae:List Int)(jJ:aO)(ai:aO):Option (Bool):=
 ((vT ae jJ).bind fun r5=>
   bif (!r5)then (some true)
   else ((vT ae ai).bind fun r9=>
     bif (!r9)then (some true)
     else (some (((jJ.Head.length:Int):Int)!=(ai.Head.length:Int))))).bind fun o3=>
 match o3 with
 |c13=>if c13 then (
     some false)
   else (
     (OI fuel jJ ai).bind fun iK=>
     if (!iK.2.2)then (
       some false)
     else (
       (Ht jJ iK.2.1).bind fun tF=>
       (NL ai iK.1 tF).bind fun iJ=>
       some iJ.2))
theorem amL{fuel:Nat}{ae:List Int}{aa:Sv}{jJ:aO}{ak aU:Sv}{ai:aO}{bu dw:Sv}{R:Bool}(hF:NM fuel ae jJ ai=some R):
   Fw.Spec Tryz.prog 38 [aa.v,(zg [ak.v,aU.v]),(zg [bu.v,dw.v])] [ah aa ae,ah ak jJ.Head,bX aU jJ.Atoms,ah bu ai.Head,bX dw ai.Atoms] (fun _:Unit=>(.bool R)) (fun _=>[]):=by
 refine Se 50 Tryz.func38 [.tmp 6] ?_
 intro H0 F0
 unfold NM at hF
 refine au ?_
 refine bW (fun k1=>?_)
 refine bW (fun k2=>?_)
 refine aZ ?_
 obtain⟨o3,lW,hO4⟩:=bind_some hF
 refine au ?_
 refine gB (fun f' cs'=>∃(c13:Bool)(g:Fr),c13=o3/\f'=aR g [(4,(pz k1)),(5,(pz k2)),(30,(.bool c13))]/\aP cs' [a_ k1 28 (zg [ak.v,aU.v]),ah ak jJ.Head,bX aU jJ.Atoms,a_ k2 28 (zg [bu.v,dw.v]),ah bu ai.Head,bX dw ai.Atoms]) ?_ ?_
 · replace hF:=lW
   refine aT ?_
   refine bnd hF fun r5 hx6 hF=>bR (KN hx6) (fun _=>?_)
   refine aT ?_
   rcases df (!r5)with dR|dR
   · rw[dR]
     try rw[dR]at hF; dsimp only[aY,aX]at hF
     exact cK hF
   rw[dR]
   try rw[dR]at hF; dsimp only[aY,aX]at hF
   refine bf ?_
   refine bnd hF fun r9 gu hF=>bR (KN gu) (fun _=>?_)
   refine aL ?_
   rcases df (!r9)with iw|iw
   · rw[iw]
     try rw[iw]at hF; dsimp only[aY,aX]at hF
     exact cK hF
   rw[iw]
   try rw[iw]at hF; dsimp only[aY,aX]at hF
   exact cK hF
 rintro _ _ ⟨c13,g27,rfl,rfl,hE⟩
 replace hF:=hO4
 try dsimp only at hF
 refine bM hE ?_
 refine Ci hF (fun IZ hF=>?_) (fun IZ hF=>?_)
 · exact ze hF
 refine aL ?_
 refine bnd hF fun iK mR hF=>sQ (an1 mR) (fun p16=>?_)
 refine au ?_
 refine zx ?_
 refine zx ?_
 refine zx ?_
 refine cO (fun k17=>?_)
 refine au ?_
 refine As (zg [p16.2.2.1.v,p16.2.2.2.2.1.v]) ?_
 refine bQ ?_
 refine Ci hF (fun azy hF=>?_) (fun azy hF=>?_)
 · exact ze hF
 refine au ?_
 refine dM [0,1,2,3,9,4,5,6,7,8,10,11] [0,0,0,0,12,31,63,127,127,0,767,2047] [4,5,10] mixed (by decide+kernel) ?_
 refine fw ?_
 refine dH rfl .no .h (fun ha hp=>gM jN.h d_.h.sz rfl (EN ha (.tmp rfl rfl) rfl) hp.2 rfl) ?_
 refine gP rfl .no rfl (fun ha=>ru (g:=true) d_.h rfl rfl) (fun k18=>?_)
 refine bnd hF fun tF nT hF=>AL rfl rfl .no (.cons .q4 (.cons .q3 (.rd .q4 rfl (.rd .q5 rfl .nil)))) (.own .h (fun _ h=>h) (.dep rfl .nil)) (fun ha=>iW (pre:=_) (.cons bi (.cons bi .nil)) (fun _=>(.cons .nil)) (fM (.rd .q2 rfl (.rd .q3 rfl (.rd .h rfl (.rd (.t .h) rfl .nil)))) (bP ajF.h (.cons (EN ha (.tmp rfl rfl) rfl) (.cons (EN ha (.tmp rfl rfl) rfl) .nil)) (YO nT)))) (fun oJ=>?_)
 refine bnd hF fun iJ nz hF=>Eg rfl rfl .no (.cons .q2 (.cons .q4 (.rd .q8 rfl (.rd .q9 rfl .nil)))) (.own .q2 (fun _ h=>h) (.dep rfl .nil)) (fun ha=>ahp (pre:=_) (.cons bi (.cons bi .nil)) (fun _=>(.cons (.cons .nil))) (fM (.rd .q2 rfl (.rd .q3 rfl (.rd (.t .h) rfl (.rd .h rfl .nil)))) (bP axQ.h (.cons (EN ha (.tmp rfl rfl) rfl) (.cons (EN ha (.tmp rfl rfl) rfl) (.cons (EN ha (.tmp rfl rfl) rfl) .nil))) (amK nz)))) (fun ji=>?_)
 refine du ?_
 refine dJ rfl .no (fun ha=>qz (l:=[(zg [ji.1.v,ji.2.2.1.v]),(.bool iJ.2)]) (v:=(zg [ji.1.v,ji.2.2.1.v])) (EN ha (.tmp rfl rfl) rfl) rfl) ?_
 refine dJ rfl .no (fun ha=>qz (l:=[(zg [ji.1.v,ji.2.2.1.v]),(.bool iJ.2)]) (v:=(.bool iJ.2)) (EN ha (.tmp rfl rfl) rfl) rfl) ?_
 refine bZ rfl rfl .no (.cons .q6 .nil) (.dep rfl (.dep rfl .nil)) (fun ha=>fA (e':=(zg [ji.1.v,ji.2.2.1.v])) (v:=(zg [ji.1.v,ji.2.2.1.v])) d_.h.sz (EN ha (.tmp rfl rfl) rfl) (EN ha (.tmp rfl rfl) rfl) rfl rfl rfl rfl rfl) (fun _=>?_)
 refine bV ?_
 exact ze hF
def KQ(fuel:Nat)(ae:List Int)(ag:List Method)(ai:aO):Option (Bool):=
 (Ky ae ag ai).bind fun r2=>
 (bif r2.2 then ((NM fuel ae r2.1 ai).bind fun r9=>
     some r9)
   else (some false)).bind fun o6=>
 match o6 with
 |c12=>some c12
theorem ad4{fuel:Nat}{ae:List Int}{aa:Sv}{ag:List Method}{ak:Sv}{ai:aO}{bu dw:Sv}{R:Bool}(hF:KQ fuel ae ag ai=some R):
   Fw.Spec Tryz.prog 10 [aa.v,ak.v,(zg [bu.v,dw.v])] [ah aa ae,dQ ak ag,ah bu ai.Head,bX dw ai.Atoms] (fun _:Unit=>(.bool R)) (fun _=>[]):=by
 refine Se 23 Tryz.func10 [.tmp 6] ?_
 intro H0 F0
 unfold KQ at hF
 refine au ?_
 refine bW (fun k1=>?_)
 refine bG ?_
 refine bnd hF fun r2 hx3 hF=>mV (adr hx3) (fun p4=>?_)
 refine au ?_
 refine zx ?_
 refine zx ?_
 refine cO (fun k5=>?_)
 refine As (zg [p4.1.v,p4.2.2.1.v]) ?_
 refine aT ?_
 obtain⟨o6,IY,JB⟩:=bind_some hF
 refine au ?_
 refine gB (fun f' cs'=>∃(c12:Bool)(g:Fr),c12=o6/\f'=aR g [(6,(.bool c12))]/\aP cs' []) ?_ ?_
 · replace hF:=IY
   refine aT ?_
   rcases df r2.2 with dR|dR
   · rw[dR]
     try rw[dR]at hF; dsimp only[aY,aX]at hF
     refine bQ ?_
     refine bnd hF fun r9 gu hF=>jM (.cons .q2 (.cons (.t .h) (.rd .q2 rfl (.rd .q4 rfl (.rd .q5 rfl .nil))))) (iW (pre:=_) (.cons bi (.cons bi .nil)) (fun _=>.nil) (fM (.rd .q2 rfl (.rd .h rfl (.rd (.t .h) rfl (.rd .q3 rfl (.rd .q4 rfl .nil))))) (bP axN.h bz (amL gu)))) (fun _=>?_)
     exact cK hF
   rw[dR]
   try rw[dR]at hF; dsimp only[aY,aX]at hF
   exact cK hF
 rintro _ _ ⟨c12,g13,rfl,rfl,hE⟩
 replace hF:=JB
 try dsimp only at hF
 refine bM hE ?_
 exact ze hF
def FJ(aI:aO):List Atom->Nat->Option (Bool)
 |[],k13=>some true
 |mH::oV,k13=>((ix aI.Atoms (k13:Int)).bind fun Jw=>
     bif ((mH.Rel:Int)!=Jw.Rel)then (some true)
     else ((ix aI.Atoms (k13:Int)).bind fun x36=>
       (uP mH.Terms x36.Terms).bind fun SY=>
       some (!SY))).bind fun JV=>
   match JV with
   |c46=>if c46 then (
       some false)
     else (
       FJ aI oV (k13+1))
def NN(ay:aO)(aI:aO):Option (Bool):=
 ((uP ay.Head aI.Head).bind fun r5=>
   bif (!r5)then (some true)
   else (some (((ay.Atoms.length:Int):Int)!=(aI.Atoms.length:Int)))).bind fun o3=>
 match o3 with
 |c9=>if c9 then (
     some false)
   else (
     FJ aI ay.Atoms 0)
theorem amM{ay:aO}{aa aQ:Sv}{aI:aO}{ak aU:Sv}{R:Bool}(hF:NN ay aI=some R):
   Fw.Spec Tryz.prog 11 [(zg [aa.v,aQ.v]),(zg [ak.v,aU.v])] [ah aa ay.Head,bX aQ ay.Atoms,ah ak aI.Head,bX aU aI.Atoms] (fun _:Unit=>(.bool R)) (fun _=>[]):=by
 refine Se 57 Tryz.func11 [.tmp 4] ?_
 intro H0 F0
 unfold NN at hF
 refine au ?_
 refine bW (fun k1=>?_)
 refine bW (fun k2=>?_)
 refine aZ ?_
 obtain⟨o3,lW,hO4⟩:=bind_some hF
 refine au ?_
 refine gB (fun f' cs'=>∃(c9:Bool)(g:Fr),c9=o3/\f'=aR g [(2,(pz k1)),(3,(pz k2)),(20,(.bool c9))]/\aP cs' [a_ k1 28 (zg [aa.v,aQ.v]),ah aa ay.Head,bX aQ ay.Atoms,a_ k2 28 (zg [ak.v,aU.v]),ah ak aI.Head,bX aU aI.Atoms]) ?_ ?_
 · replace hF:=lW
   refine aL ?_
   refine bnd hF fun r5 hx6 hF=>bR (Dz hx6) (fun _=>?_)
   refine aT ?_
   rcases df (!r5)with dR|dR
   · rw[dR]
     try rw[dR]at hF; dsimp only[aY,aX]at hF
     exact cK hF
   rw[dR]
   try rw[dR]at hF; dsimp only[aY,aX]at hF
   exact cK hF
 rintro _ _ ⟨c9,g51,rfl,rfl,hE⟩
 replace hF:=hO4
 try dsimp only at hF
 refine bM hE ?_
 refine Ci hF (fun azz hF=>?_) (fun azz hF=>?_)
 · exact ze hF
 refine bf ?_
 refine bn (bU (m:=ay.Atoms.length) (fun m11 f' cs'=>∃(g:Fr)(k13:Nat)(oV:List Atom),m11=oV.length/\f'=aR g [(2,(pz k1)),(3,(pz k2)),(5,(zi (k13:Int)))]/\List.drop k13 ay.Atoms=oV/\aP cs' [a_ k1 28 (zg [aa.v,aQ.v]),ah aa ay.Head,bX aQ ay.Atoms,a_ k2 28 (zg [ak.v,aU.v]),ah ak aI.Head,bX aU aI.Atoms]/\FJ aI oV k13=some R) ⟨_,0,_,rfl,aB,rfl,aA,hF⟩ ?_)
 rintro m11 _ _ ⟨g12,k13,oV,rfl,rfl,BJ,hE,hF⟩
 refine Kb hE ay.Atoms (fun auG=>?_)
 rcases oV with _|⟨mH,oV⟩
 · have ab3:=dn BJ
   rw[FJ]at hF
   refine fI ?_
   refine dE ?_
   exact ze hF
 obtain⟨ab3,iL,ab4⟩:=dA BJ
 rw[FJ]at hF
 refine fI ?_
 refine dD ?_
 refine aT ?_
 obtain⟨JV,aa_,acK⟩:=bind_some hF
 refine dM [0,1,2,3,4,5,6,7,8,9,10,11,12,13,14,15,16,17,18,19,20,21,22,23,24,25,26,27,28] [0,1,0,7,15,31,0,64,0,448,960,1984,4095,8191,16383,32767,16383,131071,262143,524287,16383,1064959,16383,7356415,15745023,32522239,67108863,134217727,268435455] [26] mixed (by decide+kernel) ?_
 refine qH (fun f' cs'=>∃(c46:Bool)(g:Fr),c46=JV/\f'=aR g [(2,(pz k1)),(3,(pz k2)),(5,(zi (k13:Int))),(56,(.bool c46))]/\aP cs' [a_ k1 28 (zg [aa.v,aQ.v]),ah aa ay.Head,bX aQ ay.Atoms,a_ k2 28 (zg [ak.v,aU.v]),ah ak aI.Head,bX aU aI.Atoms]) ?_ ?_
 · replace hF:=aa_
   refine fw ?_
   refine Di iL (fun k24 j25=>?_)
   refine du ?_
   refine Dl PV ?_
   refine fw ?_
   refine zI hF fun Jw ayc hx29 hF=>?_
   refine Di hx29 (fun vL j31=>?_)
   refine du ?_
   refine Dl PV ?_
   refine bV ?_
   rcases df ((mH.Rel:Int)!=Jw.Rel)with xZ|xZ
   · rw[xZ]
     try rw[xZ]at hF; dsimp only[aY,aX]at hF
     exact iC hF
   rw[xZ]
   try rw[xZ]at hF; dsimp only[aY,aX]at hF
   refine fw ?_
   refine Di iL (fun zq j34=>?_)
   refine du ?_
   refine qG (R':=(aW 3 ax)) fT.h rfl (.on 41 rfl rfl rfl) (.tmp rfl rfl) rfl .h uS (fun w35=>?_)
   refine fw ?_
   refine zI hF fun x36 aE' hx39 hF=>?_
   refine Di hx39 (fun nE j41=>?_)
   refine du ?_
   refine qG (R':=(aW 3 ax)) fT.h rfl (.on 41 rfl rfl rfl) (.tmp rfl rfl) rfl .h uS (fun w42=>?_)
   refine bnd hF fun SY IL hF=>jB (Dz IL) (fun _=>?_)
   exact iC hF
 rintro _ _ ⟨c46,g49,rfl,rfl,hE⟩
 replace hF:=acK
 try dsimp only at hF
 refine bM hE ?_
 refine Ci hF (fun hb48 hF=>?_) (fun hb48 hF=>?_)
 · exact ze hF
 refine bG ?_
 rw[wk k13]
 exact⟨_,bY _,_,k13+1,oV,rfl,aB,ab4,aA,hF⟩
def GU:List Int->Nat->Option (Bool)
 |[],k22=>some true
 |x24::kH,k22=>(mK x24 0 9).bind fun Cw=>
   if (!Cw)then (
     some false)
   else (
     GU kH (k22+1))
def Ps(ae:List Int)(bN:Fact):Option (Bool):=
 ((rX ae).bind fun r4=>
   bif (!r4)then (some true)
   else ((mK bN.Rel 0 (IntKind.i64.wrap ((ae.length:Int)-1))).bind fun r8=>
     bif (!r8)then (some true)
     else ((ix ae bN.Rel).bind fun uH=>
       some (((bN.Values.length:Int):Int)!=uH)))).bind fun o2=>
 match o2 with
 |c18=>if c18 then (
     some false)
   else (
     GU bN.Values 0)
theorem ao9{ae:List Int}{aa:Sv}{bN:Fact}{aU:Sv}{R:Bool}(hF:Ps ae bN=some R):
   Fw.Spec Tryz.prog 40 [aa.v,(zg [(zi bN.Rel),aU.v])] [ah aa ae,ah aU bN.Values] (fun _:Unit=>(.bool R)) (fun _=>[]):=by
 refine Se 43 Tryz.func40 [.tmp 4] ?_
 intro H0 F0
 unfold Ps at hF
 refine au ?_
 refine bW (fun k1=>?_)
 refine aZ ?_
 obtain⟨o2,kX,hO3⟩:=bind_some hF
 refine dM [0,1,2,3,4,5,6,7,8,9,10,11,12,13,14,15,16,17,18,19,20,21,22] [0,1,3,7,15,31,15,79,207,511,1023,2047,4095,8191,16383,32767,8191,8191,139263,466943,991231,2097151,4194303] [1,9] mixed (by decide+kernel) ?_
 refine qH (fun f' cs'=>∃(c18:Bool)(g:Fr),c18=o2/\f'=aR g [(3,(pz k1)),(28,(.bool c18))]/\aP cs' [a_ k1 71 (zg [(zi bN.Rel),aU.v]),ah aU bN.Values]) ?_ ?_
 · replace hF:=kX
   refine du ?_
   refine bnd hF fun r4 hx5 hF=>jB (xc hx5) (fun _=>?_)
   refine bV ?_
   rcases df (!r4)with ek|ek
   · rw[ek]
     try rw[ek]at hF; dsimp only[aY,aX]at hF
     exact iC hF
   rw[ek]
   try rw[ek]at hF; dsimp only[aY,aX]at hF
   refine xH ?_
   refine bnd hF fun r8 dm hF=>jB (qc dm) (fun _=>?_)
   refine fw ?_
   rcases df (!r8)with jE|jE
   · rw[jE]
     try rw[jE]at hF; dsimp only[aY,aX]at hF
     exact iC hF
   rw[jE]
   try rw[jE]at hF; dsimp only[aY,aX]at hF
   refine Mj ?_
   refine zI hF fun uH akz mR hF=>?_
   refine Di mR (fun k16 XN=>?_)
   refine Dl dN ?_
   exact iC hF
 rintro _ _ ⟨c18,g39,rfl,rfl,hE⟩
 replace hF:=hO3
 try dsimp only at hF
 refine bM hE ?_
 refine Ci hF (fun RB hF=>?_) (fun RB hF=>?_)
 · exact ze hF
 refine bf ?_
 refine bn (bU (m:=bN.Values.length) (fun m20 f' cs'=>∃(g:Fr)(k22:Nat)(kH:List Int),m20=kH.length/\f'=aR g [(3,(pz k1)),(5,(zi (k22:Int)))]/\List.drop k22 bN.Values=kH/\aP cs' [a_ k1 71 (zg [(zi bN.Rel),aU.v]),ah aU bN.Values]/\GU kH k22=some R) ⟨_,0,_,rfl,aB,rfl,aA,hF⟩ ?_)
 rintro m20 _ _ ⟨g21,k22,kH,rfl,rfl,hd25,hE,hF⟩
 refine Kb hE bN.Values (fun aiO=>?_)
 rcases kH with _|⟨x24,kH⟩
 · have RD:=dn hd25
   rw[GU]at hF
   refine fI ?_
   refine dE ?_
   exact ze hF
 obtain⟨RD,hx27,hd28⟩:=dA hd25
 rw[GU]at hF
 refine fI ?_
 refine dD ?_
 refine bG ?_
 refine Ai hx27 (fun SF j32=>?_)
 refine Al dN ?_
 refine bnd hF fun Cw hx34 hF=>bR (qc hx34) (fun _=>?_)
 refine aT ?_
 refine Ci hF (fun RF hF=>?_) (fun RF hF=>?_)
 · exact ze hF
 refine bG ?_
 rw[wk k22]
 exact⟨_,bY _,_,k22+1,kH,rfl,aB,hd28,aA,hF⟩
def zM(ae:List Int)(ag:List Fact):List Fact->Nat->Option (Bool)
 |[],k4=>((rX ae).bind fun eT=>
     bif eT then (some (decide (((ag.length:Int):Int)<=24)))
     else (some false)).bind fun p_=>
   match p_ with
   |c19=>some c19
 |x6::aG,k4=>((Ps ae x6).bind fun r26=>
     bif (!r26)then (some true)
     else (bif (decide ((0:Int)<(k4:Int)))then ((ix ag (IntKind.i64.wrap ((k4:Int)-1))).bind fun x31=>
         (yB x31 x6).bind fun r41=>
         some (decide ((0:Int)<=r41)))
       else (some false))).bind fun yn=>
   match yn with
   |vD=>if vD then (
       some false)
     else (
       zM ae ag aG (k4+1))
def zX(ae:List Int)(ag:List Fact):Option (Bool):=
 zM ae ag ag 0
theorem KF{ae:List Int}{aa:Sv}{ag:List Fact}{ak:Sv}{R:Bool}(hF:zX ae ag=some R):
   Fw.Spec Tryz.prog 12 [aa.v,ak.v] [ah aa ae,cz ak ag] (fun _:Unit=>(.bool R)) (fun _=>[]):=by
 refine Se 43 Tryz.func12 [.tmp 4] ?_
 intro H0 F0
 unfold zX at hF
 refine bQ ?_
 refine bn (bU (m:=ag.length) (fun m2 f' cs'=>∃(g:Fr)(k4:Nat)(aG:List Fact),m2=aG.length/\f'=aR g [(0,aa.v),(1,ak.v),(5,(zi (k4:Int)))]/\List.drop k4 ag=aG/\aP cs' [ah aa ae,cz ak ag]/\zM ae ag aG k4=some R) ⟨_,0,_,rfl,aB,rfl,aA,hF⟩ ?_)
 rintro m2 _ _ ⟨g3,k4,aG,rfl,rfl,hd7,hE,hF⟩
 refine Kb hE ag (fun jL=>?_)
 rcases aG with _|⟨x6,aG⟩
 · have fG:=dn hd7
   rw[zM]at hF
   refine bQ ?_
   refine dE ?_
   refine aL ?_
   obtain⟨p_,Bn,BK⟩:=bind_some hF
   refine au ?_
   refine gB (fun f' cs'=>∃(c19:Bool)(g:Fr),c19=p_/\f'=aR g [(4,(.bool c19))]/\aP cs' []) ?_ ?_
   · replace hF:=Bn
     refine au ?_
     refine bnd hF fun eT hx16 hF=>bR (xc hx16) (fun _=>?_)
     refine au ?_
     rcases df eT with qO|qO
     · rw[qO]
       try rw[qO]at hF; dsimp only[aY,aX]at hF
       exact cK hF
     rw[qO]
     try rw[qO]at hF; dsimp only[aY,aX]at hF
     exact cK hF
   rintro _ _ ⟨c19,g20,rfl,rfl,hE⟩
   replace hF:=BK
   try dsimp only at hF
   refine bM hE ?_
   exact ze hF
 obtain⟨fG,dm,fF⟩:=dA hd7
 rw[zM]at hF
 refine bQ ?_
 refine dD ?_
 refine aT ?_
 obtain⟨yn,Qg,Rj⟩:=bind_some hF
 refine dM [0,1,2,3,4,5,6,7,8,9,10,11,12,13,14,15,16,17,18,19,20,21,22,23] [0,0,0,6,14,31,63,127,255,511,1023,2047,2047,6143,16383,32767,2047,2047,198655,460799,1048575,2097151,4194303,8388607] [5,20] mixed (by decide+kernel) ?_
 refine qH (fun f' cs'=>∃(vD:Bool)(g:Fr),vD=yn/\f'=aR g [(0,aa.v),(1,ak.v),(5,(zi (k4:Int))),(35,(.bool vD))]/\aP cs' [ah aa ae,cz ak ag]) ?_ ?_
 · replace hF:=Qg
   refine fw ?_
   refine Di dm (fun k23 j24=>?_)
   refine oz (mZ x6) nI (fun p25=>?_)
   refine bnd hF fun r26 hx27 hF=>jB (ao9 hx27) (fun _=>?_)
   refine bV ?_
   rcases df (!r26)with xS|xS
   · rw[xS]
     try rw[xS]at hF; dsimp only[aY,aX]at hF
     exact iC hF
   rw[xS]
   try rw[xS]at hF; dsimp only[aY,aX]at hF
   refine fw ?_
   rcases df (decide ((0:Int)<(k4:Int)))with xU|xU
   · rw[xU]
     try rw[xU]at hF; dsimp only[aY,aX]at hF
     refine fw ?_
     refine zI hF fun x31 aFa hx34 hF=>?_
     refine Di hx34 (fun lg j36=>?_)
     refine oz (mZ x31) nI (fun p37=>?_)
     refine bV ?_
     refine Di dm (fun vG j39=>?_)
     refine oz (mZ x6) nI (fun p40=>?_)
     refine bnd hF fun r41 Xg hF=>jB (TU Xg) (fun _=>?_)
     exact iC hF
   rw[xU]
   try rw[xU]at hF; dsimp only[aY,aX]at hF
   exact iC hF
 rintro _ _ ⟨vD,g47,rfl,rfl,hE⟩
 replace hF:=Rj
 try dsimp only at hF
 refine bM hE ?_
 refine Ci hF (fun azA hF=>?_) (fun azA hF=>?_)
 · exact ze hF
 refine bG ?_
 rw[wk k4]
 exact⟨_,bY _,_,k4+1,aG,rfl,aB,fF,aA,hF⟩
def GV(ay:List Int)(aI:List Int):Nat->Int->Option (Bool)
 |0,_=>none
 |m2+1,c1=>if ((decide ((c1:Int)<(ay.length:Int)))&&(decide ((c1:Int)<(aI.length:Int))))then (
     (ix ay c1).bind fun uH=>
     (ix aI c1).bind fun uA=>
     if ((uH:Int)!=uA)then (
       (ix ay c1).bind fun x24=>
       (ix aI c1).bind fun x30=>
       some (decide ((x24:Int)<x30)))
     else (
       GV ay aI m2 (IntKind.i64.wrap (c1+1))))
   else (
     some (decide (((ay.length:Int):Int)<(aI.length:Int))))
def Pt(ay:List Int)(aI:List Int):Option (Bool):=
 GV ay aI (((ay.length:Int)-0).toNat+2) 0
theorem ao_{ay:List Int}{aa:Sv}{aI:List Int}{ak:Sv}{R:Bool}(hF:Pt ay aI=some R):
   Fw.Spec Tryz.prog 160 [aa.v,ak.v] [ah aa ay,ah ak aI] (fun _:Unit=>(.bool R)) (fun _=>[]):=by
 refine Se 41 Tryz.func160 [.tmp 4] ?_
 intro H0 F0
 unfold Pt at hF
 refine bQ ?_
 refine bn (bU (m:=(((ay.length:Int)-0).toNat+2)) (fun m2 f' cs'=>∃(g:Fr)(c1:Int),f'=aR g [(0,aa.v),(1,ak.v),(5,(zi c1))]/\aP cs' [ah aa ay,ah ak aI]/\GV ay aI m2 c1=some R) ⟨_,_,aB,aA,hF⟩ ?_)
 rintro m2 _ _ ⟨g3,c1,rfl,hE,hF⟩
 refine bM hE ?_
 rcases m2 with _|m2
 · rw[GV]at hF
   exact absurd hF (by simp)
 rw[GV]at hF
 refine aT ?_
 refine gB (fun f' cs'=>∃(g:Fr),f'=aR g [(0,aa.v),(1,ak.v),(5,(zi c1)),(15,(.bool ((decide ((c1:Int)<(ay.length:Int)))&&(decide ((c1:Int)<(aI.length:Int))))))]/\aP cs' [ah aa ay,ah ak aI]) ?_ ?_
 · refine bf ?_
   rcases df (decide ((c1:Int)<(ay.length:Int)))with qN|qN
   · rw[qN]
     try rw[qN]at hF; dsimp only[aY,aX]at hF
     refine lT ?_
     exact⟨_,aB,aA⟩
   rw[qN]
   try rw[qN]at hF; dsimp only[aY,aX]at hF
   refine bG ?_
   exact⟨_,aB,aA⟩
 rintro _ _ ⟨g11,rfl,hE⟩
 refine bM hE ?_
 refine Ci hF (fun RF hF=>?_) (fun RF hF=>?_)
 · refine aT ?_
   refine dM [0,1,2,3,4,5,6,7,8] [0,0,3,7,0,0,48,112,255] [] mixed (by decide+kernel) ?_
   refine bV ?_
   refine zI hF fun uH akz mR hF=>?_
   refine Di mR (fun k16 XN=>?_)
   refine Dl dN ?_
   refine bV ?_
   refine zI hF fun uA aj3 nS hF=>?_
   refine Di nS (fun k22 j23=>?_)
   refine Dl dN ?_
   refine bV ?_
   refine Ci hF (fun azB hF=>?_) (fun azB hF=>?_)
   · refine dM [0,1,2,3,4,5,6,7,8,9] [0,0,3,7,0,0,48,112,255,511] [] mixed (by decide+kernel) ?_
     refine bV ?_
     refine zI hF fun x24 azC hx27 hF=>?_
     refine Di hx27 (fun k28 j29=>?_)
     refine Dl dN ?_
     refine bV ?_
     refine zI hF fun x30 aFb IJ hF=>?_
     refine Di IJ (fun k34 j35=>?_)
     refine Dl dN ?_
     refine fw ?_
     exact ze hF
   refine bG ?_
   exact⟨m2,bY _,_,_,aB,aA,hF⟩
 exact ze hF
def vP(dY:List Int):List (List Int)->Nat->(List (List Int))->Bool->Option ((List (List Int)))
 |[],k22,c15,c18=>if (!c18)then (
     (app ([]:List Int) dY).bind fun z32=>
     (app c15 ([z32]:List (List Int))).bind fun z36=>
     some z36)
   else (
     some c15)
 |x24::kH,k22,c15,c18=>((bif (!c18)then ((Pt dY x24).bind fun oK=>
         some oK)
       else (some false)).bind fun Cx=>
     match Cx with
     |c51=>if c51 then (
         (app ([]:List Int) dY).bind fun z53=>
         (app c15 ([z53]:List (List Int))).bind fun z57=>
         (app ([]:List Int) x24).bind fun z64=>
         (app z57 ([z64]:List (List Int))).bind fun z68=>
         some (z68,true))
       else (
         (app ([]:List Int) x24).bind fun z75=>
         (app c15 ([z75]:List (List Int))).bind fun z79=>
         some (z79,c18))).bind fun o40=>
   match o40 with
   |(Te,c87)=>vP dY kH (k22+1) Te c87
def Dg(ag:List (List Int))(dY:List Int):List (List Int)->Nat->Bool->Option ((List (List Int)))
 |[],k6,c2=>vP dY ag 0 ([]:List (List Int)) c2
 |x8::kI,k6,c2=>(bif c2 then (some true)
     else ((uP x8 dY).bind fun r96=>
       some r96)).bind fun o90=>
   match o90 with
   |Tg=>Dg ag dY kI (k6+1) Tg
def G9(ag:List (List Int))(dY:List Int):Option ((List (List Int))):=
 Dg ag dY ag 0 false
theorem an3{ag:List (List Int)}{aa:Sv}{dY:List Int}{ak:Sv}{R:(List (List Int))}(hF:G9 ag dY=some R):
   Fw.Spec Tryz.prog 92 [aa.v,ak.v] [bT (aW 24 (aW 3 ax)) aa.v ag,ah ak dY] (fun p:Sv×List Nat=>p.1.v) (fun p=>[aJ (az 24 (az 3 (aj ax))) p.2 p.1.v R]):=by
 refine Se 65 Tryz.func92 [.tmp 4] ?_
 intro H0 F0
 unfold G9 at hF
 refine aL ?_
 refine b_ rfl (bI (g:=true) gJ.h fB.h .nil (vs:=[]) rfl rfl rfl (by simp)) (fun k1=>?_)
 refine dh (.cons .h .nil) (bK (Ro:=(az 3 (aj ax))) (E:=24) (F:=[]) (xs:=([]:List (List Int))) bJ rfl rfl) ?_
 refine eU ?_
 refine bn (bU (m:=ag.length) (fun m4 f' cs'=>∃(g:Fr)(k6:Nat)(kI:List (List Int))(c2:Bool),m4=kI.length/\f'=aR g [(0,aa.v),(1,ak.v),(5,(.slice (some ⟨k1,0,none⟩) 0 1)),(6,(.bool c2)),(7,(zi (k6:Int)))]/\List.drop k6 ag=kI/\aP cs' [bT (aW 24 (aW 3 ax)) aa.v ag,ah ak dY,aJ (az 24 (az 3 (aj ax))) (k1::[]) (.slice (some ⟨k1,0,none⟩) 0 1) ([]:List (List Int))]/\Dg ag dY kI k6 c2=some R) ⟨_,0,_,_,rfl,aB,rfl,aA,hF⟩ ?_)
 rintro m4 _ _ ⟨g5,k6,kI,c2,rfl,rfl,EZ,hE,hF⟩
 refine Kb hE ag (fun aiP=>?_)
 rcases kI with _|⟨x8,kI⟩
 · have hk10:=dn EZ
   rw[Dg]at hF
   refine bQ ?_
   refine dE ?_
   refine fI ?_
   refine bn (bU (m:=ag.length) (fun m20 f' cs'=>∃(g:Fr)(k22:Nat)(kH c15:List (List Int))(c18:Bool)(v16:Sv)(XY:List Nat),m20=kH.length/\f'=aR g [(0,aa.v),(1,ak.v),(5,v16.v),(6,(.bool c18)),(8,(zi (k22:Int)))]/\List.drop k22 ag=kH/\aP cs' [bT (aW 24 (aW 3 ax)) aa.v ag,ah ak dY,aJ (az 24 (az 3 (aj ax))) XY v16.v c15]/\vP dY kH k22 c15 c18=some R) ⟨_,0,_,_,_,⟨(some ⟨k1,0,none⟩),0,1⟩,(k1::[]),rfl,aB,rfl,aA,hF⟩ ?_)
   rintro m20 _ _ ⟨g21,k22,kH,c15,c18,v16,XY,rfl,rfl,hd25,hE,hF⟩
   refine Kb hE ag (fun aiO=>?_)
   rcases kH with _|⟨x24,kH⟩
   · have RD:=dn hd25
     rw[vP]at hF
     refine bQ ?_
     refine dE ?_
     refine eU ?_
     refine Ci hF (fun Rc hF=>?_) (fun Rc hF=>?_)
     · refine aT ?_
       refine b_ rfl (bI (g:=true) bH.h bC.h .nil (vs:=[]) rfl rfl rfl (by simp)) (fun SF=>?_)
       refine dh (.cons .h .nil) (bK (Ro:=(aj ax)) (E:=3) (F:=[]) (xs:=([]:List Int)) bJ rfl rfl) ?_
       refine au ?_
       refine bnd hF fun z32 IJ hF=>dC (.cons .h (.rd (.t .h) rfl .nil)) (dL (Ro:=(aj ax)) bH.h gL bC.h rfl rfl rfl (.tmp rfl rfl) (.tmp rfl rfl) IJ nK) (fun p34=>?_)
       refine b_ rfl (bI (g:=true) gJ.h fB.h bz (vs:=[p34.1.v]) rfl rfl rfl (by intro v hv; simp at hv; rcases hv with rfl<;>rfl)) (fun lg=>?_)
       refine dh (.cons .h (.cons .h .nil)) (bK (Ro:=(az 3 (aj ax))) (E:=24) (F:=(p34.2++[])) (xs:=([z32]:List (List Int))) (bS uR bJ bB) rfl rfl) ?_
       refine bnd hF fun z36 Rs hF=>dC (.cons .q3 (.cons .h .nil)) (dL (Ro:=(az 3 (aj ax))) gJ.h Es fB.h rfl rfl rfl (.tmp rfl rfl) (.tmp rfl rfl) Rs eX) (fun p38=>?_)
       refine bQ ?_
       cases hF
       exact Er (p38.1,p38.2)
     refine bG ?_
     cases hF
     exact Er (v16,XY)
   obtain⟨RD,hx27,hd28⟩:=dA hd25
   rw[vP]at hF
   refine bQ ?_
   refine dD ?_
   refine au ?_
   obtain⟨o40,awg,azD⟩:=bind_some hF
   refine gN (fun f' cs'=>∃(Te:List (List Int))(c87:Bool)(v85:Sv)(F86:List Nat)(g:Fr),o40=(Te,c87)/\f'=aR g [(0,aa.v),(1,ak.v),(5,v85.v),(6,(.bool c87)),(8,(zi (k22:Int)))]/\aP cs' [bT (aW 24 (aW 3 ax)) aa.v ag,ah ak dY,aJ (az 24 (az 3 (aj ax))) F86 v85.v Te]) ?_ ?_
   · replace hF:=awg
     refine bn (j6 ?_)
     obtain⟨Cx,aa',acL⟩:=bind_some hF
     refine au ?_
     refine gB (fun f' cs'=>∃(c51:Bool)(g:Fr),c51=Cx/\f'=aR g [(0,aa.v),(1,ak.v),(5,v16.v),(6,(.bool c18)),(8,(zi (k22:Int))),(40,(.bool c51))]/\aP cs' [bT (aW 24 (aW 3 ax)) aa.v ag,ah ak dY,aJ (az 24 (az 3 (aj ax))) XY v16.v c15]) ?_ ?_
     · replace hF:=aa'
       refine aZ ?_
       rcases df (!c18)with x9|x9
       · rw[x9]
         try rw[x9]at hF; dsimp only[aY,aX]at hF
         refine bQ ?_
         refine Ai hx27 (fun k45 j46=>?_)
         refine au ?_
         refine ng (R':=(aW 3 ax)) fT.h (.tmp rfl rfl) .h rC (fun w47=>?_)
         refine au ?_
         refine bnd hF fun oK nU hF=>bR (ao_ nU) (fun _=>?_)
         exact cK hF
       rw[x9]
       try rw[x9]at hF; dsimp only[aY,aX]at hF
       exact cK hF
     rintro _ _ ⟨c51,g83,rfl,rfl,hE⟩
     replace hF:=acL
     try dsimp only at hF
     refine bM hE ?_
     refine Ci hF (fun QO hF=>?_) (fun QO hF=>?_)
     · refine aT ?_
       refine b_ rfl (bI (g:=true) bH.h bC.h .nil (vs:=[]) rfl rfl rfl (by simp)) (fun k52=>?_)
       refine dh (.cons .h .nil) (bK (Ro:=(aj ax)) (E:=3) (F:=[]) (xs:=([]:List Int)) bJ rfl rfl) ?_
       refine au ?_
       refine bnd hF fun z53 Ri hF=>dC (.cons .h (.rd (.t .h) rfl .nil)) (dL (Ro:=(aj ax)) bH.h gL bC.h rfl rfl rfl (.tmp rfl rfl) (.tmp rfl rfl) Ri nK) (fun p55=>?_)
       refine b_ rfl (bI (g:=true) gJ.h fB.h bz (vs:=[p55.1.v]) rfl rfl rfl (by intro v hv; simp at hv; rcases hv with rfl<;>rfl)) (fun k56=>?_)
       refine dh (.cons .h (.cons .h .nil)) (bK (Ro:=(az 3 (aj ax))) (E:=24) (F:=(p55.2++[])) (xs:=([z53]:List (List Int))) (bS uR bJ bB) rfl rfl) ?_
       refine bnd hF fun z57 azE hF=>dC (.cons .q3 (.cons .h .nil)) (dL (Ro:=(az 3 (aj ax))) gJ.h Es fB.h rfl rfl rfl (.tmp rfl rfl) (.tmp rfl rfl) azE eX) (fun p59=>?_)
       refine bQ ?_
       refine b_ rfl (bI (g:=true) bH.h bC.h .nil (vs:=[]) rfl rfl rfl (by simp)) (fun k60=>?_)
       refine dh (.cons .h .nil) (bK (Ro:=(aj ax)) (E:=3) (F:=[]) (xs:=([]:List Int)) bJ rfl rfl) ?_
       refine aT ?_
       refine Ai hx27 (fun k61 j62=>?_)
       refine ng (R':=(aW 3 ax)) fT.h (.tmp rfl rfl) .h rC (fun w63=>?_)
       refine bnd hF fun z64 I1 hF=>dC (.cons .q2 (.rd .h rfl .nil)) (dL (Ro:=(aj ax)) bH.h gL bC.h rfl rfl rfl (.tmp rfl rfl) (.tmp rfl rfl) I1 nK) (fun p66=>?_)
       refine b_ rfl (bI (g:=true) gJ.h fB.h bz (vs:=[p66.1.v]) rfl rfl rfl (by intro v hv; simp at hv; rcases hv with rfl<;>rfl)) (fun k67=>?_)
       refine dh (.cons .h (.cons .h .nil)) (bK (Ro:=(az 3 (aj ax))) (E:=24) (F:=(p66.2++[])) (xs:=([z64]:List (List Int))) (bS uR bJ bB) rfl rfl) ?_
       refine bnd hF fun z68 abC hF=>dC (.cons .q3 (.cons .h .nil)) (dL (Ro:=(az 3 (aj ax))) gJ.h Es fB.h rfl rfl rfl (.tmp rfl rfl) (.tmp rfl rfl) abC eX) (fun p70=>?_)
       refine aT ?_
       cases hF
       exact⟨_,_,p70.1,p70.2,_,rfl,aB,aA⟩
     refine aZ ?_
     refine b_ rfl (bI (g:=true) bH.h bC.h .nil (vs:=[]) rfl rfl rfl (by simp)) (fun k71=>?_)
     refine dh (.cons .h .nil) (bK (Ro:=(aj ax)) (E:=3) (F:=[]) (xs:=([]:List Int)) bJ rfl rfl) ?_
     refine aT ?_
     refine Ai hx27 (fun k72 j73=>?_)
     refine ng (R':=(aW 3 ax)) fT.h (.tmp rfl rfl) .h rC (fun w74=>?_)
     refine bnd hF fun z75 acM hF=>dC (.cons .q2 (.rd .h rfl .nil)) (dL (Ro:=(aj ax)) bH.h gL bC.h rfl rfl rfl (.tmp rfl rfl) (.tmp rfl rfl) acM nK) (fun p77=>?_)
     refine b_ rfl (bI (g:=true) gJ.h fB.h bz (vs:=[p77.1.v]) rfl rfl rfl (by intro v hv; simp at hv; rcases hv with rfl<;>rfl)) (fun k78=>?_)
     refine dh (.cons .h (.cons .h .nil)) (bK (Ro:=(az 3 (aj ax))) (E:=24) (F:=(p77.2++[])) (xs:=([z75]:List (List Int))) (bS uR bJ bB) rfl rfl) ?_
     refine bnd hF fun z79 Mx hF=>dC (.cons .q5 (.cons .h .nil)) (dL (Ro:=(az 3 (aj ax))) gJ.h Es fB.h rfl rfl rfl (.tmp rfl rfl) (.tmp rfl rfl) Mx eX) (fun XP=>?_)
     refine aT ?_
     cases hF
     exact⟨_,_,XP.1,XP.2,_,rfl,aB,aA⟩
   rintro _ _ ⟨Te,c87,v85,F86,g89,rfl,rfl,hE⟩
   replace hF:=azD
   try dsimp only at hF
   refine bM hE ?_
   refine bf ?_
   rw[wk k22]
   exact⟨_,bY _,_,k22+1,kH,_,_,v85,F86,rfl,aB,hd28,aA,hF⟩
 obtain⟨hk10,mD,je⟩:=dA EZ
 rw[Dg]at hF
 refine bQ ?_
 refine dD ?_
 refine aT ?_
 obtain⟨o90,awh,azF⟩:=bind_some hF
 refine au ?_
 refine gB (fun f' cs'=>∃(Tg:Bool)(g:Fr),Tg=o90/\f'=aR g [(0,aa.v),(1,ak.v),(5,(.slice (some ⟨k1,0,none⟩) 0 1)),(6,(.bool Tg)),(7,(zi (k6:Int)))]/\aP cs' [bT (aW 24 (aW 3 ax)) aa.v ag,ah ak dY,aJ (az 24 (az 3 (aj ax))) (k1::[]) (.slice (some ⟨k1,0,none⟩) 0 1) ([]:List (List Int))]) ?_ ?_
 · replace hF:=awh
   refine aT ?_
   rcases df c2 with x_|x_
   · rw[x_]
     try rw[x_]at hF; dsimp only[aY,aX]at hF
     exact cK hF
   rw[x_]
   try rw[x_]at hF; dsimp only[aY,aX]at hF
   refine bf ?_
   refine Ai mD (fun k93 j94=>?_)
   refine au ?_
   refine ng (R':=(aW 3 ax)) fT.h (.tmp rfl rfl) .h rC (fun w95=>?_)
   refine aZ ?_
   refine bnd hF fun r96 aca hF=>bR (Dz aca) (fun _=>?_)
   exact cK hF
 rintro _ _ ⟨Tg,aFc,rfl,rfl,hE⟩
 replace hF:=azF
 try dsimp only at hF
 refine bM hE ?_
 refine bf ?_
 rw[wk k6]
 exact⟨_,bY _,_,k6+1,kI,_,rfl,aB,je,aA,hF⟩
def Dh(c3:List (List Int))(eF:aM):List Int->Nat->(List Int)->Option ((List (List Int)))
 |[],k27,c21=>(G9 c3 c21).bind fun r36=>
   some r36
 |x29::o9,k27,c21=>(yG eF x29).bind fun oL=>
   (app c21 ([oL]:List Int)).bind fun z48=>
   Dh c3 eF o9 (k27+1) z48
def Gm(ai:aO):List aM->Nat->(List (List Int))->Option ((List (List Int)))
 |[],k9,c3=>some c3
 |eF::dB,k9,c3=>(Dh c3 eF ai.Head 0 ([]:List Int)).bind fun iD=>
   match iD with
   |og=>Gm ai dB (k9+1) og
def UO(ai:aO)(ag:List aM):Option ((List (List Int))):=
 Gm ai ag 0 ([]:List (List Int))
theorem an4{ai:aO}{aa aQ:Sv}{ag:List aM}{ak:Sv}{R:(List (List Int))}(hF:UO ai ag=some R):
   Fw.Spec Tryz.prog 43 [(zg [aa.v,aQ.v]),ak.v] [ah aa ai.Head,bX aQ ai.Atoms,nQ ak ag] (fun p:Sv×List Nat=>p.1.v) (fun p=>[aJ (az 24 (az 3 (aj ax))) p.2 p.1.v R]):=by
 refine Se 41 Tryz.func43 [.tmp 4] ?_
 intro H0 F0
 unfold UO at hF
 refine au ?_
 refine bW (fun k1=>?_)
 refine aZ ?_
 refine b_ rfl (bI (g:=true) gJ.h fB.h .nil (vs:=[]) rfl rfl rfl (by simp)) (fun k2=>?_)
 refine dh (.cons .h .nil) (bK (Ro:=(az 3 (aj ax))) (E:=24) (F:=[]) (xs:=([]:List (List Int))) bJ rfl rfl) ?_
 refine bG ?_
 refine bn (bU (m:=ag.length) (fun m7 f' cs'=>∃(g:Fr)(k9:Nat)(dB:List aM)(c3:List (List Int))(v4:Sv)(F5:List Nat),m7=dB.length/\f'=aR g [(1,ak.v),(2,(pz k1)),(5,v4.v),(6,(zi (k9:Int)))]/\List.drop k9 ag=dB/\aP cs' [nQ ak ag,a_ k1 28 (zg [aa.v,aQ.v]),ah aa ai.Head,bX aQ ai.Atoms,aJ (az 24 (az 3 (aj ax))) F5 v4.v c3]/\Gm ai dB k9 c3=some R) ⟨_,0,_,_,⟨(some ⟨k2,0,none⟩),0,1⟩,(k2::[]),rfl,aB,rfl,aA,hF⟩ ?_)
 rintro m7 _ _ ⟨g8,k9,dB,c3,v4,F5,rfl,rfl,je,hE,hF⟩
 refine Kb hE ag (fun yQ=>?_)
 rcases dB with _|⟨eF,dB⟩
 · have nR:=dn je
   rw[Gm]at hF
   refine bQ ?_
   refine dE ?_
   refine eU ?_
   cases hF
   exact Er (v4,F5)
 obtain⟨nR,fQ,mr⟩:=dA je
 rw[Gm]at hF
 refine bQ ?_
 refine dD ?_
 refine au ?_
 obtain⟨iD,pg,pK⟩:=bind_some hF
 refine gN (fun f' cs'=>∃(og:List (List Int))(v53:Sv)(wX:List Nat)(g:Fr),og=iD/\f'=aR g [(1,ak.v),(2,(pz k1)),(5,v53.v),(6,(zi (k9:Int)))]/\aP cs' [nQ ak ag,a_ k1 28 (zg [aa.v,aQ.v]),ah aa ai.Head,bX aQ ai.Atoms,aJ (az 24 (az 3 (aj ax))) wX v53.v og]) ?_ ?_
 · replace hF:=pg
   refine bn (cB (b_ rfl (bI (g:=true) bH.h bC.h .nil (vs:=[]) rfl rfl rfl (by simp)) (fun k20=>?_)))
   refine dh (.cons .h .nil) (bK (Ro:=(aj ax)) (E:=3) (F:=[]) (xs:=([]:List Int)) bJ rfl rfl) ?_
   refine bG ?_
   refine bn (bU (m:=ai.Head.length) (fun SX f' cs'=>∃(g:Fr)(k27:Nat)(o9 c21:List Int)(v22:Sv)(Ng:List Nat),SX=o9.length/\f'=aR g [(1,ak.v),(2,(pz k1)),(5,v4.v),(6,(zi (k9:Int))),(7,v22.v),(8,(zi (k27:Int)))]/\List.drop k27 ai.Head=o9/\aP cs' [nQ ak ag,a_ k1 28 (zg [aa.v,aQ.v]),ah aa ai.Head,bX aQ ai.Atoms,aJ (az 24 (az 3 (aj ax))) F5 v4.v c3,bv Ng v22 c21]/\Dh c3 eF o9 k27 c21=some iD) ⟨_,0,_,_,⟨(some ⟨k20,0,none⟩),0,1⟩,(k20::[]),rfl,aB,rfl,aA,hF⟩ ?_)
   rintro SX _ _ ⟨g26,k27,o9,c21,v22,Ng,rfl,rfl,Ry,hE,hF⟩
   refine Kb hE ai.Head (fun avs=>?_)
   rcases o9 with _|⟨x29,o9⟩
   · have hk31:=dn Ry
     rw[Dh]at hF
     refine fI ?_
     refine dE ?_
     refine bQ ?_
     refine bnd hF fun r36 Rs hF=>Bu (.cons .q5 (.cons .q4 .nil)) (iW (pre:=[]) (.cons bi (.cons bi .nil)) (fun _=>(.cons .nil)) (bP axX.h bz (an3 Rs))) (fun p38=>?_)
     refine aT ?_
     cases hF
     exact⟨_,p38.1,p38.2,_,rfl,aB,aA⟩
   obtain⟨hk31,hx32,MC⟩:=dA Ry
   rw[Dh]at hF
   refine fI ?_
   refine dD ?_
   refine aT ?_
   refine jK [0,1,2,3,4,5,6,7,8,9,10,11,12,13] [0,0,0,6,14,0,32,0,224,480,1022,2046,4095,8191] [10,12] mixed (by decide+kernel) ?_
   refine fw ?_
   refine Di fQ (fun k39 j40=>?_)
   refine abw (z_ eF) DX (fun p41=>?_)
   refine fw ?_
   refine Di hx32 (fun k42 j43=>?_)
   refine Dl dN ?_
   refine bnd hF fun oL uj hF=>jB (Uv uj) (fun _=>?_)
   refine gP rfl .no rfl (fun ha=>bI (g:=true) (len:=1) (parts:=[(0,.tmp 34)]) bH.h bC.h (.cons (EN ha (.tmp rfl rfl) rfl) .nil) (vs:=[(zi oL)]) rfl rfl rfl (by intro v hv; simp at hv; rcases hv with rfl<;>rfl)) (fun k47=>?_)
   refine gZ (.cons .h .nil) (bK (Ro:=(aj ax)) (E:=3) (F:=([]++[])) (xs:=([oL]:List Int)) (bS (dK (fun _=>rfl)) bJ bB) rfl rfl) ?_
   refine bnd hF fun z48 nU hF=>bZ rfl rfl .no (.cons .q10 (.cons .h .nil)) (.dep rfl .nil) (fun ha=>dL (Ro:=(aj ax)) bH.h gL bC.h rfl rfl rfl (EN ha (.tmp rfl rfl) rfl) (EN ha (.tmp rfl rfl) rfl) nU eX) (fun p50=>?_)
   refine bV ?_
   refine bf ?_
   rw[wk k27]
   exact⟨_,bY _,_,k27+1,o9,_,p50.1,p50.2,rfl,aB,MC,aA,hF⟩
 rintro _ _ ⟨og,v53,wX,g56,rfl,rfl,hE⟩
 replace hF:=pK
 try dsimp only at hF
 refine bM hE ?_
 refine bf ?_
 rw[wk k9]
 exact⟨_,bY _,_,k9+1,dB,_,v53,wX,rfl,aB,mr,aA,hF⟩
end Go.Proofs.YtgcphpodckldbaaGreat
