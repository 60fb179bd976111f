/-
  Functions of the program as Lean functions, and that the calls return what these say: part 5. No conditions.
-/
import Derived.Test.YtfcjmpkenaiomaaGreatFnAuditsG3
import Derived.KernelRfl
set_option maxRecDepth 100000
set_option maxHeartbeats 1000000
set_option linter.unusedVariables false
namespace Go.Proofs.YtfcjmpkenaiomaaGreat
open Go Go.Fw

def zq(aa:aY):Option (Bool):=
 ((Ie aa.Schema aa.Methods).bind fun r4=>
   bif r4 then ((Pk aa.Schema aa.Rules).bind fun r8=>
     bif r8 then ((Pn aa.Schema aa.Source).bind fun dz=>
       bif dz then ((Vq aa.Schema aa.Methods aa.Cache).bind fun r16=>
         bif r16 then ((Mm aa.Now).bind fun jP=>
           bif jP then (bif (decide (((aa.Log.length:Int):Int)<=1000))then ((NJ aa.Log aa).bind fun gX=>
               bif (!gX)then (bif (((aa.Times.length:Int):Int)==(aa.Log.length:Int))then ((Pp aa.Times).bind fun mX=>
                   bif mX then ((o_ aa.Spent 0 1000000).bind fun qG=>
                     bif qG then (some (decide (((aa.Results.length:Int):Int)<=100)))
                     else (some false))
                   else (some false))
                 else (some false))
               else (some false))
             else (some false))
           else (some false))
         else (some false))
       else (some false))
     else (some false))
   else (some false)).bind fun o2=>
 match o2 with
 |Uf=>some Uf
theorem KZ{aa:aY}{ae aP cz dB dw dE dG dI:Sv}{R:Bool}(hF:zq aa=some R):
   Fw.Spec Tryz.prog 26 [(.agg [ae.v,aP.v,cz.v,dB.v,(.int .i64 aa.Source.Version),dw.v,(.int .i64 aa.Cache.Age),(.int .i64 aa.Now),dE.v,dG.v,(.int .i64 aa.Spent),dI.v].toArray)] [bB (aD 3 az) ae.v aa.Schema,bB (aD 57 qW) aP.v aa.Methods,bB (aD 98 CS) cz.v aa.Rules,bB (aD 70 mP) dB.v aa.Source.Facts,bB (aD 47 oV) dw.v aa.Cache.Entries,bB (aD 45 qZ) dE.v aa.Log,bB (aD 3 az) dG.v aa.Times,bB (aD 152 (aD 24 (aD 3 az))) dI.v aa.Results] (fun _:Unit=>(.bool R)) (fun _=>[]):=by
 refine Iz (n:=74) Tryz.func26 rfl rfl (rs:=[.tmp 2]) rfl rfl rfl ?_
 intro H0 F0
 unfold zq at hF
 refine dC (ahP rfl (aaD (g:=false) (v:=(.agg [ae.v,aP.v,cz.v,dB.v,(.int .i64 aa.Source.Version),dw.v,(.int .i64 aa.Cache.Age),(.int .i64 aa.Now),dE.v,dG.v,(.int .i64 aa.Spent),dI.v].toArray)) eG.h.sz (.tmp rfl rfl) rfl) (fun k1=>?_))
 refine aN (jW (v:=(.bool false)) (.bool _)) ?_
 refine df ?_
 obtain⟨o2,gz,hO3⟩:=bind_some hF
 refine dC (fe (fun f' cs'=>∃(Uf:Bool)(g:Fr),Uf=o2/\f'=aQ g [(2,(.bool Uf))]/\aO cs' []) ?_ ?_)
 · replace hF:=gz
   refine aN (iK (off:=0) PZ.h (.tmp rfl rfl)) ?_
   refine eu .h (fun hp=>fw (v:=ae.v) iC.h (.tmp rfl rfl) hp.2 rfl rfl) ?_
   refine aN (iK (off:=1) aap.h (.tmp rfl rfl)) ?_
   refine eu .h (fun hp=>fw (v:=aP.v) Xa.h (.tmp rfl rfl) hp.2 rfl rfl) ?_
   obtain⟨r4,hx5,hF⟩:=bind_some hF
   refine l9 (.rd (.t .h) rfl (.rd (.t (.t .h)) rfl .nil)) (bV awu.h (.cons (.tmp rfl rfl) (.cons (.tmp rfl rfl) .nil)) (@YU aa.Schema ae aa.Methods aP _ hx5)) (fun _=>?_)
   refine Cm (.bool r4) rfl rfl ?_
   rcases Bool.eq_false_or_eq_true r4 with bq|bq
   · rw[bq]
     try rw[bq]at hF; dsimp only[cond_true,cond_false]at hF
     refine iM (t:=8) rfl rfl rfl ?_
     refine aN (iK (off:=0) PZ.h (.tmp rfl rfl)) ?_
     refine iM (t:=8) rfl rfl rfl ?_
     refine eu .h (fun hp=>fw (v:=ae.v) iC.h (.tmp rfl rfl) hp.2 rfl rfl) ?_
     refine iM (t:=8) rfl rfl rfl ?_
     refine aN (iK (off:=2) aqm.h (.tmp rfl rfl)) ?_
     refine iM (t:=8) rfl rfl rfl ?_
     refine eu .h (fun hp=>fw (v:=cz.v) ab1.h (.tmp rfl rfl) hp.2 rfl rfl) ?_
     refine iM (t:=8) rfl rfl rfl ?_
     obtain⟨r8,bZ,hF⟩:=bind_some hF
     refine l9 (.rd (.t .h) rfl (.rd (.t (.t (.t .h))) rfl .nil)) (bV aww.h (.cons (.tmp rfl rfl) (.cons (.tmp rfl rfl) .nil)) (@anb aa.Schema ae aa.Rules cz _ bZ)) (fun _=>?_)
     refine aN (dU (b:=true) (u:=(.bool r8)) (v:=(.bool false)) (.tmp rfl rfl) (.tmp rfl rfl) (.bool _)) ?_
     refine Cm (.bool r8) rfl rfl ?_
     rcases Bool.eq_false_or_eq_true r8 with dS|dS
     · rw[dS]
       try rw[dS]at hF; dsimp only[cond_true,cond_false]at hF
       refine iM (t:=15) rfl rfl rfl ?_
       refine aN (iK (off:=0) PZ.h (.tmp rfl rfl)) ?_
       refine iM (t:=15) rfl rfl rfl ?_
       refine eu .h (fun hp=>fw (v:=ae.v) iC.h (.tmp rfl rfl) hp.2 rfl rfl) ?_
       refine iM (t:=15) rfl rfl rfl ?_
       refine aN (iK (off:=3) Mx.h (.tmp rfl rfl)) ?_
       refine iM (t:=15) rfl rfl rfl ?_
       refine eu .h (fun hp=>j_ (s:=2) (l:=[dB.v,(.int .i64 aa.Source.Version)]) yl.h vW.h.sz (.tmp rfl rfl) hp.2 rfl (by decide) (Nat.le_of_ble_eq_true rfl) rfl) ?_
       refine iM (t:=15) rfl rfl rfl ?_
       obtain⟨dz,iJ,hF⟩:=bind_some hF
       refine l9 (.rd (.t .h) rfl (.rd (.t (.t (.t (.t .h)))) rfl .nil)) (bV awx.h (.cons (.tmp rfl rfl) (.cons (.tmp rfl rfl) .nil)) (@anc aa.Schema ae aa.Source dB _ iJ)) (fun _=>?_)
       refine aN (dU (b:=true) (u:=(.bool dz)) (v:=(.bool false)) (.tmp rfl rfl) (.tmp rfl rfl) (.bool _)) ?_
       refine Cm (.bool dz) rfl rfl ?_
       rcases Bool.eq_false_or_eq_true dz with jJ|jJ
       · rw[jJ]
         try rw[jJ]at hF; dsimp only[cond_true,cond_false]at hF
         refine iM (t:=22) rfl rfl rfl ?_
         refine aN (iK (off:=0) PZ.h (.tmp rfl rfl)) ?_
         refine iM (t:=22) rfl rfl rfl ?_
         refine eu .h (fun hp=>fw (v:=ae.v) iC.h (.tmp rfl rfl) hp.2 rfl rfl) ?_
         refine iM (t:=22) rfl rfl rfl ?_
         refine aN (iK (off:=1) aap.h (.tmp rfl rfl)) ?_
         refine iM (t:=22) rfl rfl rfl ?_
         refine eu .h (fun hp=>fw (v:=aP.v) Xa.h (.tmp rfl rfl) hp.2 rfl rfl) ?_
         refine iM (t:=22) rfl rfl rfl ?_
         refine aN (iK (off:=5) VW.h (.tmp rfl rfl)) ?_
         refine iM (t:=22) rfl rfl rfl ?_
         refine eu .h (fun hp=>j_ (s:=2) (l:=[dw.v,(.int .i64 aa.Cache.Age)]) u7.h oW.h.sz (.tmp rfl rfl) hp.2 rfl (by decide) (Nat.le_of_ble_eq_true rfl) rfl) ?_
         refine iM (t:=22) rfl rfl rfl ?_
         obtain⟨r16,jO,hF⟩:=bind_some hF
         refine l9 (.rd (.t .h) rfl (.rd (.t (.t .h)) rfl (.rd (.t (.t (.t (.t (.t .h))))) rfl .nil))) (bV awy.h (.cons (.tmp rfl rfl) (.cons (.tmp rfl rfl) (.cons (.tmp rfl rfl) .nil))) (@anO aa.Schema ae aa.Methods aP aa.Cache dw _ jO)) (fun _=>?_)
         refine aN (dU (b:=true) (u:=(.bool r16)) (v:=(.bool false)) (.tmp rfl rfl) (.tmp rfl rfl) (.bool _)) ?_
         refine Cm (.bool r16) rfl rfl ?_
         rcases Bool.eq_false_or_eq_true r16 with iN|iN
         · rw[iN]
           try rw[iN]at hF; dsimp only[cond_true,cond_false]at hF
           refine iM (t:=31) rfl rfl rfl ?_
           refine aN (iK (off:=7) aqi.h (.tmp rfl rfl)) ?_
           refine iM (t:=31) rfl rfl rfl ?_
           refine eu .h (fun hp=>fw (v:=(.int .i64 aa.Now)) qd.h (.tmp rfl rfl) hp.2 rfl rfl) ?_
           refine iM (t:=31) rfl rfl rfl ?_
           obtain⟨jP,lG,hF⟩:=bind_some hF
           refine l9 .nil (bV awC.h (.cons (.tmp rfl rfl) .nil) (@Zp aa.Now _ lG)) (fun _=>?_)
           refine aN (dU (b:=true) (u:=(.bool jP)) (v:=(.bool false)) (.tmp rfl rfl) (.tmp rfl rfl) (.bool _)) ?_
           refine Cm (.bool jP) rfl rfl ?_
           rcases Bool.eq_false_or_eq_true jP with ku|ku
           · rw[ku]
             try rw[ku]at hF; dsimp only[cond_true,cond_false]at hF
             refine iM (t:=36) rfl rfl rfl ?_
             refine aN (iK (off:=8) aan.h (.tmp rfl rfl)) ?_
             refine iM (t:=36) rfl rfl rfl ?_
             refine eu .h (fun hp=>fw (v:=dE.v) M6.h (.tmp rfl rfl) hp.2 rfl rfl) ?_
             refine iM (t:=36) rfl rfl rfl ?_
             refine eu (.t (.t (.t (.t (.t (.t .h)))))) (fun hp=>rZ (l:=aa.Log.length) pR.h (.tmp rfl rfl) (zB hp)) ?_
             refine iM (t:=36) rfl rfl rfl ?_
             refine aN (VZ (i:=(aa.Log.length:Int)) (j:=1000) (.tmp rfl rfl) (.int _ _)) ?_
             refine aN (dU (b:=true) (u:=(.bool (decide (((aa.Log.length:Int):Int)<=1000)))) (v:=(.bool false)) (.tmp rfl rfl) (.tmp rfl rfl) (.bool _)) ?_
             refine Cm (.bool (decide (((aa.Log.length:Int):Int)<=1000))) rfl rfl ?_
             rcases Bool.eq_false_or_eq_true (decide (((aa.Log.length:Int):Int)<=1000))with Tk|Tk
             · rw[Tk]
               try rw[Tk]at hF; dsimp only[cond_true,cond_false]at hF
               refine iM (t:=42) rfl rfl rfl ?_
               refine aN (iK (off:=8) aan.h (.tmp rfl rfl)) ?_
               refine iM (t:=42) rfl rfl rfl ?_
               refine eu .h (fun hp=>fw (v:=dE.v) M6.h (.tmp rfl rfl) hp.2 rfl rfl) ?_
               refine iM (t:=42) rfl rfl rfl ?_
               refine aN (wU (fn:=.func 58) (vs:=[]) (us:=[(.pointer (some ⟨k1,0,some 0⟩))]) .nil (.cons (.tmp rfl rfl) .nil)) ?_
               refine iM (t:=42) rfl rfl rfl ?_
               obtain⟨gX,nL,hF⟩:=bind_some hF
               refine l9 (.rd (.t (.t (.t (.t (.t (.t .h)))))) rfl (.rd .h rfl (.rd (.t .h) rfl (.rd (.t (.t .h)) rfl (.rd (.t (.t (.t .h))) rfl (.rd (.t (.t (.t (.t .h)))) rfl (.rd (.t (.t (.t (.t (.t .h))))) rfl (.rd (.t (.t (.t (.t (.t (.t .h)))))) rfl (.rd (.t (.t (.t (.t (.t (.t (.t .h))))))) rfl (.rd (.t (.t (.t (.t (.t (.t (.t (.t .h)))))))) rfl .nil)))))))))) (bV awD.h (.cons (.tmp rfl rfl) (.cons (.tmp rfl rfl) .nil)) (@akI aa.Log dE k1 aa ae aP cz dB dw dE dG dI _ nL)) (fun _=>?_)
               refine iM (t:=42) rfl rfl rfl ?_
               refine aN (Jf (b:=gX) (.tmp rfl rfl)) ?_
               refine aN (dU (b:=true) (u:=(.bool (!gX))) (v:=(.bool false)) (.tmp rfl rfl) (.tmp rfl rfl) (.bool _)) ?_
               refine Cm (.bool (!gX)) rfl rfl ?_
               rcases Bool.eq_false_or_eq_true (!gX)with yV|yV
               · rw[yV]
                 try rw[yV]at hF; dsimp only[cond_true,cond_false]at hF
                 refine iM (t:=49) rfl rfl rfl ?_
                 refine aN (iK (off:=9) ahV.h (.tmp rfl rfl)) ?_
                 refine iM (t:=49) rfl rfl rfl ?_
                 refine eu .h (fun hp=>fw (v:=dG.v) iC.h (.tmp rfl rfl) hp.2 rfl rfl) ?_
                 refine iM (t:=49) rfl rfl rfl ?_
                 refine eu (.t (.t (.t (.t (.t (.t (.t .h))))))) (fun hp=>rZ (l:=aa.Times.length) di.h (.tmp rfl rfl) (zB hp)) ?_
                 refine iM (t:=49) rfl rfl rfl ?_
                 refine aN (iK (off:=8) aan.h (.tmp rfl rfl)) ?_
                 refine iM (t:=49) rfl rfl rfl ?_
                 refine eu .h (fun hp=>fw (v:=dE.v) M6.h (.tmp rfl rfl) hp.2 rfl rfl) ?_
                 refine iM (t:=49) rfl rfl rfl ?_
                 refine eu (.t (.t (.t (.t (.t (.t .h)))))) (fun hp=>rZ (l:=aa.Log.length) pR.h (.tmp rfl rfl) (zB hp)) ?_
                 refine iM (t:=49) rfl rfl rfl ?_
                 refine aN (tH (i:=(aa.Times.length:Int)) (j:=(aa.Log.length:Int)) (.tmp rfl rfl) (.tmp rfl rfl)) ?_
                 refine aN (dU (b:=true) (u:=(.bool (((aa.Times.length:Int):Int)==(aa.Log.length:Int)))) (v:=(.bool false)) (.tmp rfl rfl) (.tmp rfl rfl) (.bool _)) ?_
                 refine Cm (.bool (((aa.Times.length:Int):Int)==(aa.Log.length:Int))) rfl rfl ?_
                 rcases Bool.eq_false_or_eq_true (((aa.Times.length:Int):Int)==(aa.Log.length:Int))with rf|rf
                 · rw[rf]
                   try rw[rf]at hF; dsimp only[cond_true,cond_false]at hF
                   refine iM (t:=58) rfl rfl rfl ?_
                   refine aN (iK (off:=9) ahV.h (.tmp rfl rfl)) ?_
                   refine iM (t:=58) rfl rfl rfl ?_
                   refine eu .h (fun hp=>fw (v:=dG.v) iC.h (.tmp rfl rfl) hp.2 rfl rfl) ?_
                   refine iM (t:=58) rfl rfl rfl ?_
                   obtain⟨mX,hx31,hF⟩:=bind_some hF
                   refine l9 (.rd (.t (.t (.t (.t (.t (.t (.t .h))))))) rfl .nil) (bV awF.h (.cons (.tmp rfl rfl) .nil) (@anf aa.Times dG _ hx31)) (fun _=>?_)
                   refine aN (dU (b:=true) (u:=(.bool mX)) (v:=(.bool false)) (.tmp rfl rfl) (.tmp rfl rfl) (.bool _)) ?_
                   refine Cm (.bool mX) rfl rfl ?_
                   rcases Bool.eq_false_or_eq_true mX with rJ|rJ
                   · rw[rJ]
                     try rw[rJ]at hF; dsimp only[cond_true,cond_false]at hF
                     refine iM (t:=63) rfl rfl rfl ?_
                     refine aN (iK (off:=10) aao.h (.tmp rfl rfl)) ?_
                     refine iM (t:=63) rfl rfl rfl ?_
                     refine eu .h (fun hp=>fw (v:=(.int .i64 aa.Spent)) qd.h (.tmp rfl rfl) hp.2 rfl rfl) ?_
                     refine iM (t:=63) rfl rfl rfl ?_
                     obtain⟨qG,yC,hF⟩:=bind_some hF
                     refine l9 .nil (bV awv.h (.cons (.tmp rfl rfl) (.cons (.int _ _) (.cons (.int _ _) .nil))) (@sS aa.Spent 0 1000000 _ yC)) (fun _=>?_)
                     refine aN (dU (b:=true) (u:=(.bool qG)) (v:=(.bool false)) (.tmp rfl rfl) (.tmp rfl rfl) (.bool _)) ?_
                     refine Cm (.bool qG) rfl rfl ?_
                     rcases Bool.eq_false_or_eq_true qG with Tm|Tm
                     · rw[Tm]
                       try rw[Tm]at hF; dsimp only[cond_true,cond_false]at hF
                       refine iM (t:=68) rfl rfl rfl ?_
                       refine aN (iK (off:=11) aqn.h (.tmp rfl rfl)) ?_
                       refine iM (t:=68) rfl rfl rfl ?_
                       refine eu .h (fun hp=>fw (v:=dI.v) ajt.h (.tmp rfl rfl) hp.2 rfl rfl) ?_
                       refine iM (t:=68) rfl rfl rfl ?_
                       refine eu (.t (.t (.t (.t (.t (.t (.t (.t .h)))))))) (fun hp=>rZ (l:=aa.Results.length) Re.h (.tmp rfl rfl) (zB hp)) ?_
                       refine iM (t:=68) rfl rfl rfl ?_
                       refine aN (VZ (i:=(aa.Results.length:Int)) (j:=100) (.tmp rfl rfl) (.int _ _)) ?_
                       refine aN (dU (b:=true) (u:=(.bool (decide (((aa.Results.length:Int):Int)<=100)))) (v:=(.bool false)) (.tmp rfl rfl) (.tmp rfl rfl) (.bool _)) ?_
                       refine Ca (.bool (decide (((aa.Results.length:Int):Int)<=100))) rfl rfl ?_
                       refine df ?_
                       obtain rfl:=Option.some.inj hF
                       exact⟨_,_,rfl,(b_.cons rfl (b_.nil)).eq,(.sel .nil)⟩
                     rw[Tm]
                     try rw[Tm]at hF; dsimp only[cond_true,cond_false]at hF
                     iterate 4 refine gT (t:=68) rfl rfl rfl ?_
                     refine aN (dU (b:=false) (u:=undef) (v:=(.bool false)) (.tmp rfl rfl) (.tmp rfl rfl) (.bool _)) ?_
                     refine Ca (.bool false) rfl rfl ?_
                     refine df ?_
                     obtain rfl:=Option.some.inj hF
                     exact⟨_,_,rfl,(b_.cons rfl (b_.nil)).eq,(.sel .nil)⟩
                   rw[rJ]
                   try rw[rJ]at hF; dsimp only[cond_true,cond_false]at hF
                   iterate 3 refine gT (t:=63) rfl rfl rfl ?_
                   refine aN (dU (b:=false) (u:=undef) (v:=(.bool false)) (.tmp rfl rfl) (.tmp rfl rfl) (.bool _)) ?_
                   refine Cm (.bool false) rfl rfl ?_
                   iterate 4 refine gT (t:=68) rfl rfl rfl ?_
                   refine aN (dU (b:=false) (u:=undef) (v:=(.bool false)) (.tmp rfl rfl) (.tmp rfl rfl) (.bool _)) ?_
                   refine Ca (.bool false) rfl rfl ?_
                   refine df ?_
                   obtain rfl:=Option.some.inj hF
                   exact⟨_,_,rfl,(b_.cons rfl (b_.nil)).eq,(.sel .nil)⟩
                 rw[rf]
                 try rw[rf]at hF; dsimp only[cond_true,cond_false]at hF
                 iterate 3 refine gT (t:=58) rfl rfl rfl ?_
                 refine aN (dU (b:=false) (u:=undef) (v:=(.bool false)) (.tmp rfl rfl) (.tmp rfl rfl) (.bool _)) ?_
                 refine Cm (.bool false) rfl rfl ?_
                 iterate 3 refine gT (t:=63) rfl rfl rfl ?_
                 refine aN (dU (b:=false) (u:=undef) (v:=(.bool false)) (.tmp rfl rfl) (.tmp rfl rfl) (.bool _)) ?_
                 refine Cm (.bool false) rfl rfl ?_
                 iterate 4 refine gT (t:=68) rfl rfl rfl ?_
                 refine aN (dU (b:=false) (u:=undef) (v:=(.bool false)) (.tmp rfl rfl) (.tmp rfl rfl) (.bool _)) ?_
                 refine Ca (.bool false) rfl rfl ?_
                 refine df ?_
                 obtain rfl:=Option.some.inj hF
                 exact⟨_,_,rfl,(b_.cons rfl (b_.nil)).eq,(.sel .nil)⟩
               rw[yV]
               try rw[yV]at hF; dsimp only[cond_true,cond_false]at hF
               iterate 7 refine gT (t:=49) rfl rfl rfl ?_
               refine aN (dU (b:=false) (u:=undef) (v:=(.bool false)) (.tmp rfl rfl) (.tmp rfl rfl) (.bool _)) ?_
               refine Cm (.bool false) rfl rfl ?_
               iterate 3 refine gT (t:=58) rfl rfl rfl ?_
               refine aN (dU (b:=false) (u:=undef) (v:=(.bool false)) (.tmp rfl rfl) (.tmp rfl rfl) (.bool _)) ?_
               refine Cm (.bool false) rfl rfl ?_
               iterate 3 refine gT (t:=63) rfl rfl rfl ?_
               refine aN (dU (b:=false) (u:=undef) (v:=(.bool false)) (.tmp rfl rfl) (.tmp rfl rfl) (.bool _)) ?_
               refine Cm (.bool false) rfl rfl ?_
               iterate 4 refine gT (t:=68) rfl rfl rfl ?_
               refine aN (dU (b:=false) (u:=undef) (v:=(.bool false)) (.tmp rfl rfl) (.tmp rfl rfl) (.bool _)) ?_
               refine Ca (.bool false) rfl rfl ?_
               refine df ?_
               obtain rfl:=Option.some.inj hF
               exact⟨_,_,rfl,(b_.cons rfl (b_.nil)).eq,(.sel .nil)⟩
             rw[Tk]
             try rw[Tk]at hF; dsimp only[cond_true,cond_false]at hF
             iterate 5 refine gT (t:=42) rfl rfl rfl ?_
             refine aN (dU (b:=false) (u:=undef) (v:=(.bool false)) (.tmp rfl rfl) (.tmp rfl rfl) (.bool _)) ?_
             refine Cm (.bool false) rfl rfl ?_
             iterate 7 refine gT (t:=49) rfl rfl rfl ?_
             refine aN (dU (b:=false) (u:=undef) (v:=(.bool false)) (.tmp rfl rfl) (.tmp rfl rfl) (.bool _)) ?_
             refine Cm (.bool false) rfl rfl ?_
             iterate 3 refine gT (t:=58) rfl rfl rfl ?_
             refine aN (dU (b:=false) (u:=undef) (v:=(.bool false)) (.tmp rfl rfl) (.tmp rfl rfl) (.bool _)) ?_
             refine Cm (.bool false) rfl rfl ?_
             iterate 3 refine gT (t:=63) rfl rfl rfl ?_
             refine aN (dU (b:=false) (u:=undef) (v:=(.bool false)) (.tmp rfl rfl) (.tmp rfl rfl) (.bool _)) ?_
             refine Cm (.bool false) rfl rfl ?_
             iterate 4 refine gT (t:=68) rfl rfl rfl ?_
             refine aN (dU (b:=false) (u:=undef) (v:=(.bool false)) (.tmp rfl rfl) (.tmp rfl rfl) (.bool _)) ?_
             refine Ca (.bool false) rfl rfl ?_
             refine df ?_
             obtain rfl:=Option.some.inj hF
             exact⟨_,_,rfl,(b_.cons rfl (b_.nil)).eq,(.sel .nil)⟩
           rw[ku]
           try rw[ku]at hF; dsimp only[cond_true,cond_false]at hF
           iterate 4 refine gT (t:=36) rfl rfl rfl ?_
           refine aN (dU (b:=false) (u:=undef) (v:=(.bool false)) (.tmp rfl rfl) (.tmp rfl rfl) (.bool _)) ?_
           refine Cm (.bool false) rfl rfl ?_
           iterate 5 refine gT (t:=42) rfl rfl rfl ?_
           refine aN (dU (b:=false) (u:=undef) (v:=(.bool false)) (.tmp rfl rfl) (.tmp rfl rfl) (.bool _)) ?_
           refine Cm (.bool false) rfl rfl ?_
           iterate 7 refine gT (t:=49) rfl rfl rfl ?_
           refine aN (dU (b:=false) (u:=undef) (v:=(.bool false)) (.tmp rfl rfl) (.tmp rfl rfl) (.bool _)) ?_
           refine Cm (.bool false) rfl rfl ?_
           iterate 3 refine gT (t:=58) rfl rfl rfl ?_
           refine aN (dU (b:=false) (u:=undef) (v:=(.bool false)) (.tmp rfl rfl) (.tmp rfl rfl) (.bool _)) ?_
           refine Cm (.bool false) rfl rfl ?_
           iterate 3 refine gT (t:=63) rfl rfl rfl ?_
           refine aN (dU (b:=false) (u:=undef) (v:=(.bool false)) (.tmp rfl rfl) (.tmp rfl rfl) (.bool _)) ?_
           refine Cm (.bool false) rfl rfl ?_
           iterate 4 refine gT (t:=68) rfl rfl rfl ?_
           refine aN (dU (b:=false) (u:=undef) (v:=(.bool false)) (.tmp rfl rfl) (.tmp rfl rfl) (.bool _)) ?_
           refine Ca (.bool false) rfl rfl ?_
           refine df ?_
           obtain rfl:=Option.some.inj hF
           exact⟨_,_,rfl,(b_.cons rfl (b_.nil)).eq,(.sel .nil)⟩
         rw[iN]
         try rw[iN]at hF; dsimp only[cond_true,cond_false]at hF
         iterate 3 refine gT (t:=31) rfl rfl rfl ?_
         refine aN (dU (b:=false) (u:=undef) (v:=(.bool false)) (.tmp rfl rfl) (.tmp rfl rfl) (.bool _)) ?_
         refine Cm (.bool false) rfl rfl ?_
         iterate 4 refine gT (t:=36) rfl rfl rfl ?_
         refine aN (dU (b:=false) (u:=undef) (v:=(.bool false)) (.tmp rfl rfl) (.tmp rfl rfl) (.bool _)) ?_
         refine Cm (.bool false) rfl rfl ?_
         iterate 5 refine gT (t:=42) rfl rfl rfl ?_
         refine aN (dU (b:=false) (u:=undef) (v:=(.bool false)) (.tmp rfl rfl) (.tmp rfl rfl) (.bool _)) ?_
         refine Cm (.bool false) rfl rfl ?_
         iterate 7 refine gT (t:=49) rfl rfl rfl ?_
         refine aN (dU (b:=false) (u:=undef) (v:=(.bool false)) (.tmp rfl rfl) (.tmp rfl rfl) (.bool _)) ?_
         refine Cm (.bool false) rfl rfl ?_
         iterate 3 refine gT (t:=58) rfl rfl rfl ?_
         refine aN (dU (b:=false) (u:=undef) (v:=(.bool false)) (.tmp rfl rfl) (.tmp rfl rfl) (.bool _)) ?_
         refine Cm (.bool false) rfl rfl ?_
         iterate 3 refine gT (t:=63) rfl rfl rfl ?_
         refine aN (dU (b:=false) (u:=undef) (v:=(.bool false)) (.tmp rfl rfl) (.tmp rfl rfl) (.bool _)) ?_
         refine Cm (.bool false) rfl rfl ?_
         iterate 4 refine gT (t:=68) rfl rfl rfl ?_
         refine aN (dU (b:=false) (u:=undef) (v:=(.bool false)) (.tmp rfl rfl) (.tmp rfl rfl) (.bool _)) ?_
         refine Ca (.bool false) rfl rfl ?_
         refine df ?_
         obtain rfl:=Option.some.inj hF
         exact⟨_,_,rfl,(b_.cons rfl (b_.nil)).eq,(.sel .nil)⟩
       rw[jJ]
       try rw[jJ]at hF; dsimp only[cond_true,cond_false]at hF
       iterate 7 refine gT (t:=22) rfl rfl rfl ?_
       refine aN (dU (b:=false) (u:=undef) (v:=(.bool false)) (.tmp rfl rfl) (.tmp rfl rfl) (.bool _)) ?_
       refine Cm (.bool false) rfl rfl ?_
       iterate 3 refine gT (t:=31) rfl rfl rfl ?_
       refine aN (dU (b:=false) (u:=undef) (v:=(.bool false)) (.tmp rfl rfl) (.tmp rfl rfl) (.bool _)) ?_
       refine Cm (.bool false) rfl rfl ?_
       iterate 4 refine gT (t:=36) rfl rfl rfl ?_
       refine aN (dU (b:=false) (u:=undef) (v:=(.bool false)) (.tmp rfl rfl) (.tmp rfl rfl) (.bool _)) ?_
       refine Cm (.bool false) rfl rfl ?_
       iterate 5 refine gT (t:=42) rfl rfl rfl ?_
       refine aN (dU (b:=false) (u:=undef) (v:=(.bool false)) (.tmp rfl rfl) (.tmp rfl rfl) (.bool _)) ?_
       refine Cm (.bool false) rfl rfl ?_
       iterate 7 refine gT (t:=49) rfl rfl rfl ?_
       refine aN (dU (b:=false) (u:=undef) (v:=(.bool false)) (.tmp rfl rfl) (.tmp rfl rfl) (.bool _)) ?_
       refine Cm (.bool false) rfl rfl ?_
       iterate 3 refine gT (t:=58) rfl rfl rfl ?_
       refine aN (dU (b:=false) (u:=undef) (v:=(.bool false)) (.tmp rfl rfl) (.tmp rfl rfl) (.bool _)) ?_
       refine Cm (.bool false) rfl rfl ?_
       iterate 3 refine gT (t:=63) rfl rfl rfl ?_
       refine aN (dU (b:=false) (u:=undef) (v:=(.bool false)) (.tmp rfl rfl) (.tmp rfl rfl) (.bool _)) ?_
       refine Cm (.bool false) rfl rfl ?_
       iterate 4 refine gT (t:=68) rfl rfl rfl ?_
       refine aN (dU (b:=false) (u:=undef) (v:=(.bool false)) (.tmp rfl rfl) (.tmp rfl rfl) (.bool _)) ?_
       refine Ca (.bool false) rfl rfl ?_
       refine df ?_
       obtain rfl:=Option.some.inj hF
       exact⟨_,_,rfl,(b_.cons rfl (b_.nil)).eq,(.sel .nil)⟩
     rw[dS]
     try rw[dS]at hF; dsimp only[cond_true,cond_false]at hF
     iterate 5 refine gT (t:=15) rfl rfl rfl ?_
     refine aN (dU (b:=false) (u:=undef) (v:=(.bool false)) (.tmp rfl rfl) (.tmp rfl rfl) (.bool _)) ?_
     refine Cm (.bool false) rfl rfl ?_
     iterate 7 refine gT (t:=22) rfl rfl rfl ?_
     refine aN (dU (b:=false) (u:=undef) (v:=(.bool false)) (.tmp rfl rfl) (.tmp rfl rfl) (.bool _)) ?_
     refine Cm (.bool false) rfl rfl ?_
     iterate 3 refine gT (t:=31) rfl rfl rfl ?_
     refine aN (dU (b:=false) (u:=undef) (v:=(.bool false)) (.tmp rfl rfl) (.tmp rfl rfl) (.bool _)) ?_
     refine Cm (.bool false) rfl rfl ?_
     iterate 4 refine gT (t:=36) rfl rfl rfl ?_
     refine aN (dU (b:=false) (u:=undef) (v:=(.bool false)) (.tmp rfl rfl) (.tmp rfl rfl) (.bool _)) ?_
     refine Cm (.bool false) rfl rfl ?_
     iterate 5 refine gT (t:=42) rfl rfl rfl ?_
     refine aN (dU (b:=false) (u:=undef) (v:=(.bool false)) (.tmp rfl rfl) (.tmp rfl rfl) (.bool _)) ?_
     refine Cm (.bool false) rfl rfl ?_
     iterate 7 refine gT (t:=49) rfl rfl rfl ?_
     refine aN (dU (b:=false) (u:=undef) (v:=(.bool false)) (.tmp rfl rfl) (.tmp rfl rfl) (.bool _)) ?_
     refine Cm (.bool false) rfl rfl ?_
     iterate 3 refine gT (t:=58) rfl rfl rfl ?_
     refine aN (dU (b:=false) (u:=undef) (v:=(.bool false)) (.tmp rfl rfl) (.tmp rfl rfl) (.bool _)) ?_
     refine Cm (.bool false) rfl rfl ?_
     iterate 3 refine gT (t:=63) rfl rfl rfl ?_
     refine aN (dU (b:=false) (u:=undef) (v:=(.bool false)) (.tmp rfl rfl) (.tmp rfl rfl) (.bool _)) ?_
     refine Cm (.bool false) rfl rfl ?_
     iterate 4 refine gT (t:=68) rfl rfl rfl ?_
     refine aN (dU (b:=false) (u:=undef) (v:=(.bool false)) (.tmp rfl rfl) (.tmp rfl rfl) (.bool _)) ?_
     refine Ca (.bool false) rfl rfl ?_
     refine df ?_
     obtain rfl:=Option.some.inj hF
     exact⟨_,_,rfl,(b_.cons rfl (b_.nil)).eq,(.sel .nil)⟩
   rw[bq]
   try rw[bq]at hF; dsimp only[cond_true,cond_false]at hF
   iterate 5 refine gT (t:=8) rfl rfl rfl ?_
   refine aN (dU (b:=false) (u:=undef) (v:=(.bool false)) (.tmp rfl rfl) (.tmp rfl rfl) (.bool _)) ?_
   refine Cm (.bool false) rfl rfl ?_
   iterate 5 refine gT (t:=15) rfl rfl rfl ?_
   refine aN (dU (b:=false) (u:=undef) (v:=(.bool false)) (.tmp rfl rfl) (.tmp rfl rfl) (.bool _)) ?_
   refine Cm (.bool false) rfl rfl ?_
   iterate 7 refine gT (t:=22) rfl rfl rfl ?_
   refine aN (dU (b:=false) (u:=undef) (v:=(.bool false)) (.tmp rfl rfl) (.tmp rfl rfl) (.bool _)) ?_
   refine Cm (.bool false) rfl rfl ?_
   iterate 3 refine gT (t:=31) rfl rfl rfl ?_
   refine aN (dU (b:=false) (u:=undef) (v:=(.bool false)) (.tmp rfl rfl) (.tmp rfl rfl) (.bool _)) ?_
   refine Cm (.bool false) rfl rfl ?_
   iterate 4 refine gT (t:=36) rfl rfl rfl ?_
   refine aN (dU (b:=false) (u:=undef) (v:=(.bool false)) (.tmp rfl rfl) (.tmp rfl rfl) (.bool _)) ?_
   refine Cm (.bool false) rfl rfl ?_
   iterate 5 refine gT (t:=42) rfl rfl rfl ?_
   refine aN (dU (b:=false) (u:=undef) (v:=(.bool false)) (.tmp rfl rfl) (.tmp rfl rfl) (.bool _)) ?_
   refine Cm (.bool false) rfl rfl ?_
   iterate 7 refine gT (t:=49) rfl rfl rfl ?_
   refine aN (dU (b:=false) (u:=undef) (v:=(.bool false)) (.tmp rfl rfl) (.tmp rfl rfl) (.bool _)) ?_
   refine Cm (.bool false) rfl rfl ?_
   iterate 3 refine gT (t:=58) rfl rfl rfl ?_
   refine aN (dU (b:=false) (u:=undef) (v:=(.bool false)) (.tmp rfl rfl) (.tmp rfl rfl) (.bool _)) ?_
   refine Cm (.bool false) rfl rfl ?_
   iterate 3 refine gT (t:=63) rfl rfl rfl ?_
   refine aN (dU (b:=false) (u:=undef) (v:=(.bool false)) (.tmp rfl rfl) (.tmp rfl rfl) (.bool _)) ?_
   refine Cm (.bool false) rfl rfl ?_
   iterate 4 refine gT (t:=68) rfl rfl rfl ?_
   refine aN (dU (b:=false) (u:=undef) (v:=(.bool false)) (.tmp rfl rfl) (.tmp rfl rfl) (.bool _)) ?_
   refine Ca (.bool false) rfl rfl ?_
   refine df ?_
   obtain rfl:=Option.some.inj hF
   exact⟨_,_,rfl,(b_.cons rfl (b_.nil)).eq,(.sel .nil)⟩
 rintro _ _ ⟨Uf,g39,rfl,rfl,hE⟩
 replace hF:=hO3
 clear hO3
 try dsimp only at hF
 refine bu hE ?_
 refine qN ?_
 obtain rfl:=Option.some.inj hF
 exact gU () (.tmp rfl rfl .nil) rfl (.sel .nil)
def Ov(aS:Fact)(qh:Fact):Option (Bool):=
 (Ee aS qh).bind fun r3=>
 some ((r3:Int)==0)
theorem al4{aS:Fact}{aP:Sv}{qh:Fact}{aV:Sv}{R:Bool}(hF:Ov aS qh=some R):
   Fw.Spec Tryz.prog 63 [(zg [(zi aS.Rel),aP.v]),(zg [(zi qh.Rel),aV.v])] [ah aP aS.Values,ah aV qh.Values] (fun _:Unit=>(.bool R)) (fun _=>[]):=by
 refine Se 9 Tryz.func63 [.tmp 4] ?_
 intro H0 F0
 unfold Ov at hF
 refine au ?_
 refine bP (fun k1=>?_)
 refine bP (fun k2=>?_)
 refine aZ ?_
 refine bnd hF fun r3 hx4 hF=>bC (UI hx4) (fun _=>?_)
 exact ze hF
def Gv(kH:List Fact):List Fact->Nat->Option (Bool)
 |[],k4=>some true
 |x6::aM,k4=>(ix kH (k4:Int)).bind fun Ay=>
   (Ov x6 Ay).bind fun gX=>
   if (!gX)then (
     some false)
   else (
     Gv kH aM (k4+1))
def Un(j6:List Fact)(kH:List Fact):Option (Bool):=
 if (((j6.length:Int):Int)!=(kH.length:Int))then (
   some false)
 else (
   Gv kH j6 0)
theorem akG{j6:List Fact}{ae:Sv}{kH:List Fact}{ax:Sv}{R:Bool}(hF:Un j6 kH=some R):
   Fw.Spec Tryz.prog 62 [ae.v,ax.v,(.func (.func 63) [].toArray [].toArray)] [bH ae j6,bH ax kH] (fun _:Unit=>(.bool R)) (fun _=>[]):=by
 refine Se 32 Tryz.func62 [.tmp 6] ?_
 intro H0 F0
 unfold Un at hF
 refine CB ?_
 refine Ci hF (fun JB hF=>?_) (fun JB hF=>?_)
 · exact ze hF
 refine bJ ?_
 refine bn (bU (m:=j6.length) (fun m2 f' cs'=>∃(g:Fr)(k4:Nat)(aM:List Fact),m2=aM.length/\f'=aQ g [(1,ax.v),(2,(.func (.func 63) [].toArray [].toArray)),(15,ae.v),(16,(zi (j6.length:Int))),(17,(zi (k4:Int)))]/\List.drop k4 j6=aM/\aO cs' [bH ax kH,bH ae j6]/\Gv kH aM k4=some R) ⟨_,0,_,rfl,aA,rfl,ay,hF⟩ ?_)
 rintro m2 _ _ ⟨g3,k4,aM,rfl,rfl,hd7,hE,hF⟩
 refine Kb hE j6 (fun kY=>?_)
 rcases aM with _|⟨x6,aM⟩
 · have gH:=dn hd7
   rw[Gv]at hF
   refine bi ?_
   refine dL ?_
   exact ze hF
 obtain⟨gH,bZ,gG⟩:=dA hd7
 rw[Gv]at hF
 refine bi ?_
 refine dK ?_
 refine bi ?_
 refine Ai bZ (fun k13 oK=>?_)
 refine ni (lZ x6) mq (fun nA=>?_)
 refine d_ (fun k16=>?_)
 refine au ?_
 refine As (zg [(zi x6.Rel),nA.v]) ?_
 refine bi ?_
 refine zI hF fun Ay ajR wo hF=>?_
 refine Ai wo (fun k21 NB=>?_)
 refine ni (lZ Ay) mq (fun o6=>?_)
 refine d_ (fun k24=>?_)
 refine As (zg [(zi Ay.Rel),o6.v]) ?_
 refine aZ ?_
 refine bnd hF fun gX nL hF=>l9 (.rd .q4 rfl (.rd (.t .h) rfl .nil)) (qL awH.h (.tmp rfl rfl) cu (al4 nL)) (fun _=>?_)
 refine aU ?_
 refine Ci hF (fun Dg hF=>?_) (fun Dg hF=>?_)
 · exact ze hF
 refine aZ ?_
 rw[wk k4]
 exact⟨_,bY _,_,k4+1,aM,rfl,aA,gG,ay,hF⟩
def OY(aB:List Fact)(aR:List Fact):Option (Bool):=
 (Un aB aR).bind fun r1=>
 some r1
theorem amG{aB:List Fact}{ae:Sv}{aR:List Fact}{ax:Sv}{R:Bool}(hF:OY aB aR=some R):
   Fw.Spec Tryz.prog 27 [ae.v,ax.v] [bH ae aB,bH ax aR] (fun _:Unit=>(.bool R)) (fun _=>[]):=by
 refine Se 8 Tryz.func27 [.tmp 4] ?_
 intro H0 F0
 unfold OY at hF
 refine bE ?_
 refine bnd hF fun r1 hx2 hF=>bC (akG hx2) (fun _=>?_)
 exact ze hF
def OH(aB:Access):Option (Access):=
 (KX aB.Values).bind fun r3=>
 some (⟨aB.Method,r3⟩:Access)
theorem amj{aB:Access}{aP:Sv}{R:Access}(hF:OH aB=some R):
   Fw.Spec Tryz.prog 29 [(zg [(zi aB.Method),aP.v])] [ah aP aB.Values] (fun p:Sv×List Nat=>(zg [(zi R.Method),p.1.v])) (fun p=>[bI p.2 p.1 R.Values]):=by
 refine Se 9 Tryz.func29 [.cell 2 45] ?_
 intro H0 F0
 unfold OH at hF
 refine au ?_
 refine bP (fun k1=>?_)
 refine d_ (fun k2=>?_)
 refine au ?_
 refine dV [0,1,2,3,4,5,6] [0,1,0,4,12,31,63] [4,6] mixed (by decide+kernel) ?_
 refine nZ ?_
 refine bnd hF fun r3 hx4 hF=>qE (adS hx4) (fun p5=>?_)
 refine bN rfl .no (fun ha=>iD ky.h rfl (vs:=[(zi aB.Method),p5.1.v]) (.cons (EN ha (.tmp rfl rfl) rfl) (.cons (EN ha (.tmp rfl rfl) rfl) .nil)) (cells:=[(zi aB.Method),p5.1.v]) rfl) ?_
 refine cO rfl rfl .no (.cons (.t .h) .nil) .nil (fun ha=>gD (e':=(zg [(zi aB.Method),p5.1.v])) (v:=(zg [(zi aB.Method),p5.1.v])) ky.h.sz (EN ha (.tmp rfl rfl) rfl) (EN ha (.tmp rfl rfl) rfl) rfl rfl rfl rfl rfl) (fun _=>?_)
 refine du ?_
 refine au ?_
 cases hF
 exact Er (p5.1,p5.2)
def GD(aa:aY):List cB->Nat->(List Access)->Option ((List Access))
 |[],k12,c6=>some c6
 |vF::pG,k12,c6=>((LX aa.Methods aa.Source.Facts vF.Access).bind fun wS=>
     (OY vF.Facts wS).bind fun mX=>
     if (!mX)then (
       (OH vF.Access).bind fun qF=>
       (app c6 ([qF]:List Access)).bind fun z37=>
       some z37)
     else (
       some c6)).bind fun y9=>
   match y9 with
   |lW=>GD aa pG (k12+1) lW
def K6(aa:aY):Option ((List Access)):=
 (zq aa).bind fun r3=>
 if (!r3)then (
   some ([]:List Access))
 else (
   GD aa aa.Cache.Entries 0 ([]:List Access))
theorem aeq{aa:aY}{ae aP cz dB dw dE dG dI:Sv}{R:(List Access)}(hF:K6 aa=some R):
   Fw.Spec Tryz.prog 6 [(zg [ae.v,aP.v,cz.v,dB.v,(zi aa.Source.Version),dw.v,(zi aa.Cache.Age),(zi aa.Now),dE.v,dG.v,(zi aa.Spent),dI.v])] [ah ae aa.Schema,bW aP aa.Methods,fq cz aa.Rules,bH dB aa.Source.Facts,dM dw aa.Cache.Entries,eH dE aa.Log,ah dG aa.Times,bB (aD 152 (aD 24 (aD 3 az))) dI.v aa.Results] (fun p:Sv×List Nat=>p.1.v) (fun p=>[kK p.2 p.1 R]):=by
 refine Se 39 Tryz.func6 [.tmp 2] ?_
 intro H0 F0
 unfold K6 at hF
 refine au ?_
 refine bP (fun k1=>?_)
 refine bv ?_
 refine dH rfl (bQ (g:=true) pR.h ky.h .nil (vs:=[]) rfl rfl rfl (by simp)) (fun k2=>?_)
 refine dR (.cons .h .nil) (bS (Ro:=nk) (E:=45) (F:=[]) (xs:=([]:List Access)) bR rfl rfl) ?_
 refine aZ ?_
 refine bnd hF fun r3 hx4 hF=>bC (KZ hx4) (fun _=>?_)
 refine aU ?_
 refine Ci hF (fun acw hF=>?_) (fun acw hF=>?_)
 · refine aZ ?_
   cases hF
   exact Er (⟨(some ⟨k2,0,none⟩),0,1⟩,(k2::[]))
 refine gF ?_
 refine bn (bU (m:=aa.Cache.Entries.length) (fun m10 f' cs'=>∃(g:Fr)(k12:Nat)(pG:List cB)(c6:List Access)(v7:Sv)(F8:List Nat),m10=pG.length/\f'=aQ g [(1,(pz k1)),(3,v7.v),(13,dw.v),(14,(zi (aa.Cache.Entries.length:Int))),(15,(zi (k12:Int)))]/\List.drop k12 aa.Cache.Entries=pG/\aO cs' [aX k1 36 (zg [ae.v,aP.v,cz.v,dB.v,(zi aa.Source.Version),dw.v,(zi aa.Cache.Age),(zi aa.Now),dE.v,dG.v,(zi aa.Spent),dI.v]),ah ae aa.Schema,bW aP aa.Methods,fq cz aa.Rules,bH dB aa.Source.Facts,dM dw aa.Cache.Entries,eH dE aa.Log,ah dG aa.Times,bB (aD 152 (aD 24 (aD 3 az))) dI.v aa.Results,kK F8 v7 c6]/\GD aa pG k12 c6=some R) ⟨_,0,_,_,⟨(some ⟨k2,0,none⟩),0,1⟩,(k2::[]),rfl,aA,rfl,ay,hF⟩ ?_)
 rintro m10 _ _ ⟨g11,k12,pG,c6,v7,F8,rfl,rfl,rF,hE,hF⟩
 refine Kb hE aa.Cache.Entries (fun auD=>?_)
 rcases pG with _|⟨vF,pG⟩
 · have adc:=dn rF
   rw[GD]at hF
   refine bi ?_
   refine dL ?_
   refine gF ?_
   cases hF
   exact Er (v7,F8)
 obtain⟨adc,jO,ade⟩:=dA rF
 rw[GD]at hF
 refine bi ?_
 refine dK ?_
 refine au ?_
 obtain⟨y9,Qo,Rw⟩:=bind_some hF
 refine iF (fun f' cs'=>∃(lW:List Access)(v42:Sv)(xA:List Nat)(g:Fr),lW=y9/\f'=aQ g [(1,(pz k1)),(3,v42.v),(13,dw.v),(14,(zi (aa.Cache.Entries.length:Int))),(15,(zi (k12:Int)))]/\aO cs' [aX k1 36 (zg [ae.v,aP.v,cz.v,dB.v,(zi aa.Source.Version),dw.v,(zi aa.Cache.Age),(zi aa.Now),dE.v,dG.v,(zi aa.Spent),dI.v]),ah ae aa.Schema,bW aP aa.Methods,fq cz aa.Rules,bH dB aa.Source.Facts,dM dw aa.Cache.Entries,eH dE aa.Log,ah dG aa.Times,bB (aD 152 (aD 24 (aD 3 az))) dI.v aa.Results,kK xA v42 lW]) ?_ ?_
 · replace hF:=Qo
   refine bn (dC (MF (a:=vF) u_.h qz.h.sz (.tmp rfl rfl) (.tmp rfl rfl) .q5 (Int.natCast_nonneg k12) jO (fun k23 Yn=>?_)))
   refine yj (wV vF) xQ (fun p25=>?_)
   refine d_ (fun k26=>?_)
   refine As (zg [(zi vF.Access.Method),p25.1.v,p25.2.v,(zi vF.At)]) ?_
   refine au ?_
   refine dV [0,1,2,3,4,5,6,7,8,9,10,11] [0,1,0,4,0,16,48,0,128,508,1023,2047] [9,10] mixed (by decide+kernel) ?_
   refine du ?_
   refine dO rfl .no .h (fun ha hp=>fw (v:=p25.2.v) ym.h (EN ha (.tmp rfl rfl) rfl) hp.2 rfl rfl) ?_
   refine xn ?_
   refine dO rfl .no .h (fun ha hp=>j_ (s:=2) (l:=[(zi vF.Access.Method),p25.1.v]) vY.h ky.h.sz (EN ha (.tmp rfl rfl) rfl) hp.2 rfl (by decide) (Nat.le_of_ble_eq_true rfl) rfl) ?_
   refine bnd hF fun wS hx28 hF=>cO rfl rfl .no (.rd .q6 rfl (.rd .q8 rfl (.rd (.t .h) rfl .nil))) (.dep rfl (.own .h (fun _ h=>h) .nil)) (fun ha=>bV awz.h (.cons (EN ha (.tmp rfl rfl) rfl) (.cons (EN ha (.tmp rfl rfl) rfl) (.cons (EN ha (.tmp rfl rfl) rfl) .nil))) (afK hx28)) (fun p29=>?_)
   refine bnd hF fun mX hx31 hF=>cO rfl rfl .no (.cons .h (.rd .q2 rfl .nil)) (.dep rfl (.dep rfl .nil)) (fun ha=>jV aG (fun _=>.nil) (jm (.rd (.t .h) rfl (.rd .h rfl .nil)) (bV awG.h (.cons (EN ha (.tmp rfl rfl) rfl) (.cons (EN ha (.tmp rfl rfl) rfl) .nil)) (amG hx31)))) (fun _=>?_)
   refine bX ?_
   refine Ci hF (fun Rv hF=>?_) (fun Rv hF=>?_)
   · refine bv ?_
     refine eu (.t .h) (fun hp=>j_ (s:=2) (l:=[(zi vF.Access.Method),p25.1.v]) vY.h ky.h.sz (.tmp rfl rfl) hp.2 rfl (by decide) (Nat.le_of_ble_eq_true rfl) rfl) ?_
     refine bnd hF fun qF hx34 hF=>gB (amj hx34) (fun p35=>?_)
     refine dH rfl (bQ (g:=true) pR.h ky.h cu (vs:=[(zg [(zi qF.Method),p35.1.v])]) rfl rfl rfl (by intro v hv; simp at hv; rcases hv with rfl<;>rfl)) (fun nE=>?_)
     refine dR (.cons .h (.cons .h .nil)) (bS (Ro:=nk) (E:=45) (F:=(p35.2++[])) (xs:=([qF]:List Access)) (ed W_ bR cK) rfl rfl) ?_
     refine bnd hF fun z37 hx38 hF=>ek (.cons (.t (.t (.t (.t (.t (.t (.t (.t (.t (.t (.t (.t (.t (.t (.t .h))))))))))))))) (.cons .h .nil)) (dX (Ro:=nk) pR.h Rc ky.h rfl rfl rfl (.tmp rfl rfl) (.tmp rfl rfl) hx38 fU) (fun p39=>?_)
     refine aU ?_
     cases hF
     exact⟨_,p39.1,p39.2,_,rfl,aA,ay⟩
   refine au ?_
   cases hF
   exact⟨_,v7,F8,_,rfl,aA,ay⟩
 rintro _ _ ⟨lW,v42,xA,g45,rfl,rfl,hE⟩
 replace hF:=Rw
 try dsimp only at hF
 refine bu hE ?_
 refine bi ?_
 rw[wk k12]
 exact⟨_,bY _,_,k12+1,pG,_,v42,xA,rfl,aA,ade,ay,hF⟩
def Hd(aR:List Fact):List Fact->Nat->Option (Bool)
 |[],k4=>some true
 |x6::aM,k4=>(ix aR (k4:Int)).bind fun oh=>
   (xL x6 oh).bind fun uI=>
   if ((uI:Int)!=0)then (
     some false)
   else (
     Hd aR aM (k4+1))
def Iy(aB:List Fact)(aR:List Fact):Option (Bool):=
 if (((aB.length:Int):Int)!=(aR.length:Int))then (
   some false)
 else (
   Hd aR aB 0)
theorem Y2{aB:List Fact}{ae:Sv}{aR:List Fact}{ax:Sv}{R:Bool}(hF:Iy aB aR=some R):
   Fw.Spec Tryz.prog 19 [ae.v,ax.v] [bH ae aB,bH ax aR] (fun _:Unit=>(.bool R)) (fun _=>[]):=by
 refine Se 27 Tryz.func19 [.tmp 4] ?_
 intro H0 F0
 unfold Iy at hF
 refine CB ?_
 refine Ci hF (fun yz hF=>?_) (fun yz hF=>?_)
 · exact ze hF
 refine aZ ?_
 refine bn (bU (m:=aB.length) (fun m2 f' cs'=>∃(g:Fr)(k4:Nat)(aM:List Fact),m2=aM.length/\f'=aQ g [(0,ae.v),(1,ax.v),(5,(zi (k4:Int)))]/\List.drop k4 aB=aM/\aO cs' [bH ae aB,bH ax aR]/\Hd aR aM k4=some R) ⟨_,0,_,rfl,aA,rfl,ay,hF⟩ ?_)
 rintro m2 _ _ ⟨g3,k4,aM,rfl,rfl,hd7,hE,hF⟩
 refine Kb hE aB (fun kY=>?_)
 rcases aM with _|⟨x6,aM⟩
 · have gH:=dn hd7
   rw[Hd]at hF
   refine bJ ?_
   refine dL ?_
   exact ze hF
 obtain⟨gH,bZ,gG⟩:=dA hd7
 rw[Hd]at hF
 refine bJ ?_
 refine dK ?_
 refine aU ?_
 refine dV [0,1,2,3,4,5,6,7,8,9] [0,0,3,7,0,0,48,112,255,511] [8] mixed (by decide+kernel) ?_
 refine bX ?_
 refine Di bZ (fun k13 oK=>?_)
 refine jR (lZ x6) mq (fun nA=>?_)
 refine bX ?_
 refine zI hF fun oh M9 kR hF=>?_
 refine Di kR (fun k20 DF=>?_)
 refine jR (lZ oh) mq (fun AA=>?_)
 refine bnd hF fun uI hx24 hF=>fu (NY hx24) (fun _=>?_)
 refine bX ?_
 refine Ci hF (fun JF hF=>?_) (fun JF hF=>?_)
 · exact ze hF
 refine bE ?_
 rw[wk k4]
 exact⟨_,bY _,_,k4+1,aM,rfl,aA,gG,ay,hF⟩
def AP(aa:aY):Nat->(List Access)->Int->Option ((List Access))
 |0,_,_=>none
 |m7+1,c3,c6=>(bif (decide ((c6:Int)<(aa.Cache.Entries.length:Int)))then ((qK aa).bind fun nz=>
       some nz)
     else (some false)).bind fun o15=>
   match o15 with
   |c21=>if c21 then (
       ((ix aa.Cache.Entries c6).bind fun x24=>
         (ix aa.Methods x24.Access.Method).bind fun x32=>
         (EI x32 x24.Access.Values aa.Source.Facts).bind fun wR=>
         (Iy x24.Facts wR).bind fun AJ=>
         if (!AJ)then (
           (Bc x24.Access.Method x24.Access.Values).bind fun sN=>
           (app c3 ([sN]:List Access)).bind fun z49=>
           some z49)
         else (
           some c3)).bind fun o22=>
       match o22 with
       |c53=>AP aa m7 c53 (IntKind.i64.wrap (c6+1)))
     else (
       some c3)
def K7(aa:aY):Option ((List Access)):=
 AP aa (((aa.Cache.Entries.length:Int)-0).toNat+2) ([]:List Access) 0
theorem aer{aa:aY}{ae aP cz dB dw dE dG dI:Sv}{R:(List Access)}(hF:K7 aa=some R):
   Fw.Spec Tryz.prog 8 [(zg [ae.v,aP.v,cz.v,dB.v,(zi aa.Source.Version),dw.v,(zi aa.Cache.Age),(zi aa.Now),dE.v,dG.v,(zi aa.Spent),dI.v])] [ah ae aa.Schema,bW aP aa.Methods,fq cz aa.Rules,bH dB aa.Source.Facts,dM dw aa.Cache.Entries,eH dE aa.Log,ah dG aa.Times,bB (aD 152 (aD 24 (aD 3 az))) dI.v aa.Results] (fun p:Sv×List Nat=>p.1.v) (fun p=>[kK p.2 p.1 R]):=by
 refine Se 54 Tryz.func8 [.tmp 2] ?_
 intro H0 F0
 unfold K7 at hF
 refine au ?_
 refine bP (fun k1=>?_)
 refine bv ?_
 refine dH rfl (bQ (g:=true) pR.h ky.h .nil (vs:=[]) rfl rfl rfl (by simp)) (fun k2=>?_)
 refine dR (.cons .h .nil) (bS (Ro:=nk) (E:=45) (F:=[]) (xs:=([]:List Access)) bR rfl rfl) ?_
 refine bE ?_
 refine bn (bU (m:=(((aa.Cache.Entries.length:Int)-0).toNat+2)) (fun m7 f' cs'=>∃(g:Fr)(c3:List Access)(c6:Int)(v4:Sv)(F5:List Nat),f'=aQ g [(1,(pz k1)),(3,v4.v),(4,(zi c6))]/\aO cs' [aX k1 36 (zg [ae.v,aP.v,cz.v,dB.v,(zi aa.Source.Version),dw.v,(zi aa.Cache.Age),(zi aa.Now),dE.v,dG.v,(zi aa.Spent),dI.v]),ah ae aa.Schema,bW aP aa.Methods,fq cz aa.Rules,bH dB aa.Source.Facts,dM dw aa.Cache.Entries,eH dE aa.Log,ah dG aa.Times,bB (aD 152 (aD 24 (aD 3 az))) dI.v aa.Results,kK F5 v4 c3]/\AP aa m7 c3 c6=some R) ⟨_,_,_,⟨(some ⟨k2,0,none⟩),0,1⟩,(k2::[]),aA,ay,hF⟩ ?_)
 rintro m7 _ _ ⟨g8,c3,c6,v4,F5,rfl,hE,hF⟩
 refine bu hE ?_
 rcases m7 with _|m7
 · rw[AP]at hF
   exact absurd hF (by simp)
 rw[AP]at hF
 refine au ?_
 obtain⟨o15,avs,ayy⟩:=bind_some hF
 refine au ?_
 refine fe (fun f' cs'=>∃(c21:Bool)(g:Fr),c21=o15/\f'=aQ g [(1,(pz k1)),(3,v4.v),(4,(zi c6)),(16,(.bool c21))]/\aO cs' [aX k1 36 (zg [ae.v,aP.v,cz.v,dB.v,(zi aa.Source.Version),dw.v,(zi aa.Cache.Age),(zi aa.Now),dE.v,dG.v,(zi aa.Spent),dI.v]),ah ae aa.Schema,bW aP aa.Methods,fq cz aa.Rules,bH dB aa.Source.Facts,dM dw aa.Cache.Entries,eH dE aa.Log,ah dG aa.Times,bB (aD 152 (aD 24 (aD 3 az))) dI.v aa.Results,kK F5 v4 c3]) ?_ ?_
 · replace hF:=avs
   refine bJ ?_
   rcases bD (decide ((c6:Int)<(aa.Cache.Entries.length:Int)))with lH|lH
   · rw[lH]
     try rw[lH]at hF; dsimp only[aJ,aI]at hF
     refine bv ?_
     refine bnd hF fun nz kR hF=>bC (vG kR) (fun _=>?_)
     exact bK hF
   rw[lH]
   try rw[lH]at hF; dsimp only[aJ,aI]at hF
   exact bK hF
 rintro _ _ ⟨c21,g58,rfl,rfl,hE⟩
 replace hF:=ayy
 try dsimp only at hF
 refine bu hE ?_
 refine Ci hF (fun Dh hF=>?_) (fun Dh hF=>?_)
 · refine au ?_
   obtain⟨o22,avt,ayz⟩:=bind_some hF
   refine iF (fun f' cs'=>∃(c53:List Access)(v54:Sv)(F55:List Nat)(g:Fr),c53=o22/\f'=aQ g [(1,(pz k1)),(3,v54.v),(4,(zi c6))]/\aO cs' [aX k1 36 (zg [ae.v,aP.v,cz.v,dB.v,(zi aa.Source.Version),dw.v,(zi aa.Cache.Age),(zi aa.Now),dE.v,dG.v,(zi aa.Spent),dI.v]),ah ae aa.Schema,bW aP aa.Methods,fq cz aa.Rules,bH dB aa.Source.Facts,dM dw aa.Cache.Entries,eH dE aa.Log,ah dG aa.Times,bB (aD 152 (aD 24 (aD 3 az))) dI.v aa.Results,kK F55 v54 c53]) ?_ ?_
   · replace hF:=avt
     refine bn (dC (aN (iK (off:=5) VW.h (.tmp rfl rfl)) ?_))
     refine bv ?_
     refine zI hF fun x24 ajQ hx27 hF=>?_
     refine Ai hx27 (fun k28 Yp=>?_)
     refine yj (wV x24) xQ (fun p30=>?_)
     refine d_ (fun Gl=>?_)
     refine As (zg [(zi x24.Access.Method),p30.1.v,p30.2.v,(zi x24.At)]) ?_
     refine au ?_
     refine dV [0,1,2,3,4,5,6,7,8,9,10,11,12,13,14,15,16,17] [0,1,0,4,0,16,48,124,252,0,512,1536,0,4096,12288,32764,65535,131071] [15,16] mixed (by decide+kernel) ?_
     refine du ?_
     refine dO rfl .no .h (fun ha hp=>fw (v:=p30.2.v) ym.h (EN ha (.tmp rfl rfl) rfl) hp.2 rfl rfl) ?_
     refine nZ ?_
     refine dO rfl .no .h (fun ha hp=>fw (v:=(zi x24.Access.Method)) qd.h (EN ha (.tmp rfl rfl) rfl) hp.2 rfl rfl) ?_
     refine zI hF fun x32 ayw yC hF=>?_
     refine Di yC (fun nE T_=>?_)
     refine jR (uO x32) vH (fun p38=>?_)
     refine bX ?_
     refine dO rfl .no .q2 (fun ha hp=>fw (v:=p30.1.v) iC.h (EN ha (.tmp rfl rfl) rfl) hp.2 rfl rfl) ?_
     refine dD ?_
     refine bnd hF fun wR uh hF=>cO rfl rfl .no (.rd .h rfl (.rd .q3 rfl (.rd .q10 rfl .nil))) (.dep rfl (.dep rfl (.own .q2 (fun _ h=>h) .nil))) (fun ha=>bV awp.h (.cons (EN ha (.tmp rfl rfl) rfl) (.cons (EN ha (.tmp rfl rfl) rfl) (.cons (EN ha (.tmp rfl rfl) rfl) .nil))) (Y1 uh)) (fun p41=>?_)
     refine bnd hF fun AJ qA hF=>cO rfl rfl .no (.cons .h (.rd .q4 rfl .nil)) (.dep rfl (.dep rfl (.dep rfl .nil))) (fun ha=>jV aG (fun _=>.nil) (jm (.rd (.t .h) rfl (.rd .h rfl .nil)) (bV ab4.h (.cons (EN ha (.tmp rfl rfl) rfl) (.cons (EN ha (.tmp rfl rfl) rfl) .nil)) (Y2 qA)))) (fun _=>?_)
     refine bX ?_
     refine Ci hF (fun ayA hF=>?_) (fun ayA hF=>?_)
     · refine dN ?_
       refine bnd hF fun sN FJ hF=>gB (Ol FJ) (fun p47=>?_)
       refine dH rfl (bQ (g:=true) pR.h ky.h cu (vs:=[(zg [(zi sN.Method),p47.1.v])]) rfl rfl rfl (by intro v hv; simp at hv; rcases hv with rfl<;>rfl)) (fun wK=>?_)
       refine dR (.cons .h (.cons .h .nil)) (bS (Ro:=nk) (E:=45) (F:=(p47.2++[])) (xs:=([sN]:List Access)) (ed W_ bR cK) rfl rfl) ?_
       refine bnd hF fun z49 Nc hF=>ek (.cons (.t (.t (.t (.t (.t (.t (.t (.t (.t (.t (.t (.t (.t (.t (.t (.t (.t .h))))))))))))))))) (.cons .h .nil)) (dX (Ro:=nk) pR.h Rc ky.h rfl rfl rfl (.tmp rfl rfl) (.tmp rfl rfl) Nc fU) (fun p51=>?_)
       refine aU ?_
       cases hF
       exact⟨_,p51.1,p51.2,_,rfl,aA,ay⟩
     refine au ?_
     cases hF
     exact⟨_,v4,F5,_,rfl,aA,ay⟩
   rintro _ _ ⟨c53,v54,F55,g56,rfl,rfl,hE⟩
   replace hF:=ayz
   try dsimp only at hF
   refine bu hE ?_
   refine aZ ?_
   exact⟨m7,bY _,_,_,_,v54,F55,aA,ay,hF⟩
 refine gF ?_
 cases hF
 exact Er (v4,F5)
def GG(aR:List Access):List Access->Nat->Option (Bool)
 |[],k4=>some true
 |x6::aM,k4=>(ix aR (k4:Int)).bind fun oh=>
   (zy x6 oh).bind fun uI=>
   if (!uI)then (
     some false)
   else (
     GG aR aM (k4+1))
def UT(aB:List Access)(aR:List Access):Option (Bool):=
 if (((aB.length:Int):Int)!=(aR.length:Int))then (
   some false)
 else (
   GG aR aB 0)
theorem alO{aB:List Access}{ae:Sv}{aR:List Access}{ax:Sv}{R:Bool}(hF:UT aB aR=some R):
   Fw.Spec Tryz.prog 7 [ae.v,ax.v] [eH ae aB,eH ax aR] (fun _:Unit=>(.bool R)) (fun _=>[]):=by
 refine Se 27 Tryz.func7 [.tmp 4] ?_
 intro H0 F0
 unfold UT at hF
 refine CB ?_
 refine Ci hF (fun yz hF=>?_) (fun yz hF=>?_)
 · exact ze hF
 refine aZ ?_
 refine bn (bU (m:=aB.length) (fun m2 f' cs'=>∃(g:Fr)(k4:Nat)(aM:List Access),m2=aM.length/\f'=aQ g [(0,ae.v),(1,ax.v),(5,(zi (k4:Int)))]/\List.drop k4 aB=aM/\aO cs' [eH ae aB,eH ax aR]/\GG aR aM k4=some R) ⟨_,0,_,rfl,aA,rfl,ay,hF⟩ ?_)
 rintro m2 _ _ ⟨g3,k4,aM,rfl,rfl,hd7,hE,hF⟩
 refine Kb hE aB (fun kY=>?_)
 rcases aM with _|⟨x6,aM⟩
 · have gH:=dn hd7
   rw[GG]at hF
   refine bJ ?_
   refine dL ?_
   exact ze hF
 obtain⟨gH,bZ,gG⟩:=dA hd7
 rw[GG]at hF
 refine bJ ?_
 refine dK ?_
 refine aU ?_
 refine dV [0,1,2,3,4,5,6,7,8,9] [0,0,3,7,0,0,48,112,255,511] [8] mixed (by decide+kernel) ?_
 refine bX ?_
 refine Di bZ (fun k13 oK=>?_)
 refine jR (xR x6) zu (fun nA=>?_)
 refine bX ?_
 refine zI hF fun oh M9 kR hF=>?_
 refine Di kR (fun k20 DF=>?_)
 refine jR (xR oh) zu (fun AA=>?_)
 refine bnd hF fun uI hx24 hF=>fu (U_ hx24) (fun _=>?_)
 refine bX ?_
 refine Ci hF (fun JF hF=>?_) (fun JF hF=>?_)
 · exact ze hF
 refine bE ?_
 rw[wk k4]
 exact⟨_,bY _,_,k4+1,aM,rfl,aA,gG,ay,hF⟩
def OZ(aa:aY):Option (Bool):=
 ((zq aa).bind fun r4=>
   bif r4 then ((K6 aa).bind fun r8=>
     some (((r8.length:Int):Int)==0))
   else (some false)).bind fun o2=>
 match o2 with
 |c11=>some c11
theorem amH{aa:aY}{ae aP cz dB dw dE dG dI:Sv}{R:Bool}(hF:OZ aa=some R):
   Fw.Spec Tryz.prog 9 [(zg [ae.v,aP.v,cz.v,dB.v,(zi aa.Source.Version),dw.v,(zi aa.Cache.Age),(zi aa.Now),dE.v,dG.v,(zi aa.Spent),dI.v])] [ah ae aa.Schema,bW aP aa.Methods,fq cz aa.Rules,bH dB aa.Source.Facts,dM dw aa.Cache.Entries,eH dE aa.Log,ah dG aa.Times,bB (aD 152 (aD 24 (aD 3 az))) dI.v aa.Results] (fun _:Unit=>(.bool R)) (fun _=>[]):=by
 refine Se 11 Tryz.func9 [.tmp 2] ?_
 intro H0 F0
 unfold OZ at hF
 refine au ?_
 refine bP (fun k1=>?_)
 refine aU ?_
 obtain⟨o2,gz,hO3⟩:=bind_some hF
 refine au ?_
 refine fe (fun f' cs'=>∃(c11:Bool)(g:Fr),c11=o2/\f'=aQ g [(2,(.bool c11))]/\aO cs' []) ?_ ?_
 · replace hF:=gz
   refine au ?_
   refine bnd hF fun r4 hx5 hF=>bC (KZ hx5) (fun _=>?_)
   refine au ?_
   rcases bD r4 with bq|bq
   · rw[bq]
     try rw[bq]at hF; dsimp only[aJ,aI]at hF
     refine bv ?_
     refine bnd hF fun r8 bZ hF=>gB (aeq bZ) (fun fT=>?_)
     exact bK hF
   rw[bq]
   try rw[bq]at hF; dsimp only[aJ,aI]at hF
   exact bK hF
 rintro _ _ ⟨c11,g12,rfl,rfl,hE⟩
 replace hF:=hO3
 try dsimp only at hF
 refine bu hE ?_
 exact ze hF
def O0(aa:aY):Option (Bool):=
 ((qK aa).bind fun r4=>
   bif r4 then ((K7 aa).bind fun r8=>
     some (((r8.length:Int):Int)==0))
   else (some false)).bind fun o2=>
 match o2 with
 |c11=>some c11
theorem amI{aa:aY}{ae aP cz dB dw dE dG dI:Sv}{R:Bool}(hF:O0 aa=some R):
   Fw.Spec Tryz.prog 10 [(zg [ae.v,aP.v,cz.v,dB.v,(zi aa.Source.Version),dw.v,(zi aa.Cache.Age),(zi aa.Now),dE.v,dG.v,(zi aa.Spent),dI.v])] [ah ae aa.Schema,bW aP aa.Methods,fq cz aa.Rules,bH dB aa.Source.Facts,dM dw aa.Cache.Entries,eH dE aa.Log,ah dG aa.Times,bB (aD 152 (aD 24 (aD 3 az))) dI.v aa.Results] (fun _:Unit=>(.bool R)) (fun _=>[]):=by
 refine Se 11 Tryz.func10 [.tmp 2] ?_
 intro H0 F0
 unfold O0 at hF
 refine au ?_
 refine bP (fun k1=>?_)
 refine aU ?_
 obtain⟨o2,gz,hO3⟩:=bind_some hF
 refine au ?_
 refine fe (fun f' cs'=>∃(c11:Bool)(g:Fr),c11=o2/\f'=aQ g [(2,(.bool c11))]/\aO cs' []) ?_ ?_
 · replace hF:=gz
   refine au ?_
   refine bnd hF fun r4 hx5 hF=>bC (vG hx5) (fun _=>?_)
   refine au ?_
   rcases bD r4 with bq|bq
   · rw[bq]
     try rw[bq]at hF; dsimp only[aJ,aI]at hF
     refine bv ?_
     refine bnd hF fun r8 bZ hF=>gB (aer bZ) (fun fT=>?_)
     exact bK hF
   rw[bq]
   try rw[bq]at hF; dsimp only[aJ,aI]at hF
   exact bK hF
 rintro _ _ ⟨c11,g12,rfl,rfl,hE⟩
 replace hF:=hO3
 try dsimp only at hF
 refine bu hE ?_
 exact ze hF
def PO(ai:List Method)(I8:Int):Option (Int):=
 ((o_ I8 0 (IntKind.i64.wrap ((ai.length:Int)-1))).bind fun r3=>
   bif (!r3)then (some true)
   else ((ix ai I8).bind fun x7=>
     (PL x7.Cost).bind fun o5=>
     some (!o5))).bind fun o1=>
 match o1 with
 |c16=>if c16 then (
     some 0)
   else (
     (ix ai I8).bind fun Ay=>
     some Ay.Cost)
theorem an_{ai:List Method}{ae:Sv}{I8 R:Int}(hF:PO ai I8=some R):
   Fw.Spec Tryz.prog 79 [ae.v,(zi I8)] [bW ae ai] (fun _:Unit=>(zi R)) (fun _=>[]):=by
 refine Se 25 Tryz.func79 [.tmp 4] ?_
 intro H0 F0
 unfold PO at hF
 refine bi ?_
 obtain⟨o1,yP,hO2⟩:=bind_some hF
 refine au ?_
 refine fe (fun f' cs'=>∃(c16:Bool)(g:Fr),c16=o1/\f'=aQ g [(0,ae.v),(1,(zi I8)),(19,(.bool c16))]/\aO cs' [bW ae ai]) ?_ ?_
 · replace hF:=yP
   refine bi ?_
   refine bnd hF fun r3 hx4 hF=>bC (sS hx4) (fun _=>?_)
   refine aU ?_
   rcases bD (!r3)with kv|kv
   · rw[kv]
     try rw[kv]at hF; dsimp only[aJ,aI]at hF
     exact bK hF
   rw[kv]
   try rw[kv]at hF; dsimp only[aJ,aI]at hF
   refine aZ ?_
   refine zI hF fun x7 hp9 jI hF=>?_
   refine Ai jI (fun k11 j12=>?_)
   refine bv ?_
   refine Al MC ?_
   refine au ?_
   refine bnd hF fun o5 kr hF=>bC (agd kr) (fun _=>?_)
   exact bK hF
 rintro _ _ ⟨c16,g24,rfl,rfl,hE⟩
 replace hF:=hO2
 try dsimp only at hF
 refine bu hE ?_
 refine Ci hF (fun yS hF=>?_) (fun yS hF=>?_)
 · exact ze hF
 refine bi ?_
 refine zI hF fun Ay ajR wo hF=>?_
 refine Ai wo (fun k21 NB=>?_)
 refine au ?_
 refine Al MC ?_
 exact ze hF
def Ig(ai:List Method):List Access->Nat->Int->Option (Int)
 |[],k5,c1=>some c1
 |x7::eQ,k5,c1=>(PO ai x7.Method).bind fun nz=>
   Ig ai eQ (k5+1) (IntKind.i64.wrap (c1+nz))
def Vr(ai:List Method)(lD:List Access):Option (Int):=
 Ig ai lD 0 0
theorem anP{ai:List Method}{ae:Sv}{lD:List Access}{ax:Sv}{R:Int}(hF:Vr ai lD=some R):
   Fw.Spec Tryz.prog 34 [ae.v,ax.v] [bW ae ai,eH ax lD] (fun _:Unit=>(zi R)) (fun _=>[]):=by
 refine Se 22 Tryz.func34 [.tmp 4] ?_
 intro H0 F0
 unfold Vr at hF
 refine Fs ?_
 refine bn (bU (m:=lD.length) (fun m3 f' cs'=>∃(g:Fr)(k5:Nat)(eQ:List Access)(c1:Int),m3=eQ.length/\f'=aQ g [(0,ae.v),(5,(zi c1)),(8,ax.v),(9,(zi (lD.length:Int))),(10,(zi (k5:Int)))]/\List.drop k5 lD=eQ/\aO cs' [bW ae ai,eH ax lD]/\Ig ai eQ k5 c1=some R) ⟨_,0,_,_,rfl,aA,rfl,ay,hF⟩ ?_)
 rintro m3 _ _ ⟨g4,k5,eQ,c1,rfl,rfl,nQ,hE,hF⟩
 refine Kb hE lD (fun Jk=>?_)
 rcases eQ with _|⟨x7,eQ⟩
 · have uG:=dn nQ
   rw[Ig]at hF
   refine bi ?_
   refine dL ?_
   exact ze hF
 obtain⟨uG,jI,j5⟩:=dA nQ
 rw[Ig]at hF
 refine bi ?_
 refine dK ?_
 refine bv ?_
 refine Ai jI (fun k14 TL=>?_)
 refine ni (xR x7) zu (fun p16=>?_)
 refine d_ (fun k17=>?_)
 refine As (zg [(zi x7.Method),p16.v]) ?_
 refine bE ?_
 refine bnd hF fun nz kR hF=>bC (an_ kR) (fun _=>?_)
 refine bJ ?_
 rw[wk k5]
 exact⟨_,bY _,_,k5+1,eQ,_,rfl,aA,j5,ay,hF⟩
def Lh(aa:aY):Option (Bool):=
 ((zq aa).bind fun r4=>
   bif r4 then ((Vr aa.Methods aa.Log).bind fun r8=>
     some ((aa.Spent:Int)==r8))
   else (some false)).bind fun o2=>
 match o2 with
 |c11=>some c11
theorem aeR{aa:aY}{ae aP cz dB dw dE dG dI:Sv}{R:Bool}(hF:Lh aa=some R):
   Fw.Spec Tryz.prog 11 [(zg [ae.v,aP.v,cz.v,dB.v,(zi aa.Source.Version),dw.v,(zi aa.Cache.Age),(zi aa.Now),dE.v,dG.v,(zi aa.Spent),dI.v])] [ah ae aa.Schema,bW aP aa.Methods,fq cz aa.Rules,bH dB aa.Source.Facts,dM dw aa.Cache.Entries,eH dE aa.Log,ah dG aa.Times,bB (aD 152 (aD 24 (aD 3 az))) dI.v aa.Results] (fun _:Unit=>(.bool R)) (fun _=>[]):=by
 refine Se 15 Tryz.func11 [.tmp 2] ?_
 intro H0 F0
 unfold Lh at hF
 refine au ?_
 refine bP (fun k1=>?_)
 refine aU ?_
 obtain⟨o2,gz,hO3⟩:=bind_some hF
 refine dV [0,1,2,3,4,5,6,7,8,9,10,11,12] [0,1,3,7,15,7,39,7,135,487,1023,2047,4095] [1,9] mixed (by decide+kernel) ?_
 refine kX (fun f' cs'=>∃(c11:Bool)(g:Fr),c11=o2/\f'=aQ g [(2,(.bool c11))]/\aO cs' []) ?_ ?_
 · replace hF:=gz
   refine du ?_
   refine bnd hF fun r4 hx5 hF=>fu (KZ hx5) (fun _=>?_)
   refine du ?_
   rcases bD r4 with bq|bq
   · rw[bq]
     try rw[bq]at hF; dsimp only[aJ,aI]at hF
     refine xn ?_
     refine bnd hF fun r8 bZ hF=>fu (anP bZ) (fun _=>?_)
     exact eD hF
   rw[bq]
   try rw[bq]at hF; dsimp only[aJ,aI]at hF
   exact eD hF
 rintro _ _ ⟨c11,g12,rfl,rfl,hE⟩
 replace hF:=hO3
 try dsimp only at hF
 refine bu hE ?_
 exact ze hF
def Li(aa:aY):Option (Bool):=
 ((qK aa).bind fun r4=>
   bif r4 then ((PE aa.Methods aa.Log).bind fun r8=>
     some ((aa.Spent:Int)==r8))
   else (some false)).bind fun o2=>
 match o2 with
 |c11=>some c11
theorem aeS{aa:aY}{ae aP cz dB dw dE dG dI:Sv}{R:Bool}(hF:Li aa=some R):
   Fw.Spec Tryz.prog 12 [(zg [ae.v,aP.v,cz.v,dB.v,(zi aa.Source.Version),dw.v,(zi aa.Cache.Age),(zi aa.Now),dE.v,dG.v,(zi aa.Spent),dI.v])] [ah ae aa.Schema,bW aP aa.Methods,fq cz aa.Rules,bH dB aa.Source.Facts,dM dw aa.Cache.Entries,eH dE aa.Log,ah dG aa.Times,bB (aD 152 (aD 24 (aD 3 az))) dI.v aa.Results] (fun _:Unit=>(.bool R)) (fun _=>[]):=by
 refine Se 15 Tryz.func12 [.tmp 2] ?_
 intro H0 F0
 unfold Li at hF
 refine au ?_
 refine bP (fun k1=>?_)
 refine aU ?_
 obtain⟨o2,gz,hO3⟩:=bind_some hF
 refine dV [0,1,2,3,4,5,6,7,8,9,10,11,12] [0,1,3,7,15,7,39,7,135,487,1023,2047,4095] [1,9] mixed (by decide+kernel) ?_
 refine kX (fun f' cs'=>∃(c11:Bool)(g:Fr),c11=o2/\f'=aQ g [(2,(.bool c11))]/\aO cs' []) ?_ ?_
 · replace hF:=gz
   refine du ?_
   refine bnd hF fun r4 hx5 hF=>fu (vG hx5) (fun _=>?_)
   refine du ?_
   rcases bD r4 with bq|bq
   · rw[bq]
     try rw[bq]at hF; dsimp only[aJ,aI]at hF
     refine xn ?_
     refine bnd hF fun r8 bZ hF=>fu (afJ bZ) (fun _=>?_)
     exact eD hF
   rw[bq]
   try rw[bq]at hF; dsimp only[aJ,aI]at hF
   exact eD hF
 rintro _ _ ⟨c11,g12,rfl,rfl,hE⟩
 replace hF:=hO3
 try dsimp only at hF
 refine bu hE ?_
 exact ze hF
def OI(aB:Access)(ak:aY):Option (Bool):=
 (ix ak.Methods aB.Method).bind fun x2=>
 some ((x2.Limit:Int)!=0)
theorem amk{aB:Access}{aP:Sv}{bT:Nat}{ak:aY}{gm dW jw jy jo jA jB jr:Sv}{R:Bool}(hF:OI aB ak=some R):
   Fw.Spec Tryz.prog 37 [(zg [(zi aB.Method),aP.v]),(pz bT)] [ah aP aB.Values,aX bT 36 (zg [gm.v,dW.v,jw.v,jy.v,(zi ak.Source.Version),jo.v,(zi ak.Cache.Age),(zi ak.Now),jA.v,jB.v,(zi ak.Spent),jr.v]),ah gm ak.Schema,bW dW ak.Methods,fq jw ak.Rules,bH jy ak.Source.Facts,dM jo ak.Cache.Entries,eH jA ak.Log,ah jB ak.Times,bB (aD 152 (aD 24 (aD 3 az))) jr.v ak.Results] (fun _:Unit=>(.bool R)) (fun _=>[]):=by
 refine Se 12 Tryz.func37 [.tmp 3] ?_
 intro H0 F0
 unfold OI at hF
 refine au ?_
 refine bP (fun k1=>?_)
 refine bJ ?_
 refine zI hF fun x2 hp4 hx5 hF=>?_
 refine Ai hx5 (fun k6 j7=>?_)
 refine au ?_
 refine Al P7 ?_
 exact ze hF
def KJ(ak:aY):List Access->Nat->Option (Int)
 |[],k4=>some (-1)
 |x6::aM,k4=>(OI x6 ak).bind fun r16=>
   if r16 then (
     some (k4:Int))
   else (
     KJ ak aM (k4+1))
def Ut(ag:List Access)(ak:aY):Option (Int):=
 KJ ak ag 0
theorem akV{ag:List Access}{ae:Sv}{bT:Nat}{ak:aY}{gm dW jw jy jo jA jB jr:Sv}{R:Int}(hF:Ut ag ak=some R):
   Fw.Spec Tryz.prog 80 [ae.v,(.func (.func 37) [].toArray [(pz bT)].toArray)] [eH ae ag,aX bT 36 (zg [gm.v,dW.v,jw.v,jy.v,(zi ak.Source.Version),jo.v,(zi ak.Cache.Age),(zi ak.Now),jA.v,jB.v,(zi ak.Spent),jr.v]),ah gm ak.Schema,bW dW ak.Methods,fq jw ak.Rules,bH jy ak.Source.Facts,dM jo ak.Cache.Entries,eH jA ak.Log,ah jB ak.Times,bB (aD 152 (aD 24 (aD 3 az))) jr.v ak.Results] (fun _:Unit=>(zi R)) (fun _=>[]):=by
 refine Se 19 Tryz.func80 [.tmp 4] ?_
 intro H0 F0
 unfold Ut at hF
 refine gF ?_
 refine bn (bU (m:=ag.length) (fun m2 f' cs'=>∃(g:Fr)(k4:Nat)(aM:List Access),m2=aM.length/\f'=aQ g [(0,ae.v),(1,(.func (.func 37) [].toArray [(pz bT)].toArray)),(7,(zi (ag.length:Int))),(8,(zi (k4:Int)))]/\List.drop k4 ag=aM/\aO cs' [eH ae ag,aX bT 36 (zg [gm.v,dW.v,jw.v,jy.v,(zi ak.Source.Version),jo.v,(zi ak.Cache.Age),(zi ak.Now),jA.v,jB.v,(zi ak.Spent),jr.v]),ah gm ak.Schema,bW dW ak.Methods,fq jw ak.Rules,bH jy ak.Source.Facts,dM jo ak.Cache.Entries,eH jA ak.Log,ah jB ak.Times,bB (aD 152 (aD 24 (aD 3 az))) jr.v ak.Results]/\KJ ak aM k4=some R) ⟨_,0,_,rfl,aA,rfl,ay,hF⟩ ?_)
 rintro m2 _ _ ⟨g3,k4,aM,rfl,rfl,hd7,hE,hF⟩
 refine Kb hE ag (fun kY=>?_)
 rcases aM with _|⟨x6,aM⟩
 · have gH:=dn hd7
   rw[KJ]at hF
   refine bi ?_
   refine dL ?_
   exact ze hF
 obtain⟨gH,bZ,gG⟩:=dA hd7
 rw[KJ]at hF
 refine bi ?_
 refine dK ?_
 refine kF ?_
 refine Ai bZ (fun k13 oK=>?_)
 refine ni (xR x6) zu (fun nA=>?_)
 refine bnd hF fun r16 jO hF=>l9 (.rd .h rfl (.rd .q3 rfl (.rd .q4 rfl (.rd .q5 rfl (.rd .q6 rfl (.rd .q7 rfl (.rd .q8 rfl (.rd .q9 rfl (.rd .q10 rfl (.rd .q11 rfl .nil)))))))))) (qL awM.h (.tmp rfl rfl) cu (amk jO)) (fun _=>?_)
 refine au ?_
 refine Ci hF (fun nK hF=>?_) (fun nK hF=>?_)
 · exact ze hF
 refine aZ ?_
 rw[wk k4]
 exact⟨_,bY _,_,k4+1,aM,rfl,aA,gG,ay,hF⟩
def NM(ag:List Access)(ak:aY):Option (Bool):=
 (Ut ag ak).bind fun r1=>
 some (decide ((0:Int)<=r1))
theorem akP{ag:List Access}{ae:Sv}{bT:Nat}{ak:aY}{gm dW jw jy jo jA jB jr:Sv}{R:Bool}(hF:NM ag ak=some R):
   Fw.Spec Tryz.prog 36 [ae.v,(.func (.func 37) [].toArray [(pz bT)].toArray)] [eH ae ag,aX bT 36 (zg [gm.v,dW.v,jw.v,jy.v,(zi ak.Source.Version),jo.v,(zi ak.Cache.Age),(zi ak.Now),jA.v,jB.v,(zi ak.Spent),jr.v]),ah gm ak.Schema,bW dW ak.Methods,fq jw ak.Rules,bH jy ak.Source.Facts,dM jo ak.Cache.Entries,eH jA ak.Log,ah jB ak.Times,bB (aD 152 (aD 24 (aD 3 az))) jr.v ak.Results] (fun _:Unit=>(.bool R)) (fun _=>[]):=by
 refine Se 9 Tryz.func36 [.tmp 4] ?_
 intro H0 F0
 unfold NM at hF
 refine bE ?_
 refine bnd hF fun r1 hx2 hF=>bC (akV hx2) (fun _=>?_)
 exact ze hF
def OJ(iQ:Int)(ak:aY):Option (Bool):=
 some (decide ((ak.Now:Int)<iQ))
theorem aml{iQ:Int}{bT:Nat}{ak:aY}{gm dW jw jy jo jA jB jr:Sv}{R:Bool}(hF:OJ iQ ak=some R):
   Fw.Spec Tryz.prog 39 [(zi iQ),(pz bT)] [aX bT 36 (zg [gm.v,dW.v,jw.v,jy.v,(zi ak.Source.Version),jo.v,(zi ak.Cache.Age),(zi ak.Now),jA.v,jB.v,(zi ak.Spent),jr.v]),ah gm ak.Schema,bW dW ak.Methods,fq jw ak.Rules,bH jy ak.Source.Facts,dM jo ak.Cache.Entries,eH jA ak.Log,ah jB ak.Times,bB (aD 152 (aD 24 (aD 3 az))) jr.v ak.Results] (fun _:Unit=>(.bool R)) (fun _=>[]):=by
 refine Se 8 Tryz.func39 [.tmp 3] ?_
 intro H0 F0
 unfold OJ at hF
 exact ze hF
def KU(ak:aY):List Int->Nat->Option (Int)
 |[],k4=>some (-1)
 |x6::aM,k4=>(OJ x6 ak).bind fun gu=>
   if gu then (
     some (k4:Int))
   else (
     KU ak aM (k4+1))
def UD(ag:List Int)(ak:aY):Option (Int):=
 KU ak ag 0
theorem alm{ag:List Int}{ae:Sv}{bT:Nat}{ak:aY}{gm dW jw jy jo jA jB jr:Sv}{R:Int}(hF:UD ag ak=some R):
   Fw.Spec Tryz.prog 81 [ae.v,(.func (.func 39) [].toArray [(pz bT)].toArray)] [ah ae ag,aX bT 36 (zg [gm.v,dW.v,jw.v,jy.v,(zi ak.Source.Version),jo.v,(zi ak.Cache.Age),(zi ak.Now),jA.v,jB.v,(zi ak.Spent),jr.v]),ah gm ak.Schema,bW dW ak.Methods,fq jw ak.Rules,bH jy ak.Source.Facts,dM jo ak.Cache.Entries,eH jA ak.Log,ah jB ak.Times,bB (aD 152 (aD 24 (aD 3 az))) jr.v ak.Results] (fun _:Unit=>(zi R)) (fun _=>[]):=by
 refine Se 19 Tryz.func81 [.tmp 4] ?_
 intro H0 F0
 unfold UD at hF
 refine gF ?_
 refine bn (bU (m:=ag.length) (fun m2 f' cs'=>∃(g:Fr)(k4:Nat)(aM:List Int),m2=aM.length/\f'=aQ g [(0,ae.v),(1,(.func (.func 39) [].toArray [(pz bT)].toArray)),(7,(zi (ag.length:Int))),(8,(zi (k4:Int)))]/\List.drop k4 ag=aM/\aO cs' [ah ae ag,aX bT 36 (zg [gm.v,dW.v,jw.v,jy.v,(zi ak.Source.Version),jo.v,(zi ak.Cache.Age),(zi ak.Now),jA.v,jB.v,(zi ak.Spent),jr.v]),ah gm ak.Schema,bW dW ak.Methods,fq jw ak.Rules,bH jy ak.Source.Facts,dM jo ak.Cache.Entries,eH jA ak.Log,ah jB ak.Times,bB (aD 152 (aD 24 (aD 3 az))) jr.v ak.Results]/\KU ak aM k4=some R) ⟨_,0,_,rfl,aA,rfl,ay,hF⟩ ?_)
 rintro m2 _ _ ⟨g3,k4,aM,rfl,rfl,hd7,hE,hF⟩
 refine Kb hE ag (fun kY=>?_)
 rcases aM with _|⟨x6,aM⟩
 · have gH:=dn hd7
   rw[KU]at hF
   refine bi ?_
   refine dL ?_
   exact ze hF
 obtain⟨gH,bZ,gG⟩:=dA hd7
 rw[KU]at hF
 refine bi ?_
 refine dK ?_
 refine kF ?_
 refine Ai bZ (fun k13 oK=>?_)
 refine Al dP ?_
 refine bnd hF fun gu hx16 hF=>l9 (.rd .q2 rfl (.rd .q3 rfl (.rd .q4 rfl (.rd .q5 rfl (.rd .q6 rfl (.rd .q7 rfl (.rd .q8 rfl (.rd .q9 rfl (.rd .q10 rfl .nil))))))))) (qL awN.h (.tmp rfl rfl) cu (aml hx16)) (fun _=>?_)
 refine au ?_
 refine Ci hF (fun wD hF=>?_) (fun wD hF=>?_)
 · exact ze hF
 refine aZ ?_
 rw[wk k4]
 exact⟨_,bY _,_,k4+1,aM,rfl,aA,gG,ay,hF⟩
def NV(ag:List Int)(ak:aY):Option (Bool):=
 (UD ag ak).bind fun r1=>
 some (decide ((0:Int)<=r1))
theorem ald{ag:List Int}{ae:Sv}{bT:Nat}{ak:aY}{gm dW jw jy jo jA jB jr:Sv}{R:Bool}(hF:NV ag ak=some R):
   Fw.Spec Tryz.prog 38 [ae.v,(.func (.func 39) [].toArray [(pz bT)].toArray)] [ah ae ag,aX bT 36 (zg [gm.v,dW.v,jw.v,jy.v,(zi ak.Source.Version),jo.v,(zi ak.Cache.Age),(zi ak.Now),jA.v,jB.v,(zi ak.Spent),jr.v]),ah gm ak.Schema,bW dW ak.Methods,fq jw ak.Rules,bH jy ak.Source.Facts,dM jo ak.Cache.Entries,eH jA ak.Log,ah jB ak.Times,bB (aD 152 (aD 24 (aD 3 az))) jr.v ak.Results] (fun _:Unit=>(.bool R)) (fun _=>[]):=by
 refine Se 9 Tryz.func38 [.tmp 4] ?_
 intro H0 F0
 unfold NV at hF
 refine bE ?_
 refine bnd hF fun r1 hx2 hF=>bC (alm hx2) (fun _=>?_)
 exact ze hF
def LG(aa:aY):Option (Bool):=
 ((zq aa).bind fun r4=>
   bif r4 then ((NM aa.Log aa).bind fun r8=>
     bif (!r8)then ((NV aa.Times aa).bind fun dz=>
       some (!dz))
     else (some false))
   else (some false)).bind fun o2=>
 match o2 with
 |c15=>some c15
theorem afp{aa:aY}{ae aP cz dB dw dE dG dI:Sv}{R:Bool}(hF:LG aa=some R):
   Fw.Spec Tryz.prog 13 [(zg [ae.v,aP.v,cz.v,dB.v,(zi aa.Source.Version),dw.v,(zi aa.Cache.Age),(zi aa.Now),dE.v,dG.v,(zi aa.Spent),dI.v])] [ah ae aa.Schema,bW aP aa.Methods,fq cz aa.Rules,bH dB aa.Source.Facts,dM dw aa.Cache.Entries,eH dE aa.Log,ah dG aa.Times,bB (aD 152 (aD 24 (aD 3 az))) dI.v aa.Results] (fun _:Unit=>(.bool R)) (fun _=>[]):=by
 refine Se 19 Tryz.func13 [.tmp 2] ?_
 intro H0 F0
 unfold LG at hF
 refine au ?_
 refine bP (fun k1=>?_)
 refine aU ?_
 obtain⟨o2,gz,hO3⟩:=bind_some hF
 refine au ?_
 refine fe (fun f' cs'=>∃(c15:Bool)(g:Fr),c15=o2/\f'=aQ g [(2,(.bool c15))]/\aO cs' []) ?_ ?_
 · replace hF:=gz
   refine au ?_
   refine bnd hF fun r4 hx5 hF=>bC (KZ hx5) (fun _=>?_)
   refine au ?_
   rcases bD r4 with bq|bq
   · rw[bq]
     try rw[bq]at hF; dsimp only[aJ,aI]at hF
     refine aZ ?_
     refine aN (wU (fn:=.func 37) (vs:=[]) (us:=[(pz k1)]) .nil cu) ?_
     refine au ?_
     refine bnd hF fun r8 bZ hF=>bC (akP bZ) (fun _=>?_)
     refine bi ?_
     rcases bD (!r8)with dS|dS
     · rw[dS]
       try rw[dS]at hF; dsimp only[aJ,aI]at hF
       refine aZ ?_
       refine aN (wU (fn:=.func 39) (vs:=[]) (us:=[(pz k1)]) .nil cu) ?_
       refine au ?_
       refine bnd hF fun dz iJ hF=>bC (ald iJ) (fun _=>?_)
       exact bK hF
     rw[dS]
     try rw[dS]at hF; dsimp only[aJ,aI]at hF
     exact bK hF
   rw[bq]
   try rw[bq]at hF; dsimp only[aJ,aI]at hF
   exact bK hF
 rintro _ _ ⟨c15,g16,rfl,rfl,hE⟩
 replace hF:=hO3
 try dsimp only at hF
 refine bu hE ?_
 exact ze hF
def AY(aa:aY):Nat->Int->Option (Bool)
 |0,_=>none
 |m3+1,c2=>(bif (decide ((c2:Int)<(aa.Log.length:Int)))then ((qK aa).bind fun jY=>
       some jY)
     else (some false)).bind fun zn=>
   match zn with
   |c17=>if c17 then (
       ((ix aa.Log c2).bind fun x20=>
         (ix aa.Methods x20.Method).bind fun nR=>
         bif ((nR.Limit:Int)!=0)then (some true)
         else ((ix aa.Times c2).bind fun TF=>
           some (decide ((aa.Now:Int)<TF)))).bind fun kS=>
       match kS with
       |kC=>if kC then (
           some false)
         else (
           AY aa m3 (IntKind.i64.wrap (c2+1))))
     else (
       (qK aa).bind fun AJ=>
       some AJ)
def LH(aa:aY):Option (Bool):=
 AY aa (((aa.Log.length:Int)-0).toNat+2) 0
theorem afq{aa:aY}{ae aP cz dB dw dE dG dI:Sv}{R:Bool}(hF:LH aa=some R):
   Fw.Spec Tryz.prog 14 [(zg [ae.v,aP.v,cz.v,dB.v,(zi aa.Source.Version),dw.v,(zi aa.Cache.Age),(zi aa.Now),dE.v,dG.v,(zi aa.Spent),dI.v])] [ah ae aa.Schema,bW aP aa.Methods,fq cz aa.Rules,bH dB aa.Source.Facts,dM dw aa.Cache.Entries,eH dE aa.Log,ah dG aa.Times,bB (aD 152 (aD 24 (aD 3 az))) dI.v aa.Results] (fun _:Unit=>(.bool R)) (fun _=>[]):=by
 refine Se 39 Tryz.func14 [.tmp 2] ?_
 intro H0 F0
 unfold LH at hF
 refine au ?_
 refine bP (fun k1=>?_)
 refine bE ?_
 refine bn (bU (m:=(((aa.Log.length:Int)-0).toNat+2)) (fun m3 f' cs'=>∃(g:Fr)(c2:Int),f'=aQ g [(1,(pz k1)),(3,(zi c2))]/\aO cs' [aX k1 36 (zg [ae.v,aP.v,cz.v,dB.v,(zi aa.Source.Version),dw.v,(zi aa.Cache.Age),(zi aa.Now),dE.v,dG.v,(zi aa.Spent),dI.v]),ah ae aa.Schema,bW aP aa.Methods,fq cz aa.Rules,bH dB aa.Source.Facts,dM dw aa.Cache.Entries,eH dE aa.Log,ah dG aa.Times,bB (aD 152 (aD 24 (aD 3 az))) dI.v aa.Results]/\AY aa m3 c2=some R) ⟨_,_,aA,ay,hF⟩ ?_)
 rintro m3 _ _ ⟨g4,c2,rfl,hE,hF⟩
 refine bu hE ?_
 rcases m3 with _|m3
 · rw[AY]at hF
   exact absurd hF (by simp)
 rw[AY]at hF
 refine au ?_
 obtain⟨zn,Q5,Nv⟩:=bind_some hF
 refine au ?_
 refine fe (fun f' cs'=>∃(c17:Bool)(g:Fr),c17=zn/\f'=aQ g [(1,(pz k1)),(3,(zi c2)),(12,(.bool c17))]/\aO cs' [aX k1 36 (zg [ae.v,aP.v,cz.v,dB.v,(zi aa.Source.Version),dw.v,(zi aa.Cache.Age),(zi aa.Now),dE.v,dG.v,(zi aa.Spent),dI.v]),ah ae aa.Schema,bW aP aa.Methods,fq cz aa.Rules,bH dB aa.Source.Facts,dM dw aa.Cache.Entries,eH dE aa.Log,ah dG aa.Times,bB (aD 152 (aD 24 (aD 3 az))) dI.v aa.Results]) ?_ ?_
 · replace hF:=Q5
   refine bE ?_
   rcases bD (decide ((c2:Int)<(aa.Log.length:Int)))with jL|jL
   · rw[jL]
     try rw[jL]at hF; dsimp only[aJ,aI]at hF
     refine bv ?_
     refine bnd hF fun jY kG hF=>bC (vG kG) (fun _=>?_)
     exact bK hF
   rw[jL]
   try rw[jL]at hF; dsimp only[aJ,aI]at hF
   exact bK hF
 rintro _ _ ⟨c17,g46,rfl,rfl,hE⟩
 replace hF:=Nv
 try dsimp only at hF
 refine bu hE ?_
 refine Ci hF (fun ayB hF=>?_) (fun ayB hF=>?_)
 · refine aU ?_
   obtain⟨kS,vQ,wz⟩:=bind_some hF
   refine dV [0,1,2,3,4,5,6,7,8,9,10,11,12,13,14,15,16,17,18,19,20,21] [0,1,0,4,0,28,60,124,255,511,1023,2047,4095,8191,16383,8191,65535,131071,8191,270335,1048575,2097151] [] mixed (by decide+kernel) ?_
   refine kX (fun f' cs'=>∃(kC:Bool)(g:Fr),kC=kS/\f'=aQ g [(1,(pz k1)),(3,(zi c2)),(36,(.bool kC))]/\aO cs' [aX k1 36 (zg [ae.v,aP.v,cz.v,dB.v,(zi aa.Source.Version),dw.v,(zi aa.Cache.Age),(zi aa.Now),dE.v,dG.v,(zi aa.Spent),dI.v]),ah ae aa.Schema,bW aP aa.Methods,fq cz aa.Rules,bH dB aa.Source.Facts,dM dw aa.Cache.Entries,eH dE aa.Log,ah dG aa.Times,bB (aD 152 (aD 24 (aD 3 az))) dI.v aa.Results]) ?_ ?_
   · replace hF:=vQ
     refine t_ ?_
     refine zI hF fun x20 aEp uf hF=>?_
     refine Di uf (fun k24 j25=>?_)
     refine du ?_
     refine Dl MB ?_
     refine zI hF fun nR Xu hx29 hF=>?_
     refine Di hx29 (fun Gn j31=>?_)
     refine du ?_
     refine Dl P7 ?_
     refine bX ?_
     rcases bD ((nR.Limit:Int)!=0)with Tn|Tn
     · rw[Tn]
       try rw[Tn]at hF; dsimp only[aJ,aI]at hF
       exact eD hF
     rw[Tn]
     try rw[Tn]at hF; dsimp only[aJ,aI]at hF
     refine dD ?_
     refine zI hF fun TF aw6 JA hF=>?_
     refine Di JA (fun TG TH=>?_)
     refine Dl dP ?_
     exact eD hF
   rintro _ _ ⟨kC,g41,rfl,rfl,hE⟩
   replace hF:=wz
   try dsimp only at hF
   refine bu hE ?_
   refine Ci hF (fun Rv hF=>?_) (fun Rv hF=>?_)
   · exact ze hF
   refine bE ?_
   exact⟨m3,bY _,_,_,aA,ay,hF⟩
 refine bE ?_
 refine bnd hF fun AJ qA hF=>bC (vG qA) (fun _=>?_)
 exact ze hF
def UM(aj:Cache)(aS:cB)(eB:Int):Option (Bool):=
 some ((decide ((0:Int)<=aS.At))&&((decide ((aS.At:Int)<=eB))&&(decide (((IntKind.i64.wrap (eB-aS.At)):Int)<=aj.Age))))
theorem alF{aj:Cache}{ae:Sv}{aS:cB}{aV nM:Sv}{eB:Int}{R:Bool}(hF:UM aj aS eB=some R):
   Fw.Spec Tryz.prog 42 [(zg [ae.v,(zi aj.Age)]),(zg [(zi aS.Access.Method),aV.v,nM.v,(zi aS.At)]),(zi eB)] [dM ae aj.Entries,ah aV aS.Access.Values,bH nM aS.Facts] (fun _:Unit=>(.bool R)) (fun _=>[]):=by
 refine Se 25 Tryz.func42 [.tmp 6] ?_
 intro H0 F0
 unfold UM at hF
 refine au ?_
 refine bP (fun k1=>?_)
 refine bP (fun k2=>?_)
 refine bv ?_
 refine fe (fun f' cs'=>∃(g:Fr),f'=aQ g [(6,(.bool ((decide ((0:Int)<=aS.At))&&((decide ((aS.At:Int)<=eB))&&(decide (((IntKind.i64.wrap (eB-aS.At)):Int)<=aj.Age))))))]/\aO cs' []) ?_ ?_
 · refine bi ?_
   rcases bD (decide ((0:Int)<=aS.At))with hg3|hg3
   · rw[hg3]
     try rw[hg3]at hF; dsimp only[aJ,aI]at hF
     refine kF ?_
     rcases bD (decide ((aS.At:Int)<=eB))with hg4|hg4
     · rw[hg4]
       try rw[hg4]at hF; dsimp only[aJ,aI]at hF
       refine as5 ?_
       exact⟨_,aA,ay⟩
     rw[hg4]
     try rw[hg4]at hF; dsimp only[aJ,aI]at hF
     refine kF ?_
     exact⟨_,aA,ay⟩
   rw[hg3]
   try rw[hg3]at hF; dsimp only[aJ,aI]at hF
   refine Qn ?_
   exact⟨_,aA,ay⟩
 rintro _ _ ⟨g5,rfl,hE⟩
 refine bu hE ?_
 exact ze hF
def Gw(kH:List Int):List Int->Nat->Option (Bool)
 |[],k4=>some true
 |x6::aM,k4=>(ix kH (k4:Int)).bind fun nD=>
   if ((x6:Int)!=nD)then (
     some false)
   else (
     Gw kH aM (k4+1))
def UE(j6:List Int)(kH:List Int):Option (Bool):=
 if (((j6.length:Int):Int)!=(kH.length:Int))then (
   some false)
 else (
   Gw kH j6 0)
theorem alp{j6:List Int}{ae:Sv}{kH:List Int}{ax:Sv}{R:Bool}(hF:UE j6 kH=some R):
   Fw.Spec Tryz.prog 126 [ae.v,ax.v] [ah ae j6,ah ax kH] (fun _:Unit=>(.bool R)) (fun _=>[]):=by
 refine Se 26 Tryz.func126 [.tmp 4] ?_
 intro H0 F0
 unfold UE at hF
 refine CB ?_
 refine Ci hF (fun yS hF=>?_) (fun yS hF=>?_)
 · exact ze hF
 refine bJ ?_
 refine bn (bU (m:=j6.length) (fun m2 f' cs'=>∃(g:Fr)(k4:Nat)(aM:List Int),m2=aM.length/\f'=aQ g [(0,ae.v),(1,ax.v),(12,(zi (j6.length:Int))),(13,(zi (k4:Int)))]/\List.drop k4 j6=aM/\aO cs' [ah ae j6,ah ax kH]/\Gw kH aM k4=some R) ⟨_,0,_,rfl,aA,rfl,ay,hF⟩ ?_)
 rintro m2 _ _ ⟨g3,k4,aM,rfl,rfl,hd7,hE,hF⟩
 refine Kb hE j6 (fun kY=>?_)
 rcases aM with _|⟨x6,aM⟩
 · have gH:=dn hd7
   rw[Gw]at hF
   refine bi ?_
   refine dL ?_
   exact ze hF
 obtain⟨gH,bZ,gG⟩:=dA hd7
 rw[Gw]at hF
 refine bi ?_
 refine dK ?_
 refine bE ?_
 refine dV [0,1,2,3,4,5,6,7,8] [0,0,3,7,0,0,48,112,255] [] mixed (by decide+kernel) ?_
 refine bX ?_
 refine Di bZ (fun k13 oK=>?_)
 refine Dl dP ?_
 refine bX ?_
 refine zI hF fun nD acr mQ hF=>?_
 refine Di mQ (fun k19 Gi=>?_)
 refine Dl dP ?_
 refine bX ?_
 refine Ci hF (fun vZ hF=>?_) (fun vZ hF=>?_)
 · exact ze hF
 refine aZ ?_
 rw[wk k4]
 exact⟨_,bY _,_,k4+1,aM,rfl,aA,gG,ay,hF⟩
def OL(aB:Access)(aR:Access):Option (Bool):=
 (bif ((aB.Method:Int)==aR.Method)then ((UE aB.Values aR.Values).bind fun r6=>
     some r6)
   else (some false)).bind fun o3=>
 match o3 with
 |c9=>some c9
theorem amm{aB:Access}{aP:Sv}{aR:Access}{aV:Sv}{R:Bool}(hF:OL aB aR=some R):
   Fw.Spec Tryz.prog 84 [(zg [(zi aB.Method),aP.v]),(zg [(zi aR.Method),aV.v])] [ah aP aB.Values,ah aV aR.Values] (fun _:Unit=>(.bool R)) (fun _=>[]):=by
 refine Se 17 Tryz.func84 [.tmp 4] ?_
 intro H0 F0
 unfold OL at hF
 refine au ?_
 refine bP (fun k1=>?_)
 refine bP (fun k2=>?_)
 refine aU ?_
 obtain⟨o3,wy,hO4⟩:=bind_some hF
 refine au ?_
 refine fe (fun f' cs'=>∃(c9:Bool)(g:Fr),c9=o3/\f'=aQ g [(4,(.bool c9))]/\aO cs' []) ?_ ?_
 · replace hF:=wy
   refine bE ?_
   rcases bD ((aB.Method:Int)==aR.Method)with hg5|hg5
   · rw[hg5]
     try rw[hg5]at hF; dsimp only[aJ,aI]at hF
     refine gF ?_
     refine bnd hF fun r6 hx7 hF=>bC (alp hx7) (fun _=>?_)
     exact bK hF
   rw[hg5]
   try rw[hg5]at hF; dsimp only[aJ,aI]at hF
   exact bK hF
 rintro _ _ ⟨c9,g10,rfl,rfl,hE⟩
 replace hF:=hO4
 try dsimp only at hF
 refine bu hE ?_
 exact ze hF
def Ow(aS:Access)(ak:Access):Option (Bool):=
 (OL aS ak).bind fun r2=>
 some r2
theorem al5{aS:Access}{aP:Sv}{bT:Nat}{ak:Access}{dW:Sv}{R:Bool}(hF:Ow aS ak=some R):
   Fw.Spec Tryz.prog 83 [(zg [(zi aS.Method),aP.v]),(pz bT)] [ah aP aS.Values,aX bT 45 (zg [(zi ak.Method),dW.v]),ah dW ak.Values] (fun _:Unit=>(.bool R)) (fun _=>[]):=by
 refine Se 7 Tryz.func83 [.tmp 3] ?_
 intro H0 F0
 unfold Ow at hF
 refine au ?_
 refine bP (fun k1=>?_)
 refine aZ ?_
 refine bnd hF fun r2 hx3 hF=>bC (amm hx3) (fun _=>?_)
 exact ze hF
def KI(ak:Access):List Access->Nat->Option (Int)
 |[],k4=>some (-1)
 |x6::aM,k4=>(Ow x6 ak).bind fun r16=>
   if r16 then (
     some (k4:Int))
   else (
     KI ak aM (k4+1))
def Us(ag:List Access)(ak:Access):Option (Int):=
 KI ak ag 0
theorem akU{ag:List Access}{ae:Sv}{bT:Nat}{ak:Access}{dW:Sv}{R:Int}(hF:Us ag ak=some R):
   Fw.Spec Tryz.prog 80 [ae.v,(.func (.func 83) [].toArray [(pz bT)].toArray)] [eH ae ag,aX bT 45 (zg [(zi ak.Method),dW.v]),ah dW ak.Values] (fun _:Unit=>(zi R)) (fun _=>[]):=by
 refine Se 19 Tryz.func80 [.tmp 4] ?_
 intro H0 F0
 unfold Us at hF
 refine gF ?_
 refine bn (bU (m:=ag.length) (fun m2 f' cs'=>∃(g:Fr)(k4:Nat)(aM:List Access),m2=aM.length/\f'=aQ g [(0,ae.v),(1,(.func (.func 83) [].toArray [(pz bT)].toArray)),(7,(zi (ag.length:Int))),(8,(zi (k4:Int)))]/\List.drop k4 ag=aM/\aO cs' [eH ae ag,aX bT 45 (zg [(zi ak.Method),dW.v]),ah dW ak.Values]/\KI ak aM k4=some R) ⟨_,0,_,rfl,aA,rfl,ay,hF⟩ ?_)
 rintro m2 _ _ ⟨g3,k4,aM,rfl,rfl,hd7,hE,hF⟩
 refine Kb hE ag (fun kY=>?_)
 rcases aM with _|⟨x6,aM⟩
 · have gH:=dn hd7
   rw[KI]at hF
   refine bi ?_
   refine dL ?_
   exact ze hF
 obtain⟨gH,bZ,gG⟩:=dA hd7
 rw[KI]at hF
 refine bi ?_
 refine dK ?_
 refine kF ?_
 refine Ai bZ (fun k13 oK=>?_)
 refine ni (xR x6) zu (fun nA=>?_)
 refine bnd hF fun r16 jO hF=>l9 (.rd .h rfl (.rd .q3 rfl (.rd .q4 rfl .nil))) (qL awR.h (.tmp rfl rfl) cu (al5 jO)) (fun _=>?_)
 refine au ?_
 refine Ci hF (fun nK hF=>?_) (fun nK hF=>?_)
 · exact ze hF
 refine aZ ?_
 rw[wk k4]
 exact⟨_,bY _,_,k4+1,aM,rfl,aA,gG,ay,hF⟩
def NL(ag:List Access)(ak:Access):Option (Bool):=
 (Us ag ak).bind fun r1=>
 some (decide ((0:Int)<=r1))
theorem akN{ag:List Access}{ae:Sv}{bT:Nat}{ak:Access}{dW:Sv}{R:Bool}(hF:NL ag ak=some R):
   Fw.Spec Tryz.prog 36 [ae.v,(.func (.func 83) [].toArray [(pz bT)].toArray)] [eH ae ag,aX bT 45 (zg [(zi ak.Method),dW.v]),ah dW ak.Values] (fun _:Unit=>(.bool R)) (fun _=>[]):=by
 refine Se 9 Tryz.func36 [.tmp 4] ?_
 intro H0 F0
 unfold NL at hF
 refine bE ?_
 refine bnd hF fun r1 hx2 hF=>bC (akU hx2) (fun _=>?_)
 exact ze hF
def O1(ai:List Access)(aB:Access):Option (Bool):=
 (NL ai aB).bind fun r2=>
 some r2
theorem amJ{ai:List Access}{ae:Sv}{aB:Access}{aV:Sv}{R:Bool}(hF:O1 ai aB=some R):
   Fw.Spec Tryz.prog 43 [ae.v,(zg [(zi aB.Method),aV.v])] [eH ae ai,ah aV aB.Values] (fun _:Unit=>(.bool R)) (fun _=>[]):=by
 refine Se 8 Tryz.func43 [.tmp 4] ?_
 intro H0 F0
 unfold O1 at hF
 refine au ?_
 refine bP (fun k1=>?_)
 refine bi ?_
 refine aN (wU (fn:=.func 83) (vs:=[]) (us:=[(pz k1)]) .nil cu) ?_
 refine bnd hF fun r2 hx3 hF=>bC (akN hx3) (fun _=>?_)
 exact ze hF
def K8(aS:cB)(ak:aY):Option (Bool):=
 ((UM ak.Cache aS ak.Now).bind fun r4=>
   bif (!r4)then (some true)
   else ((O1 ak.Log aS.Access).bind fun r8=>
     some (!r8))).bind fun o2=>
 match o2 with
 |c11=>some c11
theorem alP{aS:cB}{aP cz:Sv}{bT:Nat}{ak:aY}{gm dW jw jy jo jA jB jr:Sv}{R:Bool}(hF:K8 aS ak=some R):
   Fw.Spec Tryz.prog 41 [(zg [(zi aS.Access.Method),aP.v,cz.v,(zi aS.At)]),(pz bT)] [ah aP aS.Access.Values,bH cz aS.Facts,aX bT 36 (zg [gm.v,dW.v,jw.v,jy.v,(zi ak.Source.Version),jo.v,(zi ak.Cache.Age),(zi ak.Now),jA.v,jB.v,(zi ak.Spent),jr.v]),ah gm ak.Schema,bW dW ak.Methods,fq jw ak.Rules,bH jy ak.Source.Facts,dM jo ak.Cache.Entries,eH jA ak.Log,ah jB ak.Times,bB (aD 152 (aD 24 (aD 3 az))) jr.v ak.Results] (fun _:Unit=>(.bool R)) (fun _=>[]):=by
 refine Se 19 Tryz.func41 [.tmp 3] ?_
 intro H0 F0
 unfold K8 at hF
 refine au ?_
 refine bP (fun k1=>?_)
 refine aU ?_
 obtain⟨o2,gz,hO3⟩:=bind_some hF
 refine au ?_
 refine fe (fun f' cs'=>∃(c11:Bool)(g:Fr),c11=o2/\f'=aQ g [(3,(.bool c11))]/\aO cs' []) ?_ ?_
 · replace hF:=gz
   refine au ?_
   refine eu .q3 (fun hp=>j_ (s:=2) (l:=[jo.v,(zi ak.Cache.Age)]) u7.h oW.h.sz (.tmp rfl rfl) hp.2 rfl (by decide) (Nat.le_of_ble_eq_true rfl) rfl) ?_
   refine bv ?_
   refine bnd hF fun r4 hx5 hF=>bC (alF hx5) (fun _=>?_)
   refine aU ?_
   rcases bD (!r4)with bq|bq
   · rw[bq]
     try rw[bq]at hF; dsimp only[aJ,aI]at hF
     exact bK hF
   rw[bq]
   try rw[bq]at hF; dsimp only[aJ,aI]at hF
   refine bJ ?_
   refine eu .h (fun hp=>j_ (s:=2) (l:=[(zi aS.Access.Method),aP.v]) vY.h ky.h.sz (.tmp rfl rfl) hp.2 rfl (by decide) (Nat.le_of_ble_eq_true rfl) rfl) ?_
   refine au ?_
   refine bnd hF fun r8 bZ hF=>bC (amJ bZ) (fun _=>?_)
   exact bK hF
 rintro _ _ ⟨c11,g12,rfl,rfl,hE⟩
 replace hF:=hO3
 try dsimp only at hF
 refine bu hE ?_
 exact ze hF
def KH(ak:aY):List cB->Nat->Option (Int)
 |[],k4=>some (-1)
 |x6::aM,k4=>(K8 x6 ak).bind fun r16=>
   if r16 then (
     some (k4:Int))
   else (
     KH ak aM (k4+1))
def Ur(ag:List cB)(ak:aY):Option (Int):=
 KH ak ag 0
theorem akT{ag:List cB}{ae:Sv}{bT:Nat}{ak:aY}{gm dW jw jy jo jA jB jr:Sv}{R:Int}(hF:Ur ag ak=some R):
   Fw.Spec Tryz.prog 82 [ae.v,(.func (.func 41) [].toArray [(pz bT)].toArray)] [dM ae ag,aX bT 36 (zg [gm.v,dW.v,jw.v,jy.v,(zi ak.Source.Version),jo.v,(zi ak.Cache.Age),(zi ak.Now),jA.v,jB.v,(zi ak.Spent),jr.v]),ah gm ak.Schema,bW dW ak.Methods,fq jw ak.Rules,bH jy ak.Source.Facts,dM jo ak.Cache.Entries,eH jA ak.Log,ah jB ak.Times,bB (aD 152 (aD 24 (aD 3 az))) jr.v ak.Results] (fun _:Unit=>(zi R)) (fun _=>[]):=by
 refine Se 19 Tryz.func82 [.tmp 4] ?_
 intro H0 F0
 unfold Ur at hF
 refine gF ?_
 refine bn (bU (m:=ag.length) (fun m2 f' cs'=>∃(g:Fr)(k4:Nat)(aM:List cB),m2=aM.length/\f'=aQ g [(0,ae.v),(1,(.func (.func 41) [].toArray [(pz bT)].toArray)),(7,(zi (ag.length:Int))),(8,(zi (k4:Int)))]/\List.drop k4 ag=aM/\aO cs' [dM ae ag,aX bT 36 (zg [gm.v,dW.v,jw.v,jy.v,(zi ak.Source.Version),jo.v,(zi ak.Cache.Age),(zi ak.Now),jA.v,jB.v,(zi ak.Spent),jr.v]),ah gm ak.Schema,bW dW ak.Methods,fq jw ak.Rules,bH jy ak.Source.Facts,dM jo ak.Cache.Entries,eH jA ak.Log,ah jB ak.Times,bB (aD 152 (aD 24 (aD 3 az))) jr.v ak.Results]/\KH ak aM k4=some R) ⟨_,0,_,rfl,aA,rfl,ay,hF⟩ ?_)
 rintro m2 _ _ ⟨g3,k4,aM,rfl,rfl,hd7,hE,hF⟩
 refine Kb hE ag (fun kY=>?_)
 rcases aM with _|⟨x6,aM⟩
 · have gH:=dn hd7
   rw[KH]at hF
   refine bi ?_
   refine dL ?_
   exact ze hF
 obtain⟨gH,bZ,gG⟩:=dA hd7
 rw[KH]at hF
 refine bi ?_
 refine dK ?_
 refine kF ?_
 refine Ai bZ (fun k13 oK=>?_)
 refine yj (wV x6) xQ (fun nA=>?_)
 refine bnd hF fun r16 jO hF=>l9 (.rd .h rfl (.rd (.t .h) rfl (.rd .q4 rfl (.rd .q5 rfl (.rd .q6 rfl (.rd .q7 rfl (.rd .q8 rfl (.rd .q9 rfl (.rd .q10 rfl (.rd .q11 rfl (.rd .q12 rfl .nil))))))))))) (qL awQ.h (.tmp rfl rfl) cu (alP jO)) (fun _=>?_)
 refine au ?_
 refine Ci hF (fun nK hF=>?_) (fun nK hF=>?_)
 · exact ze hF
 refine aZ ?_
 rw[wk k4]
 exact⟨_,bY _,_,k4+1,aM,rfl,aA,gG,ay,hF⟩
def NK(ag:List cB)(ak:aY):Option (Bool):=
 (Ur ag ak).bind fun r1=>
 some (decide ((0:Int)<=r1))
theorem akJ{ag:List cB}{ae:Sv}{bT:Nat}{ak:aY}{gm dW jw jy jo jA jB jr:Sv}{R:Bool}(hF:NK ag ak=some R):
   Fw.Spec Tryz.prog 40 [ae.v,(.func (.func 41) [].toArray [(pz bT)].toArray)] [dM ae ag,aX bT 36 (zg [gm.v,dW.v,jw.v,jy.v,(zi ak.Source.Version),jo.v,(zi ak.Cache.Age),(zi ak.Now),jA.v,jB.v,(zi ak.Spent),jr.v]),ah gm ak.Schema,bW dW ak.Methods,fq jw ak.Rules,bH jy ak.Source.Facts,dM jo ak.Cache.Entries,eH jA ak.Log,ah jB ak.Times,bB (aD 152 (aD 24 (aD 3 az))) jr.v ak.Results] (fun _:Unit=>(.bool R)) (fun _=>[]):=by
 refine Se 9 Tryz.func40 [.tmp 4] ?_
 intro H0 F0
 unfold NK at hF
 refine bE ?_
 refine bnd hF fun r1 hx2 hF=>bC (akT hx2) (fun _=>?_)
 exact ze hF
def Lj(aa:aY):Option (Bool):=
 ((zq aa).bind fun r4=>
   bif r4 then ((NK aa.Cache.Entries aa).bind fun r8=>
     some (!r8))
   else (some false)).bind fun o2=>
 match o2 with
 |c11=>some c11
theorem aeT{aa:aY}{ae aP cz dB dw dE dG dI:Sv}{R:Bool}(hF:Lj aa=some R):
   Fw.Spec Tryz.prog 15 [(zg [ae.v,aP.v,cz.v,dB.v,(zi aa.Source.Version),dw.v,(zi aa.Cache.Age),(zi aa.Now),dE.v,dG.v,(zi aa.Spent),dI.v])] [ah ae aa.Schema,bW aP aa.Methods,fq cz aa.Rules,bH dB aa.Source.Facts,dM dw aa.Cache.Entries,eH dE aa.Log,ah dG aa.Times,bB (aD 152 (aD 24 (aD 3 az))) dI.v aa.Results] (fun _:Unit=>(.bool R)) (fun _=>[]):=by
 refine Se 13 Tryz.func15 [.tmp 2] ?_
 intro H0 F0
 unfold Lj at hF
 refine au ?_
 refine bP (fun k1=>?_)
 refine aU ?_
 obtain⟨o2,gz,hO3⟩:=bind_some hF
 refine au ?_
 refine fe (fun f' cs'=>∃(c11:Bool)(g:Fr),c11=o2/\f'=aQ g [(2,(.bool c11))]/\aO cs' []) ?_ ?_
 · replace hF:=gz
   refine au ?_
   refine bnd hF fun r4 hx5 hF=>bC (KZ hx5) (fun _=>?_)
   refine au ?_
   rcases bD r4 with bq|bq
   · rw[bq]
     try rw[bq]at hF; dsimp only[aJ,aI]at hF
     refine bJ ?_
     refine aN (wU (fn:=.func 41) (vs:=[]) (us:=[(pz k1)]) .nil cu) ?_
     refine au ?_
     refine bnd hF fun r8 bZ hF=>bC (akJ bZ) (fun _=>?_)
     exact bK hF
   rw[bq]
   try rw[bq]at hF; dsimp only[aJ,aI]at hF
   exact bK hF
 rintro _ _ ⟨c11,g12,rfl,rfl,hE⟩
 replace hF:=hO3
 try dsimp only at hF
 refine bu hE ?_
 exact ze hF
def K_(aB:Access):List Access->Nat->Option (Bool)
 |[],k5=>some false
 |x7::eQ,k5=>(zy x7 aB).bind fun o9=>
   if o9 then (
     some true)
   else (
     K_ aB eQ (k5+1))
def Vk(lD:List Access)(aB:Access):Option (Bool):=
 K_ aB lD 0
theorem ang{lD:List Access}{ae:Sv}{aB:Access}{aV:Sv}{R:Bool}(hF:Vk lD aB=some R):
   Fw.Spec Tryz.prog 44 [ae.v,(zg [(zi aB.Method),aV.v])] [eH ae lD,ah aV aB.Values] (fun _:Unit=>(.bool R)) (fun _=>[]):=by
 refine Se 18 Tryz.func44 [.tmp 4] ?_
 intro H0 F0
 unfold Vk at hF
 refine au ?_
 refine bP (fun k1=>?_)
 refine bE ?_
 refine bn (bU (m:=lD.length) (fun m3 f' cs'=>∃(g:Fr)(k5:Nat)(eQ:List Access),m3=eQ.length/\f'=aQ g [(0,ae.v),(3,(pz k1)),(5,(zi (k5:Int)))]/\List.drop k5 lD=eQ/\aO cs' [eH ae lD,aX k1 45 (zg [(zi aB.Method),aV.v]),ah aV aB.Values]/\K_ aB eQ k5=some R) ⟨_,0,_,rfl,aA,rfl,ay,hF⟩ ?_)
 rintro m3 _ _ ⟨g4,k5,eQ,rfl,rfl,nQ,hE,hF⟩
 refine Kb hE lD (fun Jk=>?_)
 rcases eQ with _|⟨x7,eQ⟩
 · have uG:=dn nQ
   rw[K_]at hF
   refine bJ ?_
   refine dL ?_
   exact ze hF
 obtain⟨uG,jI,j5⟩:=dA nQ
 rw[K_]at hF
 refine bJ ?_
 refine dK ?_
 refine aU ?_
 refine dV [0,1,2,3,4,5] [0,0,3,7,0,31] [5] mixed (by decide+kernel) ?_
 refine bX ?_
 refine Di jI (fun k14 TL=>?_)
 refine jR (xR x7) zu (fun p16=>?_)
 refine du ?_
 refine bnd hF fun o9 mQ hF=>fu (U_ mQ) (fun _=>?_)
 refine du ?_
 refine Ci hF (fun Ju hF=>?_) (fun Ju hF=>?_)
 · exact ze hF
 refine bE ?_
 rw[wk k5]
 exact⟨_,bY _,_,k5+1,eQ,rfl,aA,j5,ay,hF⟩
def AQ(aa:aY):Nat->Int->Option (Bool)
 |0,_=>none
 |m3+1,c2=>(bif (decide ((c2:Int)<(aa.Cache.Entries.length:Int)))then ((qK aa).bind fun jY=>
       some jY)
     else (some false)).bind fun zn=>
   match zn with
   |c17=>if c17 then (
       (ix aa.Cache.Entries c2).bind fun ic=>
       (bif (decide ((aa.Now:Int)<ic.At))then (some true)
         else (bif (decide ((aa.Cache.Age:Int)<(IntKind.i64.wrap (aa.Now-ic.At))))then (some true)
           else ((Vk aa.Log ic.Access).bind fun mX=>
             some (!mX)))).bind fun o26=>
       match o26 with
       |jZ=>if jZ then (
           some false)
         else (
           AQ aa m3 (IntKind.i64.wrap (c2+1))))
     else (
       (qK aa).bind fun Ub=>
       some Ub)
def Ll(aa:aY):Option (Bool):=
 AQ aa (((aa.Cache.Entries.length:Int)-0).toNat+2) 0
theorem aeU{aa:aY}{ae aP cz dB dw dE dG dI:Sv}{R:Bool}(hF:Ll aa=some R):
   Fw.Spec Tryz.prog 16 [(zg [ae.v,aP.v,cz.v,dB.v,(zi aa.Source.Version),dw.v,(zi aa.Cache.Age),(zi aa.Now),dE.v,dG.v,(zi aa.Spent),dI.v])] [ah ae aa.Schema,bW aP aa.Methods,fq cz aa.Rules,bH dB aa.Source.Facts,dM dw aa.Cache.Entries,eH dE aa.Log,ah dG aa.Times,bB (aD 152 (aD 24 (aD 3 az))) dI.v aa.Results] (fun _:Unit=>(.bool R)) (fun _=>[]):=by
 refine Se 49 Tryz.func16 [.tmp 2] ?_
 intro H0 F0
 unfold Ll at hF
 refine au ?_
 refine bP (fun k1=>?_)
 refine bE ?_
 refine bn (bU (m:=(((aa.Cache.Entries.length:Int)-0).toNat+2)) (fun m3 f' cs'=>∃(g:Fr)(c2:Int),f'=aQ g [(1,(pz k1)),(3,(zi c2))]/\aO cs' [aX k1 36 (zg [ae.v,aP.v,cz.v,dB.v,(zi aa.Source.Version),dw.v,(zi aa.Cache.Age),(zi aa.Now),dE.v,dG.v,(zi aa.Spent),dI.v]),ah ae aa.Schema,bW aP aa.Methods,fq cz aa.Rules,bH dB aa.Source.Facts,dM dw aa.Cache.Entries,eH dE aa.Log,ah dG aa.Times,bB (aD 152 (aD 24 (aD 3 az))) dI.v aa.Results]/\AQ aa m3 c2=some R) ⟨_,_,aA,ay,hF⟩ ?_)
 rintro m3 _ _ ⟨g4,c2,rfl,hE,hF⟩
 refine bu hE ?_
 rcases m3 with _|m3
 · rw[AQ]at hF
   exact absurd hF (by simp)
 rw[AQ]at hF
 refine au ?_
 obtain⟨zn,Q5,Nv⟩:=bind_some hF
 refine au ?_
 refine fe (fun f' cs'=>∃(c17:Bool)(g:Fr),c17=zn/\f'=aQ g [(1,(pz k1)),(3,(zi c2)),(14,(.bool c17))]/\aO cs' [aX k1 36 (zg [ae.v,aP.v,cz.v,dB.v,(zi aa.Source.Version),dw.v,(zi aa.Cache.Age),(zi aa.Now),dE.v,dG.v,(zi aa.Spent),dI.v]),ah ae aa.Schema,bW aP aa.Methods,fq cz aa.Rules,bH dB aa.Source.Facts,dM dw aa.Cache.Entries,eH dE aa.Log,ah dG aa.Times,bB (aD 152 (aD 24 (aD 3 az))) dI.v aa.Results]) ?_ ?_
 · replace hF:=Q5
   refine bJ ?_
   rcases bD (decide ((c2:Int)<(aa.Cache.Entries.length:Int)))with jL|jL
   · rw[jL]
     try rw[jL]at hF; dsimp only[aJ,aI]at hF
     refine bv ?_
     refine bnd hF fun jY kG hF=>bC (vG kG) (fun _=>?_)
     exact bK hF
   rw[jL]
   try rw[jL]at hF; dsimp only[aJ,aI]at hF
   exact bK hF
 rintro _ _ ⟨c17,Yo,rfl,rfl,hE⟩
 replace hF:=Nv
 try dsimp only at hF
 refine bu hE ?_
 refine Ci hF (fun De hF=>?_) (fun De hF=>?_)
 · refine bJ ?_
   refine zI hF fun ic ajP lG hF=>?_
   refine Ai lG (fun k22 j23=>?_)
   refine yj (wV ic) xQ (fun nO=>?_)
   refine d_ (fun k25=>?_)
   refine As (zg [(zi ic.Access.Method),nO.1.v,nO.2.v,(zi ic.At)]) ?_
   refine au ?_
   obtain⟨o26,avu,ayC⟩:=bind_some hF
   refine au ?_
   refine fe (fun f' cs'=>∃(jZ:Bool)(g:Fr),jZ=o26/\f'=aQ g [(1,(pz k1)),(3,(zi c2)),(46,(.bool jZ))]/\aO cs' [aX k1 36 (zg [ae.v,aP.v,cz.v,dB.v,(zi aa.Source.Version),dw.v,(zi aa.Cache.Age),(zi aa.Now),dE.v,dG.v,(zi aa.Spent),dI.v]),ah ae aa.Schema,bW aP aa.Methods,fq cz aa.Rules,bH dB aa.Source.Facts,dM dw aa.Cache.Entries,eH dE aa.Log,ah dG aa.Times,bB (aD 152 (aD 24 (aD 3 az))) dI.v aa.Results]) ?_ ?_
   · replace hF:=avu
     refine bE ?_
     rcases bD (decide ((aa.Now:Int)<ic.At))with yV|yV
     · rw[yV]
       try rw[yV]at hF; dsimp only[aJ,aI]at hF
       exact bK hF
     rw[yV]
     try rw[yV]at hF; dsimp only[aJ,aI]at hF
     refine as7 ?_
     rcases bD (decide ((aa.Cache.Age:Int)<(IntKind.i64.wrap (aa.Now-ic.At))))with rf|rf
     · rw[rf]
       try rw[rf]at hF; dsimp only[aJ,aI]at hF
       exact bK hF
     rw[rf]
     try rw[rf]at hF; dsimp only[aJ,aI]at hF
     refine bJ ?_
     refine eu .h (fun hp=>j_ (s:=2) (l:=[(zi ic.Access.Method),nO.1.v]) vY.h ky.h.sz (.tmp rfl rfl) hp.2 rfl (by decide) (Nat.le_of_ble_eq_true rfl) rfl) ?_
     refine au ?_
     refine bnd hF fun mX hx31 hF=>bC (ang hx31) (fun _=>?_)
     exact bK hF
   rintro _ _ ⟨jZ,g35,rfl,rfl,hE⟩
   replace hF:=ayC
   try dsimp only at hF
   refine bu hE ?_
   refine Ci hF (fun ayD hF=>?_) (fun ayD hF=>?_)
   · exact ze hF
   refine bE ?_
   exact⟨m3,bY _,_,_,aA,ay,hF⟩
 refine bE ?_
 refine bnd hF fun Ub Sz hF=>bC (vG Sz) (fun _=>?_)
 exact ze hF
def K3(aa:aY):Option (Bool):=
 ((Lh aa).bind fun r4=>
   bif r4 then ((LG aa).bind fun r8=>
     bif r8 then ((Lj aa).bind fun dz=>
       some dz)
     else (some false))
   else (some false)).bind fun o2=>
 match o2 with
 |c15=>some c15
theorem aeh{aa:aY}{ae aP cz dB dw dE dG dI:Sv}{R:Bool}(hF:K3 aa=some R):
   Fw.Spec Tryz.prog 17 [(zg [ae.v,aP.v,cz.v,dB.v,(zi aa.Source.Version),dw.v,(zi aa.Cache.Age),(zi aa.Now),dE.v,dG.v,(zi aa.Spent),dI.v])] [ah ae aa.Schema,bW aP aa.Methods,fq cz aa.Rules,bH dB aa.Source.Facts,dM dw aa.Cache.Entries,eH dE aa.Log,ah dG aa.Times,bB (aD 152 (aD 24 (aD 3 az))) dI.v aa.Results] (fun _:Unit=>(.bool R)) (fun _=>[]):=by
 refine Se 13 Tryz.func17 [.tmp 2] ?_
 intro H0 F0
 unfold K3 at hF
 refine au ?_
 refine bP (fun k1=>?_)
 refine aU ?_
 obtain⟨o2,gz,hO3⟩:=bind_some hF
 refine au ?_
 refine fe (fun f' cs'=>∃(c15:Bool)(g:Fr),c15=o2/\f'=aQ g [(2,(.bool c15))]/\aO cs' []) ?_ ?_
 · replace hF:=gz
   refine au ?_
   refine bnd hF fun r4 hx5 hF=>bC (aeR hx5) (fun _=>?_)
   refine au ?_
   rcases bD r4 with bq|bq
   · rw[bq]
     try rw[bq]at hF; dsimp only[aJ,aI]at hF
     refine bv ?_
     refine bnd hF fun r8 bZ hF=>bC (afp bZ) (fun _=>?_)
     refine aU ?_
     rcases bD r8 with dS|dS
     · rw[dS]
       try rw[dS]at hF; dsimp only[aJ,aI]at hF
       refine bv ?_
       refine bnd hF fun dz iJ hF=>bC (aeT iJ) (fun _=>?_)
       exact bK hF
     rw[dS]
     try rw[dS]at hF; dsimp only[aJ,aI]at hF
     exact bK hF
   rw[bq]
   try rw[bq]at hF; dsimp only[aJ,aI]at hF
   exact bK hF
 rintro _ _ ⟨c15,g16,rfl,rfl,hE⟩
 replace hF:=hO3
 try dsimp only at hF
 refine bu hE ?_
 exact ze hF
def K4(aa:aY):Option (Bool):=
 ((Li aa).bind fun r4=>
   bif r4 then ((LH aa).bind fun r8=>
     bif r8 then ((Ll aa).bind fun dz=>
       some dz)
     else (some false))
   else (some false)).bind fun o2=>
 match o2 with
 |c15=>some c15
theorem aei{aa:aY}{ae aP cz dB dw dE dG dI:Sv}{R:Bool}(hF:K4 aa=some R):
   Fw.Spec Tryz.prog 18 [(zg [ae.v,aP.v,cz.v,dB.v,(zi aa.Source.Version),dw.v,(zi aa.Cache.Age),(zi aa.Now),dE.v,dG.v,(zi aa.Spent),dI.v])] [ah ae aa.Schema,bW aP aa.Methods,fq cz aa.Rules,bH dB aa.Source.Facts,dM dw aa.Cache.Entries,eH dE aa.Log,ah dG aa.Times,bB (aD 152 (aD 24 (aD 3 az))) dI.v aa.Results] (fun _:Unit=>(.bool R)) (fun _=>[]):=by
 refine Se 13 Tryz.func18 [.tmp 2] ?_
 intro H0 F0
 unfold K4 at hF
 refine au ?_
 refine bP (fun k1=>?_)
 refine aU ?_
 obtain⟨o2,gz,hO3⟩:=bind_some hF
 refine au ?_
 refine fe (fun f' cs'=>∃(c15:Bool)(g:Fr),c15=o2/\f'=aQ g [(2,(.bool c15))]/\aO cs' []) ?_ ?_
 · replace hF:=gz
   refine au ?_
   refine bnd hF fun r4 hx5 hF=>bC (aeS hx5) (fun _=>?_)
   refine au ?_
   rcases bD r4 with bq|bq
   · rw[bq]
     try rw[bq]at hF; dsimp only[aJ,aI]at hF
     refine bv ?_
     refine bnd hF fun r8 bZ hF=>bC (afq bZ) (fun _=>?_)
     refine aU ?_
     rcases bD r8 with dS|dS
     · rw[dS]
       try rw[dS]at hF; dsimp only[aJ,aI]at hF
       refine bv ?_
       refine bnd hF fun dz iJ hF=>bC (aeU iJ) (fun _=>?_)
       exact bK hF
     rw[dS]
     try rw[dS]at hF; dsimp only[aJ,aI]at hF
     exact bK hF
   rw[bq]
   try rw[bq]at hF; dsimp only[aJ,aI]at hF
   exact bK hF
 rintro _ _ ⟨c15,g16,rfl,rfl,hE⟩
 replace hF:=hO3
 try dsimp only at hF
 refine bu hE ?_
 exact ze hF
def DZ(dm:dh)(bF:Fact):List Int->Nat->(List Int)->Option (Fact×Bool)
 |[],nC,lM=>some ((⟨dm.To,lM⟩:Fact),true)
 |xD::pI,nC,lM=>(ix bF.Values xD).bind fun wM=>
   (app lM ([wM]:List Int)).bind fun z53=>
   DZ dm bF pI (nC+1) z53
def Oi(dm:dh)(bF:Fact):Option (Fact×Bool):=
 if ((bF.Rel:Int)!=dm.From)then (
   some ((⟨0,[]⟩:Fact),false))
 else (
   DZ dm bF dm.Map 0 ([]:List Int))
theorem alQ{dm:dh}{cz:Sv}{bF:Fact}{aV:Sv}{R:Fact×Bool}(hF:Oi dm bF=some R):
   Fw.Spec Tryz.prog 85 [(zg [(zi dm.From),(zi dm.To),cz.v]),(zg [(zi bF.Rel),aV.v])] [ah cz dm.Map,ah aV bF.Values] (fun p:Sv×List Nat=>(.tuple [(zg [(zi R.1.Rel),p.1.v]),(.bool R.2)].toArray)) (fun p=>[bI p.2 p.1 R.1.Values]):=by
 refine Se 37 Tryz.func85 [.cell 4 70,.tmp 5] ?_
 intro H0 F0
 unfold Oi at hF
 refine au ?_
 refine bP (fun k1=>?_)
 refine bP (fun k2=>?_)
 refine d_ (fun k3=>?_)
 refine kF ?_
 refine Ci hF (fun Dh hF=>?_) (fun Dh hF=>?_)
 · refine au ?_
   refine aN (iD dZ.h rfl (vs:=[]) .nil (cells:=[(zi 0),(.slice none 0 0)]) rfl) ?_
   refine As (zg [(zi 0),(.slice none 0 0)]) ?_
   refine bv ?_
   cases hF
   exact gU (⟨none,0,0⟩,[]) (.cellA rfl rfl .h rfl vX.h dZ.h.sz rfl rfl (.tmp rfl rfl .nil)) rfl (.conv .nil (gV (Ro:=(aC az)) (E:=3)) (.cons .nil) (.sel (.cons .h .nil)))
 refine bi ?_
 refine aN (iD dZ.h rfl (vs:=[(zi dm.To)]) cu (cells:=[(zi dm.To),(.slice none 0 0)]) rfl) ?_
 refine d_ (fun k4=>?_)
 refine As (zg [(zi dm.To),(.slice none 0 0)]) ?_
 refine dN ?_
 refine bn (bU (m:=dm.Map.length) (fun Ug f' cs'=>∃(g:Fr)(nC:Nat)(pI lM:List Int)(v30:Sv)(KD:List Nat),Ug=pI.length/\f'=aQ g [(3,(pz k2)),(4,(pz k3)),(6,(pz k4)),(19,cz.v),(20,(zi (dm.Map.length:Int))),(21,(zi (nC:Int)))]/\List.drop nC dm.Map=pI/\aO cs' [aX k2 70 (zg [(zi bF.Rel),aV.v]),ah aV bF.Values,aW k3 70 (zg [(zi 0),(.slice none 0 0)]),aW k4 70 (zg [(zi dm.To),v30.v]),bI KD v30 lM,ah cz dm.Map]/\DZ dm bF pI nC lM=some R) ⟨_,0,_,_,⟨none,0,0⟩,[],rfl,aA,rfl,(.conv .nil (gV (Ro:=(aC az)) (E:=3)) (.cons .nil) ay),hF⟩ ?_)
 rintro Ug _ _ ⟨g34,nC,pI,lM,v30,KD,rfl,rfl,hd38,hE,hF⟩
 refine Kb hE dm.Map (fun avv=>?_)
 rcases pI with _|⟨xD,pI⟩
 · have adK:=dn hd38
   rw[DZ]at hF
   refine bi ?_
   refine dL ?_
   refine bE ?_
   refine As (zg [(zi dm.To),v30.v]) ?_
   refine bv ?_
   cases hF
   exact gU (v30,KD) (.cellA rfl rfl .h rfl vX.h dZ.h.sz rfl rfl (.tmp rfl rfl .nil)) rfl (.sel (.cons .q4 .nil))
 obtain⟨adK,uh,Dp⟩:=dA hd38
 rw[DZ]at hF
 refine bi ?_
 refine dK ?_
 refine bv ?_
 refine Ai uh (fun Yk Yl=>?_)
 refine Al dP ?_
 refine aU ?_
 refine jD [0,1,2,3,4,5,6,7,8,9,10] [0,1,0,4,0,28,60,124,255,511,1023] [8,10] mixed (by decide+kernel) ?_
 refine du ?_
 refine dO rfl .no .q4 (fun ha hp=>fw (v:=v30.v) iC.h (EN ha (.tmp rfl rfl) rfl) hp.2 rfl rfl) ?_
 refine dD ?_
 refine zI hF fun wM ajS rz hF=>?_
 refine Di rz (fun Yr Yt=>?_)
 refine Dl dP ?_
 refine iy rfl .no rfl (fun ha=>bQ (g:=true) (len:=1) (parts:=[(0,.tmp 31)]) di.h dx.h (.cons (EN ha (.tmp rfl rfl) rfl) .nil) (vs:=[(zi wM)]) rfl rfl rfl (by intro v hv; simp at hv; rcases hv with rfl<;>rfl)) (fun k52=>?_)
 refine jk (.cons .h .nil) (bS (Ro:=(aC az)) (E:=3) (F:=([]++[])) (xs:=([wM]:List Int)) (ed (jF (fun _=>rfl)) bR cK) rfl rfl) ?_
 refine bnd hF fun z53 ui hF=>cO rfl rfl .no (.cons .q7 (.cons .h .nil)) (.dep rfl (.dep rfl .nil)) (fun ha=>dX (Ro:=(aC az)) di.h jc dx.h rfl rfl rfl (EN ha (.tmp rfl rfl) rfl) (EN ha (.tmp rfl rfl) rfl) ui fU) (fun p55=>?_)
 refine du ?_
 refine cO rfl rfl .no (.cons .q6 .nil) (.dep rfl (.dep rfl .nil)) (fun ha=>gD (e':=(zg [(zi dm.To),p55.1.v])) pQ.h.sz (EN ha (.tmp rfl rfl) rfl) (EN ha (.tmp rfl rfl) rfl) rfl rfl rfl rfl rfl) (fun _=>?_)
 refine du ?_
 refine bi ?_
 rw[wk nC]
 exact⟨_,bY _,_,nC+1,pI,_,p55.1,p55.2,rfl,aA,Dp,ay,hF⟩
def O3(aS:Fact)(ak:Fact):Option (Bool):=
 (Ee aS ak).bind fun r2=>
 some ((r2:Int)==0)
theorem amK{aS:Fact}{aP:Sv}{bT:Nat}{ak:Fact}{dW:Sv}{R:Bool}(hF:O3 aS ak=some R):
   Fw.Spec Tryz.prog 128 [(zg [(zi aS.Rel),aP.v]),(pz bT)] [ah aP aS.Values,aX bT 70 (zg [(zi ak.Rel),dW.v]),ah dW ak.Values] (fun _:Unit=>(.bool R)) (fun _=>[]):=by
 refine Se 8 Tryz.func128 [.tmp 3] ?_
 intro H0 F0
 unfold O3 at hF
 refine au ?_
 refine bP (fun k1=>?_)
 refine aZ ?_
 refine bnd hF fun r2 hx3 hF=>bC (UI hx3) (fun _=>?_)
 exact ze hF
def KN(ak:Fact):List Fact->Nat->Option (Int)
 |[],k4=>some (-1)
 |x6::aM,k4=>(O3 x6 ak).bind fun r16=>
   if r16 then (
     some (k4:Int))
   else (
     KN ak aM (k4+1))
def Uw(ag:List Fact)(ak:Fact):Option (Int):=
 KN ak ag 0
theorem ak4{ag:List Fact}{ae:Sv}{bT:Nat}{ak:Fact}{dW:Sv}{R:Int}(hF:Uw ag ak=some R):
   Fw.Spec Tryz.prog 120 [ae.v,(.func (.func 128) [].toArray [(pz bT)].toArray)] [bH ae ag,aX bT 70 (zg [(zi ak.Rel),dW.v]),ah dW ak.Values] (fun _:Unit=>(zi R)) (fun _=>[]):=by
 refine Se 19 Tryz.func120 [.tmp 4] ?_
 intro H0 F0
 unfold Uw at hF
 refine gF ?_
 refine bn (bU (m:=ag.length) (fun m2 f' cs'=>∃(g:Fr)(k4:Nat)(aM:List Fact),m2=aM.length/\f'=aQ g [(0,ae.v),(1,(.func (.func 128) [].toArray [(pz bT)].toArray)),(7,(zi (ag.length:Int))),(8,(zi (k4:Int)))]/\List.drop k4 ag=aM/\aO cs' [bH ae ag,aX bT 70 (zg [(zi ak.Rel),dW.v]),ah dW ak.Values]/\KN ak aM k4=some R) ⟨_,0,_,rfl,aA,rfl,ay,hF⟩ ?_)
 rintro m2 _ _ ⟨g3,k4,aM,rfl,rfl,hd7,hE,hF⟩
 refine Kb hE ag (fun kY=>?_)
 rcases aM with _|⟨x6,aM⟩
 · have gH:=dn hd7
   rw[KN]at hF
   refine bi ?_
   refine dL ?_
   exact ze hF
 obtain⟨gH,bZ,gG⟩:=dA hd7
 rw[KN]at hF
 refine bi ?_
 refine dK ?_
 refine kF ?_
 refine Ai bZ (fun k13 oK=>?_)
 refine ni (lZ x6) mq (fun nA=>?_)
 refine bnd hF fun r16 jO hF=>l9 (.rd .h rfl (.rd .q3 rfl (.rd .q4 rfl .nil))) (qL as1.h (.tmp rfl rfl) cu (amK jO)) (fun _=>?_)
 refine au ?_
 refine Ci hF (fun nK hF=>?_) (fun nK hF=>?_)
 · exact ze hF
 refine aZ ?_
 rw[wk k4]
 exact⟨_,bY _,_,k4+1,aM,rfl,aA,gG,ay,hF⟩
def NP(ag:List Fact)(ak:Fact):Option (Bool):=
 (Uw ag ak).bind fun r1=>
 some (decide ((0:Int)<=r1))
theorem akY{ag:List Fact}{ae:Sv}{bT:Nat}{ak:Fact}{dW:Sv}{R:Bool}(hF:NP ag ak=some R):
   Fw.Spec Tryz.prog 127 [ae.v,(.func (.func 128) [].toArray [(pz bT)].toArray)] [bH ae ag,aX bT 70 (zg [(zi ak.Rel),dW.v]),ah dW ak.Values] (fun _:Unit=>(.bool R)) (fun _=>[]):=by
 refine Se 9 Tryz.func127 [.tmp 4] ?_
 intro H0 F0
 unfold NP at hF
 refine bE ?_
 refine bnd hF fun r1 hx2 hF=>bC (ak4 hx2) (fun _=>?_)
 exact ze hF
def IW(ai:List Fact)(bF:Fact):Option (Bool):=
 (NP ai bF).bind fun r2=>
 some r2
theorem afL{ai:List Fact}{ae:Sv}{bF:Fact}{aV:Sv}{R:Bool}(hF:IW ai bF=some R):
   Fw.Spec Tryz.prog 86 [ae.v,(zg [(zi bF.Rel),aV.v])] [bH ae ai,ah aV bF.Values] (fun _:Unit=>(.bool R)) (fun _=>[]):=by
 refine Se 8 Tryz.func86 [.tmp 4] ?_
 intro H0 F0
 unfold IW at hF
 refine au ?_
 refine bP (fun k1=>?_)
 refine bi ?_
 refine aN (wU (fn:=.func 128) (vs:=[]) (us:=[(pz k1)]) .nil cu) ?_
 refine bnd hF fun r2 hx3 hF=>bC (akY hx3) (fun _=>?_)
 exact ze hF
def PG(aS:Fact)(ak:Fact):Option (Bool):=
 (Ee aS ak).bind fun r2=>
 some (decide ((0:Int)<r2))
theorem anQ{aS:Fact}{aP:Sv}{bT:Nat}{ak:Fact}{dW:Sv}{R:Bool}(hF:PG aS ak=some R):
   Fw.Spec Tryz.prog 129 [(zg [(zi aS.Rel),aP.v]),(pz bT)] [ah aP aS.Values,aX bT 70 (zg [(zi ak.Rel),dW.v]),ah dW ak.Values] (fun _:Unit=>(.bool R)) (fun _=>[]):=by
 refine Se 8 Tryz.func129 [.tmp 3] ?_
 intro H0 F0
 unfold PG at hF
 refine au ?_
 refine bP (fun k1=>?_)
 refine aZ ?_
 refine bnd hF fun r2 hx3 hF=>bC (UI hx3) (fun _=>?_)
 exact ze hF
def KO(ak:Fact):List Fact->Nat->Option (Int)
 |[],k4=>some (-1)
 |x6::aM,k4=>(PG x6 ak).bind fun r16=>
   if r16 then (
     some (k4:Int))
   else (
     KO ak aM (k4+1))
def Ux(ag:List Fact)(ak:Fact):Option (Int):=
 KO ak ag 0
theorem ak5{ag:List Fact}{ae:Sv}{bT:Nat}{ak:Fact}{dW:Sv}{R:Int}(hF:Ux ag ak=some R):
   Fw.Spec Tryz.prog 120 [ae.v,(.func (.func 129) [].toArray [(pz bT)].toArray)] [bH ae ag,aX bT 70 (zg [(zi ak.Rel),dW.v]),ah dW ak.Values] (fun _:Unit=>(zi R)) (fun _=>[]):=by
 refine Se 19 Tryz.func120 [.tmp 4] ?_
 intro H0 F0
 unfold Ux at hF
 refine gF ?_
 refine bn (bU (m:=ag.length) (fun m2 f' cs'=>∃(g:Fr)(k4:Nat)(aM:List Fact),m2=aM.length/\f'=aQ g [(0,ae.v),(1,(.func (.func 129) [].toArray [(pz bT)].toArray)),(7,(zi (ag.length:Int))),(8,(zi (k4:Int)))]/\List.drop k4 ag=aM/\aO cs' [bH ae ag,aX bT 70 (zg [(zi ak.Rel),dW.v]),ah dW ak.Values]/\KO ak aM k4=some R) ⟨_,0,_,rfl,aA,rfl,ay,hF⟩ ?_)
 rintro m2 _ _ ⟨g3,k4,aM,rfl,rfl,hd7,hE,hF⟩
 refine Kb hE ag (fun kY=>?_)
 rcases aM with _|⟨x6,aM⟩
 · have gH:=dn hd7
   rw[KO]at hF
   refine bi ?_
   refine dL ?_
   exact ze hF
 obtain⟨gH,bZ,gG⟩:=dA hd7
 rw[KO]at hF
 refine bi ?_
 refine dK ?_
 refine kF ?_
 refine Ai bZ (fun k13 oK=>?_)
 refine ni (lZ x6) mq (fun nA=>?_)
 refine bnd hF fun r16 jO hF=>l9 (.rd .h rfl (.rd .q3 rfl (.rd .q4 rfl .nil))) (qL as2.h (.tmp rfl rfl) cu (anQ jO)) (fun _=>?_)
 refine au ?_
 refine Ci hF (fun nK hF=>?_) (fun nK hF=>?_)
 · exact ze hF
 refine aZ ?_
 rw[wk k4]
 exact⟨_,bY _,_,k4+1,aM,rfl,aA,gG,ay,hF⟩
def KV(ag:List Fact)(qg:Int)(nS:List Fact):Option (List Fact):=
 match nS with
 |[a]=>if 0<=qg/\qg.toNat<=ag.length/\ag.length+1<4294967296 then some (ag.take qg.toNat++a::ag.drop qg.toNat)else none
 |_=>none
set_option maxHeartbeats 4000000 in
theorem aln(es:List Value)(e:Value)(v u:Sv)(F F2:List Nat)(i:Nat)(hi:i<=es.length)(hb:es.length+1<4294967296):Fw.Spec Tryz.prog 130 [v.v,.int .i64 (i:Int),u.v] [aT (aF 70 (aC (h_ 2))) F v.v es,aT (aF 70 (aC (h_ 2))) F2 u.v [e]] (fun q:Sv×List Nat=>q.1.v) (fun q=>[aT (aF 70 (aC (h_ 2))) q.2 q.1.v (es.take i++e::es.drop i)]):=by
 refine Iz (n:=95) Tryz.func130 rfl rfl (rs:=[.tmp 6]) rfl rfl rfl ?_
 intro H0 F0
 refine dC ?_
 refine aN (jW (v:=(.slice none 0 0)) EV.nilSlice) ?_
 refine df ?_
 refine dC ?_
 refine aN (fQ (v:=v.v) (.tmp rfl rfl)) ?_
 refine aN (fQ (v:=(.int .i64 (i:Int))) (.tmp rfl rfl)) ?_
 refine ek (.cons .h .nil) (aos gq.h dZ.h.sz (.tmp rfl rfl) (.tmp rfl rfl) hi) (fun w0=>?_)
 refine df ?_
 refine dC ?_
 refine aN (fQ (v:=u.v) (.tmp rfl rfl)) ?_
 refine eu (.t .h) (fun hp=>rZ (l:=1) gq.h (.tmp rfl rfl) (L6 hp)) ?_
 refine aN (jW (v:=(.int .i64 ((1:Nat):Int))) (.tmp rfl rfl)) ?_
 refine df ?_
 refine j4 ?_
 refine dC ?_
 refine aN (fQ (v:=(.int .i64 ((1:Nat):Int))) (.tmp rfl rfl)) ?_
 refine aN (tH (i:=((1:Nat):Int)) (j:=0) (.tmp rfl rfl) (.int _ _)) ?_
 refine df ?_
 refine kg (b:=(((1:Nat):Int)==0)) (.tmp rfl rfl) (fun hb0=>absurd hb0 (by decide)) (fun _=>?_)
 refine nU ?_
 refine dC ?_
 refine aN (fQ (v:=v.v) (.tmp rfl rfl)) ?_
 refine eu .h (fun hp=>rZ (l:=es.length) gq.h (.tmp rfl rfl) (L6 hp)) ?_
 refine aN (jW (v:=(.int .i64 (es.length:Int))) (.tmp rfl rfl)) ?_
 refine df ?_
 refine j4 ?_
 refine dC ?_
 refine aN (fQ (v:=(.int .i64 (i:Int))) (.tmp rfl rfl)) ?_
 refine aN (fQ (v:=(.int .i64 (es.length:Int))) (.tmp rfl rfl)) ?_
 refine aN (tH (i:=(i:Int)) (j:=(es.length:Int)) (.tmp rfl rfl) (.tmp rfl rfl)) ?_
 refine df ?_
 refine kg (b:=((i:Int)==(es.length:Int))) (.tmp rfl rfl) (fun hb1=>?_) (fun hb1=>?_)
 · have hie:i=es.length:=by simp only[beq_iff_eq]at hb1; omega
   refine dC ?_
   refine aN (fQ (v:=v.v) (.tmp rfl rfl)) ?_
   refine aN (fQ (v:=u.v) (.tmp rfl rfl)) ?_
   refine ek (.cons .h (.cons .h .nil)) (dX (Ro:=(aC (h_ 2))) gq.h yo dZ.h rfl rfl rfl (.tmp rfl rfl) (.tmp rfl rfl) (oN (xs:=es) (ys:=[e]) (by simpa using hb)) fU) (fun p=>?_)
   refine aN (jW (v:=p.1.v) (.tmp rfl rfl)) ?_
   refine df ?_
   refine qN ?_
   rw[hie,List.take_length,List.drop_length]
   exact gU p (.tmp rfl rfl .nil) rfl (.sel (.cons .h .nil))
 refine nU ?_
 have hlt:i<es.length:=by simp at hb1; omega
 refine PS .h (ZX (by intro h; rw[h]at hlt; simp at hlt)) (fun hv=>?_)
 obtain⟨k0,m0,rfl,hm0⟩:=hv
 refine PS (.t .h) (ZX (by simp)) (fun hu=>?_)
 obtain⟨k1,m1,rfl,hm1⟩:=hu
 refine arP (t:=0) (k:=k0) (l:=es.length) (m:=m0) rfl rfl hm0 (by omega) .h rfl (fun c hc=>?_)
 have w1:IntKind.i64.wrap ((es.length:Int)+((1:Nat):Int))=((es.length+1:Nat):Int):=by rw[eU (by omega) (by omega)]; rfl
 have w2:IntKind.i64.wrap ((i:Int)+((1:Nat):Int))=((i+1:Nat):Int):=by rw[eU (by omega) (by omega)]; rfl
 have w3:IntKind.i64.wrap (((es.length+1:Nat):Int)-(i:Int))=((es.length+1-i:Nat):Int):=by rw[eU (by omega) (by omega)]; omega
 have hel:(es.take i++e::es.drop i).length=es.length+1:=apC hi
 refine j4 ?_
 refine dC ?_
 refine aN (fQ (v:=(.int .i64 (es.length:Int))) (.tmp rfl rfl)) ?_
 refine aN (fQ (v:=(.int .i64 ((1:Nat):Int))) (.tmp rfl rfl)) ?_
 refine aN (nW (i:=(es.length:Int)) (j:=((1:Nat):Int)) (.tmp rfl rfl) (.tmp rfl rfl)) ?_
 rw[w1]
 refine aN (fQ (v:=(.slice (some ⟨k0,0,none⟩) es.length (c+3))) (.tmp rfl rfl)) ?_
 refine eu .h (fun hp=>aqb gq.h hp rfl (.tmp rfl rfl)) ?_
 refine aN (Je (i:=((es.length+1:Nat):Int)) (j:=(c:Int)) (.tmp rfl rfl) (.tmp rfl rfl)) ?_
 refine df ?_
 refine kg (b:=(decide ((c:Int)<((es.length+1:Nat):Int)))) (.tmp rfl rfl) (fun hb2=>?_) (fun hb2=>?_)
 · have hcl:c<es.length+1:=by simp only[decide_eq_true_eq]at hb2; omega
   refine dC ?_
   refine aN (fQ (v:=(.slice (some ⟨k0,0,none⟩) es.length (c+3))) (.tmp rfl rfl)) ?_
   refine aN (fQ (v:=(.int .i64 (i:Int))) (.tmp rfl rfl)) ?_
   refine eu .h (fun hp=>af3 (j:=i) gq.h dZ.h.sz hp rfl (.tmp rfl rfl) (.tmp rfl rfl) (by omega)) ?_
   refine aN (fQ (v:=(.int .i64 (es.length:Int))) (.tmp rfl rfl)) ?_
   refine aN (fQ (v:=(.int .i64 ((1:Nat):Int))) (.tmp rfl rfl)) ?_
   refine aN (nW (i:=(es.length:Int)) (j:=((1:Nat):Int)) (.tmp rfl rfl) (.tmp rfl rfl)) ?_
   rw[w1]
   refine aN (fQ (v:=(.int .i64 (i:Int))) (.tmp rfl rfl)) ?_
   refine aN (ME (i:=((es.length+1:Nat):Int)) (j:=(i:Int)) (.tmp rfl rfl) (.tmp rfl rfl)) ?_
   rw[w3]
   refine uZ (.cons .h .nil) (anH (c:=c) (q:=es.length+1-i) gq.h ik3 dZ.h rfl rfl rfl rfl rfl rfl (.tmp rfl rfl) (.tmp rfl rfl) (by omega) (by omega) (by omega) (by omega)) (fun k2=>?_)
   rw[show i+(es.length+1-i)=es.length+1 from by omega]
   refine aN (jW (v:=(.slice (some ⟨k2,0,none⟩) (es.length+1) 2)) (.tmp rfl rfl)) ?_
   refine df ?_
   refine dC ?_
   refine aN (fQ (v:=(.slice (some ⟨k2,0,none⟩) (es.length+1) 2)) (.tmp rfl rfl)) ?_
   refine aN (fQ (v:=(.int .i64 (i:Int))) (.tmp rfl rfl)) ?_
   refine eu .h (fun hp=>EJ (j:=i) gq.h dZ.h.sz hp rfl (.tmp rfl rfl) (.tmp rfl rfl) (by omega)) ?_
   refine aN (fQ (v:=(.slice (some ⟨k1,0,none⟩) 1 m1)) (.tmp rfl rfl)) ?_
   refine uZ (.cons .h (.cons (.t .h) .nil)) (aaa (m1:=0) (m2:=m1) (ia:=i) (ja:=0) (ld:=es.length+1-i) (ls:=1) (es2:=[e]) (es':=es.take i++e::List.replicate (es.length-i) (.agg [(.int .i64 0),(.slice none 0 0)].toArray)) gq.h dZ.h.sz rfl rfl rfl (by exact .tmp rfl rfl) (by exact .tmp rfl rfl) (by omega) (by omega) (by rw[List.length_singleton]; omega) (by simp; omega) (aqc (e:=e) (z:=(.agg [(.int .i64 0),(.slice none 0 0)].toArray)) hlt) (by simp; omega)) (fun _=>?_)
   refine df ?_
   refine dV [0,1,2,3,4,5,6,7,8] [0,0,0,6,15,0,0,96,255] [8] mixed (by decide+kernel) ?_
   refine bN rfl .no (fun ha=>fQ (v:=(.slice (some ⟨k2,0,none⟩) (es.length+1) 2)) (EN ha (.tmp rfl rfl) rfl)) ?_
   refine bN rfl .no (fun ha=>fQ (v:=(.int .i64 (i:Int))) (EN ha (.tmp rfl rfl) rfl)) ?_
   refine bN rfl .no (fun ha=>fQ (v:=(.int .i64 ((1:Nat):Int))) (EN ha (.tmp rfl rfl) rfl)) ?_
   refine bN rfl .no (fun ha=>nW (i:=(i:Int)) (j:=((1:Nat):Int)) (EN ha (.tmp rfl rfl) rfl) (EN ha (.tmp rfl rfl) rfl)) ?_
   rw[w2]
   refine dO rfl .no .h (fun ha hp=>EJ (j:=i+1) gq.h dZ.h.sz hp rfl (EN ha (.tmp rfl rfl) rfl) (EN ha (.tmp rfl rfl) rfl) (by omega)) ?_
   refine bN rfl .no (fun ha=>fQ (v:=(.slice (some ⟨k0,0,none⟩) es.length (c+3))) (EN ha (.tmp rfl rfl) rfl)) ?_
   refine bN rfl .no (fun ha=>fQ (v:=(.int .i64 (i:Int))) (EN ha (.tmp rfl rfl) rfl)) ?_
   refine dO rfl .no (.t (.t .h)) (fun ha hp=>EJ (j:=i) gq.h dZ.h.sz hp rfl (EN ha (.tmp rfl rfl) rfl) (EN ha (.tmp rfl rfl) rfl) (by omega)) ?_
   refine pq rfl rfl .no (.cons .h (.cons (.t .h) .nil)) (.dep rfl (.dep rfl .nil)) (fun ha=>aaa gq.h dZ.h.sz rfl rfl rfl (EN ha (.tmp rfl rfl) rfl) (EN ha (.tmp rfl rfl) rfl) (by omega) (by omega) (by omega) (by simp; omega) (aqd (e:=e) (z:=(.agg [(.int .i64 0),(.slice none 0 0)].toArray)) hlt) (by omega)) (fun _=>?_)
   refine l6 ?_
   refine dC ?_
   refine aN (fQ (v:=(.slice (some ⟨k2,0,none⟩) (es.length+1) 2)) (.tmp rfl rfl)) ?_
   refine aN (jW (v:=(.slice (some ⟨k2,0,none⟩) (es.length+1) 2)) (.tmp rfl rfl)) ?_
   refine df ?_
   refine qN ?_
   rw[hel]
   exact gU (⟨some ⟨k2,0,none⟩,es.length+1,2⟩,[k2]) (.tmp rfl rfl .nil) rfl (.sel (.cons .h .nil))
 refine nU ?_
 have hcl:es.length+1<=c:=by simp only[decide_eq_false_iff_not]at hb2; omega
 refine dC ?_
 refine aN (fQ (v:=(.slice (some ⟨k0,0,none⟩) es.length (c+3))) (.tmp rfl rfl)) ?_
 refine aN (fQ (v:=(.int .i64 (es.length:Int))) (.tmp rfl rfl)) ?_
 refine aN (fQ (v:=(.int .i64 ((1:Nat):Int))) (.tmp rfl rfl)) ?_
 refine aN (nW (i:=(es.length:Int)) (j:=((1:Nat):Int)) (.tmp rfl rfl) (.tmp rfl rfl)) ?_
 rw[w1]
 refine eu .h (fun hp=>af3 (j:=es.length+1) gq.h dZ.h.sz hp rfl (.tmp rfl rfl) (.tmp rfl rfl) hcl) ?_
 refine aN (jW (v:=(.slice (some ⟨k0,0,none⟩) (es.length+1) (c+3))) (.tmp rfl rfl)) ?_
 refine df ?_
 refine j4 ?_
 refine dC ?_
 refine aN (fQ (v:=(.slice (some ⟨k1,0,none⟩) 1 m1)) (.tmp rfl rfl)) ?_
 refine aN (fQ (v:=(.slice (some ⟨k0,0,none⟩) (es.length+1) (c+3))) (.tmp rfl rfl)) ?_
 refine aN (fQ (v:=(.int .i64 (i:Int))) (.tmp rfl rfl)) ?_
 refine aN (fQ (v:=(.int .i64 ((1:Nat):Int))) (.tmp rfl rfl)) ?_
 refine aN (nW (i:=(i:Int)) (j:=((1:Nat):Int)) (.tmp rfl rfl) (.tmp rfl rfl)) ?_
 rw[w2]
 refine eu .h (fun hp=>EJ (j:=i+1) gq.h dZ.h.sz hp rfl (.tmp rfl rfl) (.tmp rfl rfl) (by omega)) ?_
 refine uZ (.cons (.t .h) (.cons .h .nil)) (aor gq.h dZ.h.sz rfl aqr rfl rfl (.tmp rfl rfl) (.tmp rfl rfl) (by omega) (by omega)) (fun _=>?_)
 refine aN (Jf (b:=false) (.tmp rfl rfl)) ?_
 refine df ?_
 refine kg (b:=(!false)) (.tmp rfl rfl) (fun _=>?_) (fun h=>absurd h (by decide))
 refine dV [0,1,2,3,4,5,6,7,8] [0,0,0,6,15,0,0,96,255] [8] mixed (by decide+kernel) ?_
 refine bN rfl .no (fun ha=>fQ (v:=(.slice (some ⟨k0,0,none⟩) (es.length+1) (c+3))) (EN ha (.tmp rfl rfl) rfl)) ?_
 refine bN rfl .no (fun ha=>fQ (v:=(.int .i64 (i:Int))) (EN ha (.tmp rfl rfl) rfl)) ?_
 refine bN rfl .no (fun ha=>fQ (v:=(.int .i64 ((1:Nat):Int))) (EN ha (.tmp rfl rfl) rfl)) ?_
 refine bN rfl .no (fun ha=>nW (i:=(i:Int)) (j:=((1:Nat):Int)) (EN ha (.tmp rfl rfl) rfl) (EN ha (.tmp rfl rfl) rfl)) ?_
 rw[w2]
 refine dO rfl .no (.t .h) (fun ha hp=>EJ (j:=i+1) gq.h dZ.h.sz hp rfl (EN ha (.tmp rfl rfl) rfl) (EN ha (.tmp rfl rfl) rfl) (by omega)) ?_
 refine bN rfl .no (fun ha=>fQ (v:=(.slice (some ⟨k0,0,none⟩) (es.length+1) (c+3))) (EN ha (.tmp rfl rfl) rfl)) ?_
 refine bN rfl .no (fun ha=>fQ (v:=(.int .i64 (i:Int))) (EN ha (.tmp rfl rfl) rfl)) ?_
 refine dO rfl .no (.t .h) (fun ha hp=>EJ (j:=i) gq.h dZ.h.sz hp rfl (EN ha (.tmp rfl rfl) rfl) (EN ha (.tmp rfl rfl) rfl) (by omega)) ?_
 refine cO rfl rfl .no (.cons (.t .h) .nil) (.dep rfl (.dep rfl .nil)) (fun ha=>apB gq.h dZ.h.sz rfl rfl (EN ha (.tmp rfl rfl) rfl) (EN ha (.tmp rfl rfl) rfl) (by omega) (by omega) (by omega) (by omega) (aqe hlt) (by simp; omega)) (fun _=>?_)
 refine l6 ?_
 refine dC ?_
 refine aN (fQ (v:=(.slice (some ⟨k0,0,none⟩) (es.length+1) (c+3))) (.tmp rfl rfl)) ?_
 refine aN (fQ (v:=(.int .i64 (i:Int))) (.tmp rfl rfl)) ?_
 refine eu .h (fun hp=>EJ (j:=i) gq.h dZ.h.sz hp rfl (.tmp rfl rfl) (.tmp rfl rfl) (by omega)) ?_
 refine aN (fQ (v:=(.slice (some ⟨k1,0,none⟩) 1 m1)) (.tmp rfl rfl)) ?_
 refine uZ (.cons .h (.cons .h .nil)) (aaa (m1:=0) (m2:=m1) (ia:=i) (ja:=0) (ld:=es.length+1-i) (ls:=1) (es2:=[e]) (es':=es.take i++e::es.drop i) gq.h dZ.h.sz rfl rfl rfl (by exact .tmp rfl rfl) (by exact .tmp rfl rfl) (by omega) (by omega) (by rw[List.length_singleton]; omega) (by simp; omega) (aqf (e:=e) hlt) (by omega)) (fun _=>?_)
 refine df ?_
 refine dC ?_
 refine aN (fQ (v:=(.slice (some ⟨k0,0,none⟩) (es.length+1) (c+3))) (.tmp rfl rfl)) ?_
 refine aN (jW (v:=(.slice (some ⟨k0,0,none⟩) (es.length+1) (c+3))) (.tmp rfl rfl)) ?_
 refine df ?_
 refine apA (t:=6) (k:=k0) (l:=es.length+1) (c:=c) rfl rfl ?_
 refine qN ?_
 rw[hel]
 exact gU (⟨some ⟨k0,0,none⟩,es.length+1,2⟩,F) (.tmp rfl rfl .nil) rfl (.sel (.cons .h .nil))
theorem adQ{ag:List Fact}{ae:Sv}{xw:List Nat}{qg:Int}{nS:List Fact}{bM:Sv}{ayE:List Nat}{R:List Fact}(hF:KV ag qg nS=some R):
   Fw.Spec Tryz.prog 130 [ae.v,.int .i64 qg,bM.v] [aT (aF 70 gQ) xw ae.v ag,aT (aF 70 gQ) ayE bM.v nS] (fun p:Sv×List Nat=>p.1.v) (fun p=>[aT (aF 70 gQ) p.2 p.1.v R]):=by
 unfold KV at hF
 rcases nS with _|⟨a,_|⟨_,_⟩⟩
 · simp at hF
 · dsimp only at hF
   split at hF
   · rename_i h
     obtain⟨h0,h1,h2⟩:=h
     obtain⟨i,rfl⟩:∃i:Nat,qg=(i:Int):=⟨qg.toNat,by omega⟩
     cases hF
     rw[Int.toNat_natCast]at h1 ⊢
     exact aoV (s:=2) fun es e Fa Fb hl=>aln es e ae bM Fa Fb i (by omega) (by omega)
   · simp at hF
 · simp at hF
def Mr(ai:List Fact)(bF:Fact):Option ((List Fact)):=
 (IW ai bF).bind fun r2=>
 if r2 then (
   some ai)
 else (
   (Ux ai bF).bind fun r5=>
   if (decide ((r5:Int)<0))then (
     (IP bF).bind fun r8=>
     (KV ai (ai.length:Int) ([r8]:List Fact)).bind fun dz=>
     some dz)
   else (
     (IP bF).bind fun gu=>
     (KV ai r5 ([gu]:List Fact)).bind fun qI=>
     some qI))
theorem aov{ai:List Fact}{ae:Sv}{xw:List Nat}{bF:Fact}{aV:Sv}{R:(List Fact)}(hF:Mr ai bF=some R):
   Fw.Spec Tryz.prog 87 [ae.v,(zg [(zi bF.Rel),aV.v])] [eP xw ae ai,ah aV bF.Values] (fun p:Sv×List Nat=>p.1.v) (fun p=>[eP p.2 p.1 R]):=by
 refine Se 23 Tryz.func87 [.tmp 4] ?_
 intro H0 F0
 unfold Mr at hF
 refine au ?_
 refine bP (fun k1=>?_)
 refine bE ?_
 refine bnd hF fun r2 hx3 hF=>ek (.cons (.t .h) (.rd (.t .h) rfl .nil)) (jV aG (fun _=>.nil) (bV ajC.h cu (@afL ai ae bF aV _ hx3))) (fun _=>?_)
 refine au ?_
 refine Ci hF (fun yS hF=>?_) (fun yS hF=>?_)
 · refine aZ ?_
   cases hF
   exact Er (ae,xw)
 refine bv ?_
 refine aN (wU (fn:=.func 129) (vs:=[]) (us:=[(pz k1)]) .nil cu) ?_
 refine bnd hF fun r5 hx6 hF=>ek (.cons .h (.rd .h rfl (.rd (.t .h) rfl .nil))) (jV aG (fun _=>.nil) (bV aiv.h cu (@ak5 ai ae k1 bF aV _ hx6))) (fun _=>?_)
 refine bJ ?_
 refine Ci hF (fun vZ hF=>?_) (fun vZ hF=>?_)
 · refine gF ?_
   refine bnd hF fun r8 bZ hF=>gB (Zb bZ) (fun fT=>?_)
   refine dH rfl (bQ (g:=true) gq.h dZ.h cu (vs:=[(zg [(zi r8.Rel),fT.1.v])]) rfl rfl rfl (by intro v hv; simp at hv; rcases hv with rfl<;>rfl)) (fun k11=>?_)
   refine dR (.cons .h (.cons .h .nil)) (bS (Ro:=gQ) (E:=70) (F:=(fT.2++[])) (xs:=([r8]:List Fact)) (ed yn bR cK) rfl rfl) ?_
   refine bnd hF fun dz iJ hF=>gB (@adQ _ _ _ _ _ (⟨(some ⟨k11,0,none⟩),1,1⟩) _ _ iJ) (fun mh=>?_)
   refine bv ?_
   cases hF
   exact Er (mh.1,mh.2)
 refine aZ ?_
 refine bnd hF fun gu hx16 hF=>gB (Zb hx16) (fun ny=>?_)
 refine dH rfl (bQ (g:=true) gq.h dZ.h cu (vs:=[(zg [(zi gu.Rel),ny.1.v])]) rfl rfl rfl (by intro v hv; simp at hv; rcases hv with rfl<;>rfl)) (fun k18=>?_)
 refine dR (.cons .h (.cons .h .nil)) (bS (Ro:=gQ) (E:=70) (F:=(ny.2++[])) (xs:=([gu]:List Fact)) (ed yn bR cK) rfl rfl) ?_
 refine bnd hF fun qI wo hF=>gB (@adQ _ _ _ _ _ (⟨(some ⟨k18,0,none⟩),1,1⟩) _ _ wo) (fun mW=>?_)
 refine bv ?_
 cases hF
 exact Er (mW.1,mW.2)
def Ih(bO:List Fact)(eY:Fact):List dh->Nat->(List Fact)->Option ((List Fact))
 |[],sP,c23=>some c23
 |x31::Cs,sP,c23=>((Oi x31 eY).bind fun jS=>
     (bif jS.2 then ((IW bO jS.1).bind fun vE=>
         some (!vE))
       else (some false)).bind fun Uh=>
     match Uh with
     |rV=>if rV then (
         (Mr c23 jS.1).bind fun uE=>
         some uE)
       else (
         some c23)).bind fun o38=>
   match o38 with
   |Ui=>Ih bO eY Cs (sP+1) Ui
def Ii(ai:List dh)(bO:List Fact):List Fact->Nat->(List Fact)->Option ((List Fact))
 |[],k8,c2=>some c2
 |eY::fO,k8,c2=>(Ih bO eY ai 0 c2).bind fun wQ=>
   match wQ with
   |oo=>Ii ai bO fO (k8+1) oo
def Vs(ai:List dh)(bO:List Fact):Option ((List Fact)):=
 Ii ai bO bO 0 ([]:List Fact)
theorem anR{ai:List dh}{ae:Sv}{bO:List Fact}{ax:Sv}{R:(List Fact)}(hF:Vs ai bO=some R):
   Fw.Spec Tryz.prog 46 [ae.v,ax.v] [fq ae ai,bH ax bO] (fun p:Sv×List Nat=>p.1.v) (fun p=>[eP p.2 p.1 R]):=by
 refine Se 44 Tryz.func46 [.tmp 4] ?_
 intro H0 F0
 unfold Vs at hF
 refine bi ?_
 refine dH rfl (bQ (g:=true) gq.h dZ.h .nil (vs:=[]) rfl rfl rfl (by simp)) (fun k1=>?_)
 refine dR (.cons .h .nil) (bS (Ro:=gQ) (E:=70) (F:=[]) (xs:=([]:List Fact)) bR rfl rfl) ?_
 refine dN ?_
 refine bn (bU (m:=bO.length) (fun m6 f' cs'=>∃(g:Fr)(k8:Nat)(fO c2:List Fact)(v3:Sv)(F4:List Nat),m6=fO.length/\f'=aQ g [(0,ae.v),(1,ax.v),(5,v3.v),(13,ax.v),(14,(zi (bO.length:Int))),(15,(zi (k8:Int)))]/\List.drop k8 bO=fO/\aO cs' [fq ae ai,bH ax bO,eP F4 v3 c2]/\Ii ai bO fO k8 c2=some R) ⟨_,0,_,_,⟨(some ⟨k1,0,none⟩),0,1⟩,(k1::[]),rfl,aA,rfl,ay,hF⟩ ?_)
 rintro m6 _ _ ⟨g7,k8,fO,c2,v3,F4,rfl,rfl,j5,hE,hF⟩
 refine Kb hE bO (fun MJ=>?_)
 rcases fO with _|⟨eY,fO⟩
 · have v_:=dn j5
   rw[Ii]at hF
   refine bi ?_
   refine dL ?_
   refine gF ?_
   cases hF
   exact Er (v3,F4)
 obtain⟨v_,iJ,sG⟩:=dA j5
 rw[Ii]at hF
 refine bi ?_
 refine dK ?_
 refine au ?_
 obtain⟨wQ,Qv,Sk⟩:=bind_some hF
 refine iF (fun f' cs'=>∃(oo:List Fact)(v66:Sv)(xH:List Nat)(g:Fr),oo=wQ/\f'=aQ g [(0,ae.v),(1,ax.v),(5,v66.v),(13,ax.v),(14,(zi (bO.length:Int))),(15,(zi (k8:Int)))]/\aO cs' [fq ae ai,bH ax bO,eP xH v66 oo]) ?_ ?_
 · replace hF:=Qv
   refine bn (dC (MF (a:=eY) gq.h dZ.h.sz (.tmp rfl rfl) (.tmp rfl rfl) (.t .h) (Int.natCast_nonneg k8) iJ (fun k19 Gi=>?_)))
   refine ni (lZ eY) mq (fun mW=>?_)
   refine d_ (fun k22=>?_)
   refine As (zg [(zi eY.Rel),mW.v]) ?_
   refine bE ?_
   refine bn (bU (m:=ai.length) (fun m27 f' cs'=>∃(g:Fr)(sP:Nat)(Cs:List dh)(c23:List Fact)(v24:Sv)(Uj:List Nat),m27=Cs.length/\f'=aQ g [(0,ae.v),(1,ax.v),(5,v24.v),(7,(pz k22)),(13,ax.v),(14,(zi (bO.length:Int))),(15,(zi (k8:Int))),(19,ae.v),(20,(zi (ai.length:Int))),(21,(zi (sP:Int)))]/\List.drop sP ai=Cs/\aO cs' [fq ae ai,bH ax bO,eP Uj v24 c23,aW k22 70 (zg [(zi eY.Rel),mW.v]),ah mW eY.Values]/\Ih bO eY Cs sP c23=some wQ) ⟨_,0,_,_,v3,F4,rfl,aA,rfl,ay,hF⟩ ?_)
   rintro m27 _ _ ⟨g28,sP,Cs,c23,v24,Uj,rfl,rfl,hd32,hE,hF⟩
   refine Kb hE ai (fun aBJ=>?_)
   rcases Cs with _|⟨x31,Cs⟩
   · have ayF:=dn hd32
     rw[Ih]at hF
     refine bi ?_
     refine dL ?_
     refine bi ?_
     cases hF
     exact⟨_,v24,Uj,_,rfl,aA,ay⟩
   obtain⟨ayF,hx34,ayG⟩:=dA hd32
   rw[Ih]at hF
   refine bi ?_
   refine dK ?_
   refine au ?_
   obtain⟨o38,avw,ayH⟩:=bind_some hF
   refine iF (fun f' cs'=>∃(Ui:List Fact)(v61:Sv)(F62:List Nat)(g:Fr),Ui=o38/\f'=aQ g [(0,ae.v),(1,ax.v),(5,v61.v),(7,(pz k22)),(13,ax.v),(14,(zi (bO.length:Int))),(15,(zi (k8:Int))),(19,ae.v),(20,(zi (ai.length:Int))),(21,(zi (sP:Int)))]/\aO cs' [fq ae ai,bH ax bO,eP F62 v61 Ui,aW k22 70 (zg [(zi eY.Rel),mW.v]),ah mW eY.Values]) ?_ ?_
   · replace hF:=avw
     refine bn (dC (MF (a:=x31) CV.h yt.h.sz (.tmp rfl rfl) (.tmp rfl rfl) .h (Int.natCast_nonneg sP) hx34 (fun k40 j41=>?_)))
     refine ni (LM x31) Pv (fun p42=>?_)
     refine d_ (fun Yy=>?_)
     refine As (zg [(zi x31.From),(zi x31.To),p42.v]) ?_
     refine bi ?_
     refine bnd hF fun jS wu hF=>gB (alQ wu) (fun p46=>?_)
     refine au ?_
     refine zx ?_
     refine zx ?_
     refine d_ (fun TT=>?_)
     refine As (zg [(zi jS.1.Rel),p46.1.v]) ?_
     refine aU ?_
     obtain⟨Uh,avx,ayI⟩:=bind_some hF
     refine au ?_
     refine fe (fun f' cs'=>∃(rV:Bool)(g:Fr),rV=Uh/\f'=aQ g [(0,ae.v),(1,ax.v),(5,v24.v),(7,(pz k22)),(10,(pz TT)),(13,ax.v),(14,(zi (bO.length:Int))),(15,(zi (k8:Int))),(19,ae.v),(20,(zi (ai.length:Int))),(21,(zi (sP:Int))),(37,(.bool rV))]/\aO cs' [fq ae ai,bH ax bO,eP Uj v24 c23,aW k22 70 (zg [(zi eY.Rel),mW.v]),ah mW eY.Values,aW TT 70 (zg [(zi jS.1.Rel),p46.1.v]),bI p46.2 p46.1 jS.1.Values]) ?_ ?_
     · replace hF:=avx
       refine aU ?_
       rcases bD jS.2 with yx|yx
       · rw[yx]
         try rw[yx]at hF; dsimp only[aJ,aI]at hF
         refine aZ ?_
         refine bnd hF fun vE JJ hF=>ek (.cons (.t .h) (.rd .q5 rfl .nil)) (jV aG (fun _=>.nil) (jm (.rd (.t .h) rfl (.rd .h rfl .nil)) (bV ajC.h cu (afL JJ)))) (fun _=>?_)
         exact bK hF
       rw[yx]
       try rw[yx]at hF; dsimp only[aJ,aI]at hF
       exact bK hF
     rintro _ _ ⟨rV,g59,rfl,rfl,hE⟩
     replace hF:=ayI
     try dsimp only at hF
     refine bu hE ?_
     refine Ci hF (fun ayJ hF=>?_) (fun ayJ hF=>?_)
     · refine iG .q6 aG ?_
       refine bv ?_
       refine bnd hF fun uE CX hF=>gB (aov CX) (fun p57=>?_)
       refine aU ?_
       cases hF
       exact⟨_,p57.1,p57.2,_,rfl,aA,ay⟩
     refine au ?_
     cases hF
     exact⟨_,v24,Uj,_,rfl,aA,ay⟩
   rintro _ _ ⟨Ui,v61,F62,g64,rfl,rfl,hE⟩
   replace hF:=ayH
   try dsimp only at hF
   refine bu hE ?_
   refine bi ?_
   rw[wk sP]
   exact⟨_,bY _,_,sP+1,Cs,_,v61,F62,rfl,aA,ayG,ay,hF⟩
 rintro _ _ ⟨oo,v66,xH,g69,rfl,rfl,hE⟩
 replace hF:=Sk
 try dsimp only at hF
 refine bu hE ?_
 refine bi ?_
 rw[wk k8]
 exact⟨_,bY _,_,k8+1,fO,_,v66,xH,rfl,aA,sG,ay,hF⟩
def Ox(aa:aY):Option ((List Fact)):=
 (zq aa).bind fun r2=>
 if (!r2)then (
   some [])
 else (
   (Vs aa.Rules aa.Source.Facts).bind fun r5=>
   some r5)
theorem al6{aa:aY}{ae aP cz dB dw dE dG dI:Sv}{R:(List Fact)}(hF:Ox aa=some R):
   Fw.Spec Tryz.prog 20 [(zg [ae.v,aP.v,cz.v,dB.v,(zi aa.Source.Version),dw.v,(zi aa.Cache.Age),(zi aa.Now),dE.v,dG.v,(zi aa.Spent),dI.v])] [ah ae aa.Schema,bW aP aa.Methods,fq cz aa.Rules,bH dB aa.Source.Facts,dM dw aa.Cache.Entries,eH dE aa.Log,ah dG aa.Times,bB (aD 152 (aD 24 (aD 3 az))) dI.v aa.Results] (fun p:Sv×List Nat=>p.1.v) (fun p=>[eP p.2 p.1 R]):=by
 refine Se 12 Tryz.func20 [.tmp 2] ?_
 intro H0 F0
 unfold Ox at hF
 refine au ?_
 refine bP (fun k1=>?_)
 refine aZ ?_
 refine bnd hF fun r2 hx3 hF=>bC (KZ hx3) (fun _=>?_)
 refine aU ?_
 refine Ci hF (fun hb8 hF=>?_) (fun hb8 hF=>?_)
 · refine bi ?_
   cases hF
   exact gU (⟨none,0,0⟩,[]) (.tmp rfl rfl .nil) rfl (.conv .nil (gV (Ro:=gQ) (E:=70)) (.cons .nil) (.sel (.cons .h .nil)))
 refine bJ ?_
 refine bnd hF fun r5 hx6 hF=>gB (anR hx6) (fun p7=>?_)
 refine bv ?_
 cases hF
 exact Er (p7.1,p7.2)
def Ep(dm:dh)(bF:Fact):List Int->Nat->(List Int)->Option (Fact)
 |[],nC,lM=>some (⟨dm.To,lM⟩:Fact)
 |xD::pI,nC,lM=>(ix bF.Values xD).bind fun wM=>
   (app lM ([wM]:List Int)).bind fun z53=>
   Ep dm bF pI (nC+1) z53
def Pq(dm:dh)(bF:Fact):Option (Fact):=
 Ep dm bF dm.Map 0 ([]:List Int)
theorem anh{dm:dh}{cz:Sv}{bF:Fact}{aV:Sv}{R:Fact}(hF:Pq dm bF=some R):
   Fw.Spec Tryz.prog 88 [(zg [(zi dm.From),(zi dm.To),cz.v]),(zg [(zi bF.Rel),aV.v])] [ah cz dm.Map,ah aV bF.Values] (fun p:Sv×List Nat=>(zg [(zi R.Rel),p.1.v])) (fun p=>[bI p.2 p.1 R.Values]):=by
 refine Se 32 Tryz.func88 [.cell 4 70] ?_
 intro H0 F0
 unfold Pq at hF
 refine au ?_
 refine bP (fun k1=>?_)
 refine bP (fun k2=>?_)
 refine d_ (fun k3=>?_)
 refine bi ?_
 refine aN (iD dZ.h rfl (vs:=[(zi dm.To)]) cu (cells:=[(zi dm.To),(.slice none 0 0)]) rfl) ?_
 refine d_ (fun k4=>?_)
 refine As (zg [(zi dm.To),(.slice none 0 0)]) ?_
 refine aZ ?_
 refine bn (bU (m:=dm.Map.length) (fun Ug f' cs'=>∃(g:Fr)(nC:Nat)(pI lM:List Int)(v30:Sv)(KD:List Nat),Ug=pI.length/\f'=aQ g [(2,(pz k1)),(3,(pz k2)),(4,(pz k3)),(5,(pz k4)),(6,(zi (nC:Int)))]/\List.drop nC dm.Map=pI/\aO cs' [aX k1 98 (zg [(zi dm.From),(zi dm.To),cz.v]),ah cz dm.Map,aX k2 70 (zg [(zi bF.Rel),aV.v]),ah aV bF.Values,aW k3 70 (zg [(zi 0),(.slice none 0 0)]),aW k4 70 (zg [(zi dm.To),v30.v]),bI KD v30 lM]/\Ep dm bF pI nC lM=some R) ⟨_,0,_,_,⟨none,0,0⟩,[],rfl,aA,rfl,(.conv .nil (gV (Ro:=(aC az)) (E:=3)) (.cons .nil) ay),hF⟩ ?_)
 rintro Ug _ _ ⟨g34,nC,pI,lM,v30,KD,rfl,rfl,hd38,hE,hF⟩
 refine Kb hE dm.Map (fun avv=>?_)
 rcases pI with _|⟨xD,pI⟩
 · have adK:=dn hd38
   rw[Ep]at hF
   refine dN ?_
   refine dL ?_
   refine bE ?_
   refine As (zg [(zi dm.To),v30.v]) ?_
   refine aU ?_
   cases hF
   exact Er (v30,KD)
 obtain⟨adK,uh,Dp⟩:=dA hd38
 rw[Ep]at hF
 refine dN ?_
 refine dK ?_
 refine aU ?_
 refine jD [0,1,2,3,4,5,6,7,8,9,10,11,12,13,14] [0,1,0,4,0,16,0,112,240,508,1020,2044,4095,8191,16383] [12,14] mixed (by decide+kernel) ?_
 refine du ?_
 refine dO rfl .no .q5 (fun ha hp=>fw (v:=v30.v) iC.h (EN ha (.tmp rfl rfl) rfl) hp.2 rfl rfl) ?_
 refine t_ ?_
 refine Di uh (fun Yk Yl=>?_)
 refine Dl dP ?_
 refine zI hF fun wM ajS rz hF=>?_
 refine Di rz (fun Yr Yt=>?_)
 refine Dl dP ?_
 refine iy rfl .no rfl (fun ha=>bQ (g:=true) (len:=1) (parts:=[(0,.tmp 27)]) di.h dx.h (.cons (EN ha (.tmp rfl rfl) rfl) .nil) (vs:=[(zi wM)]) rfl rfl rfl (by intro v hv; simp at hv; rcases hv with rfl<;>rfl)) (fun k52=>?_)
 refine jk (.cons .h .nil) (bS (Ro:=(aC az)) (E:=3) (F:=([]++[])) (xs:=([wM]:List Int)) (ed (jF (fun _=>rfl)) bR cK) rfl rfl) ?_
 refine bnd hF fun z53 ui hF=>cO rfl rfl .no (.cons .q9 (.cons .h .nil)) (.dep rfl (.dep rfl .nil)) (fun ha=>dX (Ro:=(aC az)) di.h jc dx.h rfl rfl rfl (EN ha (.tmp rfl rfl) rfl) (EN ha (.tmp rfl rfl) rfl) ui fU) (fun p55=>?_)
 refine du ?_
 refine cO rfl rfl .no (.cons .q8 .nil) (.dep rfl (.dep rfl .nil)) (fun ha=>gD (e':=(zg [(zi dm.To),p55.1.v])) pQ.h.sz (EN ha (.tmp rfl rfl) rfl) (EN ha (.tmp rfl rfl) rfl) rfl rfl rfl rfl rfl) (fun _=>?_)
 refine du ?_
 refine aZ ?_
 rw[wk nC]
 exact⟨_,bY _,_,nC+1,pI,_,p55.1,p55.2,rfl,aA,Dp,ay,hF⟩
def GY(bO:List Fact)(eY:Fact):List dh->Nat->(List Fact)->Option ((List Fact))
 |[],k25,c19=>some c19
 |x27::Ct,k25,c19=>(if ((x27.From:Int)!=eY.Rel)then (
       some c19)
     else (
       (Pq x27 eY).bind fun Gu=>
       (EO bO Gu).bind fun YD=>
       if (!YD)then (
         (xS c19 Gu).bind fun wN=>
         some wN)
       else (
         some c19))).bind fun Kv=>
   match Kv with
   |uK=>GY bO eY Ct (k25+1) uK
def GZ(ai:List dh)(bO:List Fact):List Fact->Nat->(List Fact)->Option ((List Fact))
 |[],k8,c2=>some c2
 |eY::fO,k8,c2=>(GY bO eY ai 0 c2).bind fun wQ=>
   match wQ with
   |Uk=>GZ ai bO fO (k8+1) Uk
def U9(ai:List dh)(bO:List Fact):Option ((List Fact)):=
 GZ ai bO bO 0 ([]:List Fact)
theorem amn{ai:List dh}{ae:Sv}{bO:List Fact}{ax:Sv}{R:(List Fact)}(hF:U9 ai bO=some R):
   Fw.Spec Tryz.prog 47 [ae.v,ax.v] [fq ae ai,bH ax bO] (fun p:Sv×List Nat=>p.1.v) (fun p=>[eP p.2 p.1 R]):=by
 refine Se 50 Tryz.func47 [.tmp 4] ?_
 intro H0 F0
 unfold U9 at hF
 refine bi ?_
 refine dH rfl (bQ (g:=true) gq.h dZ.h .nil (vs:=[]) rfl rfl rfl (by simp)) (fun k1=>?_)
 refine dR (.cons .h .nil) (bS (Ro:=gQ) (E:=70) (F:=[]) (xs:=([]:List Fact)) bR rfl rfl) ?_
 refine bE ?_
 refine bn (bU (m:=bO.length) (fun m6 f' cs'=>∃(g:Fr)(k8:Nat)(fO c2:List Fact)(v3:Sv)(F4:List Nat),m6=fO.length/\f'=aQ g [(0,ae.v),(1,ax.v),(5,v3.v),(6,(zi (k8:Int)))]/\List.drop k8 bO=fO/\aO cs' [fq ae ai,bH ax bO,eP F4 v3 c2]/\GZ ai bO fO k8 c2=some R) ⟨_,0,_,_,⟨(some ⟨k1,0,none⟩),0,1⟩,(k1::[]),rfl,aA,rfl,ay,hF⟩ ?_)
 rintro m6 _ _ ⟨g7,k8,fO,c2,v3,F4,rfl,rfl,j5,hE,hF⟩
 refine Kb hE bO (fun MJ=>?_)
 rcases fO with _|⟨eY,fO⟩
 · have v_:=dn j5
   rw[GZ]at hF
   refine bJ ?_
   refine dL ?_
   refine gF ?_
   cases hF
   exact Er (v3,F4)
 obtain⟨v_,iJ,sG⟩:=dA j5
 rw[GZ]at hF
 refine bJ ?_
 refine dK ?_
 refine au ?_
 obtain⟨wQ,Qv,Sk⟩:=bind_some hF
 refine iF (fun f' cs'=>∃(Uk:List Fact)(v64:Sv)(F65:List Nat)(g:Fr),Uk=wQ/\f'=aQ g [(0,ae.v),(1,ax.v),(5,v64.v),(6,(zi (k8:Int)))]/\aO cs' [fq ae ai,bH ax bO,eP F65 v64 Uk]) ?_ ?_
 · replace hF:=Qv
   refine bn (dC (aN (jW (v:=(zi 0)) (.int _ _)) ?_))
   refine au ?_
   refine bn (bU (m:=ai.length) (fun m23 f' cs'=>∃(g:Fr)(k25:Nat)(Ct:List dh)(c19:List Fact)(v20:Sv)(Ul:List Nat),m23=Ct.length/\f'=aQ g [(0,ae.v),(1,ax.v),(5,v20.v),(6,(zi (k8:Int))),(7,(zi (k25:Int)))]/\List.drop k25 ai=Ct/\aO cs' [fq ae ai,bH ax bO,eP Ul v20 c19]/\GY bO eY Ct k25 c19=some wQ) ⟨_,0,_,_,v3,F4,rfl,aA,rfl,ay,hF⟩ ?_)
   rintro m23 _ _ ⟨g24,k25,Ct,c19,v20,Ul,rfl,rfl,hd28,hE,hF⟩
   refine Kb hE ai (fun aBK=>?_)
   rcases Ct with _|⟨x27,Ct⟩
   · have ayK:=dn hd28
     rw[GY]at hF
     refine bJ ?_
     refine dL ?_
     refine bi ?_
     cases hF
     exact⟨_,v20,Ul,_,rfl,aA,ay⟩
   obtain⟨ayK,Xj,hd31⟩:=dA hd28
   rw[GY]at hF
   refine bJ ?_
   refine dK ?_
   refine au ?_
   obtain⟨Kv,aa9,adn⟩:=bind_some hF
   refine iF (fun f' cs'=>∃(uK:List Fact)(v59:Sv)(KC:List Nat)(g:Fr),uK=Kv/\f'=aQ g [(0,ae.v),(1,ax.v),(5,v59.v),(6,(zi (k8:Int))),(7,(zi (k25:Int)))]/\aO cs' [fq ae ai,bH ax bO,eP KC v59 uK]) ?_ ?_
   · replace hF:=aa9
     refine bn (j4 (dV [0,1,2,3,4,5,6,7,8,9,10] [0,0,3,7,15,0,0,96,224,480,1023] [] mixed (by decide+kernel) ?_))
     refine bX ?_
     refine Di Xj (fun nE T_=>?_)
     refine du ?_
     refine Dl ahY ?_
     refine bX ?_
     refine Di iJ (fun nP j39=>?_)
     refine du ?_
     refine Dl BR ?_
     refine bX ?_
     refine Ci hF (fun Dh hF=>?_) (fun Dh hF=>?_)
     · refine bv ?_
       cases hF
       exact⟨_,v20,Ul,_,rfl,aA,ay⟩
     refine au ?_
     refine dV [0,1,2,3,4,5,6,7,9,8,10] [0,0,3,7,0,0,48,112,255,0,1023] [8,10] mixed (by decide+kernel) ?_
     refine bX ?_
     refine Di Xj (fun k40 j41=>?_)
     refine jR (LM x27) Pv (fun p42=>?_)
     refine bX ?_
     refine Di iJ (fun Yy j44=>?_)
     refine jR (lZ eY) mq (fun p45=>?_)
     refine iy rfl .no rfl (fun ha=>rY (g:=true) dZ.h rfl rfl) (fun k46=>?_)
     refine bnd hF fun Gu ayL hF=>cO rfl rfl .no (.rd .q3 rfl (.rd (.t .h) rfl .nil)) (.own .h (fun _ h=>h) .nil) (fun ha=>bV awV.h (.cons (EN ha (.tmp rfl rfl) rfl) (.cons (EN ha (.tmp rfl rfl) rfl) .nil)) (anh ayL)) (fun p49=>?_)
     refine cO rfl rfl .no (.cons (.t .h) .nil) (.dep rfl .nil) (fun ha=>gD (e':=(zg [(zi Gu.Rel),p49.1.v])) (v:=(zg [(zi Gu.Rel),p49.1.v])) dZ.h.sz (EN ha (.tmp rfl rfl) rfl) (EN ha (.tmp rfl rfl) rfl) rfl rfl rfl rfl rfl) (fun _=>?_)
     refine du ?_
     refine bv ?_
     refine bnd hF fun YD acf hF=>ek (.cons (.t .h) (.rd .q8 rfl .nil)) (jV aG (fun _=>.nil) (jm (.rd (.t .h) rfl (.rd .h rfl .nil)) (bV awl.h cu (Zf acf)))) (fun _=>?_)
     refine aU ?_
     refine Ci hF (fun ayM hF=>?_) (fun ayM hF=>?_)
     · refine bv ?_
       refine bnd hF fun wN ui hF=>Ra (.cons .h (.cons .q9 .nil)) (jH (pre:=[]) (.cons aG (.cons aG .nil)) (fun _=>(.cons .nil)) (bV Rh.h cu (Ld ui))) (fun p55=>?_)
       refine aU ?_
       cases hF
       exact⟨_,p55.1,p55.2,_,rfl,aA,ay⟩
     refine au ?_
     cases hF
     exact⟨_,v20,Ul,_,rfl,aA,ay⟩
   rintro _ _ ⟨uK,v59,KC,g62,rfl,rfl,hE⟩
   replace hF:=adn
   try dsimp only at hF
   refine bu hE ?_
   refine aZ ?_
   rw[wk k25]
   exact⟨_,bY _,_,k25+1,Ct,_,v59,KC,rfl,aA,hd31,ay,hF⟩
 rintro _ _ ⟨Uk,v64,F65,g67,rfl,rfl,hE⟩
 replace hF:=Sk
 try dsimp only at hF
 refine bu hE ?_
 refine aZ ?_
 rw[wk k8]
 exact⟨_,bY _,_,k8+1,fO,_,v64,F65,rfl,aA,sG,ay,hF⟩
def Oy(aa:aY):Option ((List Fact)):=
 (qK aa).bind fun r2=>
 if (!r2)then (
   some ([]:List Fact))
 else (
   (U9 aa.Rules aa.Source.Facts).bind fun r6=>
   some r6)
theorem al7{aa:aY}{ae aP cz dB dw dE dG dI:Sv}{R:(List Fact)}(hF:Oy aa=some R):
   Fw.Spec Tryz.prog 21 [(zg [ae.v,aP.v,cz.v,dB.v,(zi aa.Source.Version),dw.v,(zi aa.Cache.Age),(zi aa.Now),dE.v,dG.v,(zi aa.Spent),dI.v])] [ah ae aa.Schema,bW aP aa.Methods,fq cz aa.Rules,bH dB aa.Source.Facts,dM dw aa.Cache.Entries,eH dE aa.Log,ah dG aa.Times,bB (aD 152 (aD 24 (aD 3 az))) dI.v aa.Results] (fun p:Sv×List Nat=>p.1.v) (fun p=>[eP p.2 p.1 R]):=by
 refine Se 13 Tryz.func21 [.tmp 2] ?_
 intro H0 F0
 unfold Oy at hF
 refine au ?_
 refine bP (fun k1=>?_)
 refine aZ ?_
 refine bnd hF fun r2 hx3 hF=>bC (vG hx3) (fun _=>?_)
 refine aU ?_
 refine Ci hF (fun hb9 hF=>?_) (fun hb9 hF=>?_)
 · refine au ?_
   refine dH rfl (bQ (g:=true) gq.h dZ.h .nil (vs:=[]) rfl rfl rfl (by simp)) (fun k5=>?_)
   refine dR (.cons .h .nil) (bS (Ro:=gQ) (E:=70) (F:=[]) (xs:=([]:List Fact)) bR rfl rfl) ?_
   refine bv ?_
   cases hF
   exact Er (⟨(some ⟨k5,0,none⟩),0,1⟩,(k5::[]))
 refine bJ ?_
 refine bnd hF fun r6 hx7 hF=>gB (amn hx7) (fun p8=>?_)
 refine bv ?_
 cases hF
 exact Er (p8.1,p8.2)
def Lv(ag:List Int)(ai:List Method)(bO:List Fact)(aB:Access):Option ((List Fact)):=
 ((Bd ag ai aB).bind fun r4=>
   bif (!r4)then (some true)
   else ((II ag bO).bind fun r8=>
     some (!r8))).bind fun o2=>
 match o2 with
 |c11=>if c11 then (
     some ([]:List Fact))
   else (
     (ix ai aB.Method).bind fun oI=>
     (EI oI aB.Values bO).bind fun jP=>
     some jP)
theorem amL{ag:List Int}{ae:Sv}{ai:List Method}{ax:Sv}{bO:List Fact}{bM:Sv}{aB:Access}{wE:Sv}{R:(List Fact)}(hF:Lv ag ai bO aB=some R):
   Fw.Spec Tryz.prog 23 [ae.v,ax.v,bM.v,(zg [(zi aB.Method),wE.v])] [ah ae ag,bW ax ai,bH bM bO,ah wE aB.Values] (fun p:Sv×List Nat=>p.1.v) (fun p=>[eP p.2 p.1 R]):=by
 refine Se 30 Tryz.func23 [.tmp 8] ?_
 intro H0 F0
 unfold Lv at hF
 refine au ?_
 refine bP (fun k1=>?_)
 refine bv ?_
 obtain⟨o2,gz,hO3⟩:=bind_some hF
 refine au ?_
 refine fe (fun f' cs'=>∃(c11:Bool)(g:Fr),c11=o2/\f'=aQ g [(1,ax.v),(2,bM.v),(7,(pz k1)),(19,(.bool c11))]/\aO cs' [bW ax ai,bH bM bO,aX k1 45 (zg [(zi aB.Method),wE.v]),ah wE aB.Values]) ?_ ?_
 · replace hF:=gz
   refine bv ?_
   refine bnd hF fun r4 hx5 hF=>bC (UV hx5) (fun _=>?_)
   refine aU ?_
   rcases bD (!r4)with bq|bq
   · rw[bq]
     try rw[bq]at hF; dsimp only[aJ,aI]at hF
     exact bK hF
   rw[bq]
   try rw[bq]at hF; dsimp only[aJ,aI]at hF
   refine aZ ?_
   refine bnd hF fun r8 bZ hF=>bC (UU bZ) (fun _=>?_)
   exact bK hF
 rintro _ _ ⟨c11,g24,rfl,rfl,hE⟩
 replace hF:=hO3
 try dsimp only at hF
 refine bu hE ?_
 refine Ci hF (fun yS hF=>?_) (fun yS hF=>?_)
 · refine au ?_
   refine dH rfl (bQ (g:=true) gq.h dZ.h .nil (vs:=[]) rfl rfl rfl (by simp)) (fun k12=>?_)
   refine dR (.cons .h .nil) (bS (Ro:=gQ) (E:=70) (F:=[]) (xs:=([]:List Fact)) bR rfl rfl) ?_
   refine bv ?_
   cases hF
   exact Er (⟨(some ⟨k12,0,none⟩),0,1⟩,(k12::[]))
 refine au ?_
 refine dV [0,1,2,3,4,5,6,7,8,9] [0,0,2,7,15,0,32,0,255,511] [8] mixed (by decide+kernel) ?_
 refine dD ?_
 refine zI hF fun oI Xf hx16 hF=>?_
 refine Di hx16 (fun k17 J5=>?_)
 refine jR (uO oI) vH (fun p19=>?_)
 refine dD ?_
 refine bnd hF fun jP lG hF=>qE (Y1 lG) (fun AA=>?_)
 refine bX ?_
 refine au ?_
 cases hF
 exact Er (AA.1,AA.2)
def Es(r4:aY):List Access->Nat->Option (Bool)
 |[],mF=>(K4 r4).bind fun adL=>
   if adL then (
     (K3 ({Schema:=r4.Schema,Methods:=r4.Methods,Rules:=r4.Rules,Source:=r4.Source,Cache:=r4.Cache,Now:=r4.Now,Log:=r4.Log,Times:=r4.Times,Spent:=(IntKind.i64.wrap (r4.Spent+1)),Results:=r4.Results}:aY)).bind fun adM=>
     if adM then (
       some false)
     else (
       some true))
   else (
     some true)
 |x113::BN,mF=>(Lf r4.Cache x113).bind fun Dr=>
   (bif (decide ((Dr:Int)<0))then (some true)
     else ((ix r4.Cache.Entries Dr).bind fun X_=>
       (Lv r4.Schema r4.Methods r4.Source.Facts x113).bind fun adN=>
       (Iy X_.Facts adN).bind fun adO=>
       some adO)).bind fun adP=>
   match adP with
   |ww=>if ww then (
       some false)
     else (
       Es r4 BN (mF+1))
def Vl(fuel:Nat)(ko:List UInt8):Option (Bool):=
 (Wp ko).bind fun r1=>
 if r1 then (
   some true)
 else (
   (UF fuel ko).bind fun r4=>
   (K6 r4).bind fun r8=>
   ((K7 r4).bind fun o5=>
     (UT r8 o5).bind fun r16=>
     bif (!r16)then (some true)
     else ((OZ r4).bind fun jP=>
       (O0 r4).bind fun uI=>
       bif (!(jP==uI))then (some true)
       else ((Lh r4).bind fun wS=>
         (Li r4).bind fun mX=>
         bif (!(wS==mX))then (some true)
         else ((LG r4).bind fun qG=>
           (LH r4).bind fun Az=>
           bif (!(qG==Az))then (some true)
           else ((Lj r4).bind fun wL=>
             (Ll r4).bind fun jS=>
             bif (!(wL==jS))then (some true)
             else ((K3 r4).bind fun om=>
               (K4 r4).bind fun vE=>
               bif (!(om==vE))then (some true)
               else ((Ox r4).bind fun uE=>
                 (Oy r4).bind fun sM=>
                 (Iy uE sM).bind fun YE=>
                 some (!YE)))))))).bind fun zn=>
   match zn with
   |c64=>if c64 then (
       some false)
     else (
       Es r4 r8 0))
theorem ani{fuel:Nat}{ko:List UInt8}{ae:Sv}{R:Bool}(hF:Vl fuel ko=some R):
   Fw.Spec Tryz.prog 3 [ae.v] [bB (aD 5 xh) ae.v ko] (fun _:Unit=>(.bool R)) (fun _=>[]):=by
 refine Iz (n:=106) Tryz.func3 rfl rfl (rs:=[.tmp 2]) rfl rfl rfl ?_
 intro H0 F0
 unfold Vl at hF
 refine dC (aN (jW (v:=(.bool false)) (.bool _)) ?_)
 refine df (j4 (dC (Cm ae.v rfl rfl ?_)))
 obtain⟨r1,hx2,hF⟩:=bind_some hF
 refine l9 (.rd .h rfl .nil) (bV cf4.h (.cons (.tmp rfl rfl) .nil) (@apc ko ae _ hx2)) (fun _=>?_)
 refine df (kg (b:=r1) (.tmp rfl rfl) (fun abM=>?_) (fun abM=>?_))
 · rw[if_pos abM]at hF
   refine dC (aN (jW (v:=(.bool true)) (.bool _)) ?_)
   refine df (qN ?_)
   obtain rfl:=Option.some.inj hF
   exact gU () (.tmp rfl rfl .nil) rfl (.sel .nil)
 rw[if_neg (by rw[abM]; exact Bool.false_ne_true)]at hF
 refine nU (dC (Cm ae.v rfl rfl ?_))
 obtain⟨r4,hx5,hF⟩:=bind_some hF
 refine abV (.rd .h rfl .nil) (bV cf5.h (.cons (.tmp rfl rfl) .nil) (@alr fuel ko ae _ hx5)) (fun p6=>?_)
 refine dH rfl (rY (g:=true) eG.h rfl rfl) (fun k7=>?_)
 refine ek (.cons .h .nil) (gD (e':=(.agg [p6.1.v,p6.2.2.1.v,p6.2.2.2.2.1.v,p6.2.2.2.2.2.2.1.v,(.int .i64 r4.Source.Version),p6.2.2.2.2.2.2.2.2.1.v,(.int .i64 r4.Cache.Age),(.int .i64 r4.Now),p6.2.2.2.2.2.2.2.2.2.1.v,p6.2.2.2.2.2.2.2.2.2.2.2.1.v,(.int .i64 r4.Spent),p6.2.2.2.2.2.2.2.2.2.2.2.2.2.1.v].toArray)) (v:=(.agg [p6.1.v,p6.2.2.1.v,p6.2.2.2.2.1.v,p6.2.2.2.2.2.2.1.v,(.int .i64 r4.Source.Version),p6.2.2.2.2.2.2.2.2.1.v,(.int .i64 r4.Cache.Age),(.int .i64 r4.Now),p6.2.2.2.2.2.2.2.2.2.1.v,p6.2.2.2.2.2.2.2.2.2.2.2.1.v,(.int .i64 r4.Spent),p6.2.2.2.2.2.2.2.2.2.2.2.2.2.1.v].toArray)) eG.h.sz (.tmp rfl rfl) (.tmp rfl rfl) rfl rfl rfl rfl rfl) (fun _=>?_)
 refine df (dC (eu .h (fun hp=>fP gP.h eG.h.sz rfl (.tmp rfl rfl) hp.2 rfl) ?_))
 obtain⟨r8,bZ,hF⟩:=bind_some hF
 refine abV (.cons (.t (.t (.t (.t (.t (.t (.t (.t .h)))))))) (.cons (.t (.t (.t (.t (.t (.t (.t .h))))))) (.cons (.t (.t (.t (.t (.t (.t .h)))))) (.cons (.t (.t (.t (.t .h)))) (.cons (.t (.t (.t .h))) (.cons (.t (.t .h)) (.cons (.t .h) (.rd (.t .h) rfl .nil)))))))) (jH (pre:=_) (.cons aG (.cons aG (.cons aG (.cons aG (.cons aG (.cons aG (.cons aG .nil))))))) (fun _=>(.cons .nil)) (jm (.rd .h rfl (.rd (.t .h) rfl (.rd (.t (.t .h)) rfl (.rd (.t (.t (.t .h))) rfl (.rd (.t (.t (.t (.t (.t (.t (.t .h))))))) rfl (.rd (.t (.t (.t (.t .h)))) rfl (.rd (.t (.t (.t (.t (.t .h))))) rfl (.rd (.t (.t (.t (.t (.t (.t .h)))))) rfl .nil)))))))) (bV cf6.h (.cons (.tmp rfl rfl) .nil) (@aeq r4 p6.1 p6.2.2.1 p6.2.2.2.2.1 p6.2.2.2.2.2.2.1 p6.2.2.2.2.2.2.2.2.1 p6.2.2.2.2.2.2.2.2.2.1 p6.2.2.2.2.2.2.2.2.2.2.2.1 p6.2.2.2.2.2.2.2.2.2.2.2.2.2.1 _ bZ)))) (fun fT=>?_)
 refine Ca fT.1.v rfl rfl ?_
 refine df (j4 ?_)
 obtain⟨zn,Q5,Nv⟩:=bind_some hF
 refine dV [0,1,2,3,4,5,6,8,7,9,10,11,12,13,15,14,16,17,18,19,20,22,21,23,24,25,26,27,29,28,30,31,32,33,34,36,35,37,38,39,40,41,43,42,44,45,46,47] [0,0,2,7,15,31,63,127,63,511,1023,2047,4095,8191,16383,8191,65535,131071,262143,524287,1048575,2097151,1048575,8388607,16777215,33554431,67108863,134217727,268435455,134217727,1073741823,2147483647,4294967295,8589934591,17179869183,34359738367,17179869183,137438953471,274877906943,549755813887,1099511627775,2199023255551,4398046511103,2199023255551,17592186044415,35184372088831,70368744177663,140737488355327] [2,3,7,9,14,16,21,23,28,30,35,37,42,44,45] mixed (by decide+kernel) ?_
 refine kX (fun f' cs'=>∃(c64:Bool)(g:Fr),c64=zn/\f'=aQ g [(3,(.pointer (some ⟨k7,0,some 0⟩))),(4,fT.1.v),(60,(.bool c64))]/\aO cs' [aW k7 36 (.agg [p6.1.v,p6.2.2.1.v,p6.2.2.2.2.1.v,p6.2.2.2.2.2.2.1.v,(.int .i64 r4.Source.Version),p6.2.2.2.2.2.2.2.2.1.v,(.int .i64 r4.Cache.Age),(.int .i64 r4.Now),p6.2.2.2.2.2.2.2.2.2.1.v,p6.2.2.2.2.2.2.2.2.2.2.2.1.v,(.int .i64 r4.Spent),p6.2.2.2.2.2.2.2.2.2.2.2.2.2.1.v].toArray),aT (aF 3 (aC az)) p6.2.1 p6.1.v r4.Schema,aT (aF 57 qX) p6.2.2.2.1 p6.2.2.1.v r4.Methods,aT (aF 98 oU) p6.2.2.2.2.2.1 p6.2.2.2.2.1.v r4.Rules,aT (aF 70 gQ) p6.2.2.2.2.2.2.2.1 p6.2.2.2.2.2.2.1.v r4.Source.Facts,bB (aD 47 oV) p6.2.2.2.2.2.2.2.2.1.v r4.Cache.Entries,aT (aF 45 nk) p6.2.2.2.2.2.2.2.2.2.2.1 p6.2.2.2.2.2.2.2.2.2.1.v r4.Log,aT (aF 3 (aC az)) p6.2.2.2.2.2.2.2.2.2.2.2.2.1 p6.2.2.2.2.2.2.2.2.2.2.2.1.v r4.Times,aT (aF 152 (aF 24 (aF 3 (aC az)))) p6.2.2.2.2.2.2.2.2.2.2.2.2.2.2 p6.2.2.2.2.2.2.2.2.2.2.2.2.2.1.v r4.Results,aT (aF 45 nk) fT.2 fT.1.v r8]) ?_ ?_
 · replace hF:=Q5
   refine Dm fT.1.v rfl rfl rfl rfl ?_
   refine dO rfl .no (.t (.t (.t (.t (.t (.t (.t (.t .h)))))))) (fun ha hp=>fP gP.h eG.h.sz rfl (EN ha (.tmp rfl rfl) rfl) hp.2 rfl) ?_
   obtain⟨o5,kr,hF⟩:=bind_some hF
   refine VT rfl rfl .no (.cons .h (.cons .h (.cons .h (.cons .h (.cons .h (.cons .h (.cons .h (.rd (.t (.t .h)) rfl .nil)))))))) (.dep rfl .nil) (fun ha=>jH (pre:=_) (.cons aG (.cons aG (.cons aG (.cons aG (.cons aG (.cons aG (.cons aG .nil))))))) (fun _=>(.cons .nil)) (jm (.rd .h rfl (.rd (.t .h) rfl (.rd (.t (.t .h)) rfl (.rd (.t (.t (.t .h))) rfl (.rd (.t (.t (.t (.t (.t (.t (.t .h))))))) rfl (.rd (.t (.t (.t (.t .h)))) rfl (.rd (.t (.t (.t (.t (.t .h))))) rfl (.rd (.t (.t (.t (.t (.t (.t .h)))))) rfl .nil)))))))) (bV cf8.h (.cons (EN ha (.tmp rfl rfl) rfl) .nil) (@aer r4 p6.1 p6.2.2.1 p6.2.2.2.2.1 p6.2.2.2.2.2.2.1 p6.2.2.2.2.2.2.2.2.1 p6.2.2.2.2.2.2.2.2.2.1 p6.2.2.2.2.2.2.2.2.2.2.2.1 p6.2.2.2.2.2.2.2.2.2.2.2.2.2.1 _ kr)))) (fun nA=>?_)
   obtain⟨r16,jO,hF⟩:=bind_some hF
   refine pq rfl rfl .no (.cons (.t (.t (.t (.t (.t (.t (.t .h))))))) (.cons (.t (.t (.t (.t (.t (.t (.t .h))))))) .nil)) (.dep rfl .nil) (fun ha=>jH (pre:=[]) (.cons aG (.cons aG .nil)) (fun _=>.nil) (bV cf7.h (.cons (EN ha (.tmp rfl rfl) rfl) (.cons (EN ha (.tmp rfl rfl) rfl) .nil)) (@alO r8 fT.1 o5 nA.1 _ jO))) (fun _=>?_)
   refine bN rfl .no (fun ha=>Jf (b:=r16) (EN ha (.tmp rfl rfl) rfl)) ?_
   refine Dm (.bool (!r16)) rfl rfl rfl rfl ?_
   rcases Bool.eq_false_or_eq_true (!r16)with iN|iN
   · rw[iN]
     try rw[iN]at hF; dsimp only[cond_true,cond_false]at hF
     iterate 5 refine nG 18 rfl rfl rfl rfl ?_
     refine bN rfl .no (fun ha=>dU (b:=true) (u:=(.bool true)) (v:=undef) (EN ha (.tmp rfl rfl) rfl) (EN ha (.bool _) rfl) (EN ha (.tmp rfl rfl) rfl)) ?_
     refine Dm (.bool true) rfl rfl rfl rfl ?_
     iterate 5 refine nG 25 rfl rfl rfl rfl ?_
     refine bN rfl .no (fun ha=>dU (b:=true) (u:=(.bool true)) (v:=undef) (EN ha (.tmp rfl rfl) rfl) (EN ha (.bool _) rfl) (EN ha (.tmp rfl rfl) rfl)) ?_
     refine Dm (.bool true) rfl rfl rfl rfl ?_
     iterate 5 refine nG 32 rfl rfl rfl rfl ?_
     refine bN rfl .no (fun ha=>dU (b:=true) (u:=(.bool true)) (v:=undef) (EN ha (.tmp rfl rfl) rfl) (EN ha (.bool _) rfl) (EN ha (.tmp rfl rfl) rfl)) ?_
     refine Dm (.bool true) rfl rfl rfl rfl ?_
     iterate 5 refine nG 39 rfl rfl rfl rfl ?_
     refine bN rfl .no (fun ha=>dU (b:=true) (u:=(.bool true)) (v:=undef) (EN ha (.tmp rfl rfl) rfl) (EN ha (.bool _) rfl) (EN ha (.tmp rfl rfl) rfl)) ?_
     refine Dm (.bool true) rfl rfl rfl rfl ?_
     iterate 5 refine nG 46 rfl rfl rfl rfl ?_
     refine bN rfl .no (fun ha=>dU (b:=true) (u:=(.bool true)) (v:=undef) (EN ha (.tmp rfl rfl) rfl) (EN ha (.bool _) rfl) (EN ha (.tmp rfl rfl) rfl)) ?_
     refine Dm (.bool true) rfl rfl rfl rfl ?_
     iterate 6 refine nG 53 rfl rfl rfl rfl ?_
     refine bN rfl .no (fun ha=>dU (b:=true) (u:=(.bool true)) (v:=undef) (EN ha (.tmp rfl rfl) rfl) (EN ha (.bool _) rfl) (EN ha (.tmp rfl rfl) rfl)) ?_
     refine l6 ?_
     obtain rfl:=Option.some.inj hF
     exact⟨_,_,rfl,(b_.cons rfl (b_.cons rfl (b_.cons rfl (b_.nil)))).eq,(.sel (.cons (.t (.t (.t (.t (.t (.t (.t (.t (.t .h))))))))) (.cons (.t (.t (.t (.t (.t (.t (.t (.t .h)))))))) (.cons (.t (.t (.t (.t (.t (.t (.t .h))))))) (.cons (.t (.t (.t (.t (.t (.t .h)))))) (.cons (.t (.t (.t (.t (.t .h))))) (.rd (.t (.t (.t (.t (.t .h))))) rfl (.cons (.t (.t (.t (.t .h)))) (.cons (.t (.t (.t .h))) (.cons (.t (.t .h)) (.cons (.t .h) .nil)))))))))))⟩
   rw[iN]
   try rw[iN]at hF; dsimp only[cond_true,cond_false]at hF
   iterate 2 refine dO rfl (.on 18 rfl rfl rfl) (.t (.t (.t (.t (.t (.t (.t (.t (.t .h))))))))) (fun ha hp=>fP gP.h eG.h.sz rfl (EN ha (.tmp rfl rfl) rfl) hp.2 rfl) ?_
   obtain⟨jP,lG,hF⟩:=bind_some hF
   refine zD rfl rfl (.on 18 rfl rfl rfl) (.cons (.t (.t .h)) (.cons (.t (.t .h)) (.cons (.t (.t .h)) (.cons (.t (.t .h)) (.cons (.t (.t .h)) (.cons (.t (.t .h)) (.cons (.t (.t .h)) (.rd (.t (.t (.t .h))) rfl .nil)))))))) (.own (.t (.t .h)) (fun _ h=>h) (.dep rfl (.dep rfl .nil))) (fun ha=>jH (pre:=_) (.cons aG (.cons aG (.cons aG (.cons aG (.cons aG (.cons aG (.cons aG .nil))))))) (fun _=>.nil) (jm (.rd .h rfl (.rd (.t .h) rfl (.rd (.t (.t .h)) rfl (.rd (.t (.t (.t .h))) rfl (.rd (.t (.t (.t (.t (.t (.t (.t .h))))))) rfl (.rd (.t (.t (.t (.t .h)))) rfl (.rd (.t (.t (.t (.t (.t .h))))) rfl (.rd (.t (.t (.t (.t (.t (.t .h)))))) rfl .nil)))))))) (bV cf9.h (.cons (EN ha (.tmp rfl rfl) rfl) .nil) (@amH r4 p6.1 p6.2.2.1 p6.2.2.2.2.1 p6.2.2.2.2.2.2.1 p6.2.2.2.2.2.2.2.2.1 p6.2.2.2.2.2.2.2.2.2.1 p6.2.2.2.2.2.2.2.2.2.2.2.1 p6.2.2.2.2.2.2.2.2.2.2.2.2.2.1 _ lG)))) (fun _=>?_)
   obtain⟨uI,hx24,hF⟩:=bind_some hF
   refine zD rfl rfl (.on 18 rfl rfl rfl) (.cons .h (.cons .h (.cons .h (.cons .h (.cons .h (.cons .h (.cons .h (.rd (.t (.t (.t .h))) rfl .nil)))))))) (.dep rfl (.dep rfl (.dep rfl .nil))) (fun ha=>jH (pre:=_) (.cons aG (.cons aG (.cons aG (.cons aG (.cons aG (.cons aG (.cons aG .nil))))))) (fun _=>.nil) (jm (.rd .h rfl (.rd (.t .h) rfl (.rd (.t (.t .h)) rfl (.rd (.t (.t (.t .h))) rfl (.rd (.t (.t (.t (.t (.t (.t (.t .h))))))) rfl (.rd (.t (.t (.t (.t .h)))) rfl (.rd (.t (.t (.t (.t (.t .h))))) rfl (.rd (.t (.t (.t (.t (.t (.t .h)))))) rfl .nil)))))))) (bV awI.h (.cons (EN ha (.tmp rfl rfl) rfl) .nil) (@amI r4 p6.1 p6.2.2.1 p6.2.2.2.2.1 p6.2.2.2.2.2.2.1 p6.2.2.2.2.2.2.2.2.1 p6.2.2.2.2.2.2.2.2.2.1 p6.2.2.2.2.2.2.2.2.2.2.2.1 p6.2.2.2.2.2.2.2.2.2.2.2.2.2.1 _ hx24)))) (fun _=>?_)
   refine bN rfl (.on 18 rfl rfl rfl) (fun ha=>Qk (a:=jP) (b:=uI) Tryz.underlying4 (EN ha (.tmp rfl rfl) rfl) (EN ha (.tmp rfl rfl) rfl)) ?_
   refine bN rfl .no (fun ha=>dU (b:=false) (u:=(.bool true)) (v:=(.bool (!(jP==uI)))) (EN ha (.tmp rfl rfl) rfl) (EN ha (.bool _) rfl) (EN ha (.tmp rfl rfl) rfl)) ?_
   refine Dm (.bool (!(jP==uI))) rfl rfl rfl rfl ?_
   rcases Bool.eq_false_or_eq_true (!(jP==uI))with Tp|Tp
   · rw[Tp]
     try rw[Tp]at hF; dsimp only[cond_true,cond_false]at hF
     iterate 5 refine nG 25 rfl rfl rfl rfl ?_
     refine bN rfl .no (fun ha=>dU (b:=true) (u:=(.bool true)) (v:=undef) (EN ha (.tmp rfl rfl) rfl) (EN ha (.bool _) rfl) (EN ha (.tmp rfl rfl) rfl)) ?_
     refine Dm (.bool true) rfl rfl rfl rfl ?_
     iterate 5 refine nG 32 rfl rfl rfl rfl ?_
     refine bN rfl .no (fun ha=>dU (b:=true) (u:=(.bool true)) (v:=undef) (EN ha (.tmp rfl rfl) rfl) (EN ha (.bool _) rfl) (EN ha (.tmp rfl rfl) rfl)) ?_
     refine Dm (.bool true) rfl rfl rfl rfl ?_
     iterate 5 refine nG 39 rfl rfl rfl rfl ?_
     refine bN rfl .no (fun ha=>dU (b:=true) (u:=(.bool true)) (v:=undef) (EN ha (.tmp rfl rfl) rfl) (EN ha (.bool _) rfl) (EN ha (.tmp rfl rfl) rfl)) ?_
     refine Dm (.bool true) rfl rfl rfl rfl ?_
     iterate 5 refine nG 46 rfl rfl rfl rfl ?_
     refine bN rfl .no (fun ha=>dU (b:=true) (u:=(.bool true)) (v:=undef) (EN ha (.tmp rfl rfl) rfl) (EN ha (.bool _) rfl) (EN ha (.tmp rfl rfl) rfl)) ?_
     refine Dm (.bool true) rfl rfl rfl rfl ?_
     iterate 6 refine nG 53 rfl rfl rfl rfl ?_
     refine bN rfl .no (fun ha=>dU (b:=true) (u:=(.bool true)) (v:=undef) (EN ha (.tmp rfl rfl) rfl) (EN ha (.bool _) rfl) (EN ha (.tmp rfl rfl) rfl)) ?_
     refine l6 ?_
     obtain rfl:=Option.some.inj hF
     exact⟨_,_,rfl,(b_.cons rfl (b_.cons rfl (b_.cons rfl (b_.nil)))).eq,(.sel (.cons (.t (.t (.t (.t (.t (.t (.t (.t (.t .h))))))))) (.cons (.t (.t (.t (.t (.t (.t .h)))))) (.cons (.t (.t (.t (.t (.t .h))))) (.cons (.t (.t (.t (.t .h)))) (.cons (.t (.t (.t .h))) (.rd (.t (.t (.t (.t (.t .h))))) rfl (.cons (.t (.t .h)) (.cons (.t .h) (.cons .h (.cons (.t .h) .nil)))))))))))⟩
   rw[Tp]
   try rw[Tp]at hF; dsimp only[cond_true,cond_false]at hF
   iterate 2 refine dO rfl (.on 25 rfl rfl rfl) (.t (.t (.t (.t (.t (.t (.t (.t (.t .h))))))))) (fun ha hp=>fP gP.h eG.h.sz rfl (EN ha (.tmp rfl rfl) rfl) hp.2 rfl) ?_
   obtain⟨wS,hx28,hF⟩:=bind_some hF
   refine zD rfl rfl (.on 25 rfl rfl rfl) (.cons .h (.cons .h (.cons .h (.cons .h (.cons .h (.cons .h (.cons .h (.rd (.t (.t (.t .h))) rfl .nil)))))))) (.own (.t (.t .h)) (fun _ h=>h) (.dep rfl (.dep rfl (.dep rfl (.dep rfl .nil))))) (fun ha=>jH (pre:=_) (.cons aG (.cons aG (.cons aG (.cons aG (.cons aG (.cons aG (.cons aG .nil))))))) (fun _=>.nil) (jm (.rd .h rfl (.rd (.t .h) rfl (.rd (.t (.t .h)) rfl (.rd (.t (.t (.t .h))) rfl (.rd (.t (.t (.t (.t (.t (.t (.t .h))))))) rfl (.rd (.t (.t (.t (.t .h)))) rfl (.rd (.t (.t (.t (.t (.t .h))))) rfl (.rd (.t (.t (.t (.t (.t (.t .h)))))) rfl .nil)))))))) (bV awJ.h (.cons (EN ha (.tmp rfl rfl) rfl) .nil) (@aeR r4 p6.1 p6.2.2.1 p6.2.2.2.2.1 p6.2.2.2.2.2.2.1 p6.2.2.2.2.2.2.2.2.1 p6.2.2.2.2.2.2.2.2.2.1 p6.2.2.2.2.2.2.2.2.2.2.2.1 p6.2.2.2.2.2.2.2.2.2.2.2.2.2.1 _ hx28)))) (fun _=>?_)
   obtain⟨mX,hx31,hF⟩:=bind_some hF
   refine zD rfl rfl (.on 25 rfl rfl rfl) (.cons .h (.cons .h (.cons .h (.cons .h (.cons .h (.cons .h (.cons .h (.rd (.t (.t (.t .h))) rfl .nil)))))))) (.dep rfl (.dep rfl (.dep rfl (.dep rfl (.dep rfl .nil))))) (fun ha=>jH (pre:=_) (.cons aG (.cons aG (.cons aG (.cons aG (.cons aG (.cons aG (.cons aG .nil))))))) (fun _=>.nil) (jm (.rd .h rfl (.rd (.t .h) rfl (.rd (.t (.t .h)) rfl (.rd (.t (.t (.t .h))) rfl (.rd (.t (.t (.t (.t (.t (.t (.t .h))))))) rfl (.rd (.t (.t (.t (.t .h)))) rfl (.rd (.t (.t (.t (.t (.t .h))))) rfl (.rd (.t (.t (.t (.t (.t (.t .h)))))) rfl .nil)))))))) (bV awK.h (.cons (EN ha (.tmp rfl rfl) rfl) .nil) (@aeS r4 p6.1 p6.2.2.1 p6.2.2.2.2.1 p6.2.2.2.2.2.2.1 p6.2.2.2.2.2.2.2.2.1 p6.2.2.2.2.2.2.2.2.2.1 p6.2.2.2.2.2.2.2.2.2.2.2.1 p6.2.2.2.2.2.2.2.2.2.2.2.2.2.1 _ hx31)))) (fun _=>?_)
   refine bN rfl (.on 25 rfl rfl rfl) (fun ha=>Qk (a:=wS) (b:=mX) Tryz.underlying4 (EN ha (.tmp rfl rfl) rfl) (EN ha (.tmp rfl rfl) rfl)) ?_
   refine bN rfl .no (fun ha=>dU (b:=false) (u:=(.bool true)) (v:=(.bool (!(wS==mX)))) (EN ha (.tmp rfl rfl) rfl) (EN ha (.bool _) rfl) (EN ha (.tmp rfl rfl) rfl)) ?_
   refine Dm (.bool (!(wS==mX))) rfl rfl rfl rfl ?_
   rcases Bool.eq_false_or_eq_true (!(wS==mX))with rJ|rJ
   · rw[rJ]
     try rw[rJ]at hF; dsimp only[cond_true,cond_false]at hF
     iterate 5 refine nG 32 rfl rfl rfl rfl ?_
     refine bN rfl .no (fun ha=>dU (b:=true) (u:=(.bool true)) (v:=undef) (EN ha (.tmp rfl rfl) rfl) (EN ha (.bool _) rfl) (EN ha (.tmp rfl rfl) rfl)) ?_
     refine Dm (.bool true) rfl rfl rfl rfl ?_
     iterate 5 refine nG 39 rfl rfl rfl rfl ?_
     refine bN rfl .no (fun ha=>dU (b:=true) (u:=(.bool true)) (v:=undef) (EN ha (.tmp rfl rfl) rfl) (EN ha (.bool _) rfl) (EN ha (.tmp rfl rfl) rfl)) ?_
     refine Dm (.bool true) rfl rfl rfl rfl ?_
     iterate 5 refine nG 46 rfl rfl rfl rfl ?_
     refine bN rfl .no (fun ha=>dU (b:=true) (u:=(.bool true)) (v:=undef) (EN ha (.tmp rfl rfl) rfl) (EN ha (.bool _) rfl) (EN ha (.tmp rfl rfl) rfl)) ?_
     refine Dm (.bool true) rfl rfl rfl rfl ?_
     iterate 6 refine nG 53 rfl rfl rfl rfl ?_
     refine bN rfl .no (fun ha=>dU (b:=true) (u:=(.bool true)) (v:=undef) (EN ha (.tmp rfl rfl) rfl) (EN ha (.bool _) rfl) (EN ha (.tmp rfl rfl) rfl)) ?_
     refine l6 ?_
     obtain rfl:=Option.some.inj hF
     exact⟨_,_,rfl,(b_.cons rfl (b_.cons rfl (b_.cons rfl (b_.nil)))).eq,(.sel (.cons (.t (.t (.t (.t (.t (.t (.t (.t (.t .h))))))))) (.cons (.t (.t (.t (.t (.t (.t .h)))))) (.cons (.t (.t (.t (.t (.t .h))))) (.cons (.t (.t (.t (.t .h)))) (.cons (.t (.t (.t .h))) (.rd (.t (.t (.t (.t (.t .h))))) rfl (.cons (.t (.t .h)) (.cons (.t .h) (.cons .h (.cons (.t .h) .nil)))))))))))⟩
   rw[rJ]
   try rw[rJ]at hF; dsimp only[cond_true,cond_false]at hF
   iterate 2 refine dO rfl (.on 32 rfl rfl rfl) (.t (.t (.t (.t (.t (.t (.t (.t (.t .h))))))))) (fun ha hp=>fP gP.h eG.h.sz rfl (EN ha (.tmp rfl rfl) rfl) hp.2 rfl) ?_
   obtain⟨qG,yC,hF⟩:=bind_some hF
   refine zD rfl rfl (.on 32 rfl rfl rfl) (.cons .h (.cons .h (.cons .h (.cons .h (.cons .h (.cons .h (.cons .h (.rd (.t (.t (.t .h))) rfl .nil)))))))) (.own (.t (.t .h)) (fun _ h=>h) (.dep rfl (.dep rfl (.dep rfl (.dep rfl (.dep rfl (.dep rfl .nil))))))) (fun ha=>jH (pre:=_) (.cons aG (.cons aG (.cons aG (.cons aG (.cons aG (.cons aG (.cons aG .nil))))))) (fun _=>.nil) (jm (.rd .h rfl (.rd (.t .h) rfl (.rd (.t (.t .h)) rfl (.rd (.t (.t (.t .h))) rfl (.rd (.t (.t (.t (.t (.t (.t (.t .h))))))) rfl (.rd (.t (.t (.t (.t .h)))) rfl (.rd (.t (.t (.t (.t (.t .h))))) rfl (.rd (.t (.t (.t (.t (.t (.t .h)))))) rfl .nil)))))))) (bV awL.h (.cons (EN ha (.tmp rfl rfl) rfl) .nil) (@afp r4 p6.1 p6.2.2.1 p6.2.2.2.2.1 p6.2.2.2.2.2.2.1 p6.2.2.2.2.2.2.2.2.1 p6.2.2.2.2.2.2.2.2.2.1 p6.2.2.2.2.2.2.2.2.2.2.2.1 p6.2.2.2.2.2.2.2.2.2.2.2.2.2.1 _ yC)))) (fun _=>?_)
   obtain⟨Az,hx38,hF⟩:=bind_some hF
   refine zD rfl rfl (.on 32 rfl rfl rfl) (.cons .h (.cons .h (.cons .h (.cons .h (.cons .h (.cons .h (.cons .h (.rd (.t (.t (.t .h))) rfl .nil)))))))) (.dep rfl (.dep rfl (.dep rfl (.dep rfl (.dep rfl (.dep rfl (.dep rfl .nil))))))) (fun ha=>jH (pre:=_) (.cons aG (.cons aG (.cons aG (.cons aG (.cons aG (.cons aG (.cons aG .nil))))))) (fun _=>.nil) (jm (.rd .h rfl (.rd (.t .h) rfl (.rd (.t (.t .h)) rfl (.rd (.t (.t (.t .h))) rfl (.rd (.t (.t (.t (.t (.t (.t (.t .h))))))) rfl (.rd (.t (.t (.t (.t .h)))) rfl (.rd (.t (.t (.t (.t (.t .h))))) rfl (.rd (.t (.t (.t (.t (.t (.t .h)))))) rfl .nil)))))))) (bV awO.h (.cons (EN ha (.tmp rfl rfl) rfl) .nil) (@afq r4 p6.1 p6.2.2.1 p6.2.2.2.2.1 p6.2.2.2.2.2.2.1 p6.2.2.2.2.2.2.2.2.1 p6.2.2.2.2.2.2.2.2.2.1 p6.2.2.2.2.2.2.2.2.2.2.2.1 p6.2.2.2.2.2.2.2.2.2.2.2.2.2.1 _ hx38)))) (fun _=>?_)
   refine bN rfl (.on 32 rfl rfl rfl) (fun ha=>Qk (a:=qG) (b:=Az) Tryz.underlying4 (EN ha (.tmp rfl rfl) rfl) (EN ha (.tmp rfl rfl) rfl)) ?_
   refine bN rfl .no (fun ha=>dU (b:=false) (u:=(.bool true)) (v:=(.bool (!(qG==Az)))) (EN ha (.tmp rfl rfl) rfl) (EN ha (.bool _) rfl) (EN ha (.tmp rfl rfl) rfl)) ?_
   refine Dm (.bool (!(qG==Az))) rfl rfl rfl rfl ?_
   rcases Bool.eq_false_or_eq_true (!(qG==Az))with yD|yD
   · rw[yD]
     try rw[yD]at hF; dsimp only[cond_true,cond_false]at hF
     iterate 5 refine nG 39 rfl rfl rfl rfl ?_
     refine bN rfl .no (fun ha=>dU (b:=true) (u:=(.bool true)) (v:=undef) (EN ha (.tmp rfl rfl) rfl) (EN ha (.bool _) rfl) (EN ha (.tmp rfl rfl) rfl)) ?_
     refine Dm (.bool true) rfl rfl rfl rfl ?_
     iterate 5 refine nG 46 rfl rfl rfl rfl ?_
     refine bN rfl .no (fun ha=>dU (b:=true) (u:=(.bool true)) (v:=undef) (EN ha (.tmp rfl rfl) rfl) (EN ha (.bool _) rfl) (EN ha (.tmp rfl rfl) rfl)) ?_
     refine Dm (.bool true) rfl rfl rfl rfl ?_
     iterate 6 refine nG 53 rfl rfl rfl rfl ?_
     refine bN rfl .no (fun ha=>dU (b:=true) (u:=(.bool true)) (v:=undef) (EN ha (.tmp rfl rfl) rfl) (EN ha (.bool _) rfl) (EN ha (.tmp rfl rfl) rfl)) ?_
     refine l6 ?_
     obtain rfl:=Option.some.inj hF
     exact⟨_,_,rfl,(b_.cons rfl (b_.cons rfl (b_.cons rfl (b_.nil)))).eq,(.sel (.cons (.t (.t (.t (.t (.t (.t (.t (.t (.t .h))))))))) (.cons (.t (.t (.t (.t (.t (.t .h)))))) (.cons (.t (.t (.t (.t (.t .h))))) (.cons (.t (.t (.t (.t .h)))) (.cons (.t (.t (.t .h))) (.rd (.t (.t (.t (.t (.t .h))))) rfl (.cons (.t (.t .h)) (.cons (.t .h) (.cons .h (.cons (.t .h) .nil)))))))))))⟩
   rw[yD]
   try rw[yD]at hF; dsimp only[cond_true,cond_false]at hF
   iterate 2 refine dO rfl (.on 39 rfl rfl rfl) (.t (.t (.t (.t (.t (.t (.t (.t (.t .h))))))))) (fun ha hp=>fP gP.h eG.h.sz rfl (EN ha (.tmp rfl rfl) rfl) hp.2 rfl) ?_
   obtain⟨wL,Rx,hF⟩:=bind_some hF
   refine zD rfl rfl (.on 39 rfl rfl rfl) (.cons .h (.cons .h (.cons .h (.cons .h (.cons .h (.cons .h (.cons .h (.rd (.t (.t (.t .h))) rfl .nil)))))))) (.own (.t (.t .h)) (fun _ h=>h) (.dep rfl (.dep rfl (.dep rfl (.dep rfl (.dep rfl (.dep rfl (.dep rfl (.dep rfl .nil))))))))) (fun ha=>jH (pre:=_) (.cons aG (.cons aG (.cons aG (.cons aG (.cons aG (.cons aG (.cons aG .nil))))))) (fun _=>.nil) (jm (.rd .h rfl (.rd (.t .h) rfl (.rd (.t (.t .h)) rfl (.rd (.t (.t (.t .h))) rfl (.rd (.t (.t (.t (.t (.t (.t (.t .h))))))) rfl (.rd (.t (.t (.t (.t .h)))) rfl (.rd (.t (.t (.t (.t (.t .h))))) rfl (.rd (.t (.t (.t (.t (.t (.t .h)))))) rfl .nil)))))))) (bV awP.h (.cons (EN ha (.tmp rfl rfl) rfl) .nil) (@aeT r4 p6.1 p6.2.2.1 p6.2.2.2.2.1 p6.2.2.2.2.2.2.1 p6.2.2.2.2.2.2.2.2.1 p6.2.2.2.2.2.2.2.2.2.1 p6.2.2.2.2.2.2.2.2.2.2.2.1 p6.2.2.2.2.2.2.2.2.2.2.2.2.2.1 _ Rx)))) (fun _=>?_)
   obtain⟨jS,wu,hF⟩:=bind_some hF
   refine zD rfl rfl (.on 39 rfl rfl rfl) (.cons .h (.cons .h (.cons .h (.cons .h (.cons .h (.cons .h (.cons .h (.rd (.t (.t (.t .h))) rfl .nil)))))))) (.dep rfl (.dep rfl (.dep rfl (.dep rfl (.dep rfl (.dep rfl (.dep rfl (.dep rfl (.dep rfl .nil))))))))) (fun ha=>jH (pre:=_) (.cons aG (.cons aG (.cons aG (.cons aG (.cons aG (.cons aG (.cons aG .nil))))))) (fun _=>.nil) (jm (.rd .h rfl (.rd (.t .h) rfl (.rd (.t (.t .h)) rfl (.rd (.t (.t (.t .h))) rfl (.rd (.t (.t (.t (.t (.t (.t (.t .h))))))) rfl (.rd (.t (.t (.t (.t .h)))) rfl (.rd (.t (.t (.t (.t (.t .h))))) rfl (.rd (.t (.t (.t (.t (.t (.t .h)))))) rfl .nil)))))))) (bV awS.h (.cons (EN ha (.tmp rfl rfl) rfl) .nil) (@aeU r4 p6.1 p6.2.2.1 p6.2.2.2.2.1 p6.2.2.2.2.2.2.1 p6.2.2.2.2.2.2.2.2.1 p6.2.2.2.2.2.2.2.2.2.1 p6.2.2.2.2.2.2.2.2.2.2.2.1 p6.2.2.2.2.2.2.2.2.2.2.2.2.2.1 _ wu)))) (fun _=>?_)
   refine bN rfl (.on 39 rfl rfl rfl) (fun ha=>Qk (a:=wL) (b:=jS) Tryz.underlying4 (EN ha (.tmp rfl rfl) rfl) (EN ha (.tmp rfl rfl) rfl)) ?_
   refine bN rfl .no (fun ha=>dU (b:=false) (u:=(.bool true)) (v:=(.bool (!(wL==jS)))) (EN ha (.tmp rfl rfl) rfl) (EN ha (.bool _) rfl) (EN ha (.tmp rfl rfl) rfl)) ?_
   refine Dm (.bool (!(wL==jS))) rfl rfl rfl rfl ?_
   rcases Bool.eq_false_or_eq_true (!(wL==jS))with yG|yG
   · rw[yG]
     try rw[yG]at hF; dsimp only[cond_true,cond_false]at hF
     iterate 5 refine nG 46 rfl rfl rfl rfl ?_
     refine bN rfl .no (fun ha=>dU (b:=true) (u:=(.bool true)) (v:=undef) (EN ha (.tmp rfl rfl) rfl) (EN ha (.bool _) rfl) (EN ha (.tmp rfl rfl) rfl)) ?_
     refine Dm (.bool true) rfl rfl rfl rfl ?_
     iterate 6 refine nG 53 rfl rfl rfl rfl ?_
     refine bN rfl .no (fun ha=>dU (b:=true) (u:=(.bool true)) (v:=undef) (EN ha (.tmp rfl rfl) rfl) (EN ha (.bool _) rfl) (EN ha (.tmp rfl rfl) rfl)) ?_
     refine l6 ?_
     obtain rfl:=Option.some.inj hF
     exact⟨_,_,rfl,(b_.cons rfl (b_.cons rfl (b_.cons rfl (b_.nil)))).eq,(.sel (.cons (.t (.t (.t (.t (.t (.t (.t (.t (.t .h))))))))) (.cons (.t (.t (.t (.t (.t (.t .h)))))) (.cons (.t (.t (.t (.t (.t .h))))) (.cons (.t (.t (.t (.t .h)))) (.cons (.t (.t (.t .h))) (.rd (.t (.t (.t (.t (.t .h))))) rfl (.cons (.t (.t .h)) (.cons (.t .h) (.cons .h (.cons (.t .h) .nil)))))))))))⟩
   rw[yG]
   try rw[yG]at hF; dsimp only[cond_true,cond_false]at hF
   iterate 2 refine dO rfl (.on 46 rfl rfl rfl) (.t (.t (.t (.t (.t (.t (.t (.t (.t .h))))))))) (fun ha hp=>fP gP.h eG.h.sz rfl (EN ha (.tmp rfl rfl) rfl) hp.2 rfl) ?_
   obtain⟨om,rz,hF⟩:=bind_some hF
   refine zD rfl rfl (.on 46 rfl rfl rfl) (.cons .h (.cons .h (.cons .h (.cons .h (.cons .h (.cons .h (.cons .h (.rd (.t (.t (.t .h))) rfl .nil)))))))) (.own (.t (.t .h)) (fun _ h=>h) (.dep rfl (.dep rfl (.dep rfl (.dep rfl (.dep rfl (.dep rfl (.dep rfl (.dep rfl (.dep rfl (.dep rfl .nil))))))))))) (fun ha=>jH (pre:=_) (.cons aG (.cons aG (.cons aG (.cons aG (.cons aG (.cons aG (.cons aG .nil))))))) (fun _=>.nil) (jm (.rd .h rfl (.rd (.t .h) rfl (.rd (.t (.t .h)) rfl (.rd (.t (.t (.t .h))) rfl (.rd (.t (.t (.t (.t (.t (.t (.t .h))))))) rfl (.rd (.t (.t (.t (.t .h)))) rfl (.rd (.t (.t (.t (.t (.t .h))))) rfl (.rd (.t (.t (.t (.t (.t (.t .h)))))) rfl .nil)))))))) (bV ajA.h (.cons (EN ha (.tmp rfl rfl) rfl) .nil) (@aeh r4 p6.1 p6.2.2.1 p6.2.2.2.2.1 p6.2.2.2.2.2.2.1 p6.2.2.2.2.2.2.2.2.1 p6.2.2.2.2.2.2.2.2.2.1 p6.2.2.2.2.2.2.2.2.2.2.2.1 p6.2.2.2.2.2.2.2.2.2.2.2.2.2.1 _ rz)))) (fun _=>?_)
   obtain⟨vE,JJ,hF⟩:=bind_some hF
   refine zD rfl rfl (.on 46 rfl rfl rfl) (.cons .h (.cons .h (.cons .h (.cons .h (.cons .h (.cons .h (.cons .h (.rd (.t (.t (.t .h))) rfl .nil)))))))) (.dep rfl (.dep rfl (.dep rfl (.dep rfl (.dep rfl (.dep rfl (.dep rfl (.dep rfl (.dep rfl (.dep rfl (.dep rfl .nil))))))))))) (fun ha=>jH (pre:=_) (.cons aG (.cons aG (.cons aG (.cons aG (.cons aG (.cons aG (.cons aG .nil))))))) (fun _=>.nil) (jm (.rd .h rfl (.rd (.t .h) rfl (.rd (.t (.t .h)) rfl (.rd (.t (.t (.t .h))) rfl (.rd (.t (.t (.t (.t (.t (.t (.t .h))))))) rfl (.rd (.t (.t (.t (.t .h)))) rfl (.rd (.t (.t (.t (.t (.t .h))))) rfl (.rd (.t (.t (.t (.t (.t (.t .h)))))) rfl .nil)))))))) (bV ajB.h (.cons (EN ha (.tmp rfl rfl) rfl) .nil) (@aei r4 p6.1 p6.2.2.1 p6.2.2.2.2.1 p6.2.2.2.2.2.2.1 p6.2.2.2.2.2.2.2.2.1 p6.2.2.2.2.2.2.2.2.2.1 p6.2.2.2.2.2.2.2.2.2.2.2.1 p6.2.2.2.2.2.2.2.2.2.2.2.2.2.1 _ JJ)))) (fun _=>?_)
   refine bN rfl (.on 46 rfl rfl rfl) (fun ha=>Qk (a:=om) (b:=vE) Tryz.underlying4 (EN ha (.tmp rfl rfl) rfl) (EN ha (.tmp rfl rfl) rfl)) ?_
   refine bN rfl .no (fun ha=>dU (b:=false) (u:=(.bool true)) (v:=(.bool (!(om==vE)))) (EN ha (.tmp rfl rfl) rfl) (EN ha (.bool _) rfl) (EN ha (.tmp rfl rfl) rfl)) ?_
   refine Dm (.bool (!(om==vE))) rfl rfl rfl rfl ?_
   rcases Bool.eq_false_or_eq_true (!(om==vE))with Tq|Tq
   · rw[Tq]
     try rw[Tq]at hF; dsimp only[cond_true,cond_false]at hF
     iterate 6 refine nG 53 rfl rfl rfl rfl ?_
     refine bN rfl .no (fun ha=>dU (b:=true) (u:=(.bool true)) (v:=undef) (EN ha (.tmp rfl rfl) rfl) (EN ha (.bool _) rfl) (EN ha (.tmp rfl rfl) rfl)) ?_
     refine l6 ?_
     obtain rfl:=Option.some.inj hF
     exact⟨_,_,rfl,(b_.cons rfl (b_.cons rfl (b_.cons rfl (b_.nil)))).eq,(.sel (.cons (.t (.t (.t (.t (.t (.t (.t (.t (.t .h))))))))) (.cons (.t (.t (.t (.t (.t (.t .h)))))) (.cons (.t (.t (.t (.t (.t .h))))) (.cons (.t (.t (.t (.t .h)))) (.cons (.t (.t (.t .h))) (.rd (.t (.t (.t (.t (.t .h))))) rfl (.cons (.t (.t .h)) (.cons (.t .h) (.cons .h (.cons (.t .h) .nil)))))))))))⟩
   rw[Tq]
   try rw[Tq]at hF; dsimp only[cond_true,cond_false]at hF
   iterate 2 refine dO rfl (.on 53 rfl rfl rfl) (.t (.t (.t (.t (.t (.t (.t (.t (.t .h))))))))) (fun ha hp=>fP gP.h eG.h.sz rfl (EN ha (.tmp rfl rfl) rfl) hp.2 rfl) ?_
   obtain⟨uE,CX,hF⟩:=bind_some hF
   refine VT rfl rfl (.on 53 rfl rfl rfl) (.cons .h (.cons .h (.cons .h (.cons .h (.cons .h (.cons .h (.cons .h (.rd (.t (.t (.t .h))) rfl .nil)))))))) (.own (.t (.t .h)) (fun _ h=>h) (.dep rfl (.dep rfl (.dep rfl (.dep rfl (.dep rfl (.dep rfl (.dep rfl (.dep rfl (.dep rfl (.dep rfl (.dep rfl (.dep rfl .nil))))))))))))) (fun ha=>jH (pre:=_) (.cons aG (.cons aG (.cons aG (.cons aG (.cons aG (.cons aG (.cons aG .nil))))))) (fun _=>(.cons .nil)) (jm (.rd .h rfl (.rd (.t .h) rfl (.rd (.t (.t .h)) rfl (.rd (.t (.t (.t .h))) rfl (.rd (.t (.t (.t (.t (.t (.t (.t .h))))))) rfl (.rd (.t (.t (.t (.t .h)))) rfl (.rd (.t (.t (.t (.t (.t .h))))) rfl (.rd (.t (.t (.t (.t (.t (.t .h)))))) rfl .nil)))))))) (bV awT.h (.cons (EN ha (.tmp rfl rfl) rfl) .nil) (@al6 r4 p6.1 p6.2.2.1 p6.2.2.2.2.1 p6.2.2.2.2.2.2.1 p6.2.2.2.2.2.2.2.2.1 p6.2.2.2.2.2.2.2.2.2.1 p6.2.2.2.2.2.2.2.2.2.2.2.1 p6.2.2.2.2.2.2.2.2.2.2.2.2.2.1 _ CX)))) (fun p57=>?_)
   obtain⟨sM,CY,hF⟩:=bind_some hF
   refine VT rfl rfl (.on 53 rfl rfl rfl) (.cons .h (.cons .h (.cons .h (.cons .h (.cons .h (.cons .h (.cons .h (.rd (.t (.t (.t (.t .h)))) rfl .nil)))))))) (.dep rfl (.dep rfl (.dep rfl (.dep rfl (.dep rfl (.dep rfl (.dep rfl (.dep rfl (.dep rfl (.dep rfl (.dep rfl (.dep rfl (.dep rfl .nil))))))))))))) (fun ha=>jH (pre:=_) (.cons aG (.cons aG (.cons aG (.cons aG (.cons aG (.cons aG (.cons aG .nil))))))) (fun _=>(.cons .nil)) (jm (.rd .h rfl (.rd (.t .h) rfl (.rd (.t (.t .h)) rfl (.rd (.t (.t (.t .h))) rfl (.rd (.t (.t (.t (.t (.t (.t (.t .h))))))) rfl (.rd (.t (.t (.t (.t .h)))) rfl (.rd (.t (.t (.t (.t (.t .h))))) rfl (.rd (.t (.t (.t (.t (.t (.t .h)))))) rfl .nil)))))))) (bV awU.h (.cons (EN ha (.tmp rfl rfl) rfl) .nil) (@al7 r4 p6.1 p6.2.2.1 p6.2.2.2.2.1 p6.2.2.2.2.2.2.1 p6.2.2.2.2.2.2.2.2.1 p6.2.2.2.2.2.2.2.2.2.1 p6.2.2.2.2.2.2.2.2.2.2.2.1 p6.2.2.2.2.2.2.2.2.2.2.2.2.2.1 _ CY)))) (fun p60=>?_)
   obtain⟨YE,ayN,hF⟩:=bind_some hF
   refine pq rfl rfl (.on 53 rfl rfl rfl) (.cons (.t (.t (.t (.t (.t (.t (.t .h))))))) (.cons (.t (.t (.t (.t (.t (.t (.t .h))))))) .nil)) (.dep rfl (.dep rfl (.dep rfl (.dep rfl (.dep rfl (.dep rfl (.dep rfl (.dep rfl (.dep rfl (.dep rfl (.dep rfl (.dep rfl (.dep rfl .nil))))))))))))) (fun ha=>jH (pre:=[]) (.cons aG (.cons aG .nil)) (fun _=>.nil) (bV ab4.h (.cons (EN ha (.tmp rfl rfl) rfl) (.cons (EN ha (.tmp rfl rfl) rfl) .nil)) (@Y2 uE p57.1 sM p60.1 _ ayN))) (fun _=>?_)
   refine bN rfl (.on 53 rfl rfl rfl) (fun ha=>Jf (b:=YE) (EN ha (.tmp rfl rfl) rfl)) ?_
   refine bN rfl .no (fun ha=>dU (b:=false) (u:=(.bool true)) (v:=(.bool (!YE))) (EN ha (.tmp rfl rfl) rfl) (EN ha (.bool _) rfl) (EN ha (.tmp rfl rfl) rfl)) ?_
   refine l6 ?_
   obtain rfl:=Option.some.inj hF
   exact⟨_,_,rfl,(b_.cons rfl (b_.cons rfl (b_.cons rfl (b_.nil)))).eq,(.sel (.cons (.t (.t (.t (.t (.t (.t (.t (.t (.t (.t (.t .h))))))))))) (.cons (.t (.t (.t (.t (.t (.t (.t (.t .h)))))))) (.cons (.t (.t (.t (.t (.t (.t (.t .h))))))) (.cons (.t (.t (.t (.t (.t (.t .h)))))) (.cons (.t (.t (.t (.t (.t .h))))) (.rd (.t (.t (.t (.t (.t (.t (.t .h))))))) rfl (.cons (.t (.t (.t (.t .h)))) (.cons (.t (.t (.t .h))) (.cons (.t (.t .h)) (.cons (.t (.t (.t .h))) .nil)))))))))))⟩
 rintro _ _ ⟨c64,aEq,rfl,rfl,hE⟩
 replace hF:=Nv
 clear Nv
 try dsimp only at hF
 refine bu hE ?_
 refine kg (b:=c64) (.tmp rfl rfl) (fun abN=>?_) (fun abN=>?_)
 · rw[if_pos abN]at hF
   refine dC (aN (jW (v:=(.bool false)) (.bool _)) ?_)
   refine df (qN ?_)
   obtain rfl:=Option.some.inj hF
   exact gU () (.tmp rfl rfl .nil) rfl (.sel .nil)
 rw[if_neg (by rw[abN]; exact Bool.false_ne_true)]at hF
 refine nU (j4 (dC (aN (jW (v:=(.int .i64 0)) (.int _ _)) ?_)))
 refine df (bn (iG (.t (.t (.t (.t (.t (.t (.t (.t (.t .h))))))))) aG ?_))
 refine bU (m:=r8.length) (fun akE f' cs'=>∃(g:Fr)(mF:Nat)(BN:List Access),akE=BN.length/\f'=aQ g [(3,(.pointer (some ⟨k7,0,some 0⟩))),(4,fT.1.v),(5,(.int .i64 (mF:Int)))]/\List.drop mF r8=BN/\aO cs' [aW k7 36 (.agg [p6.1.v,p6.2.2.1.v,p6.2.2.2.2.1.v,p6.2.2.2.2.2.2.1.v,(.int .i64 r4.Source.Version),p6.2.2.2.2.2.2.2.2.1.v,(.int .i64 r4.Cache.Age),(.int .i64 r4.Now),p6.2.2.2.2.2.2.2.2.2.1.v,p6.2.2.2.2.2.2.2.2.2.2.2.1.v,(.int .i64 r4.Spent),p6.2.2.2.2.2.2.2.2.2.2.2.2.2.1.v].toArray),aT (aF 3 (aC az)) p6.2.1 p6.1.v r4.Schema,aT (aF 57 qX) p6.2.2.2.1 p6.2.2.1.v r4.Methods,aT (aF 98 oU) p6.2.2.2.2.2.1 p6.2.2.2.2.1.v r4.Rules,aT (aF 70 gQ) p6.2.2.2.2.2.2.2.1 p6.2.2.2.2.2.2.1.v r4.Source.Facts,bB (aD 47 oV) p6.2.2.2.2.2.2.2.2.1.v r4.Cache.Entries,aT (aF 45 nk) p6.2.2.2.2.2.2.2.2.2.2.1 p6.2.2.2.2.2.2.2.2.2.1.v r4.Log,aT (aF 3 (aC az)) p6.2.2.2.2.2.2.2.2.2.2.2.2.1 p6.2.2.2.2.2.2.2.2.2.2.2.1.v r4.Times,aT (aF 152 (aF 24 (aF 3 (aC az)))) p6.2.2.2.2.2.2.2.2.2.2.2.2.2.2 p6.2.2.2.2.2.2.2.2.2.2.2.2.2.1.v r4.Results,bB (aD 45 qZ) fT.1.v r8]/\Es r4 BN mF=some R) ⟨_,0,_,rfl,(b_.cons rfl (b_.cons rfl (b_.cons rfl (b_.nil)))).eq,rfl,(.sel (.cons (.t .h) (.cons (.t .h) (.cons (.t .h) (.cons (.t .h) (.cons (.t .h) (.rd (.t .h) rfl (.cons (.t (.t .h)) (.cons (.t (.t .h)) (.cons (.t (.t .h)) (.rd .h rfl .nil))))))))))),hF⟩ ?_
 clear hF
 rintro akE _ _ ⟨ayl,mF,BN,rfl,rfl,hd114,hE,hF⟩
 refine bu hE ?_
 clear hE
 refine PS (c:=bB (aD 45 qZ) fT.1.v r8) (.t (.t (.t (.t (.t (.t (.t (.t (.t .h))))))))) agJ (fun azF=>?_)
 rcases BN with _|⟨x113,BN⟩
 · have avy:=List.drop_eq_nil_iff.1 hd114
   have aaA:(decide (((mF:Int):Int)<(r8.length:Int)))=false:=decide_eq_false (by omega)
   rw[Es]at hF
   refine j4 (dC (Cm (.int .i64 (mF:Int)) rfl rfl ?_))
   refine Cm fT.1.v rfl rfl ?_
   refine eu (.t (.t (.t (.t (.t (.t (.t (.t (.t .h))))))))) (fun hp=>rZ (l:=r8.length) pR.h (.tmp rfl rfl) (zB hp)) ?_
   refine aN (Fg (i:=(mF:Int)) (j:=(r8.length:Int)) (.tmp rfl rfl) (.tmp rfl rfl)) ?_
   refine df (kg (b:=(decide (((mF:Int):Int)<(r8.length:Int)))) (.tmp rfl rfl) (fun hb=>absurd (aaA.symm.trans hb) (by decide)) (fun _=>?_))
   refine EZ ?_
   iterate 2 refine Bb ?_
   refine ER (j4 (dC (eu .h (fun hp=>fP gP.h eG.h.sz rfl (.tmp rfl rfl) hp.2 rfl) ?_)))
   obtain⟨adL,avz,hF⟩:=bind_some hF
   refine aji (.cons (.t (.t (.t (.t (.t (.t (.t (.t .h)))))))) (.cons (.t (.t (.t (.t (.t (.t (.t .h))))))) (.cons (.t (.t (.t (.t (.t (.t .h)))))) (.cons (.t (.t (.t (.t .h)))) (.cons (.t (.t (.t .h))) (.cons (.t (.t .h)) (.cons (.t .h) (.rd (.t .h) rfl .nil)))))))) (jH (pre:=_) (.cons aG (.cons aG (.cons aG (.cons aG (.cons aG (.cons aG (.cons aG .nil))))))) (fun _=>.nil) (jm (.rd .h rfl (.rd (.t .h) rfl (.rd (.t (.t .h)) rfl (.rd (.t (.t (.t .h))) rfl (.rd (.t (.t (.t (.t (.t (.t (.t .h))))))) rfl (.rd (.t (.t (.t (.t .h)))) rfl (.rd (.t (.t (.t (.t (.t .h))))) rfl (.rd (.t (.t (.t (.t (.t (.t .h)))))) rfl .nil)))))))) (bV ajB.h (.cons (.tmp rfl rfl) .nil) (@aei r4 p6.1 p6.2.2.1 p6.2.2.2.2.1 p6.2.2.2.2.2.2.1 p6.2.2.2.2.2.2.2.2.1 p6.2.2.2.2.2.2.2.2.2.1 p6.2.2.2.2.2.2.2.2.2.2.2.1 p6.2.2.2.2.2.2.2.2.2.2.2.2.2.1 _ avz)))) (fun _=>?_)
   refine df (kg (b:=adL) (.tmp rfl rfl) (fun Qu=>?_) (fun Qu=>?_))
   · rw[if_pos Qu]at hF
     refine dC (aN (iK (off:=10) aao.h (.tmp rfl rfl)) ?_)
     refine eu (.t (.t (.t (.t (.t (.t (.t .h))))))) (fun hp=>fw (v:=(.int .i64 r4.Spent)) qd.h (.tmp rfl rfl) hp.2 rfl rfl) ?_
     refine aN (nW (i:=r4.Spent) (j:=1) (.tmp rfl rfl) (.int _ _)) ?_
     refine aN (iK (off:=10) aao.h (.tmp rfl rfl)) ?_
     refine ek (.cons (.t (.t (.t (.t (.t (.t (.t .h))))))) .nil) (gD (e':=(.agg [p6.1.v,p6.2.2.1.v,p6.2.2.2.2.1.v,p6.2.2.2.2.2.2.1.v,(.int .i64 r4.Source.Version),p6.2.2.2.2.2.2.2.2.1.v,(.int .i64 r4.Cache.Age),(.int .i64 r4.Now),p6.2.2.2.2.2.2.2.2.2.1.v,p6.2.2.2.2.2.2.2.2.2.2.2.1.v,(.int .i64 (IntKind.i64.wrap (r4.Spent+1))),p6.2.2.2.2.2.2.2.2.2.2.2.2.2.1.v].toArray)) (v:=(.int .i64 (IntKind.i64.wrap (r4.Spent+1)))) dx.h.sz (.tmp rfl rfl) (.tmp rfl rfl) rfl rfl rfl rfl rfl) (fun _=>?_)
     refine df (dC (eu .h (fun hp=>fP gP.h eG.h.sz rfl (.tmp rfl rfl) hp.2 rfl) ?_))
     obtain⟨adM,aa4,hF⟩:=bind_some hF
     refine aji (.cons (.t .h) (.cons (.t .h) (.cons (.t .h) (.cons (.t .h) (.cons (.t .h) (.cons (.t .h) (.cons (.t .h) (.rd (.t .h) rfl .nil)))))))) (jH (pre:=_) (.cons aG (.cons aG (.cons aG (.cons aG (.cons aG (.cons aG (.cons aG .nil))))))) (fun _=>.nil) (jm (.rd .h rfl (.rd (.t .h) rfl (.rd (.t (.t .h)) rfl (.rd (.t (.t (.t .h))) rfl (.rd (.t (.t (.t (.t (.t (.t (.t .h))))))) rfl (.rd (.t (.t (.t (.t .h)))) rfl (.rd (.t (.t (.t (.t (.t .h))))) rfl (.rd (.t (.t (.t (.t (.t (.t .h)))))) rfl .nil)))))))) (bV ajA.h (.cons (.tmp rfl rfl) .nil) (@aeh ({Schema:=r4.Schema,Methods:=r4.Methods,Rules:=r4.Rules,Source:=r4.Source,Cache:=r4.Cache,Now:=r4.Now,Log:=r4.Log,Times:=r4.Times,Spent:=(IntKind.i64.wrap (r4.Spent+1)),Results:=r4.Results}:aY) p6.1 p6.2.2.1 p6.2.2.2.2.1 p6.2.2.2.2.2.2.1 p6.2.2.2.2.2.2.2.2.1 p6.2.2.2.2.2.2.2.2.2.1 p6.2.2.2.2.2.2.2.2.2.2.2.1 p6.2.2.2.2.2.2.2.2.2.2.2.2.2.1 _ aa4)))) (fun _=>?_)
     refine df (kg (b:=adM) (.tmp rfl rfl) (fun abO=>?_) (fun abO=>?_))
     · rw[if_pos abO]at hF
       refine dC (aN (jW (v:=(.bool false)) (.bool _)) ?_)
       refine df (qN ?_)
       obtain rfl:=Option.some.inj hF
       exact gU () (.tmp rfl rfl .nil) rfl (.sel .nil)
     rw[if_neg (by rw[abO]; exact Bool.false_ne_true)]at hF
     refine nU (dC (aN (jW (v:=(.bool true)) (.bool _)) ?_))
     refine df (qN ?_)
     obtain rfl:=Option.some.inj hF
     exact gU () (.tmp rfl rfl .nil) rfl (.sel .nil)
   rw[if_neg (by rw[Qu]; exact Bool.false_ne_true)]at hF
   refine nU (dC (aN (jW (v:=(.bool true)) (.bool _)) ?_))
   refine df (qN ?_)
   obtain rfl:=Option.some.inj hF
   exact gU () (.tmp rfl rfl .nil) rfl (.sel .nil)
 obtain⟨avy,Wq,avA⟩:=dA hd114
 have aaA:(decide (((mF:Int):Int)<(r8.length:Int)))=true:=decide_eq_true (by omega)
 rw[Es]at hF
 refine j4 (dC (Cm (.int .i64 (mF:Int)) rfl rfl ?_))
 refine Cm fT.1.v rfl rfl ?_
 refine eu (.t (.t (.t (.t (.t (.t (.t (.t (.t .h))))))))) (fun hp=>rZ (l:=r8.length) pR.h (.tmp rfl rfl) (zB hp)) ?_
 refine aN (Fg (i:=(mF:Int)) (j:=(r8.length:Int)) (.tmp rfl rfl) (.tmp rfl rfl)) ?_
 refine df (kg (b:=(decide (((mF:Int):Int)<(r8.length:Int)))) (.tmp rfl rfl) (fun _=>?_) (fun hb=>absurd (aaA.symm.trans hb) (by decide)))
 refine nU (PQ (dV [0,1,2,3,4,5,6,7] [0,1,0,0,12,28,63,127] [6] mixed (by decide+kernel) ?_))
 refine bN rfl .no (fun ha=>iK (off:=5) VW.h (EN ha (.tmp rfl rfl) rfl)) ?_
 refine dO rfl .no .h (fun ha hp=>j_ (s:=2) (l:=[p6.2.2.2.2.2.2.2.2.1.v,(.int .i64 r4.Cache.Age)]) u7.h oW.h.sz (EN ha (.tmp rfl rfl) rfl) hp.2 rfl (by decide) (Nat.le_of_ble_eq_true rfl) rfl) ?_
 refine Dm fT.1.v rfl rfl rfl rfl ?_
 refine Dm (.int .i64 (mF:Int)) rfl rfl rfl rfl ?_
 refine V6 (a:=x113) pR.h ky.h.sz rfl .no (.tmp rfl rfl) (.tmp rfl rfl) rfl rfl (.t (.t (.t (.t (.t (.t (.t (.t (.t .h))))))))) (Int.natCast_nonneg mF) Wq (fun Ad aEr=>?_)
 refine aal (xR x113) vY.h ky.h.sz rfl rfl .no (.tmp rfl rfl) rfl .h zu (fun ayO=>?_)
 obtain⟨Dr,avB,hF⟩:=bind_some hF
 refine ahQ rfl rfl .no (.rd (.t (.t (.t (.t (.t (.t (.t .h))))))) rfl (.rd .h rfl .nil)) (.dep rfl .nil) (fun ha=>bV awr.h (.cons (EN ha (.tmp rfl rfl) rfl) (.cons (EN ha (.tmp rfl rfl) rfl) .nil)) (@aeP r4.Cache p6.2.2.2.2.2.2.2.2.1 x113 ayO _ avB)) (fun _=>?_)
 refine Da (.int .i64 Dr) rfl rfl rfl rfl ?_
 refine l6 ?_
 obtain⟨adP,arv,aja⟩:=bind_some hF
 refine dV [0,1,2,3,4,5,6,7,8,9,10,11,12,13,14,15,16,17,18,19,20,21,22,23] [0,1,3,7,15,31,7,127,255,511,7,1031,7,4103,7,16391,49159,7,7,393223,917511,2096135,4194303,8388607] [21,22] mixed (by decide+kernel) ?_
 refine kX (fun f' cs'=>∃(ww:Bool)(g:Fr),ww=adP/\f'=aQ g [(3,(.pointer (some ⟨k7,0,some 0⟩))),(4,fT.1.v),(5,(.int .i64 (mF:Int))),(97,(.bool ww))]/\aO cs' [aW k7 36 (.agg [p6.1.v,p6.2.2.1.v,p6.2.2.2.2.1.v,p6.2.2.2.2.2.2.1.v,(.int .i64 r4.Source.Version),p6.2.2.2.2.2.2.2.2.1.v,(.int .i64 r4.Cache.Age),(.int .i64 r4.Now),p6.2.2.2.2.2.2.2.2.2.1.v,p6.2.2.2.2.2.2.2.2.2.2.2.1.v,(.int .i64 r4.Spent),p6.2.2.2.2.2.2.2.2.2.2.2.2.2.1.v].toArray),aT (aF 3 (aC az)) p6.2.1 p6.1.v r4.Schema,aT (aF 57 qX) p6.2.2.2.1 p6.2.2.1.v r4.Methods,aT (aF 98 oU) p6.2.2.2.2.2.1 p6.2.2.2.2.1.v r4.Rules,aT (aF 70 gQ) p6.2.2.2.2.2.2.2.1 p6.2.2.2.2.2.2.1.v r4.Source.Facts,bB (aD 47 oV) p6.2.2.2.2.2.2.2.2.1.v r4.Cache.Entries,aT (aF 45 nk) p6.2.2.2.2.2.2.2.2.2.2.1 p6.2.2.2.2.2.2.2.2.2.1.v r4.Log,aT (aF 3 (aC az)) p6.2.2.2.2.2.2.2.2.2.2.2.2.1 p6.2.2.2.2.2.2.2.2.2.2.2.1.v r4.Times,aT (aF 152 (aF 24 (aF 3 (aC az)))) p6.2.2.2.2.2.2.2.2.2.2.2.2.2.2 p6.2.2.2.2.2.2.2.2.2.2.2.2.2.1.v r4.Results,bB (aD 45 qZ) fT.1.v r8]) ?_ ?_
 · replace hF:=arv
   refine Dm (.int .i64 Dr) rfl rfl rfl rfl ?_
   refine bN rfl .no (fun ha=>Fg (i:=Dr) (j:=0) (EN ha (.tmp rfl rfl) rfl) (EN ha (.int _ _) rfl)) ?_
   refine Dm (.bool (decide ((Dr:Int)<0))) rfl rfl rfl rfl ?_
   rcases Bool.eq_false_or_eq_true (decide ((Dr:Int)<0))with Q6|Q6
   · rw[Q6]
     try rw[Q6]at hF; dsimp only[cond_true,cond_false]at hF
     iterate 20 refine nG 76 rfl rfl rfl rfl ?_
     refine bN rfl .no (fun ha=>dU (b:=true) (u:=(.bool true)) (v:=undef) (EN ha (.tmp rfl rfl) rfl) (EN ha (.bool _) rfl) (EN ha (.tmp rfl rfl) rfl)) ?_
     refine l6 ?_
     obtain rfl:=Option.some.inj hF
     exact⟨_,_,rfl,(b_.cons rfl (b_.cons rfl (b_.cons rfl (b_.cons rfl (b_.nil))))).eq,(.sel (.cons (.t (.t .h)) (.cons (.t (.t .h)) (.cons (.t (.t .h)) (.cons (.t (.t .h)) (.cons (.t (.t .h)) (.rd (.t (.t .h)) rfl (.cons (.t (.t (.t .h))) (.cons (.t (.t (.t .h))) (.cons (.t (.t (.t .h))) (.rd (.t (.t (.t .h))) rfl .nil)))))))))))⟩
   rw[Q6]
   try rw[Q6]at hF; dsimp only[cond_true,cond_false]at hF
   refine bN rfl (.on 76 rfl rfl rfl) (fun ha=>iK (off:=5) VW.h (EN ha (.tmp rfl rfl) rfl)) ?_
   refine bN rfl (.on 76 rfl rfl rfl) (fun ha=>iK (off:=0) VX.h (EN ha (.tmp rfl rfl) rfl)) ?_
   refine dO rfl (.on 76 rfl rfl rfl) (.t (.t .h)) (fun ha hp=>fw (v:=p6.2.2.2.2.2.2.2.2.1.v) awf.h (EN ha (.tmp rfl rfl) rfl) hp.2 rfl rfl) ?_
   refine bN rfl (.on 76 rfl rfl rfl) (fun ha=>fQ (v:=(.int .i64 Dr)) (EN ha (.tmp rfl rfl) rfl)) ?_
   obtain⟨X_,aa3,hF⟩:=bind_some hF
   obtain⟨avC,avD⟩:=E5 aa3
   refine V6 (a:=X_) u_.h qz.h.sz rfl (.on 76 rfl rfl rfl) (.tmp rfl rfl) (.tmp rfl rfl) rfl rfl (.t (.t (.t (.t (.t (.t (.t .h))))))) avC avD (fun acZ aEs=>?_)
   refine bN rfl (.on 76 rfl rfl rfl) (fun ha=>iK (off:=2) aql.h (EN ha (.tmp rfl rfl) rfl)) ?_
   refine oz (R':=(aD 70 mP)) ym.h rfl (.on 76 rfl rfl rfl) (.tmp rfl rfl) rfl .h ah0 (fun ayP=>?_)
   refine bN rfl (.on 76 rfl rfl rfl) (fun ha=>iK (off:=0) PZ.h (EN ha (.tmp rfl rfl) rfl)) ?_
   refine dO rfl (.on 76 rfl rfl rfl) (.t (.t (.t (.t .h)))) (fun ha hp=>fw (v:=p6.1.v) iC.h (EN ha (.tmp rfl rfl) rfl) hp.2 rfl rfl) ?_
   refine bN rfl (.on 76 rfl rfl rfl) (fun ha=>iK (off:=1) aap.h (EN ha (.tmp rfl rfl) rfl)) ?_
   refine dO rfl (.on 76 rfl rfl rfl) (.t (.t (.t (.t .h)))) (fun ha hp=>fw (v:=p6.2.2.1.v) Xa.h (EN ha (.tmp rfl rfl) rfl) hp.2 rfl rfl) ?_
   refine bN rfl (.on 76 rfl rfl rfl) (fun ha=>iK (off:=3) Mx.h (EN ha (.tmp rfl rfl) rfl)) ?_
   refine bN rfl (.on 76 rfl rfl rfl) (fun ha=>iK (off:=0) aqj.h (EN ha (.tmp rfl rfl) rfl)) ?_
   refine dO rfl (.on 76 rfl rfl rfl) (.t (.t (.t (.t .h)))) (fun ha hp=>fw (v:=p6.2.2.2.2.2.2.1.v) ym.h (EN ha (.tmp rfl rfl) rfl) hp.2 rfl rfl) ?_
   refine bN rfl (.on 76 rfl rfl rfl) (fun ha=>fQ (v:=fT.1.v) (EN ha (.tmp rfl rfl) rfl)) ?_
   refine bN rfl (.on 76 rfl rfl rfl) (fun ha=>fQ (v:=(.int .i64 (mF:Int))) (EN ha (.tmp rfl rfl) rfl)) ?_
   refine V6 (a:=x113) pR.h ky.h.sz rfl (.on 76 rfl rfl rfl) (.tmp rfl rfl) (.tmp rfl rfl) rfl rfl (.t (.t (.t (.t (.t (.t (.t (.t (.t (.t (.t (.t (.t .h))))))))))))) (Int.natCast_nonneg mF) Wq (fun aEt aEu=>?_)
   refine aal (xR x113) vY.h ky.h.sz rfl rfl (.on 76 rfl rfl rfl) (.tmp rfl rfl) rfl .h zu (fun ayQ=>?_)
   obtain⟨adN,avE,hF⟩:=bind_some hF
   refine VS rfl rfl (.on 76 rfl rfl rfl) (.cons (.t (.t (.t (.t (.t (.t (.t (.t (.t (.t .h)))))))))) (.cons (.t (.t (.t (.t (.t (.t (.t (.t .h)))))))) (.cons (.t (.t (.t (.t (.t (.t (.t .h))))))) (.rd .h rfl .nil)))) (.dep rfl (.dep rfl (.dep rfl (.own (.t (.t (.t (.t (.t (.t .h)))))) (fun _ h=>h) .nil)))) (fun ha=>jH (pre:=_) (.cons aG (.cons aG (.cons aG .nil))) (fun _=>(.cons .nil)) (bV awW.h (.cons (EN ha (.tmp rfl rfl) rfl) (.cons (EN ha (.tmp rfl rfl) rfl) (.cons (EN ha (.tmp rfl rfl) rfl) (.cons (EN ha (.tmp rfl rfl) rfl) .nil)))) (@amL r4.Schema p6.1 r4.Methods p6.2.2.1 r4.Source.Facts p6.2.2.2.2.2.2.1 x113 ayQ _ avE))) (fun ayR=>?_)
   obtain⟨adO,hx151,hF⟩:=bind_some hF
   refine cO rfl rfl (.on 76 rfl rfl rfl) (.cons (.t (.t (.t .h))) (.rd (.t (.t (.t (.t (.t .h))))) rfl .nil)) (.dep rfl (.dep rfl (.dep rfl (.dep rfl .nil)))) (fun ha=>jV aG (fun _=>.nil) (jm (.rd (.t .h) rfl (.rd .h rfl .nil)) (bV ab4.h (.cons (EN ha (.tmp rfl rfl) rfl) (.cons (EN ha (.tmp rfl rfl) rfl) .nil)) (@Y2 X_.Facts ayP adN ayR.1 _ hx151)))) (fun _=>?_)
   refine bN rfl .no (fun ha=>dU (b:=false) (u:=(.bool true)) (v:=(.bool adO)) (EN ha (.tmp rfl rfl) rfl) (EN ha (.bool _) rfl) (EN ha (.tmp rfl rfl) rfl)) ?_
   refine l6 ?_
   obtain rfl:=Option.some.inj hF
   exact⟨_,_,rfl,(b_.cons rfl (b_.cons rfl (b_.cons rfl (b_.cons rfl (b_.nil))))).eq,(.sel (.cons (.t (.t (.t (.t (.t (.t (.t (.t (.t (.t .h)))))))))) (.cons (.t (.t (.t .h))) (.cons (.t (.t .h)) (.cons (.t (.t (.t (.t (.t (.t (.t (.t .h)))))))) (.cons (.t .h) (.rd (.t (.t (.t (.t (.t (.t (.t .h))))))) rfl (.cons (.t (.t (.t (.t (.t (.t (.t (.t .h)))))))) (.cons (.t (.t (.t (.t (.t (.t (.t (.t .h)))))))) (.cons (.t (.t (.t (.t (.t (.t (.t (.t .h)))))))) (.rd (.t (.t (.t (.t (.t (.t (.t (.t .h)))))))) rfl .nil)))))))))))⟩
 rintro _ _ ⟨ww,aEv,rfl,rfl,hE⟩
 replace hF:=aja
 clear aja
 try dsimp only at hF
 refine bu hE ?_
 refine kg (b:=ww) (.tmp rfl rfl) (fun abP=>?_) (fun abP=>?_)
 · rw[if_pos abP]at hF
   refine dC (aN (jW (v:=(.bool false)) (.bool _)) ?_)
   refine df (qN ?_)
   obtain rfl:=Option.some.inj hF
   exact gU () (.tmp rfl rfl .nil) rfl (.sel .nil)
 rw[if_neg (by rw[abP]; exact Bool.false_ne_true)]at hF
 refine nU (kT (Cm (.int .i64 (mF:Int)) rfl rfl ?_))
 refine aN (nW (i:=(mF:Int)) (j:=1) (.tmp rfl rfl) (.int _ _)) ?_
 refine Ca (.int .i64 (IntKind.i64.wrap ((mF:Int)+1))) rfl rfl ?_
 refine df ?_
 have avF:IntKind.i64.wrap ((mF:Int)+1)=((mF+1:Nat):Int):=by rw[eU (by omega) (by omega)]; rfl
 rw[avF]
 exact⟨_,Nat.lt_succ_self _,_,mF+1,BN,rfl,(b_.cons rfl (b_.cons rfl (b_.cons rfl (b_.nil)))).eq,avA,(.sel (.cons .h (.cons .h (.cons .h (.cons .h (.cons .h (.rd .h rfl (.cons (.t .h) (.cons (.t .h) (.cons (.t .h) (.rd (.t .h) rfl .nil))))))))))),hF⟩
end Go.Proofs.YtfcjmpkenaiomaaGreat
