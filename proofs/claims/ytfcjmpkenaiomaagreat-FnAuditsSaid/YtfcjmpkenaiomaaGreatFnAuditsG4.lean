/-
  Functions of the program as Lean functions, and that the calls return what these say: part 5. No conditions.
-/
import Derived.Test.YtfcjmpkenaiomaaGreatFnAuditsG3
import Derived.KernelRfl
set_option maxRecDepth 100000
set_option maxHeartbeats 1000000
set_option linter.unusedVariables false
namespace Go.Proofs.YtfcjmpkenaiomaaGreat
open Go Go.Fw

def Kv(ag:List Fact)(pX:Int)(nL:List Fact):Option (List Fact):=
 match nL with
 |[a]=>if 0<=pX/\pX.toNat<=ag.length/\ag.length+1<4294967296 then some (ag.take pX.toNat++a::ag.drop pX.toNat)else none
 |_=>none
set_option maxHeartbeats 4000000 in
theorem ak_(es:List Value)(e:Value)(v u:Sv)(F F2:List Nat)(i:Nat)(hi:i<=es.length)(hb:es.length+1<4294967296):Fw.Spec Tryz.prog 130 [v.v,.int .i64 (i:Int),u.v] [aU (aF 70 (aC (gZ 2))) F v.v es,aU (aF 70 (aC (gZ 2))) F2 u.v [e]] (fun q:Sv×List Nat=>q.1.v) (fun q=>[aU (aF 70 (aC (gZ 2))) q.2 q.1.v (es.take i++e::es.drop i)]):=by
 refine HY (n:=95) Tryz.func130 rfl rfl (rs:=[.tmp 6]) rfl rfl rfl ?_
 intro H0 F0
 refine dY ?_
 refine aP (jU (v:=(.slice none 0 0)) EV.nilSlice) ?_
 refine eT ?_
 refine dY ?_
 refine aP (fu (v:=v.v) (.tmp rfl rfl)) ?_
 refine aP (fu (v:=(.int .i64 (i:Int))) (.tmp rfl rfl)) ?_
 refine ed (.cons .h .nil) (aoe fH.h dZ.h.sz (.tmp rfl rfl) (.tmp rfl rfl) hi) (fun w0=>?_)
 refine eT ?_
 refine dY ?_
 refine aP (fu (v:=u.v) (.tmp rfl rfl)) ?_
 refine fo (.t .h) (fun hp=>sO (l:=1) fH.h (.tmp rfl rfl) (Pw hp)) ?_
 refine aP (jU (v:=(.int .i64 ((1:Nat):Int))) (.tmp rfl rfl)) ?_
 refine eT ?_
 refine lX ?_
 refine dY ?_
 refine aP (fu (v:=(.int .i64 ((1:Nat):Int))) (.tmp rfl rfl)) ?_
 refine aP (BO (i:=((1:Nat):Int)) (j:=0) (.tmp rfl rfl) (.int _ _)) ?_
 refine eT ?_
 refine nY (b:=(((1:Nat):Int)==0)) (.tmp rfl rfl) (fun hb0=>absurd hb0 (by decide)) (fun _=>?_)
 refine rG ?_
 refine dY ?_
 refine aP (fu (v:=v.v) (.tmp rfl rfl)) ?_
 refine fo .h (fun hp=>sO (l:=es.length) fH.h (.tmp rfl rfl) (Pw hp)) ?_
 refine aP (jU (v:=(.int .i64 (es.length:Int))) (.tmp rfl rfl)) ?_
 refine eT ?_
 refine lX ?_
 refine dY ?_
 refine aP (fu (v:=(.int .i64 (i:Int))) (.tmp rfl rfl)) ?_
 refine aP (fu (v:=(.int .i64 (es.length:Int))) (.tmp rfl rfl)) ?_
 refine aP (BO (i:=(i:Int)) (j:=(es.length:Int)) (.tmp rfl rfl) (.tmp rfl rfl)) ?_
 refine eT ?_
 refine nY (b:=((i:Int)==(es.length:Int))) (.tmp rfl rfl) (fun hb1=>?_) (fun hb1=>?_)
 · have hie:i=es.length:=by simp only[beq_iff_eq]at hb1; omega
   refine dY ?_
   refine aP (fu (v:=v.v) (.tmp rfl rfl)) ?_
   refine aP (fu (v:=u.v) (.tmp rfl rfl)) ?_
   refine ed (.cons .h (.cons .h .nil)) (dV (Ro:=(aC (gZ 2))) fH.h xS dZ.h rfl rfl rfl (.tmp rfl rfl) (.tmp rfl rfl) (oF (xs:=es) (ys:=[e]) (by simpa using hb)) fw) (fun p=>?_)
   refine aP (jU (v:=p.1.v) (.tmp rfl rfl)) ?_
   refine eT ?_
   refine sN ?_
   rw[hie,List.take_length,List.drop_length]
   exact gQ p (.tmp rfl rfl .nil) rfl (.sel (.cons .h .nil))
 refine rG ?_
 have hlt:i<es.length:=by simp at hb1; omega
 refine PK .h (ZU (by intro h; rw[h]at hlt; simp at hlt)) (fun hv=>?_)
 obtain⟨k0,m0,rfl,hm0⟩:=hv
 refine PK (.t .h) (ZU (by simp)) (fun hu=>?_)
 obtain⟨k1,m1,rfl,hm1⟩:=hu
 refine arJ (t:=0) (k:=k0) (l:=es.length) (m:=m0) rfl rfl hm0 (by omega) .h rfl (fun c hc=>?_)
 have w1:IntKind.i64.wrap ((es.length:Int)+((1:Nat):Int))=((es.length+1:Nat):Int):=by rw[eP (by omega) (by omega)]; rfl
 have w2:IntKind.i64.wrap ((i:Int)+((1:Nat):Int))=((i+1:Nat):Int):=by rw[eP (by omega) (by omega)]; rfl
 have w3:IntKind.i64.wrap (((es.length+1:Nat):Int)-(i:Int))=((es.length+1-i:Nat):Int):=by rw[eP (by omega) (by omega)]; omega
 have hel:(es.take i++e::es.drop i).length=es.length+1:=apn hi
 refine lX ?_
 refine dY ?_
 refine aP (fu (v:=(.int .i64 (es.length:Int))) (.tmp rfl rfl)) ?_
 refine aP (fu (v:=(.int .i64 ((1:Nat):Int))) (.tmp rfl rfl)) ?_
 refine aP (qF (i:=(es.length:Int)) (j:=((1:Nat):Int)) (.tmp rfl rfl) (.tmp rfl rfl)) ?_
 rw[w1]
 refine aP (fu (v:=(.slice (some ⟨k0,0,none⟩) es.length (c+3))) (.tmp rfl rfl)) ?_
 refine fo .h (fun hp=>apZ fH.h hp rfl (.tmp rfl rfl)) ?_
 refine aP (aat (i:=((es.length+1:Nat):Int)) (j:=(c:Int)) (.tmp rfl rfl) (.tmp rfl rfl)) ?_
 refine eT ?_
 refine nY (b:=(decide ((c:Int)<((es.length+1:Nat):Int)))) (.tmp rfl rfl) (fun hb2=>?_) (fun hb2=>?_)
 · have hcl:c<es.length+1:=by simp only[decide_eq_true_eq]at hb2; omega
   refine dY ?_
   refine aP (fu (v:=(.slice (some ⟨k0,0,none⟩) es.length (c+3))) (.tmp rfl rfl)) ?_
   refine aP (fu (v:=(.int .i64 (i:Int))) (.tmp rfl rfl)) ?_
   refine fo .h (fun hp=>afO (j:=i) fH.h dZ.h.sz hp rfl (.tmp rfl rfl) (.tmp rfl rfl) (by omega)) ?_
   refine aP (fu (v:=(.int .i64 (es.length:Int))) (.tmp rfl rfl)) ?_
   refine aP (fu (v:=(.int .i64 ((1:Nat):Int))) (.tmp rfl rfl)) ?_
   refine aP (qF (i:=(es.length:Int)) (j:=((1:Nat):Int)) (.tmp rfl rfl) (.tmp rfl rfl)) ?_
   rw[w1]
   refine aP (fu (v:=(.int .i64 (i:Int))) (.tmp rfl rfl)) ?_
   refine aP (aas (i:=((es.length+1:Nat):Int)) (j:=(i:Int)) (.tmp rfl rfl) (.tmp rfl rfl)) ?_
   rw[w3]
   refine uq (.cons .h .nil) (anr (c:=c) (q:=es.length+1-i) fH.h ik3 dZ.h rfl rfl rfl rfl rfl rfl (.tmp rfl rfl) (.tmp rfl rfl) (by omega) (by omega) (by omega) (by omega)) (fun k2=>?_)
   rw[show i+(es.length+1-i)=es.length+1 from by omega]
   refine aP (jU (v:=(.slice (some ⟨k2,0,none⟩) (es.length+1) 2)) (.tmp rfl rfl)) ?_
   refine eT ?_
   refine dY ?_
   refine aP (fu (v:=(.slice (some ⟨k2,0,none⟩) (es.length+1) 2)) (.tmp rfl rfl)) ?_
   refine aP (fu (v:=(.int .i64 (i:Int))) (.tmp rfl rfl)) ?_
   refine fo .h (fun hp=>Ef (j:=i) fH.h dZ.h.sz hp rfl (.tmp rfl rfl) (.tmp rfl rfl) (by omega)) ?_
   refine aP (fu (v:=(.slice (some ⟨k1,0,none⟩) 1 m1)) (.tmp rfl rfl)) ?_
   refine uq (.cons .h (.cons (.t .h) .nil)) (Z8 (m1:=0) (m2:=m1) (ia:=i) (ja:=0) (ld:=es.length+1-i) (ls:=1) (es2:=[e]) (es':=es.take i++e::List.replicate (es.length-i) (.agg [(.int .i64 0),(.slice none 0 0)].toArray)) fH.h dZ.h.sz rfl rfl rfl (by exact .tmp rfl rfl) (by exact .tmp rfl rfl) (by omega) (by omega) (by rw[List.length_singleton]; omega) (by simp; omega) (ap0 (e:=e) (z:=(.agg [(.int .i64 0),(.slice none 0 0)].toArray)) hlt) (by simp; omega)) (fun _=>?_)
   refine eT ?_
   refine dS [0,1,2,3,4,5,6,7,8] [0,0,0,6,15,0,0,96,255] [8] mixed (by decide+kernel) ?_
   refine bW rfl .no (fun ha=>fu (v:=(.slice (some ⟨k2,0,none⟩) (es.length+1) 2)) (EN ha (.tmp rfl rfl) rfl)) ?_
   refine bW rfl .no (fun ha=>fu (v:=(.int .i64 (i:Int))) (EN ha (.tmp rfl rfl) rfl)) ?_
   refine bW rfl .no (fun ha=>fu (v:=(.int .i64 ((1:Nat):Int))) (EN ha (.tmp rfl rfl) rfl)) ?_
   refine bW rfl .no (fun ha=>qF (i:=(i:Int)) (j:=((1:Nat):Int)) (EN ha (.tmp rfl rfl) rfl) (EN ha (.tmp rfl rfl) rfl)) ?_
   rw[w2]
   refine dM rfl .no .h (fun ha hp=>Ef (j:=i+1) fH.h dZ.h.sz hp rfl (EN ha (.tmp rfl rfl) rfl) (EN ha (.tmp rfl rfl) rfl) (by omega)) ?_
   refine bW rfl .no (fun ha=>fu (v:=(.slice (some ⟨k0,0,none⟩) es.length (c+3))) (EN ha (.tmp rfl rfl) rfl)) ?_
   refine bW rfl .no (fun ha=>fu (v:=(.int .i64 (i:Int))) (EN ha (.tmp rfl rfl) rfl)) ?_
   refine dM rfl .no (.t (.t .h)) (fun ha hp=>Ef (j:=i) fH.h dZ.h.sz hp rfl (EN ha (.tmp rfl rfl) rfl) (EN ha (.tmp rfl rfl) rfl) (by omega)) ?_
   refine oV rfl rfl .no (.cons .h (.cons (.t .h) .nil)) (.dep rfl (.dep rfl .nil)) (fun ha=>Z8 fH.h dZ.h.sz rfl rfl rfl (EN ha (.tmp rfl rfl) rfl) (EN ha (.tmp rfl rfl) rfl) (by omega) (by omega) (by omega) (by simp; omega) (ap1 (e:=e) (z:=(.agg [(.int .i64 0),(.slice none 0 0)].toArray)) hlt) (by omega)) (fun _=>?_)
   refine uM ?_
   refine dY ?_
   refine aP (fu (v:=(.slice (some ⟨k2,0,none⟩) (es.length+1) 2)) (.tmp rfl rfl)) ?_
   refine aP (jU (v:=(.slice (some ⟨k2,0,none⟩) (es.length+1) 2)) (.tmp rfl rfl)) ?_
   refine eT ?_
   refine sN ?_
   rw[hel]
   exact gQ (⟨some ⟨k2,0,none⟩,es.length+1,2⟩,[k2]) (.tmp rfl rfl .nil) rfl (.sel (.cons .h .nil))
 refine rG ?_
 have hcl:es.length+1<=c:=by simp only[decide_eq_false_iff_not]at hb2; omega
 refine dY ?_
 refine aP (fu (v:=(.slice (some ⟨k0,0,none⟩) es.length (c+3))) (.tmp rfl rfl)) ?_
 refine aP (fu (v:=(.int .i64 (es.length:Int))) (.tmp rfl rfl)) ?_
 refine aP (fu (v:=(.int .i64 ((1:Nat):Int))) (.tmp rfl rfl)) ?_
 refine aP (qF (i:=(es.length:Int)) (j:=((1:Nat):Int)) (.tmp rfl rfl) (.tmp rfl rfl)) ?_
 rw[w1]
 refine fo .h (fun hp=>afO (j:=es.length+1) fH.h dZ.h.sz hp rfl (.tmp rfl rfl) (.tmp rfl rfl) hcl) ?_
 refine aP (jU (v:=(.slice (some ⟨k0,0,none⟩) (es.length+1) (c+3))) (.tmp rfl rfl)) ?_
 refine eT ?_
 refine lX ?_
 refine dY ?_
 refine aP (fu (v:=(.slice (some ⟨k1,0,none⟩) 1 m1)) (.tmp rfl rfl)) ?_
 refine aP (fu (v:=(.slice (some ⟨k0,0,none⟩) (es.length+1) (c+3))) (.tmp rfl rfl)) ?_
 refine aP (fu (v:=(.int .i64 (i:Int))) (.tmp rfl rfl)) ?_
 refine aP (fu (v:=(.int .i64 ((1:Nat):Int))) (.tmp rfl rfl)) ?_
 refine aP (qF (i:=(i:Int)) (j:=((1:Nat):Int)) (.tmp rfl rfl) (.tmp rfl rfl)) ?_
 rw[w2]
 refine fo .h (fun hp=>Ef (j:=i+1) fH.h dZ.h.sz hp rfl (.tmp rfl rfl) (.tmp rfl rfl) (by omega)) ?_
 refine uq (.cons (.t .h) (.cons .h .nil)) (aod fH.h dZ.h.sz rfl aqc rfl rfl (.tmp rfl rfl) (.tmp rfl rfl) (by omega) (by omega)) (fun _=>?_)
 refine aP (IG (b:=false) (.tmp rfl rfl)) ?_
 refine eT ?_
 refine nY (b:=(!false)) (.tmp rfl rfl) (fun _=>?_) (fun h=>absurd h (by decide))
 refine dS [0,1,2,3,4,5,6,7,8] [0,0,0,6,15,0,0,96,255] [8] mixed (by decide+kernel) ?_
 refine bW rfl .no (fun ha=>fu (v:=(.slice (some ⟨k0,0,none⟩) (es.length+1) (c+3))) (EN ha (.tmp rfl rfl) rfl)) ?_
 refine bW rfl .no (fun ha=>fu (v:=(.int .i64 (i:Int))) (EN ha (.tmp rfl rfl) rfl)) ?_
 refine bW rfl .no (fun ha=>fu (v:=(.int .i64 ((1:Nat):Int))) (EN ha (.tmp rfl rfl) rfl)) ?_
 refine bW rfl .no (fun ha=>qF (i:=(i:Int)) (j:=((1:Nat):Int)) (EN ha (.tmp rfl rfl) rfl) (EN ha (.tmp rfl rfl) rfl)) ?_
 rw[w2]
 refine dM rfl .no (.t .h) (fun ha hp=>Ef (j:=i+1) fH.h dZ.h.sz hp rfl (EN ha (.tmp rfl rfl) rfl) (EN ha (.tmp rfl rfl) rfl) (by omega)) ?_
 refine bW rfl .no (fun ha=>fu (v:=(.slice (some ⟨k0,0,none⟩) (es.length+1) (c+3))) (EN ha (.tmp rfl rfl) rfl)) ?_
 refine bW rfl .no (fun ha=>fu (v:=(.int .i64 (i:Int))) (EN ha (.tmp rfl rfl) rfl)) ?_
 refine dM rfl .no (.t .h) (fun ha hp=>Ef (j:=i) fH.h dZ.h.sz hp rfl (EN ha (.tmp rfl rfl) rfl) (EN ha (.tmp rfl rfl) rfl) (by omega)) ?_
 refine cO rfl rfl .no (.cons (.t .h) .nil) (.dep rfl (.dep rfl .nil)) (fun ha=>apm fH.h dZ.h.sz rfl rfl (EN ha (.tmp rfl rfl) rfl) (EN ha (.tmp rfl rfl) rfl) (by omega) (by omega) (by omega) (by omega) (ap2 hlt) (by simp; omega)) (fun _=>?_)
 refine uM ?_
 refine dY ?_
 refine aP (fu (v:=(.slice (some ⟨k0,0,none⟩) (es.length+1) (c+3))) (.tmp rfl rfl)) ?_
 refine aP (fu (v:=(.int .i64 (i:Int))) (.tmp rfl rfl)) ?_
 refine fo .h (fun hp=>Ef (j:=i) fH.h dZ.h.sz hp rfl (.tmp rfl rfl) (.tmp rfl rfl) (by omega)) ?_
 refine aP (fu (v:=(.slice (some ⟨k1,0,none⟩) 1 m1)) (.tmp rfl rfl)) ?_
 refine uq (.cons .h (.cons .h .nil)) (Z8 (m1:=0) (m2:=m1) (ia:=i) (ja:=0) (ld:=es.length+1-i) (ls:=1) (es2:=[e]) (es':=es.take i++e::es.drop i) fH.h dZ.h.sz rfl rfl rfl (by exact .tmp rfl rfl) (by exact .tmp rfl rfl) (by omega) (by omega) (by rw[List.length_singleton]; omega) (by simp; omega) (ap3 (e:=e) hlt) (by omega)) (fun _=>?_)
 refine eT ?_
 refine dY ?_
 refine aP (fu (v:=(.slice (some ⟨k0,0,none⟩) (es.length+1) (c+3))) (.tmp rfl rfl)) ?_
 refine aP (jU (v:=(.slice (some ⟨k0,0,none⟩) (es.length+1) (c+3))) (.tmp rfl rfl)) ?_
 refine eT ?_
 refine apl (t:=6) (k:=k0) (l:=es.length+1) (c:=c) rfl rfl ?_
 refine sN ?_
 rw[hel]
 exact gQ (⟨some ⟨k0,0,none⟩,es.length+1,2⟩,F) (.tmp rfl rfl .nil) rfl (.sel (.cons .h .nil))
theorem adB{ag:List Fact}{ae:Sv}{wN:List Nat}{pX:Int}{nL:List Fact}{bL:Sv}{ayA:List Nat}{R:List Fact}(hF:Kv ag pX nL=some R):
   Fw.Spec Tryz.prog 130 [ae.v,.int .i64 pX,bL.v] [aU (aF 70 gN) wN ae.v ag,aU (aF 70 gN) ayA bL.v nL] (fun p:Sv×List Nat=>p.1.v) (fun p=>[aU (aF 70 gN) p.2 p.1.v R]):=by
 unfold Kv at hF
 rcases nL with _|⟨a,_|⟨_,_⟩⟩
 · simp at hF
 · dsimp only at hF
   split at hF
   · rename_i h
     obtain⟨h0,h1,h2⟩:=h
     obtain⟨i,rfl⟩:∃i:Nat,pX=(i:Int):=⟨pX.toNat,by omega⟩
     cases hF
     rw[Int.toNat_natCast]at h1 ⊢
     exact aoH (s:=2) fun es e Fa Fb hl=>ak_ es e ae bL Fa Fb i (by omega) (by omega)
   · simp at hF
 · simp at hF
def LU(ai:List Fact)(bF:Fact):Option ((List Fact)):=
 (Ij ai bF).bind fun r2=>
 if r2 then (
   some ai)
 else (
   (Uj ai bF).bind fun r5=>
   if (decide ((r5:Int)<0))then (
     (Ic bF).bind fun r8=>
     (Kv ai (ai.length:Int) ([r8]:List Fact)).bind fun dC=>
     some dC)
   else (
     (Ic bF).bind fun fI=>
     (Kv ai r5 ([fI]:List Fact)).bind fun qA=>
     some qA))
theorem aoh{ai:List Fact}{ae:Sv}{wN:List Nat}{bF:Fact}{aV:Sv}{R:(List Fact)}(hF:LU ai bF=some R):
   Fw.Spec Tryz.prog 87 [ae.v,(zg [(zi bF.Rel),aV.v])] [eG wN ae ai,ah aV bF.Values] (fun p:Sv×List Nat=>p.1.v) (fun p=>[eG p.2 p.1 R]):=by
 refine Se 23 Tryz.func87 [.tmp 4] ?_
 intro H0 F0
 unfold LU at hF
 refine au ?_
 refine bN (fun k1=>?_)
 refine bB ?_
 refine bnd hF fun r2 hx3 hF=>ed (.cons (.t .h) (.rd (.t .h) rfl .nil)) (jT aG (fun _=>.nil) (bU ajo.h b_ (@afw ai ae bF aV _ hx3))) (fun _=>?_)
 refine au ?_
 refine Ci hF (fun yB hF=>?_) (fun yB hF=>?_)
 · refine aY ?_
   cases hF
   exact Er (ae,wN)
 refine bu ?_
 refine aP (wo (fn:=.func 129) (vs:=[]) (us:=[(pz k1)]) .nil b_) ?_
 refine bnd hF fun r5 hx6 hF=>ed (.cons .h (.rd .h rfl (.rd (.t .h) rfl .nil))) (jT aG (fun _=>.nil) (bU aih.h b_ (@akR ai ae k1 bF aV _ hx6))) (fun _=>?_)
 refine bH ?_
 refine Ci hF (fun ve hF=>?_) (fun ve hF=>?_)
 · refine gB ?_
   refine bnd hF fun r8 bY hF=>gy (Y9 bY) (fun gH=>?_)
   refine dF rfl (bO (g:=true) fH.h dZ.h b_ (vs:=[(zg [(zi r8.Rel),gH.1.v])]) rfl rfl rfl (by intro v hv; simp at hv; rcases hv with rfl<;>rfl)) (fun k11=>?_)
   refine dP (.cons .h (.cons .h .nil)) (bQ (Ro:=gN) (E:=70) (F:=(gH.2++[])) (xs:=([r8]:List Fact)) (d_ xR bP cK) rfl rfl) ?_
   refine bnd hF fun dC iH hF=>gy (@adB _ _ _ _ _ (⟨(some ⟨k11,0,none⟩),1,1⟩) _ _ iH) (fun l9=>?_)
   refine bu ?_
   cases hF
   exact Er (l9.1,l9.2)
 refine aY ?_
 refine bnd hF fun fI hx16 hF=>gy (Y9 hx16) (fun m_=>?_)
 refine dF rfl (bO (g:=true) fH.h dZ.h b_ (vs:=[(zg [(zi fI.Rel),m_.1.v])]) rfl rfl rfl (by intro v hv; simp at hv; rcases hv with rfl<;>rfl)) (fun k18=>?_)
 refine dP (.cons .h (.cons .h .nil)) (bQ (Ro:=gN) (E:=70) (F:=(m_.2++[])) (xs:=([fI]:List Fact)) (d_ xR bP cK) rfl rfl) ?_
 refine bnd hF fun qA vw hF=>gy (@adB _ _ _ _ _ (⟨(some ⟨k18,0,none⟩),1,1⟩) _ _ vw) (fun mP=>?_)
 refine bu ?_
 cases hF
 exact Er (mP.1,mP.2)
def Hf(bM:List Fact)(eU:Fact):List df->Nat->(List Fact)->Option ((List Fact))
 |[],si,c23=>some c23
 |x31::BL,si,c23=>((N8 x31 eU).bind fun jQ=>
     (bif jQ.2 then ((Ij bM jQ.1).bind fun uE=>
         some (!uE))
       else (some false)).bind fun TU=>
     match TU with
     |tX=>if tX then (
         (LU c23 jQ.1).bind fun tO=>
         some tO)
       else (
         some c23)).bind fun o38=>
   match o38 with
   |TV=>Hf bM eU BL (si+1) TV
def Hg(ai:List df)(bM:List Fact):List Fact->Nat->(List Fact)->Option ((List Fact))
 |[],k8,c2=>some c2
 |eU::fq,k8,c2=>(Hf bM eU ai 0 c2).bind fun vX=>
   match vX with
   |nW=>Hg ai bM fq (k8+1) nW
def Vf(ai:List df)(bM:List Fact):Option ((List Fact)):=
 Hg ai bM bM 0 ([]:List Fact)
theorem anD{ai:List df}{ae:Sv}{bM:List Fact}{ax:Sv}{R:(List Fact)}(hF:Vf ai bM=some R):
   Fw.Spec Tryz.prog 46 [ae.v,ax.v] [eY ae ai,bG ax bM] (fun p:Sv×List Nat=>p.1.v) (fun p=>[eG p.2 p.1 R]):=by
 refine Se 44 Tryz.func46 [.tmp 4] ?_
 intro H0 F0
 unfold Vf at hF
 refine bg ?_
 refine dF rfl (bO (g:=true) fH.h dZ.h .nil (vs:=[]) rfl rfl rfl (by simp)) (fun k1=>?_)
 refine dP (.cons .h .nil) (bQ (Ro:=gN) (E:=70) (F:=[]) (xs:=([]:List Fact)) bP rfl rfl) ?_
 refine dL ?_
 refine bi (bT (m:=bM.length) (fun m6 f' cs'=>∃(g:Fr)(k8:Nat)(fq c2:List Fact)(v3:Sv)(F4:List Nat),m6=fq.length/\f'=aQ g [(0,ae.v),(1,ax.v),(5,v3.v),(13,ax.v),(14,(zi (bM.length:Int))),(15,(zi (k8:Int)))]/\List.drop k8 bM=fq/\aN cs' [eY ae ai,bG ax bM,eG F4 v3 c2]/\Hg ai bM fq k8 c2=some R) ⟨_,0,_,_,⟨(some ⟨k1,0,none⟩),0,1⟩,(k1::[]),rfl,aA,rfl,ay,hF⟩ ?_)
 rintro m6 _ _ ⟨g7,k8,fq,c2,v3,F4,rfl,rfl,jY,hE,hF⟩
 refine Kb hE bM (fun Mc=>?_)
 rcases fq with _|⟨eU,fq⟩
 · have vg:=dn jY
   rw[Hg]at hF
   refine bg ?_
   refine dJ ?_
   refine gB ?_
   cases hF
   exact Er (v3,F4)
 obtain⟨vg,iH,rT⟩:=dz jY
 rw[Hg]at hF
 refine bg ?_
 refine dI ?_
 refine au ?_
 obtain⟨vX,Qn,R8⟩:=bind_some hF
 refine iC (fun f' cs'=>∃(nW:List Fact)(v66:Sv)(wX:List Nat)(g:Fr),nW=vX/\f'=aQ g [(0,ae.v),(1,ax.v),(5,v66.v),(13,ax.v),(14,(zi (bM.length:Int))),(15,(zi (k8:Int)))]/\aN cs' [eY ae ai,bG ax bM,eG wX v66 nW]) ?_ ?_
 · replace hF:=Qn
   refine bi (dY (L8 (a:=eU) fH.h dZ.h.sz (.tmp rfl rfl) (.tmp rfl rfl) (.t .h) (Int.natCast_nonneg k8) iH (fun k19 FH=>?_)))
   refine mX (lU eU) mf (fun mP=>?_)
   refine dX (fun k22=>?_)
   refine As (zg [(zi eU.Rel),mP.v]) ?_
   refine bB ?_
   refine bi (bT (m:=ai.length) (fun m27 f' cs'=>∃(g:Fr)(si:Nat)(BL:List df)(c23:List Fact)(v24:Sv)(TW:List Nat),m27=BL.length/\f'=aQ g [(0,ae.v),(1,ax.v),(5,v24.v),(7,(pz k22)),(13,ax.v),(14,(zi (bM.length:Int))),(15,(zi (k8:Int))),(19,ae.v),(20,(zi (ai.length:Int))),(21,(zi (si:Int)))]/\List.drop si ai=BL/\aN cs' [eY ae ai,bG ax bM,eG TW v24 c23,aW k22 70 (zg [(zi eU.Rel),mP.v]),ah mP eU.Values]/\Hf bM eU BL si c23=some vX) ⟨_,0,_,_,v3,F4,rfl,aA,rfl,ay,hF⟩ ?_)
   rintro m27 _ _ ⟨g28,si,BL,c23,v24,TW,rfl,rfl,hd32,hE,hF⟩
   refine Kb hE ai (fun aBH=>?_)
   rcases BL with _|⟨x31,BL⟩
   · have ayB:=dn hd32
     rw[Hf]at hF
     refine bg ?_
     refine dJ ?_
     refine bg ?_
     cases hF
     exact⟨_,v24,TW,_,rfl,aA,ay⟩
   obtain⟨ayB,hx34,ayC⟩:=dz hd32
   rw[Hf]at hF
   refine bg ?_
   refine dI ?_
   refine au ?_
   obtain⟨o38,avu,ayD⟩:=bind_some hF
   refine iC (fun f' cs'=>∃(TV:List Fact)(v61:Sv)(F62:List Nat)(g:Fr),TV=o38/\f'=aQ g [(0,ae.v),(1,ax.v),(5,v61.v),(7,(pz k22)),(13,ax.v),(14,(zi (bM.length:Int))),(15,(zi (k8:Int))),(19,ae.v),(20,(zi (ai.length:Int))),(21,(zi (si:Int)))]/\aN cs' [eY ae ai,bG ax bM,eG F62 v61 TV,aW k22 70 (zg [(zi eU.Rel),mP.v]),ah mP eU.Values]) ?_ ?_
   · replace hF:=avu
     refine bi (dY (L8 (a:=x31) EQ.h xU.h.sz (.tmp rfl rfl) (.tmp rfl rfl) .h (Int.natCast_nonneg si) hx34 (fun k40 j41=>?_)))
     refine mX (Lg x31) Pi (fun p42=>?_)
     refine dX (fun Yu=>?_)
     refine As (zg [(zi x31.From),(zi x31.To),p42.v]) ?_
     refine bg ?_
     refine bnd hF fun jQ vz hF=>gy (alC vz) (fun p46=>?_)
     refine au ?_
     refine zx ?_
     refine zx ?_
     refine dX (fun TG=>?_)
     refine As (zg [(zi jQ.1.Rel),p46.1.v]) ?_
     refine aT ?_
     obtain⟨TU,avv,ayE⟩:=bind_some hF
     refine au ?_
     refine eX (fun f' cs'=>∃(tX:Bool)(g:Fr),tX=TU/\f'=aQ g [(0,ae.v),(1,ax.v),(5,v24.v),(7,(pz k22)),(10,(pz TG)),(13,ax.v),(14,(zi (bM.length:Int))),(15,(zi (k8:Int))),(19,ae.v),(20,(zi (ai.length:Int))),(21,(zi (si:Int))),(37,(.bool tX))]/\aN cs' [eY ae ai,bG ax bM,eG TW v24 c23,aW k22 70 (zg [(zi eU.Rel),mP.v]),ah mP eU.Values,aW TG 70 (zg [(zi jQ.1.Rel),p46.1.v]),bI p46.2 p46.1 jQ.1.Values]) ?_ ?_
     · replace hF:=avv
       refine aT ?_
       rcases bE jQ.2 with xX|xX
       · rw[xX]
         try rw[xX]at hF; dsimp only[aJ,aI]at hF
         refine aY ?_
         refine bnd hF fun uE Ji hF=>ed (.cons (.t .h) (.rd .q5 rfl .nil)) (jT aG (fun _=>.nil) (iV (.rd (.t .h) rfl (.rd .h rfl .nil)) (bU ajo.h b_ (afw Ji)))) (fun _=>?_)
         exact bJ hF
       rw[xX]
       try rw[xX]at hF; dsimp only[aJ,aI]at hF
       exact bJ hF
     rintro _ _ ⟨tX,g59,rfl,rfl,hE⟩
     replace hF:=ayE
     try dsimp only at hF
     refine bq hE ?_
     refine Ci hF (fun ayF hF=>?_) (fun ayF hF=>?_)
     · refine iD .q6 aG ?_
       refine bu ?_
       refine bnd hF fun tO Co hF=>gy (aoh Co) (fun p57=>?_)
       refine aT ?_
       cases hF
       exact⟨_,p57.1,p57.2,_,rfl,aA,ay⟩
     refine au ?_
     cases hF
     exact⟨_,v24,TW,_,rfl,aA,ay⟩
   rintro _ _ ⟨TV,v61,F62,g64,rfl,rfl,hE⟩
   replace hF:=ayD
   try dsimp only at hF
   refine bq hE ?_
   refine bg ?_
   rw[wk si]
   exact⟨_,bX _,_,si+1,BL,_,v61,F62,rfl,aA,ayC,ay,hF⟩
 rintro _ _ ⟨nW,v66,wX,g69,rfl,rfl,hE⟩
 replace hF:=R8
 try dsimp only at hF
 refine bq hE ?_
 refine bg ?_
 rw[wk k8]
 exact⟨_,bX _,_,k8+1,fq,_,v66,wX,rfl,aA,rT,ay,hF⟩
def Oi(aa:aZ):Option ((List Fact)):=
 (y_ aa).bind fun r2=>
 if (!r2)then (
   some [])
 else (
   (Vf aa.Rules aa.Source.Facts).bind fun r5=>
   some r5)
theorem alS{aa:aZ}{ae aO cu dA dw dB dE dG:Sv}{R:(List Fact)}(hF:Oi aa=some R):
   Fw.Spec Tryz.prog 20 [(zg [ae.v,aO.v,cu.v,dA.v,(zi aa.Source.Version),dw.v,(zi aa.Cache.Age),(zi aa.Now),dB.v,dE.v,(zi aa.Spent),dG.v])] [ah ae aa.Schema,bV aO aa.Methods,eY cu aa.Rules,bG dA aa.Source.Facts,dK dw aa.Cache.Entries,eD dB aa.Log,ah dE aa.Times,bC (aD 152 (aD 24 (aD 3 az))) dG.v aa.Results] (fun p:Sv×List Nat=>p.1.v) (fun p=>[eG p.2 p.1 R]):=by
 refine Se 12 Tryz.func20 [.tmp 2] ?_
 intro H0 F0
 unfold Oi at hF
 refine au ?_
 refine bN (fun k1=>?_)
 refine aY ?_
 refine bnd hF fun r2 hx3 hF=>bD (KA hx3) (fun _=>?_)
 refine aT ?_
 refine Ci hF (fun hb8 hF=>?_) (fun hb8 hF=>?_)
 · refine bg ?_
   cases hF
   exact gQ (⟨none,0,0⟩,[]) (.tmp rfl rfl .nil) rfl (.conv .nil (gT (Ro:=gN) (E:=70)) (.cons .nil) (.sel (.cons .h .nil)))
 refine bH ?_
 refine bnd hF fun r5 hx6 hF=>gy (anD hx6) (fun p7=>?_)
 refine bu ?_
 cases hF
 exact Er (p7.1,p7.2)
def DT(di:df)(bF:Fact):List Int->Nat->(List Int)->Option (Fact)
 |[],nk,lH=>some (⟨di.To,lH⟩:Fact)
 |wU::o9,nk,lH=>(ix bF.Values wU).bind fun vS=>
   (app lH ([vS]:List Int)).bind fun z53=>
   DT di bF o9 (nk+1) z53
def Pb(di:df)(bF:Fact):Option (Fact):=
 DT di bF di.Map 0 ([]:List Int)
theorem am4{di:df}{cu:Sv}{bF:Fact}{aV:Sv}{R:Fact}(hF:Pb di bF=some R):
   Fw.Spec Tryz.prog 88 [(zg [(zi di.From),(zi di.To),cu.v]),(zg [(zi bF.Rel),aV.v])] [ah cu di.Map,ah aV bF.Values] (fun p:Sv×List Nat=>(zg [(zi R.Rel),p.1.v])) (fun p=>[bI p.2 p.1 R.Values]):=by
 refine Se 32 Tryz.func88 [.cell 4 70] ?_
 intro H0 F0
 unfold Pb at hF
 refine au ?_
 refine bN (fun k1=>?_)
 refine bN (fun k2=>?_)
 refine dX (fun k3=>?_)
 refine bg ?_
 refine aP (iB dZ.h rfl (vs:=[(zi di.To)]) b_ (cells:=[(zi di.To),(.slice none 0 0)]) rfl) ?_
 refine dX (fun k4=>?_)
 refine As (zg [(zi di.To),(.slice none 0 0)]) ?_
 refine aY ?_
 refine bi (bT (m:=di.Map.length) (fun TT f' cs'=>∃(g:Fr)(nk:Nat)(o9 lH:List Int)(v30:Sv)(J9:List Nat),TT=o9.length/\f'=aQ g [(2,(pz k1)),(3,(pz k2)),(4,(pz k3)),(5,(pz k4)),(6,(zi (nk:Int)))]/\List.drop nk di.Map=o9/\aN cs' [aX k1 98 (zg [(zi di.From),(zi di.To),cu.v]),ah cu di.Map,aX k2 70 (zg [(zi bF.Rel),aV.v]),ah aV bF.Values,aW k3 70 (zg [(zi 0),(.slice none 0 0)]),aW k4 70 (zg [(zi di.To),v30.v]),bI J9 v30 lH]/\DT di bF o9 nk lH=some R) ⟨_,0,_,_,⟨none,0,0⟩,[],rfl,aA,rfl,(.conv .nil (gT (Ro:=(aC az)) (E:=3)) (.cons .nil) ay),hF⟩ ?_)
 rintro TT _ _ ⟨g34,nk,o9,lH,v30,J9,rfl,rfl,hd38,hE,hF⟩
 refine Kb hE di.Map (fun avt=>?_)
 rcases o9 with _|⟨wU,o9⟩
 · have adv:=dn hd38
   rw[DT]at hF
   refine dL ?_
   refine dJ ?_
   refine bB ?_
   refine As (zg [(zi di.To),v30.v]) ?_
   refine aT ?_
   cases hF
   exact Er (v30,J9)
 obtain⟨adv,tq,CK⟩:=dz hd38
 rw[DT]at hF
 refine dL ?_
 refine dI ?_
 refine aT ?_
 refine jf [0,1,2,3,4,5,6,7,8,9,10,11,12,13,14] [0,1,0,4,0,16,0,112,240,508,1020,2044,4095,8191,16383] [12,14] mixed (by decide+kernel) ?_
 refine du ?_
 refine dM rfl .no .q5 (fun ha hp=>fe (v:=v30.v) iA.h (EN ha (.tmp rfl rfl) rfl) hp.2 rfl rfl) ?_
 refine sV ?_
 refine Di tq (fun Yg Yh=>?_)
 refine Dl dN ?_
 refine zI hF fun vS ajE qR hF=>?_
 refine Di qR (fun Yn Yo=>?_)
 refine Dl dN ?_
 refine iq rfl .no rfl (fun ha=>bO (g:=true) (len:=1) (parts:=[(0,.tmp 27)]) dh.h dx.h (.cons (EN ha (.tmp rfl rfl) rfl) .nil) (vs:=[(zi vS)]) rfl rfl rfl (by intro v hv; simp at hv; rcases hv with rfl<;>rfl)) (fun k52=>?_)
 refine iR (.cons .h .nil) (bQ (Ro:=(aC az)) (E:=3) (F:=([]++[])) (xs:=([vS]:List Int)) (d_ (jh (fun _=>rfl)) bP cK) rfl rfl) ?_
 refine bnd hF fun z53 tu hF=>cO rfl rfl .no (.cons .q9 (.cons .h .nil)) (.dep rfl (.dep rfl .nil)) (fun ha=>dV (Ro:=(aC az)) dh.h iQ dx.h rfl rfl rfl (EN ha (.tmp rfl rfl) rfl) (EN ha (.tmp rfl rfl) rfl) tu fw) (fun p55=>?_)
 refine du ?_
 refine cO rfl rfl .no (.cons .q8 .nil) (.dep rfl (.dep rfl .nil)) (fun ha=>gz (e':=(zg [(zi di.To),p55.1.v])) pE.h.sz (EN ha (.tmp rfl rfl) rfl) (EN ha (.tmp rfl rfl) rfl) rfl rfl rfl rfl rfl) (fun _=>?_)
 refine du ?_
 refine aY ?_
 rw[wk nk]
 exact⟨_,bX _,_,nk+1,o9,_,p55.1,p55.2,rfl,aA,CK,ay,hF⟩
def Gp(bM:List Fact)(eU:Fact):List df->Nat->(List Fact)->Option ((List Fact))
 |[],k25,c19=>some c19
 |x27::BM,k25,c19=>(if ((x27.From:Int)!=eU.Rel)then (
       some c19)
     else (
       (Pb x27 eU).bind fun FR=>
       (Ej bM FR).bind fun YA=>
       if (!YA)then (
         (xn c19 FR).bind fun vT=>
         some vT)
       else (
         some c19))).bind fun JY=>
   match JY with
   |v_=>Gp bM eU BM (k25+1) v_
def Gq(ai:List df)(bM:List Fact):List Fact->Nat->(List Fact)->Option ((List Fact))
 |[],k8,c2=>some c2
 |eU::fq,k8,c2=>(Gp bM eU ai 0 c2).bind fun vX=>
   match vX with
   |TZ=>Gq ai bM fq (k8+1) TZ
def UW(ai:List df)(bM:List Fact):Option ((List Fact)):=
 Gq ai bM bM 0 ([]:List Fact)
theorem al_{ai:List df}{ae:Sv}{bM:List Fact}{ax:Sv}{R:(List Fact)}(hF:UW ai bM=some R):
   Fw.Spec Tryz.prog 47 [ae.v,ax.v] [eY ae ai,bG ax bM] (fun p:Sv×List Nat=>p.1.v) (fun p=>[eG p.2 p.1 R]):=by
 refine Se 50 Tryz.func47 [.tmp 4] ?_
 intro H0 F0
 unfold UW at hF
 refine bg ?_
 refine dF rfl (bO (g:=true) fH.h dZ.h .nil (vs:=[]) rfl rfl rfl (by simp)) (fun k1=>?_)
 refine dP (.cons .h .nil) (bQ (Ro:=gN) (E:=70) (F:=[]) (xs:=([]:List Fact)) bP rfl rfl) ?_
 refine bB ?_
 refine bi (bT (m:=bM.length) (fun m6 f' cs'=>∃(g:Fr)(k8:Nat)(fq c2:List Fact)(v3:Sv)(F4:List Nat),m6=fq.length/\f'=aQ g [(0,ae.v),(1,ax.v),(5,v3.v),(6,(zi (k8:Int)))]/\List.drop k8 bM=fq/\aN cs' [eY ae ai,bG ax bM,eG F4 v3 c2]/\Gq ai bM fq k8 c2=some R) ⟨_,0,_,_,⟨(some ⟨k1,0,none⟩),0,1⟩,(k1::[]),rfl,aA,rfl,ay,hF⟩ ?_)
 rintro m6 _ _ ⟨g7,k8,fq,c2,v3,F4,rfl,rfl,jY,hE,hF⟩
 refine Kb hE bM (fun Mc=>?_)
 rcases fq with _|⟨eU,fq⟩
 · have vg:=dn jY
   rw[Gq]at hF
   refine bH ?_
   refine dJ ?_
   refine gB ?_
   cases hF
   exact Er (v3,F4)
 obtain⟨vg,iH,rT⟩:=dz jY
 rw[Gq]at hF
 refine bH ?_
 refine dI ?_
 refine au ?_
 obtain⟨vX,Qn,R8⟩:=bind_some hF
 refine iC (fun f' cs'=>∃(TZ:List Fact)(v64:Sv)(F65:List Nat)(g:Fr),TZ=vX/\f'=aQ g [(0,ae.v),(1,ax.v),(5,v64.v),(6,(zi (k8:Int)))]/\aN cs' [eY ae ai,bG ax bM,eG F65 v64 TZ]) ?_ ?_
 · replace hF:=Qn
   refine bi (dY (aP (jU (v:=(zi 0)) (.int _ _)) ?_))
   refine au ?_
   refine bi (bT (m:=ai.length) (fun m23 f' cs'=>∃(g:Fr)(k25:Nat)(BM:List df)(c19:List Fact)(v20:Sv)(T9:List Nat),m23=BM.length/\f'=aQ g [(0,ae.v),(1,ax.v),(5,v20.v),(6,(zi (k8:Int))),(7,(zi (k25:Int)))]/\List.drop k25 ai=BM/\aN cs' [eY ae ai,bG ax bM,eG T9 v20 c19]/\Gp bM eU BM k25 c19=some vX) ⟨_,0,_,_,v3,F4,rfl,aA,rfl,ay,hF⟩ ?_)
   rintro m23 _ _ ⟨g24,k25,BM,c19,v20,T9,rfl,rfl,hd28,hE,hF⟩
   refine Kb hE ai (fun aBI=>?_)
   rcases BM with _|⟨x27,BM⟩
   · have ayG:=dn hd28
     rw[Gp]at hF
     refine bH ?_
     refine dJ ?_
     refine bg ?_
     cases hF
     exact⟨_,v20,T9,_,rfl,aA,ay⟩
   obtain⟨ayG,Xb,hd31⟩:=dz hd28
   rw[Gp]at hF
   refine bH ?_
   refine dI ?_
   refine au ?_
   obtain⟨JY,aa0,ac9⟩:=bind_some hF
   refine iC (fun f' cs'=>∃(v_:List Fact)(v59:Sv)(J8:List Nat)(g:Fr),v_=JY/\f'=aQ g [(0,ae.v),(1,ax.v),(5,v59.v),(6,(zi (k8:Int))),(7,(zi (k25:Int)))]/\aN cs' [eY ae ai,bG ax bM,eG J8 v59 v_]) ?_ ?_
   · replace hF:=aa0
     refine bi (lX (dS [0,1,2,3,4,5,6,7,8,9,10] [0,0,3,7,15,0,0,96,224,480,1023] [] mixed (by decide+kernel) ?_))
     refine bR ?_
     refine Di Xb (fun ny TM=>?_)
     refine du ?_
     refine Dl ahK ?_
     refine bR ?_
     refine Di iH (fun nI j39=>?_)
     refine du ?_
     refine Dl Bp ?_
     refine bR ?_
     refine Ci hF (fun CB hF=>?_) (fun CB hF=>?_)
     · refine bu ?_
       cases hF
       exact⟨_,v20,T9,_,rfl,aA,ay⟩
     refine au ?_
     refine dS [0,1,2,3,4,5,6,7,9,8,10] [0,0,3,7,0,0,48,112,255,0,1023] [8,10] mixed (by decide+kernel) ?_
     refine bR ?_
     refine Di Xb (fun k40 j41=>?_)
     refine jP (Lg x27) Pi (fun p42=>?_)
     refine bR ?_
     refine Di iH (fun Yu j44=>?_)
     refine jP (lU eU) mf (fun p45=>?_)
     refine iq rfl .no rfl (fun ha=>sF (g:=true) dZ.h rfl rfl) (fun k46=>?_)
     refine bnd hF fun FR ayH hF=>cO rfl rfl .no (.rd .q3 rfl (.rd (.t .h) rfl .nil)) (.own .h (fun _ h=>h) .nil) (fun ha=>bU awT.h (.cons (EN ha (.tmp rfl rfl) rfl) (.cons (EN ha (.tmp rfl rfl) rfl) .nil)) (am4 ayH)) (fun p49=>?_)
     refine cO rfl rfl .no (.cons (.t .h) .nil) (.dep rfl .nil) (fun ha=>gz (e':=(zg [(zi FR.Rel),p49.1.v])) (v:=(zg [(zi FR.Rel),p49.1.v])) dZ.h.sz (EN ha (.tmp rfl rfl) rfl) (EN ha (.tmp rfl rfl) rfl) rfl rfl rfl rfl rfl) (fun _=>?_)
     refine du ?_
     refine bu ?_
     refine bnd hF fun YA ab1 hF=>ed (.cons (.t .h) (.rd .q8 rfl .nil)) (jT aG (fun _=>.nil) (iV (.rd (.t .h) rfl (.rd .h rfl .nil)) (bU awj.h b_ (Zc ab1)))) (fun _=>?_)
     refine aT ?_
     refine Ci hF (fun ayI hF=>?_) (fun ayI hF=>?_)
     · refine bu ?_
       refine bnd hF fun vT tu hF=>QZ (.cons .h (.cons .q9 .nil)) (jk (pre:=[]) (.cons aG (.cons aG .nil)) (fun _=>(.cons .nil)) (bU Q5.h b_ (KM tu))) (fun p55=>?_)
       refine aT ?_
       cases hF
       exact⟨_,p55.1,p55.2,_,rfl,aA,ay⟩
     refine au ?_
     cases hF
     exact⟨_,v20,T9,_,rfl,aA,ay⟩
   rintro _ _ ⟨v_,v59,J8,g62,rfl,rfl,hE⟩
   replace hF:=ac9
   try dsimp only at hF
   refine bq hE ?_
   refine aY ?_
   rw[wk k25]
   exact⟨_,bX _,_,k25+1,BM,_,v59,J8,rfl,aA,hd31,ay,hF⟩
 rintro _ _ ⟨TZ,v64,F65,g67,rfl,rfl,hE⟩
 replace hF:=R8
 try dsimp only at hF
 refine bq hE ?_
 refine aY ?_
 rw[wk k8]
 exact⟨_,bX _,_,k8+1,fq,_,v64,F65,rfl,aA,rT,ay,hF⟩
def Oj(aa:aZ):Option ((List Fact)):=
 (qC aa).bind fun r2=>
 if (!r2)then (
   some ([]:List Fact))
 else (
   (UW aa.Rules aa.Source.Facts).bind fun r6=>
   some r6)
theorem alT{aa:aZ}{ae aO cu dA dw dB dE dG:Sv}{R:(List Fact)}(hF:Oj aa=some R):
   Fw.Spec Tryz.prog 21 [(zg [ae.v,aO.v,cu.v,dA.v,(zi aa.Source.Version),dw.v,(zi aa.Cache.Age),(zi aa.Now),dB.v,dE.v,(zi aa.Spent),dG.v])] [ah ae aa.Schema,bV aO aa.Methods,eY cu aa.Rules,bG dA aa.Source.Facts,dK dw aa.Cache.Entries,eD dB aa.Log,ah dE aa.Times,bC (aD 152 (aD 24 (aD 3 az))) dG.v aa.Results] (fun p:Sv×List Nat=>p.1.v) (fun p=>[eG p.2 p.1 R]):=by
 refine Se 13 Tryz.func21 [.tmp 2] ?_
 intro H0 F0
 unfold Oj at hF
 refine au ?_
 refine bN (fun k1=>?_)
 refine aY ?_
 refine bnd hF fun r2 hx3 hF=>bD (uG hx3) (fun _=>?_)
 refine aT ?_
 refine Ci hF (fun hb9 hF=>?_) (fun hb9 hF=>?_)
 · refine au ?_
   refine dF rfl (bO (g:=true) fH.h dZ.h .nil (vs:=[]) rfl rfl rfl (by simp)) (fun k5=>?_)
   refine dP (.cons .h .nil) (bQ (Ro:=gN) (E:=70) (F:=[]) (xs:=([]:List Fact)) bP rfl rfl) ?_
   refine bu ?_
   cases hF
   exact Er (⟨(some ⟨k5,0,none⟩),0,1⟩,(k5::[]))
 refine bH ?_
 refine bnd hF fun r6 hx7 hF=>gy (al_ hx7) (fun p8=>?_)
 refine bu ?_
 cases hF
 exact Er (p8.1,p8.2)
def K3(ag:List Int)(ai:List Method)(bM:List Fact)(aB:Access):Option ((List Fact)):=
 ((Av ag ai aB).bind fun r4=>
   bif (!r4)then (some true)
   else ((H9 ag bM).bind fun r8=>
     some (!r8))).bind fun o2=>
 match o2 with
 |c11=>if c11 then (
     some ([]:List Fact))
   else (
     (ix ai aB.Method).bind fun oq=>
     (Ee oq aB.Values bM).bind fun jM=>
     some jM)
theorem amx{ag:List Int}{ae:Sv}{ai:List Method}{ax:Sv}{bM:List Fact}{bL:Sv}{aB:Access}{vH:Sv}{R:(List Fact)}(hF:K3 ag ai bM aB=some R):
   Fw.Spec Tryz.prog 23 [ae.v,ax.v,bL.v,(zg [(zi aB.Method),vH.v])] [ah ae ag,bV ax ai,bG bL bM,ah vH aB.Values] (fun p:Sv×List Nat=>p.1.v) (fun p=>[eG p.2 p.1 R]):=by
 refine Se 30 Tryz.func23 [.tmp 8] ?_
 intro H0 F0
 unfold K3 at hF
 refine au ?_
 refine bN (fun k1=>?_)
 refine bu ?_
 obtain⟨o2,fU,hO3⟩:=bind_some hF
 refine au ?_
 refine eX (fun f' cs'=>∃(c11:Bool)(g:Fr),c11=o2/\f'=aQ g [(1,ax.v),(2,bL.v),(7,(pz k1)),(19,(.bool c11))]/\aN cs' [bV ax ai,bG bL bM,aX k1 45 (zg [(zi aB.Method),vH.v]),ah vH aB.Values]) ?_ ?_
 · replace hF:=fU
   refine bu ?_
   refine bnd hF fun r4 hx5 hF=>bD (UG hx5) (fun _=>?_)
   refine aT ?_
   rcases bE (!r4)with bn|bn
   · rw[bn]
     try rw[bn]at hF; dsimp only[aJ,aI]at hF
     exact bJ hF
   rw[bn]
   try rw[bn]at hF; dsimp only[aJ,aI]at hF
   refine aY ?_
   refine bnd hF fun r8 bY hF=>bD (UF bY) (fun _=>?_)
   exact bJ hF
 rintro _ _ ⟨c11,g24,rfl,rfl,hE⟩
 replace hF:=hO3
 try dsimp only at hF
 refine bq hE ?_
 refine Ci hF (fun yB hF=>?_) (fun yB hF=>?_)
 · refine au ?_
   refine dF rfl (bO (g:=true) fH.h dZ.h .nil (vs:=[]) rfl rfl rfl (by simp)) (fun k12=>?_)
   refine dP (.cons .h .nil) (bQ (Ro:=gN) (E:=70) (F:=[]) (xs:=([]:List Fact)) bP rfl rfl) ?_
   refine bu ?_
   cases hF
   exact Er (⟨(some ⟨k12,0,none⟩),0,1⟩,(k12::[]))
 refine au ?_
 refine dS [0,1,2,3,4,5,6,7,8,9] [0,0,2,7,15,0,32,0,255,511] [8] mixed (by decide+kernel) ?_
 refine dm ?_
 refine zI hF fun oq WZ hx16 hF=>?_
 refine Di hx16 (fun k17 JC=>?_)
 refine jP (uf oq) uH (fun p19=>?_)
 refine dm ?_
 refine bnd hF fun jM lv hF=>qw (YY lv) (fun zZ=>?_)
 refine bR ?_
 refine au ?_
 cases hF
 exact Er (zZ.1,zZ.2)
def DU(r4:aZ):List Access->Nat->Option (Bool)
 |[],mo=>(KD r4).bind fun adw=>
   if adw then (
     (KC ({Schema:=r4.Schema,Methods:=r4.Methods,Rules:=r4.Rules,Source:=r4.Source,Cache:=r4.Cache,Now:=r4.Now,Log:=r4.Log,Times:=r4.Times,Spent:=(IntKind.i64.wrap (r4.Spent+1)),Results:=r4.Results}:aZ)).bind fun adx=>
     if adx then (
       some false)
     else (
       some true))
   else (
     some true)
 |x113::Bj,mo=>(KO r4.Cache x113).bind fun CO=>
   (bif (decide ((CO:Int)<0))then (some true)
     else ((ix r4.Cache.Entries CO).bind fun X6=>
       (K3 r4.Schema r4.Methods r4.Source.Facts x113).bind fun ady=>
       (HV X6.Facts ady).bind fun adz=>
       some adz)).bind fun adA=>
   match adA with
   |vB=>if vB then (
       some false)
     else (
       DU r4 Bj (mo+1))
def U8(fuel:Nat)(j4:List UInt8):Option (Bool):=
 (V8 j4).bind fun r1=>
 if r1 then (
   some true)
 else (
   (Us fuel j4).bind fun r4=>
   (KF r4).bind fun r8=>
   ((KG r4).bind fun oN=>
     (UE r8 oN).bind fun r16=>
     bif (!r16)then (some true)
     else ((OM r4).bind fun jM=>
       (OO r4).bind fun tV=>
       bif (!(jM==tV))then (some true)
       else ((KQ r4).bind fun wh=>
         (KR r4).bind fun mQ=>
         bif (!(wh==mQ))then (some true)
         else ((Lc r4).bind fun qy=>
           (Ld r4).bind fun zY=>
           bif (!(qy==zY))then (some true)
           else ((KS r4).bind fun vR=>
             (KT r4).bind fun jQ=>
             bif (!(vR==jQ))then (some true)
             else ((KC r4).bind fun nV=>
               (KD r4).bind fun uE=>
               bif (!(nV==uE))then (some true)
               else ((Oi r4).bind fun tO=>
                 (Oj r4).bind fun rY=>
                 (HV tO rY).bind fun YB=>
                 some (!YB)))))))).bind fun y8=>
   match y8 with
   |c64=>if c64 then (
       some false)
     else (
       DU r4 r8 0))
theorem am5{fuel:Nat}{j4:List UInt8}{ae:Sv}{R:Bool}(hF:U8 fuel j4=some R):
   Fw.Spec Tryz.prog 3 [ae.v] [bC (aD 5 wH) ae.v j4] (fun _:Unit=>(.bool R)) (fun _=>[]):=by
 refine HY (n:=106) Tryz.func3 rfl rfl (rs:=[.tmp 2]) rfl rfl rfl ?_
 intro H0 F0
 unfold U8 at hF
 refine dY (aP (jU (v:=(.bool false)) (.bool _)) ?_)
 refine eT (lX (dY (Cm ae.v rfl rfl ?_)))
 obtain⟨r1,hx2,hF⟩:=bind_some hF
 refine lZ (.rd .h rfl .nil) (bU cf4.h (.cons (.tmp rfl rfl) .nil) (@ao0 j4 ae _ hx2)) (fun _=>?_)
 refine eT (nY (b:=r1) (.tmp rfl rfl) (fun abx=>?_) (fun abx=>?_))
 · rw[if_pos abx]at hF
   refine dY (aP (jU (v:=(.bool true)) (.bool _)) ?_)
   refine eT (sN ?_)
   obtain rfl:=Option.some.inj hF
   exact gQ () (.tmp rfl rfl .nil) rfl (.sel .nil)
 rw[if_neg (by rw[abx]; exact Bool.false_ne_true)]at hF
 refine rG (dY (Cm ae.v rfl rfl ?_))
 obtain⟨r4,hx5,hF⟩:=bind_some hF
 refine abG (.rd .h rfl .nil) (bU cf5.h (.cons (.tmp rfl rfl) .nil) (@alc fuel j4 ae _ hx5)) (fun p6=>?_)
 refine dF rfl (sF (g:=true) fG.h rfl rfl) (fun k7=>?_)
 refine ed (.cons .h .nil) (gz (e':=(.agg [p6.1.v,p6.2.2.1.v,p6.2.2.2.2.1.v,p6.2.2.2.2.2.2.1.v,(.int .i64 r4.Source.Version),p6.2.2.2.2.2.2.2.2.1.v,(.int .i64 r4.Cache.Age),(.int .i64 r4.Now),p6.2.2.2.2.2.2.2.2.2.1.v,p6.2.2.2.2.2.2.2.2.2.2.2.1.v,(.int .i64 r4.Spent),p6.2.2.2.2.2.2.2.2.2.2.2.2.2.1.v].toArray)) (v:=(.agg [p6.1.v,p6.2.2.1.v,p6.2.2.2.2.1.v,p6.2.2.2.2.2.2.1.v,(.int .i64 r4.Source.Version),p6.2.2.2.2.2.2.2.2.1.v,(.int .i64 r4.Cache.Age),(.int .i64 r4.Now),p6.2.2.2.2.2.2.2.2.2.1.v,p6.2.2.2.2.2.2.2.2.2.2.2.1.v,(.int .i64 r4.Spent),p6.2.2.2.2.2.2.2.2.2.2.2.2.2.1.v].toArray)) fG.h.sz (.tmp rfl rfl) (.tmp rfl rfl) rfl rfl rfl rfl rfl) (fun _=>?_)
 refine eT (dY (fo .h (fun hp=>h_ jl.h fG.h.sz rfl (.tmp rfl rfl) hp.2 rfl) ?_))
 obtain⟨r8,bY,hF⟩:=bind_some hF
 refine abG (.cons (.t (.t (.t (.t (.t (.t (.t (.t .h)))))))) (.cons (.t (.t (.t (.t (.t (.t (.t .h))))))) (.cons (.t (.t (.t (.t (.t (.t .h)))))) (.cons (.t (.t (.t (.t .h)))) (.cons (.t (.t (.t .h))) (.cons (.t (.t .h)) (.cons (.t .h) (.rd (.t .h) rfl .nil)))))))) (jk (pre:=_) (.cons aG (.cons aG (.cons aG (.cons aG (.cons aG (.cons aG (.cons aG .nil))))))) (fun _=>(.cons .nil)) (iV (.rd .h rfl (.rd (.t .h) rfl (.rd (.t (.t .h)) rfl (.rd (.t (.t (.t .h))) rfl (.rd (.t (.t (.t (.t (.t (.t (.t .h))))))) rfl (.rd (.t (.t (.t (.t .h)))) rfl (.rd (.t (.t (.t (.t (.t .h))))) rfl (.rd (.t (.t (.t (.t (.t (.t .h)))))) rfl .nil)))))))) (bU cf6.h (.cons (.tmp rfl rfl) .nil) (@aeb r4 p6.1 p6.2.2.1 p6.2.2.2.2.1 p6.2.2.2.2.2.2.1 p6.2.2.2.2.2.2.2.2.1 p6.2.2.2.2.2.2.2.2.2.1 p6.2.2.2.2.2.2.2.2.2.2.2.1 p6.2.2.2.2.2.2.2.2.2.2.2.2.2.1 _ bY)))) (fun gH=>?_)
 refine Ca gH.1.v rfl rfl ?_
 refine eT (lX ?_)
 obtain⟨y8,QT,Nh⟩:=bind_some hF
 refine dS [0,1,2,3,4,5,6,8,7,9,10,11,12,13,15,14,16,17,18,19,20,22,21,23,24,25,26,27,29,28,30,31,32,33,34,36,35,37,38,39,40,41,43,42,44,45,46,47] [0,0,2,7,15,31,63,127,63,511,1023,2047,4095,8191,16383,8191,65535,131071,262143,524287,1048575,2097151,1048575,8388607,16777215,33554431,67108863,134217727,268435455,134217727,1073741823,2147483647,4294967295,8589934591,17179869183,34359738367,17179869183,137438953471,274877906943,549755813887,1099511627775,2199023255551,4398046511103,2199023255551,17592186044415,35184372088831,70368744177663,140737488355327] [2,3,7,9,14,16,21,23,28,30,35,37,42,44,45] mixed (by decide+kernel) ?_
 refine kS (fun f' cs'=>∃(c64:Bool)(g:Fr),c64=y8/\f'=aQ g [(3,(.pointer (some ⟨k7,0,some 0⟩))),(4,gH.1.v),(60,(.bool c64))]/\aN cs' [aW k7 36 (.agg [p6.1.v,p6.2.2.1.v,p6.2.2.2.2.1.v,p6.2.2.2.2.2.2.1.v,(.int .i64 r4.Source.Version),p6.2.2.2.2.2.2.2.2.1.v,(.int .i64 r4.Cache.Age),(.int .i64 r4.Now),p6.2.2.2.2.2.2.2.2.2.1.v,p6.2.2.2.2.2.2.2.2.2.2.2.1.v,(.int .i64 r4.Spent),p6.2.2.2.2.2.2.2.2.2.2.2.2.2.1.v].toArray),aU (aF 3 (aC az)) p6.2.1 p6.1.v r4.Schema,aU (aF 57 qL) p6.2.2.2.1 p6.2.2.1.v r4.Methods,aU (aF 98 oJ) p6.2.2.2.2.2.1 p6.2.2.2.2.1.v r4.Rules,aU (aF 70 gN) p6.2.2.2.2.2.2.2.1 p6.2.2.2.2.2.2.1.v r4.Source.Facts,bC (aD 47 oK) p6.2.2.2.2.2.2.2.2.1.v r4.Cache.Entries,aU (aF 45 mY) p6.2.2.2.2.2.2.2.2.2.2.1 p6.2.2.2.2.2.2.2.2.2.1.v r4.Log,aU (aF 3 (aC az)) p6.2.2.2.2.2.2.2.2.2.2.2.2.1 p6.2.2.2.2.2.2.2.2.2.2.2.1.v r4.Times,aU (aF 152 (aF 24 (aF 3 (aC az)))) p6.2.2.2.2.2.2.2.2.2.2.2.2.2.2 p6.2.2.2.2.2.2.2.2.2.2.2.2.2.1.v r4.Results,aU (aF 45 mY) gH.2 gH.1.v r8]) ?_ ?_
 · replace hF:=QT
   refine Dm gH.1.v rfl rfl rfl rfl ?_
   refine dM rfl .no (.t (.t (.t (.t (.t (.t (.t (.t .h)))))))) (fun ha hp=>h_ jl.h fG.h.sz rfl (EN ha (.tmp rfl rfl) rfl) hp.2 rfl) ?_
   obtain⟨oN,j5,hF⟩:=bind_some hF
   refine VH rfl rfl .no (.cons .h (.cons .h (.cons .h (.cons .h (.cons .h (.cons .h (.cons .h (.rd (.t (.t .h)) rfl .nil)))))))) (.dep rfl .nil) (fun ha=>jk (pre:=_) (.cons aG (.cons aG (.cons aG (.cons aG (.cons aG (.cons aG (.cons aG .nil))))))) (fun _=>(.cons .nil)) (iV (.rd .h rfl (.rd (.t .h) rfl (.rd (.t (.t .h)) rfl (.rd (.t (.t (.t .h))) rfl (.rd (.t (.t (.t (.t (.t (.t (.t .h))))))) rfl (.rd (.t (.t (.t (.t .h)))) rfl (.rd (.t (.t (.t (.t (.t .h))))) rfl (.rd (.t (.t (.t (.t (.t (.t .h)))))) rfl .nil)))))))) (bU cf8.h (.cons (EN ha (.tmp rfl rfl) rfl) .nil) (@aec r4 p6.1 p6.2.2.1 p6.2.2.2.2.1 p6.2.2.2.2.2.2.1 p6.2.2.2.2.2.2.2.2.1 p6.2.2.2.2.2.2.2.2.2.1 p6.2.2.2.2.2.2.2.2.2.2.2.1 p6.2.2.2.2.2.2.2.2.2.2.2.2.2.1 _ j5)))) (fun ni=>?_)
   obtain⟨r16,jF,hF⟩:=bind_some hF
   refine oV rfl rfl .no (.cons (.t (.t (.t (.t (.t (.t (.t .h))))))) (.cons (.t (.t (.t (.t (.t (.t (.t .h))))))) .nil)) (.dep rfl .nil) (fun ha=>jk (pre:=[]) (.cons aG (.cons aG .nil)) (fun _=>.nil) (bU cf7.h (.cons (EN ha (.tmp rfl rfl) rfl) (.cons (EN ha (.tmp rfl rfl) rfl) .nil)) (@alA r8 gH.1 oN ni.1 _ jF))) (fun _=>?_)
   refine bW rfl .no (fun ha=>IG (b:=r16) (EN ha (.tmp rfl rfl) rfl)) ?_
   refine Dm (.bool (!r16)) rfl rfl rfl rfl ?_
   rcases Bool.eq_false_or_eq_true (!r16)with iK|iK
   · rw[iK]
     try rw[iK]at hF; dsimp only[cond_true,cond_false]at hF
     iterate 5 refine nz 18 rfl rfl rfl rfl ?_
     refine bW rfl .no (fun ha=>dR (b:=true) (u:=(.bool true)) (v:=undef) (EN ha (.tmp rfl rfl) rfl) (EN ha (.bool _) rfl) (EN ha (.tmp rfl rfl) rfl)) ?_
     refine Dm (.bool true) rfl rfl rfl rfl ?_
     iterate 5 refine nz 25 rfl rfl rfl rfl ?_
     refine bW rfl .no (fun ha=>dR (b:=true) (u:=(.bool true)) (v:=undef) (EN ha (.tmp rfl rfl) rfl) (EN ha (.bool _) rfl) (EN ha (.tmp rfl rfl) rfl)) ?_
     refine Dm (.bool true) rfl rfl rfl rfl ?_
     iterate 5 refine nz 32 rfl rfl rfl rfl ?_
     refine bW rfl .no (fun ha=>dR (b:=true) (u:=(.bool true)) (v:=undef) (EN ha (.tmp rfl rfl) rfl) (EN ha (.bool _) rfl) (EN ha (.tmp rfl rfl) rfl)) ?_
     refine Dm (.bool true) rfl rfl rfl rfl ?_
     iterate 5 refine nz 39 rfl rfl rfl rfl ?_
     refine bW rfl .no (fun ha=>dR (b:=true) (u:=(.bool true)) (v:=undef) (EN ha (.tmp rfl rfl) rfl) (EN ha (.bool _) rfl) (EN ha (.tmp rfl rfl) rfl)) ?_
     refine Dm (.bool true) rfl rfl rfl rfl ?_
     iterate 5 refine nz 46 rfl rfl rfl rfl ?_
     refine bW rfl .no (fun ha=>dR (b:=true) (u:=(.bool true)) (v:=undef) (EN ha (.tmp rfl rfl) rfl) (EN ha (.bool _) rfl) (EN ha (.tmp rfl rfl) rfl)) ?_
     refine Dm (.bool true) rfl rfl rfl rfl ?_
     iterate 6 refine nz 53 rfl rfl rfl rfl ?_
     refine bW rfl .no (fun ha=>dR (b:=true) (u:=(.bool true)) (v:=undef) (EN ha (.tmp rfl rfl) rfl) (EN ha (.bool _) rfl) (EN ha (.tmp rfl rfl) rfl)) ?_
     refine uM ?_
     obtain rfl:=Option.some.inj hF
     exact⟨_,_,rfl,(bZ.cons rfl (bZ.cons rfl (bZ.cons rfl (bZ.nil)))).eq,(.sel (.cons (.t (.t (.t (.t (.t (.t (.t (.t (.t .h))))))))) (.cons (.t (.t (.t (.t (.t (.t (.t (.t .h)))))))) (.cons (.t (.t (.t (.t (.t (.t (.t .h))))))) (.cons (.t (.t (.t (.t (.t (.t .h)))))) (.cons (.t (.t (.t (.t (.t .h))))) (.rd (.t (.t (.t (.t (.t .h))))) rfl (.cons (.t (.t (.t (.t .h)))) (.cons (.t (.t (.t .h))) (.cons (.t (.t .h)) (.cons (.t .h) .nil)))))))))))⟩
   rw[iK]
   try rw[iK]at hF; dsimp only[cond_true,cond_false]at hF
   iterate 2 refine dM rfl (.on 18 rfl rfl rfl) (.t (.t (.t (.t (.t (.t (.t (.t (.t .h))))))))) (fun ha hp=>h_ jl.h fG.h.sz rfl (EN ha (.tmp rfl rfl) rfl) hp.2 rfl) ?_
   obtain⟨jM,lv,hF⟩:=bind_some hF
   refine zo rfl rfl (.on 18 rfl rfl rfl) (.cons (.t (.t .h)) (.cons (.t (.t .h)) (.cons (.t (.t .h)) (.cons (.t (.t .h)) (.cons (.t (.t .h)) (.cons (.t (.t .h)) (.cons (.t (.t .h)) (.rd (.t (.t (.t .h))) rfl .nil)))))))) (.own (.t (.t .h)) (fun _ h=>h) (.dep rfl (.dep rfl .nil))) (fun ha=>jk (pre:=_) (.cons aG (.cons aG (.cons aG (.cons aG (.cons aG (.cons aG (.cons aG .nil))))))) (fun _=>.nil) (iV (.rd .h rfl (.rd (.t .h) rfl (.rd (.t (.t .h)) rfl (.rd (.t (.t (.t .h))) rfl (.rd (.t (.t (.t (.t (.t (.t (.t .h))))))) rfl (.rd (.t (.t (.t (.t .h)))) rfl (.rd (.t (.t (.t (.t (.t .h))))) rfl (.rd (.t (.t (.t (.t (.t (.t .h)))))) rfl .nil)))))))) (bU cf9.h (.cons (EN ha (.tmp rfl rfl) rfl) .nil) (@amt r4 p6.1 p6.2.2.1 p6.2.2.2.2.1 p6.2.2.2.2.2.2.1 p6.2.2.2.2.2.2.2.2.1 p6.2.2.2.2.2.2.2.2.2.1 p6.2.2.2.2.2.2.2.2.2.2.2.1 p6.2.2.2.2.2.2.2.2.2.2.2.2.2.1 _ lv)))) (fun _=>?_)
   obtain⟨tV,hx24,hF⟩:=bind_some hF
   refine zo rfl rfl (.on 18 rfl rfl rfl) (.cons .h (.cons .h (.cons .h (.cons .h (.cons .h (.cons .h (.cons .h (.rd (.t (.t (.t .h))) rfl .nil)))))))) (.dep rfl (.dep rfl (.dep rfl .nil))) (fun ha=>jk (pre:=_) (.cons aG (.cons aG (.cons aG (.cons aG (.cons aG (.cons aG (.cons aG .nil))))))) (fun _=>.nil) (iV (.rd .h rfl (.rd (.t .h) rfl (.rd (.t (.t .h)) rfl (.rd (.t (.t (.t .h))) rfl (.rd (.t (.t (.t (.t (.t (.t (.t .h))))))) rfl (.rd (.t (.t (.t (.t .h)))) rfl (.rd (.t (.t (.t (.t (.t .h))))) rfl (.rd (.t (.t (.t (.t (.t (.t .h)))))) rfl .nil)))))))) (bU awG.h (.cons (EN ha (.tmp rfl rfl) rfl) .nil) (@amu r4 p6.1 p6.2.2.1 p6.2.2.2.2.1 p6.2.2.2.2.2.2.1 p6.2.2.2.2.2.2.2.2.1 p6.2.2.2.2.2.2.2.2.2.1 p6.2.2.2.2.2.2.2.2.2.2.2.1 p6.2.2.2.2.2.2.2.2.2.2.2.2.2.1 _ hx24)))) (fun _=>?_)
   refine bW rfl (.on 18 rfl rfl rfl) (fun ha=>Qb (a:=jM) (b:=tV) Tryz.underlying4 (EN ha (.tmp rfl rfl) rfl) (EN ha (.tmp rfl rfl) rfl)) ?_
   refine bW rfl .no (fun ha=>dR (b:=false) (u:=(.bool true)) (v:=(.bool (!(jM==tV)))) (EN ha (.tmp rfl rfl) rfl) (EN ha (.bool _) rfl) (EN ha (.tmp rfl rfl) rfl)) ?_
   refine Dm (.bool (!(jM==tV))) rfl rfl rfl rfl ?_
   rcases Bool.eq_false_or_eq_true (!(jM==tV))with S_|S_
   · rw[S_]
     try rw[S_]at hF; dsimp only[cond_true,cond_false]at hF
     iterate 5 refine nz 25 rfl rfl rfl rfl ?_
     refine bW rfl .no (fun ha=>dR (b:=true) (u:=(.bool true)) (v:=undef) (EN ha (.tmp rfl rfl) rfl) (EN ha (.bool _) rfl) (EN ha (.tmp rfl rfl) rfl)) ?_
     refine Dm (.bool true) rfl rfl rfl rfl ?_
     iterate 5 refine nz 32 rfl rfl rfl rfl ?_
     refine bW rfl .no (fun ha=>dR (b:=true) (u:=(.bool true)) (v:=undef) (EN ha (.tmp rfl rfl) rfl) (EN ha (.bool _) rfl) (EN ha (.tmp rfl rfl) rfl)) ?_
     refine Dm (.bool true) rfl rfl rfl rfl ?_
     iterate 5 refine nz 39 rfl rfl rfl rfl ?_
     refine bW rfl .no (fun ha=>dR (b:=true) (u:=(.bool true)) (v:=undef) (EN ha (.tmp rfl rfl) rfl) (EN ha (.bool _) rfl) (EN ha (.tmp rfl rfl) rfl)) ?_
     refine Dm (.bool true) rfl rfl rfl rfl ?_
     iterate 5 refine nz 46 rfl rfl rfl rfl ?_
     refine bW rfl .no (fun ha=>dR (b:=true) (u:=(.bool true)) (v:=undef) (EN ha (.tmp rfl rfl) rfl) (EN ha (.bool _) rfl) (EN ha (.tmp rfl rfl) rfl)) ?_
     refine Dm (.bool true) rfl rfl rfl rfl ?_
     iterate 6 refine nz 53 rfl rfl rfl rfl ?_
     refine bW rfl .no (fun ha=>dR (b:=true) (u:=(.bool true)) (v:=undef) (EN ha (.tmp rfl rfl) rfl) (EN ha (.bool _) rfl) (EN ha (.tmp rfl rfl) rfl)) ?_
     refine uM ?_
     obtain rfl:=Option.some.inj hF
     exact⟨_,_,rfl,(bZ.cons rfl (bZ.cons rfl (bZ.cons rfl (bZ.nil)))).eq,(.sel (.cons (.t (.t (.t (.t (.t (.t (.t (.t (.t .h))))))))) (.cons (.t (.t (.t (.t (.t (.t .h)))))) (.cons (.t (.t (.t (.t (.t .h))))) (.cons (.t (.t (.t (.t .h)))) (.cons (.t (.t (.t .h))) (.rd (.t (.t (.t (.t (.t .h))))) rfl (.cons (.t (.t .h)) (.cons (.t .h) (.cons .h (.cons (.t .h) .nil)))))))))))⟩
   rw[S_]
   try rw[S_]at hF; dsimp only[cond_true,cond_false]at hF
   iterate 2 refine dM rfl (.on 25 rfl rfl rfl) (.t (.t (.t (.t (.t (.t (.t (.t (.t .h))))))))) (fun ha hp=>h_ jl.h fG.h.sz rfl (EN ha (.tmp rfl rfl) rfl) hp.2 rfl) ?_
   obtain⟨wh,hx28,hF⟩:=bind_some hF
   refine zo rfl rfl (.on 25 rfl rfl rfl) (.cons .h (.cons .h (.cons .h (.cons .h (.cons .h (.cons .h (.cons .h (.rd (.t (.t (.t .h))) rfl .nil)))))))) (.own (.t (.t .h)) (fun _ h=>h) (.dep rfl (.dep rfl (.dep rfl (.dep rfl .nil))))) (fun ha=>jk (pre:=_) (.cons aG (.cons aG (.cons aG (.cons aG (.cons aG (.cons aG (.cons aG .nil))))))) (fun _=>.nil) (iV (.rd .h rfl (.rd (.t .h) rfl (.rd (.t (.t .h)) rfl (.rd (.t (.t (.t .h))) rfl (.rd (.t (.t (.t (.t (.t (.t (.t .h))))))) rfl (.rd (.t (.t (.t (.t .h)))) rfl (.rd (.t (.t (.t (.t (.t .h))))) rfl (.rd (.t (.t (.t (.t (.t (.t .h)))))) rfl .nil)))))))) (bU awH.h (.cons (EN ha (.tmp rfl rfl) rfl) .nil) (@aeC r4 p6.1 p6.2.2.1 p6.2.2.2.2.1 p6.2.2.2.2.2.2.1 p6.2.2.2.2.2.2.2.2.1 p6.2.2.2.2.2.2.2.2.2.1 p6.2.2.2.2.2.2.2.2.2.2.2.1 p6.2.2.2.2.2.2.2.2.2.2.2.2.2.1 _ hx28)))) (fun _=>?_)
   obtain⟨mQ,hx31,hF⟩:=bind_some hF
   refine zo rfl rfl (.on 25 rfl rfl rfl) (.cons .h (.cons .h (.cons .h (.cons .h (.cons .h (.cons .h (.cons .h (.rd (.t (.t (.t .h))) rfl .nil)))))))) (.dep rfl (.dep rfl (.dep rfl (.dep rfl (.dep rfl .nil))))) (fun ha=>jk (pre:=_) (.cons aG (.cons aG (.cons aG (.cons aG (.cons aG (.cons aG (.cons aG .nil))))))) (fun _=>.nil) (iV (.rd .h rfl (.rd (.t .h) rfl (.rd (.t (.t .h)) rfl (.rd (.t (.t (.t .h))) rfl (.rd (.t (.t (.t (.t (.t (.t (.t .h))))))) rfl (.rd (.t (.t (.t (.t .h)))) rfl (.rd (.t (.t (.t (.t (.t .h))))) rfl (.rd (.t (.t (.t (.t (.t (.t .h)))))) rfl .nil)))))))) (bU awI.h (.cons (EN ha (.tmp rfl rfl) rfl) .nil) (@aeD r4 p6.1 p6.2.2.1 p6.2.2.2.2.1 p6.2.2.2.2.2.2.1 p6.2.2.2.2.2.2.2.2.1 p6.2.2.2.2.2.2.2.2.2.1 p6.2.2.2.2.2.2.2.2.2.2.2.1 p6.2.2.2.2.2.2.2.2.2.2.2.2.2.1 _ hx31)))) (fun _=>?_)
   refine bW rfl (.on 25 rfl rfl rfl) (fun ha=>Qb (a:=wh) (b:=mQ) Tryz.underlying4 (EN ha (.tmp rfl rfl) rfl) (EN ha (.tmp rfl rfl) rfl)) ?_
   refine bW rfl .no (fun ha=>dR (b:=false) (u:=(.bool true)) (v:=(.bool (!(wh==mQ)))) (EN ha (.tmp rfl rfl) rfl) (EN ha (.bool _) rfl) (EN ha (.tmp rfl rfl) rfl)) ?_
   refine Dm (.bool (!(wh==mQ))) rfl rfl rfl rfl ?_
   rcases Bool.eq_false_or_eq_true (!(wh==mQ))with ru|ru
   · rw[ru]
     try rw[ru]at hF; dsimp only[cond_true,cond_false]at hF
     iterate 5 refine nz 32 rfl rfl rfl rfl ?_
     refine bW rfl .no (fun ha=>dR (b:=true) (u:=(.bool true)) (v:=undef) (EN ha (.tmp rfl rfl) rfl) (EN ha (.bool _) rfl) (EN ha (.tmp rfl rfl) rfl)) ?_
     refine Dm (.bool true) rfl rfl rfl rfl ?_
     iterate 5 refine nz 39 rfl rfl rfl rfl ?_
     refine bW rfl .no (fun ha=>dR (b:=true) (u:=(.bool true)) (v:=undef) (EN ha (.tmp rfl rfl) rfl) (EN ha (.bool _) rfl) (EN ha (.tmp rfl rfl) rfl)) ?_
     refine Dm (.bool true) rfl rfl rfl rfl ?_
     iterate 5 refine nz 46 rfl rfl rfl rfl ?_
     refine bW rfl .no (fun ha=>dR (b:=true) (u:=(.bool true)) (v:=undef) (EN ha (.tmp rfl rfl) rfl) (EN ha (.bool _) rfl) (EN ha (.tmp rfl rfl) rfl)) ?_
     refine Dm (.bool true) rfl rfl rfl rfl ?_
     iterate 6 refine nz 53 rfl rfl rfl rfl ?_
     refine bW rfl .no (fun ha=>dR (b:=true) (u:=(.bool true)) (v:=undef) (EN ha (.tmp rfl rfl) rfl) (EN ha (.bool _) rfl) (EN ha (.tmp rfl rfl) rfl)) ?_
     refine uM ?_
     obtain rfl:=Option.some.inj hF
     exact⟨_,_,rfl,(bZ.cons rfl (bZ.cons rfl (bZ.cons rfl (bZ.nil)))).eq,(.sel (.cons (.t (.t (.t (.t (.t (.t (.t (.t (.t .h))))))))) (.cons (.t (.t (.t (.t (.t (.t .h)))))) (.cons (.t (.t (.t (.t (.t .h))))) (.cons (.t (.t (.t (.t .h)))) (.cons (.t (.t (.t .h))) (.rd (.t (.t (.t (.t (.t .h))))) rfl (.cons (.t (.t .h)) (.cons (.t .h) (.cons .h (.cons (.t .h) .nil)))))))))))⟩
   rw[ru]
   try rw[ru]at hF; dsimp only[cond_true,cond_false]at hF
   iterate 2 refine dM rfl (.on 32 rfl rfl rfl) (.t (.t (.t (.t (.t (.t (.t (.t (.t .h))))))))) (fun ha hp=>h_ jl.h fG.h.sz rfl (EN ha (.tmp rfl rfl) rfl) hp.2 rfl) ?_
   obtain⟨qy,x_,hF⟩:=bind_some hF
   refine zo rfl rfl (.on 32 rfl rfl rfl) (.cons .h (.cons .h (.cons .h (.cons .h (.cons .h (.cons .h (.cons .h (.rd (.t (.t (.t .h))) rfl .nil)))))))) (.own (.t (.t .h)) (fun _ h=>h) (.dep rfl (.dep rfl (.dep rfl (.dep rfl (.dep rfl (.dep rfl .nil))))))) (fun ha=>jk (pre:=_) (.cons aG (.cons aG (.cons aG (.cons aG (.cons aG (.cons aG (.cons aG .nil))))))) (fun _=>.nil) (iV (.rd .h rfl (.rd (.t .h) rfl (.rd (.t (.t .h)) rfl (.rd (.t (.t (.t .h))) rfl (.rd (.t (.t (.t (.t (.t (.t (.t .h))))))) rfl (.rd (.t (.t (.t (.t .h)))) rfl (.rd (.t (.t (.t (.t (.t .h))))) rfl (.rd (.t (.t (.t (.t (.t (.t .h)))))) rfl .nil)))))))) (bU awJ.h (.cons (EN ha (.tmp rfl rfl) rfl) .nil) (@afa r4 p6.1 p6.2.2.1 p6.2.2.2.2.1 p6.2.2.2.2.2.2.1 p6.2.2.2.2.2.2.2.2.1 p6.2.2.2.2.2.2.2.2.2.1 p6.2.2.2.2.2.2.2.2.2.2.2.1 p6.2.2.2.2.2.2.2.2.2.2.2.2.2.1 _ x_)))) (fun _=>?_)
   obtain⟨zY,hx38,hF⟩:=bind_some hF
   refine zo rfl rfl (.on 32 rfl rfl rfl) (.cons .h (.cons .h (.cons .h (.cons .h (.cons .h (.cons .h (.cons .h (.rd (.t (.t (.t .h))) rfl .nil)))))))) (.dep rfl (.dep rfl (.dep rfl (.dep rfl (.dep rfl (.dep rfl (.dep rfl .nil))))))) (fun ha=>jk (pre:=_) (.cons aG (.cons aG (.cons aG (.cons aG (.cons aG (.cons aG (.cons aG .nil))))))) (fun _=>.nil) (iV (.rd .h rfl (.rd (.t .h) rfl (.rd (.t (.t .h)) rfl (.rd (.t (.t (.t .h))) rfl (.rd (.t (.t (.t (.t (.t (.t (.t .h))))))) rfl (.rd (.t (.t (.t (.t .h)))) rfl (.rd (.t (.t (.t (.t (.t .h))))) rfl (.rd (.t (.t (.t (.t (.t (.t .h)))))) rfl .nil)))))))) (bU awM.h (.cons (EN ha (.tmp rfl rfl) rfl) .nil) (@afb r4 p6.1 p6.2.2.1 p6.2.2.2.2.1 p6.2.2.2.2.2.2.1 p6.2.2.2.2.2.2.2.2.1 p6.2.2.2.2.2.2.2.2.2.1 p6.2.2.2.2.2.2.2.2.2.2.2.1 p6.2.2.2.2.2.2.2.2.2.2.2.2.2.1 _ hx38)))) (fun _=>?_)
   refine bW rfl (.on 32 rfl rfl rfl) (fun ha=>Qb (a:=qy) (b:=zY) Tryz.underlying4 (EN ha (.tmp rfl rfl) rfl) (EN ha (.tmp rfl rfl) rfl)) ?_
   refine bW rfl .no (fun ha=>dR (b:=false) (u:=(.bool true)) (v:=(.bool (!(qy==zY)))) (EN ha (.tmp rfl rfl) rfl) (EN ha (.bool _) rfl) (EN ha (.tmp rfl rfl) rfl)) ?_
   refine Dm (.bool (!(qy==zY))) rfl rfl rfl rfl ?_
   rcases Bool.eq_false_or_eq_true (!(qy==zY))with yc|yc
   · rw[yc]
     try rw[yc]at hF; dsimp only[cond_true,cond_false]at hF
     iterate 5 refine nz 39 rfl rfl rfl rfl ?_
     refine bW rfl .no (fun ha=>dR (b:=true) (u:=(.bool true)) (v:=undef) (EN ha (.tmp rfl rfl) rfl) (EN ha (.bool _) rfl) (EN ha (.tmp rfl rfl) rfl)) ?_
     refine Dm (.bool true) rfl rfl rfl rfl ?_
     iterate 5 refine nz 46 rfl rfl rfl rfl ?_
     refine bW rfl .no (fun ha=>dR (b:=true) (u:=(.bool true)) (v:=undef) (EN ha (.tmp rfl rfl) rfl) (EN ha (.bool _) rfl) (EN ha (.tmp rfl rfl) rfl)) ?_
     refine Dm (.bool true) rfl rfl rfl rfl ?_
     iterate 6 refine nz 53 rfl rfl rfl rfl ?_
     refine bW rfl .no (fun ha=>dR (b:=true) (u:=(.bool true)) (v:=undef) (EN ha (.tmp rfl rfl) rfl) (EN ha (.bool _) rfl) (EN ha (.tmp rfl rfl) rfl)) ?_
     refine uM ?_
     obtain rfl:=Option.some.inj hF
     exact⟨_,_,rfl,(bZ.cons rfl (bZ.cons rfl (bZ.cons rfl (bZ.nil)))).eq,(.sel (.cons (.t (.t (.t (.t (.t (.t (.t (.t (.t .h))))))))) (.cons (.t (.t (.t (.t (.t (.t .h)))))) (.cons (.t (.t (.t (.t (.t .h))))) (.cons (.t (.t (.t (.t .h)))) (.cons (.t (.t (.t .h))) (.rd (.t (.t (.t (.t (.t .h))))) rfl (.cons (.t (.t .h)) (.cons (.t .h) (.cons .h (.cons (.t .h) .nil)))))))))))⟩
   rw[yc]
   try rw[yc]at hF; dsimp only[cond_true,cond_false]at hF
   iterate 2 refine dM rfl (.on 39 rfl rfl rfl) (.t (.t (.t (.t (.t (.t (.t (.t (.t .h))))))))) (fun ha hp=>h_ jl.h fG.h.sz rfl (EN ha (.tmp rfl rfl) rfl) hp.2 rfl) ?_
   obtain⟨vR,Rl,hF⟩:=bind_some hF
   refine zo rfl rfl (.on 39 rfl rfl rfl) (.cons .h (.cons .h (.cons .h (.cons .h (.cons .h (.cons .h (.cons .h (.rd (.t (.t (.t .h))) rfl .nil)))))))) (.own (.t (.t .h)) (fun _ h=>h) (.dep rfl (.dep rfl (.dep rfl (.dep rfl (.dep rfl (.dep rfl (.dep rfl (.dep rfl .nil))))))))) (fun ha=>jk (pre:=_) (.cons aG (.cons aG (.cons aG (.cons aG (.cons aG (.cons aG (.cons aG .nil))))))) (fun _=>.nil) (iV (.rd .h rfl (.rd (.t .h) rfl (.rd (.t (.t .h)) rfl (.rd (.t (.t (.t .h))) rfl (.rd (.t (.t (.t (.t (.t (.t (.t .h))))))) rfl (.rd (.t (.t (.t (.t .h)))) rfl (.rd (.t (.t (.t (.t (.t .h))))) rfl (.rd (.t (.t (.t (.t (.t (.t .h)))))) rfl .nil)))))))) (bU awN.h (.cons (EN ha (.tmp rfl rfl) rfl) .nil) (@aeE r4 p6.1 p6.2.2.1 p6.2.2.2.2.1 p6.2.2.2.2.2.2.1 p6.2.2.2.2.2.2.2.2.1 p6.2.2.2.2.2.2.2.2.2.1 p6.2.2.2.2.2.2.2.2.2.2.2.1 p6.2.2.2.2.2.2.2.2.2.2.2.2.2.1 _ Rl)))) (fun _=>?_)
   obtain⟨jQ,vz,hF⟩:=bind_some hF
   refine zo rfl rfl (.on 39 rfl rfl rfl) (.cons .h (.cons .h (.cons .h (.cons .h (.cons .h (.cons .h (.cons .h (.rd (.t (.t (.t .h))) rfl .nil)))))))) (.dep rfl (.dep rfl (.dep rfl (.dep rfl (.dep rfl (.dep rfl (.dep rfl (.dep rfl (.dep rfl .nil))))))))) (fun ha=>jk (pre:=_) (.cons aG (.cons aG (.cons aG (.cons aG (.cons aG (.cons aG (.cons aG .nil))))))) (fun _=>.nil) (iV (.rd .h rfl (.rd (.t .h) rfl (.rd (.t (.t .h)) rfl (.rd (.t (.t (.t .h))) rfl (.rd (.t (.t (.t (.t (.t (.t (.t .h))))))) rfl (.rd (.t (.t (.t (.t .h)))) rfl (.rd (.t (.t (.t (.t (.t .h))))) rfl (.rd (.t (.t (.t (.t (.t (.t .h)))))) rfl .nil)))))))) (bU awQ.h (.cons (EN ha (.tmp rfl rfl) rfl) .nil) (@aeF r4 p6.1 p6.2.2.1 p6.2.2.2.2.1 p6.2.2.2.2.2.2.1 p6.2.2.2.2.2.2.2.2.1 p6.2.2.2.2.2.2.2.2.2.1 p6.2.2.2.2.2.2.2.2.2.2.2.1 p6.2.2.2.2.2.2.2.2.2.2.2.2.2.1 _ vz)))) (fun _=>?_)
   refine bW rfl (.on 39 rfl rfl rfl) (fun ha=>Qb (a:=vR) (b:=jQ) Tryz.underlying4 (EN ha (.tmp rfl rfl) rfl) (EN ha (.tmp rfl rfl) rfl)) ?_
   refine bW rfl .no (fun ha=>dR (b:=false) (u:=(.bool true)) (v:=(.bool (!(vR==jQ)))) (EN ha (.tmp rfl rfl) rfl) (EN ha (.bool _) rfl) (EN ha (.tmp rfl rfl) rfl)) ?_
   refine Dm (.bool (!(vR==jQ))) rfl rfl rfl rfl ?_
   rcases Bool.eq_false_or_eq_true (!(vR==jQ))with yh|yh
   · rw[yh]
     try rw[yh]at hF; dsimp only[cond_true,cond_false]at hF
     iterate 5 refine nz 46 rfl rfl rfl rfl ?_
     refine bW rfl .no (fun ha=>dR (b:=true) (u:=(.bool true)) (v:=undef) (EN ha (.tmp rfl rfl) rfl) (EN ha (.bool _) rfl) (EN ha (.tmp rfl rfl) rfl)) ?_
     refine Dm (.bool true) rfl rfl rfl rfl ?_
     iterate 6 refine nz 53 rfl rfl rfl rfl ?_
     refine bW rfl .no (fun ha=>dR (b:=true) (u:=(.bool true)) (v:=undef) (EN ha (.tmp rfl rfl) rfl) (EN ha (.bool _) rfl) (EN ha (.tmp rfl rfl) rfl)) ?_
     refine uM ?_
     obtain rfl:=Option.some.inj hF
     exact⟨_,_,rfl,(bZ.cons rfl (bZ.cons rfl (bZ.cons rfl (bZ.nil)))).eq,(.sel (.cons (.t (.t (.t (.t (.t (.t (.t (.t (.t .h))))))))) (.cons (.t (.t (.t (.t (.t (.t .h)))))) (.cons (.t (.t (.t (.t (.t .h))))) (.cons (.t (.t (.t (.t .h)))) (.cons (.t (.t (.t .h))) (.rd (.t (.t (.t (.t (.t .h))))) rfl (.cons (.t (.t .h)) (.cons (.t .h) (.cons .h (.cons (.t .h) .nil)))))))))))⟩
   rw[yh]
   try rw[yh]at hF; dsimp only[cond_true,cond_false]at hF
   iterate 2 refine dM rfl (.on 46 rfl rfl rfl) (.t (.t (.t (.t (.t (.t (.t (.t (.t .h))))))))) (fun ha hp=>h_ jl.h fG.h.sz rfl (EN ha (.tmp rfl rfl) rfl) hp.2 rfl) ?_
   obtain⟨nV,qR,hF⟩:=bind_some hF
   refine zo rfl rfl (.on 46 rfl rfl rfl) (.cons .h (.cons .h (.cons .h (.cons .h (.cons .h (.cons .h (.cons .h (.rd (.t (.t (.t .h))) rfl .nil)))))))) (.own (.t (.t .h)) (fun _ h=>h) (.dep rfl (.dep rfl (.dep rfl (.dep rfl (.dep rfl (.dep rfl (.dep rfl (.dep rfl (.dep rfl (.dep rfl .nil))))))))))) (fun ha=>jk (pre:=_) (.cons aG (.cons aG (.cons aG (.cons aG (.cons aG (.cons aG (.cons aG .nil))))))) (fun _=>.nil) (iV (.rd .h rfl (.rd (.t .h) rfl (.rd (.t (.t .h)) rfl (.rd (.t (.t (.t .h))) rfl (.rd (.t (.t (.t (.t (.t (.t (.t .h))))))) rfl (.rd (.t (.t (.t (.t .h)))) rfl (.rd (.t (.t (.t (.t (.t .h))))) rfl (.rd (.t (.t (.t (.t (.t (.t .h)))))) rfl .nil)))))))) (bU ajm.h (.cons (EN ha (.tmp rfl rfl) rfl) .nil) (@ad4 r4 p6.1 p6.2.2.1 p6.2.2.2.2.1 p6.2.2.2.2.2.2.1 p6.2.2.2.2.2.2.2.2.1 p6.2.2.2.2.2.2.2.2.2.1 p6.2.2.2.2.2.2.2.2.2.2.2.1 p6.2.2.2.2.2.2.2.2.2.2.2.2.2.1 _ qR)))) (fun _=>?_)
   obtain⟨uE,Ji,hF⟩:=bind_some hF
   refine zo rfl rfl (.on 46 rfl rfl rfl) (.cons .h (.cons .h (.cons .h (.cons .h (.cons .h (.cons .h (.cons .h (.rd (.t (.t (.t .h))) rfl .nil)))))))) (.dep rfl (.dep rfl (.dep rfl (.dep rfl (.dep rfl (.dep rfl (.dep rfl (.dep rfl (.dep rfl (.dep rfl (.dep rfl .nil))))))))))) (fun ha=>jk (pre:=_) (.cons aG (.cons aG (.cons aG (.cons aG (.cons aG (.cons aG (.cons aG .nil))))))) (fun _=>.nil) (iV (.rd .h rfl (.rd (.t .h) rfl (.rd (.t (.t .h)) rfl (.rd (.t (.t (.t .h))) rfl (.rd (.t (.t (.t (.t (.t (.t (.t .h))))))) rfl (.rd (.t (.t (.t (.t .h)))) rfl (.rd (.t (.t (.t (.t (.t .h))))) rfl (.rd (.t (.t (.t (.t (.t (.t .h)))))) rfl .nil)))))))) (bU ajn.h (.cons (EN ha (.tmp rfl rfl) rfl) .nil) (@ad5 r4 p6.1 p6.2.2.1 p6.2.2.2.2.1 p6.2.2.2.2.2.2.1 p6.2.2.2.2.2.2.2.2.1 p6.2.2.2.2.2.2.2.2.2.1 p6.2.2.2.2.2.2.2.2.2.2.2.1 p6.2.2.2.2.2.2.2.2.2.2.2.2.2.1 _ Ji)))) (fun _=>?_)
   refine bW rfl (.on 46 rfl rfl rfl) (fun ha=>Qb (a:=nV) (b:=uE) Tryz.underlying4 (EN ha (.tmp rfl rfl) rfl) (EN ha (.tmp rfl rfl) rfl)) ?_
   refine bW rfl .no (fun ha=>dR (b:=false) (u:=(.bool true)) (v:=(.bool (!(nV==uE)))) (EN ha (.tmp rfl rfl) rfl) (EN ha (.bool _) rfl) (EN ha (.tmp rfl rfl) rfl)) ?_
   refine Dm (.bool (!(nV==uE))) rfl rfl rfl rfl ?_
   rcases Bool.eq_false_or_eq_true (!(nV==uE))with Ta|Ta
   · rw[Ta]
     try rw[Ta]at hF; dsimp only[cond_true,cond_false]at hF
     iterate 6 refine nz 53 rfl rfl rfl rfl ?_
     refine bW rfl .no (fun ha=>dR (b:=true) (u:=(.bool true)) (v:=undef) (EN ha (.tmp rfl rfl) rfl) (EN ha (.bool _) rfl) (EN ha (.tmp rfl rfl) rfl)) ?_
     refine uM ?_
     obtain rfl:=Option.some.inj hF
     exact⟨_,_,rfl,(bZ.cons rfl (bZ.cons rfl (bZ.cons rfl (bZ.nil)))).eq,(.sel (.cons (.t (.t (.t (.t (.t (.t (.t (.t (.t .h))))))))) (.cons (.t (.t (.t (.t (.t (.t .h)))))) (.cons (.t (.t (.t (.t (.t .h))))) (.cons (.t (.t (.t (.t .h)))) (.cons (.t (.t (.t .h))) (.rd (.t (.t (.t (.t (.t .h))))) rfl (.cons (.t (.t .h)) (.cons (.t .h) (.cons .h (.cons (.t .h) .nil)))))))))))⟩
   rw[Ta]
   try rw[Ta]at hF; dsimp only[cond_true,cond_false]at hF
   iterate 2 refine dM rfl (.on 53 rfl rfl rfl) (.t (.t (.t (.t (.t (.t (.t (.t (.t .h))))))))) (fun ha hp=>h_ jl.h fG.h.sz rfl (EN ha (.tmp rfl rfl) rfl) hp.2 rfl) ?_
   obtain⟨tO,Co,hF⟩:=bind_some hF
   refine VH rfl rfl (.on 53 rfl rfl rfl) (.cons .h (.cons .h (.cons .h (.cons .h (.cons .h (.cons .h (.cons .h (.rd (.t (.t (.t .h))) rfl .nil)))))))) (.own (.t (.t .h)) (fun _ h=>h) (.dep rfl (.dep rfl (.dep rfl (.dep rfl (.dep rfl (.dep rfl (.dep rfl (.dep rfl (.dep rfl (.dep rfl (.dep rfl (.dep rfl .nil))))))))))))) (fun ha=>jk (pre:=_) (.cons aG (.cons aG (.cons aG (.cons aG (.cons aG (.cons aG (.cons aG .nil))))))) (fun _=>(.cons .nil)) (iV (.rd .h rfl (.rd (.t .h) rfl (.rd (.t (.t .h)) rfl (.rd (.t (.t (.t .h))) rfl (.rd (.t (.t (.t (.t (.t (.t (.t .h))))))) rfl (.rd (.t (.t (.t (.t .h)))) rfl (.rd (.t (.t (.t (.t (.t .h))))) rfl (.rd (.t (.t (.t (.t (.t (.t .h)))))) rfl .nil)))))))) (bU awR.h (.cons (EN ha (.tmp rfl rfl) rfl) .nil) (@alS r4 p6.1 p6.2.2.1 p6.2.2.2.2.1 p6.2.2.2.2.2.2.1 p6.2.2.2.2.2.2.2.2.1 p6.2.2.2.2.2.2.2.2.2.1 p6.2.2.2.2.2.2.2.2.2.2.2.1 p6.2.2.2.2.2.2.2.2.2.2.2.2.2.1 _ Co)))) (fun p57=>?_)
   obtain⟨rY,Cq,hF⟩:=bind_some hF
   refine VH rfl rfl (.on 53 rfl rfl rfl) (.cons .h (.cons .h (.cons .h (.cons .h (.cons .h (.cons .h (.cons .h (.rd (.t (.t (.t (.t .h)))) rfl .nil)))))))) (.dep rfl (.dep rfl (.dep rfl (.dep rfl (.dep rfl (.dep rfl (.dep rfl (.dep rfl (.dep rfl (.dep rfl (.dep rfl (.dep rfl (.dep rfl .nil))))))))))))) (fun ha=>jk (pre:=_) (.cons aG (.cons aG (.cons aG (.cons aG (.cons aG (.cons aG (.cons aG .nil))))))) (fun _=>(.cons .nil)) (iV (.rd .h rfl (.rd (.t .h) rfl (.rd (.t (.t .h)) rfl (.rd (.t (.t (.t .h))) rfl (.rd (.t (.t (.t (.t (.t (.t (.t .h))))))) rfl (.rd (.t (.t (.t (.t .h)))) rfl (.rd (.t (.t (.t (.t (.t .h))))) rfl (.rd (.t (.t (.t (.t (.t (.t .h)))))) rfl .nil)))))))) (bU awS.h (.cons (EN ha (.tmp rfl rfl) rfl) .nil) (@alT r4 p6.1 p6.2.2.1 p6.2.2.2.2.1 p6.2.2.2.2.2.2.1 p6.2.2.2.2.2.2.2.2.1 p6.2.2.2.2.2.2.2.2.2.1 p6.2.2.2.2.2.2.2.2.2.2.2.1 p6.2.2.2.2.2.2.2.2.2.2.2.2.2.1 _ Cq)))) (fun p60=>?_)
   obtain⟨YB,ayJ,hF⟩:=bind_some hF
   refine oV rfl rfl (.on 53 rfl rfl rfl) (.cons (.t (.t (.t (.t (.t (.t (.t .h))))))) (.cons (.t (.t (.t (.t (.t (.t (.t .h))))))) .nil)) (.dep rfl (.dep rfl (.dep rfl (.dep rfl (.dep rfl (.dep rfl (.dep rfl (.dep rfl (.dep rfl (.dep rfl (.dep rfl (.dep rfl (.dep rfl .nil))))))))))))) (fun ha=>jk (pre:=[]) (.cons aG (.cons aG .nil)) (fun _=>.nil) (bU abP.h (.cons (EN ha (.tmp rfl rfl) rfl) (.cons (EN ha (.tmp rfl rfl) rfl) .nil)) (@YZ tO p57.1 rY p60.1 _ ayJ))) (fun _=>?_)
   refine bW rfl (.on 53 rfl rfl rfl) (fun ha=>IG (b:=YB) (EN ha (.tmp rfl rfl) rfl)) ?_
   refine bW rfl .no (fun ha=>dR (b:=false) (u:=(.bool true)) (v:=(.bool (!YB))) (EN ha (.tmp rfl rfl) rfl) (EN ha (.bool _) rfl) (EN ha (.tmp rfl rfl) rfl)) ?_
   refine uM ?_
   obtain rfl:=Option.some.inj hF
   exact⟨_,_,rfl,(bZ.cons rfl (bZ.cons rfl (bZ.cons rfl (bZ.nil)))).eq,(.sel (.cons (.t (.t (.t (.t (.t (.t (.t (.t (.t (.t (.t .h))))))))))) (.cons (.t (.t (.t (.t (.t (.t (.t (.t .h)))))))) (.cons (.t (.t (.t (.t (.t (.t (.t .h))))))) (.cons (.t (.t (.t (.t (.t (.t .h)))))) (.cons (.t (.t (.t (.t (.t .h))))) (.rd (.t (.t (.t (.t (.t (.t (.t .h))))))) rfl (.cons (.t (.t (.t (.t .h)))) (.cons (.t (.t (.t .h))) (.cons (.t (.t .h)) (.cons (.t (.t (.t .h))) .nil)))))))))))⟩
 rintro _ _ ⟨c64,aEq,rfl,rfl,hE⟩
 replace hF:=Nh
 clear Nh
 try dsimp only at hF
 refine bq hE ?_
 refine nY (b:=c64) (.tmp rfl rfl) (fun aby=>?_) (fun aby=>?_)
 · rw[if_pos aby]at hF
   refine dY (aP (jU (v:=(.bool false)) (.bool _)) ?_)
   refine eT (sN ?_)
   obtain rfl:=Option.some.inj hF
   exact gQ () (.tmp rfl rfl .nil) rfl (.sel .nil)
 rw[if_neg (by rw[aby]; exact Bool.false_ne_true)]at hF
 refine rG (lX (dY (aP (jU (v:=(.int .i64 0)) (.int _ _)) ?_)))
 refine eT (bi (iD (.t (.t (.t (.t (.t (.t (.t (.t (.t .h))))))))) aG ?_))
 refine bT (m:=r8.length) (fun akq f' cs'=>∃(g:Fr)(mo:Nat)(Bj:List Access),akq=Bj.length/\f'=aQ g [(3,(.pointer (some ⟨k7,0,some 0⟩))),(4,gH.1.v),(5,(.int .i64 (mo:Int)))]/\List.drop mo r8=Bj/\aN cs' [aW k7 36 (.agg [p6.1.v,p6.2.2.1.v,p6.2.2.2.2.1.v,p6.2.2.2.2.2.2.1.v,(.int .i64 r4.Source.Version),p6.2.2.2.2.2.2.2.2.1.v,(.int .i64 r4.Cache.Age),(.int .i64 r4.Now),p6.2.2.2.2.2.2.2.2.2.1.v,p6.2.2.2.2.2.2.2.2.2.2.2.1.v,(.int .i64 r4.Spent),p6.2.2.2.2.2.2.2.2.2.2.2.2.2.1.v].toArray),aU (aF 3 (aC az)) p6.2.1 p6.1.v r4.Schema,aU (aF 57 qL) p6.2.2.2.1 p6.2.2.1.v r4.Methods,aU (aF 98 oJ) p6.2.2.2.2.2.1 p6.2.2.2.2.1.v r4.Rules,aU (aF 70 gN) p6.2.2.2.2.2.2.2.1 p6.2.2.2.2.2.2.1.v r4.Source.Facts,bC (aD 47 oK) p6.2.2.2.2.2.2.2.2.1.v r4.Cache.Entries,aU (aF 45 mY) p6.2.2.2.2.2.2.2.2.2.2.1 p6.2.2.2.2.2.2.2.2.2.1.v r4.Log,aU (aF 3 (aC az)) p6.2.2.2.2.2.2.2.2.2.2.2.2.1 p6.2.2.2.2.2.2.2.2.2.2.2.1.v r4.Times,aU (aF 152 (aF 24 (aF 3 (aC az)))) p6.2.2.2.2.2.2.2.2.2.2.2.2.2.2 p6.2.2.2.2.2.2.2.2.2.2.2.2.2.1.v r4.Results,bC (aD 45 qN) gH.1.v r8]/\DU r4 Bj mo=some R) ⟨_,0,_,rfl,(bZ.cons rfl (bZ.cons rfl (bZ.cons rfl (bZ.nil)))).eq,rfl,(.sel (.cons (.t .h) (.cons (.t .h) (.cons (.t .h) (.cons (.t .h) (.cons (.t .h) (.rd (.t .h) rfl (.cons (.t (.t .h)) (.cons (.t (.t .h)) (.cons (.t (.t .h)) (.rd .h rfl .nil))))))))))),hF⟩ ?_
 clear hF
 rintro akq _ _ ⟨ayj,mo,Bj,rfl,rfl,hd114,hE,hF⟩
 refine bq hE ?_
 clear hE
 refine PK (c:=bC (aD 45 qN) gH.1.v r8) (.t (.t (.t (.t (.t (.t (.t (.t (.t .h))))))))) agu (fun azB=>?_)
 rcases Bj with _|⟨x113,Bj⟩
 · have avw:=List.drop_eq_nil_iff.1 hd114
   have aap:(decide (((mo:Int):Int)<(r8.length:Int)))=false:=decide_eq_false (by omega)
   rw[DU]at hF
   refine lX (dY (Cm (.int .i64 (mo:Int)) rfl rfl ?_))
   refine Cm gH.1.v rfl rfl ?_
   refine fo (.t (.t (.t (.t (.t (.t (.t (.t (.t .h))))))))) (fun hp=>sO (l:=r8.length) pF.h (.tmp rfl rfl) (zm hp)) ?_
   refine aP (EB (i:=(mo:Int)) (j:=(r8.length:Int)) (.tmp rfl rfl) (.tmp rfl rfl)) ?_
   refine eT (nY (b:=(decide (((mo:Int):Int)<(r8.length:Int)))) (.tmp rfl rfl) (fun hb=>absurd (aap.symm.trans hb) (by decide)) (fun _=>?_))
   refine PH ?_
   iterate 2 refine K5 ?_
   refine Pv (lX (dY (fo .h (fun hp=>h_ jl.h fG.h.sz rfl (.tmp rfl rfl) hp.2 rfl) ?_)))
   obtain⟨adw,avx,hF⟩:=bind_some hF
   refine ai6 (.cons (.t (.t (.t (.t (.t (.t (.t (.t .h)))))))) (.cons (.t (.t (.t (.t (.t (.t (.t .h))))))) (.cons (.t (.t (.t (.t (.t (.t .h)))))) (.cons (.t (.t (.t (.t .h)))) (.cons (.t (.t (.t .h))) (.cons (.t (.t .h)) (.cons (.t .h) (.rd (.t .h) rfl .nil)))))))) (jk (pre:=_) (.cons aG (.cons aG (.cons aG (.cons aG (.cons aG (.cons aG (.cons aG .nil))))))) (fun _=>.nil) (iV (.rd .h rfl (.rd (.t .h) rfl (.rd (.t (.t .h)) rfl (.rd (.t (.t (.t .h))) rfl (.rd (.t (.t (.t (.t (.t (.t (.t .h))))))) rfl (.rd (.t (.t (.t (.t .h)))) rfl (.rd (.t (.t (.t (.t (.t .h))))) rfl (.rd (.t (.t (.t (.t (.t (.t .h)))))) rfl .nil)))))))) (bU ajn.h (.cons (.tmp rfl rfl) .nil) (@ad5 r4 p6.1 p6.2.2.1 p6.2.2.2.2.1 p6.2.2.2.2.2.2.1 p6.2.2.2.2.2.2.2.2.1 p6.2.2.2.2.2.2.2.2.2.1 p6.2.2.2.2.2.2.2.2.2.2.2.1 p6.2.2.2.2.2.2.2.2.2.2.2.2.2.1 _ avx)))) (fun _=>?_)
   refine eT (nY (b:=adw) (.tmp rfl rfl) (fun Qm=>?_) (fun Qm=>?_))
   · rw[if_pos Qm]at hF
     refine dY (aP (iY (off:=10) aal.h (.tmp rfl rfl)) ?_)
     refine fo (.t (.t (.t (.t (.t (.t (.t .h))))))) (fun hp=>fe (v:=(.int .i64 r4.Spent)) pU.h (.tmp rfl rfl) hp.2 rfl rfl) ?_
     refine aP (qF (i:=r4.Spent) (j:=1) (.tmp rfl rfl) (.int _ _)) ?_
     refine aP (iY (off:=10) aal.h (.tmp rfl rfl)) ?_
     refine ed (.cons (.t (.t (.t (.t (.t (.t (.t .h))))))) .nil) (gz (e':=(.agg [p6.1.v,p6.2.2.1.v,p6.2.2.2.2.1.v,p6.2.2.2.2.2.2.1.v,(.int .i64 r4.Source.Version),p6.2.2.2.2.2.2.2.2.1.v,(.int .i64 r4.Cache.Age),(.int .i64 r4.Now),p6.2.2.2.2.2.2.2.2.2.1.v,p6.2.2.2.2.2.2.2.2.2.2.2.1.v,(.int .i64 (IntKind.i64.wrap (r4.Spent+1))),p6.2.2.2.2.2.2.2.2.2.2.2.2.2.1.v].toArray)) (v:=(.int .i64 (IntKind.i64.wrap (r4.Spent+1)))) dx.h.sz (.tmp rfl rfl) (.tmp rfl rfl) rfl rfl rfl rfl rfl) (fun _=>?_)
     refine eT (dY (fo .h (fun hp=>h_ jl.h fG.h.sz rfl (.tmp rfl rfl) hp.2 rfl) ?_))
     obtain⟨adx,aaV,hF⟩:=bind_some hF
     refine ai6 (.cons (.t .h) (.cons (.t .h) (.cons (.t .h) (.cons (.t .h) (.cons (.t .h) (.cons (.t .h) (.cons (.t .h) (.rd (.t .h) rfl .nil)))))))) (jk (pre:=_) (.cons aG (.cons aG (.cons aG (.cons aG (.cons aG (.cons aG (.cons aG .nil))))))) (fun _=>.nil) (iV (.rd .h rfl (.rd (.t .h) rfl (.rd (.t (.t .h)) rfl (.rd (.t (.t (.t .h))) rfl (.rd (.t (.t (.t (.t (.t (.t (.t .h))))))) rfl (.rd (.t (.t (.t (.t .h)))) rfl (.rd (.t (.t (.t (.t (.t .h))))) rfl (.rd (.t (.t (.t (.t (.t (.t .h)))))) rfl .nil)))))))) (bU ajm.h (.cons (.tmp rfl rfl) .nil) (@ad4 ({Schema:=r4.Schema,Methods:=r4.Methods,Rules:=r4.Rules,Source:=r4.Source,Cache:=r4.Cache,Now:=r4.Now,Log:=r4.Log,Times:=r4.Times,Spent:=(IntKind.i64.wrap (r4.Spent+1)),Results:=r4.Results}:aZ) p6.1 p6.2.2.1 p6.2.2.2.2.1 p6.2.2.2.2.2.2.1 p6.2.2.2.2.2.2.2.2.1 p6.2.2.2.2.2.2.2.2.2.1 p6.2.2.2.2.2.2.2.2.2.2.2.1 p6.2.2.2.2.2.2.2.2.2.2.2.2.2.1 _ aaV)))) (fun _=>?_)
     refine eT (nY (b:=adx) (.tmp rfl rfl) (fun abz=>?_) (fun abz=>?_))
     · rw[if_pos abz]at hF
       refine dY (aP (jU (v:=(.bool false)) (.bool _)) ?_)
       refine eT (sN ?_)
       obtain rfl:=Option.some.inj hF
       exact gQ () (.tmp rfl rfl .nil) rfl (.sel .nil)
     rw[if_neg (by rw[abz]; exact Bool.false_ne_true)]at hF
     refine rG (dY (aP (jU (v:=(.bool true)) (.bool _)) ?_))
     refine eT (sN ?_)
     obtain rfl:=Option.some.inj hF
     exact gQ () (.tmp rfl rfl .nil) rfl (.sel .nil)
   rw[if_neg (by rw[Qm]; exact Bool.false_ne_true)]at hF
   refine rG (dY (aP (jU (v:=(.bool true)) (.bool _)) ?_))
   refine eT (sN ?_)
   obtain rfl:=Option.some.inj hF
   exact gQ () (.tmp rfl rfl .nil) rfl (.sel .nil)
 obtain⟨avw,V9,avy⟩:=dz hd114
 have aap:(decide (((mo:Int):Int)<(r8.length:Int)))=true:=decide_eq_true (by omega)
 rw[DU]at hF
 refine lX (dY (Cm (.int .i64 (mo:Int)) rfl rfl ?_))
 refine Cm gH.1.v rfl rfl ?_
 refine fo (.t (.t (.t (.t (.t (.t (.t (.t (.t .h))))))))) (fun hp=>sO (l:=r8.length) pF.h (.tmp rfl rfl) (zm hp)) ?_
 refine aP (EB (i:=(mo:Int)) (j:=(r8.length:Int)) (.tmp rfl rfl) (.tmp rfl rfl)) ?_
 refine eT (nY (b:=(decide (((mo:Int):Int)<(r8.length:Int)))) (.tmp rfl rfl) (fun _=>?_) (fun hb=>absurd (aap.symm.trans hb) (by decide)))
 refine rG (Vr (dS [0,1,2,3,4,5,6,7] [0,1,0,0,12,28,63,127] [6] mixed (by decide+kernel) ?_))
 refine bW rfl .no (fun ha=>iY (off:=5) VK.h (EN ha (.tmp rfl rfl) rfl)) ?_
 refine dM rfl .no .h (fun ha hp=>j3 (s:=2) (l:=[p6.2.2.2.2.2.2.2.2.1.v,(.int .i64 r4.Cache.Age)]) uu.h oL.h.sz (EN ha (.tmp rfl rfl) rfl) hp.2 rfl (by decide) (Nat.le_of_ble_eq_true rfl) rfl) ?_
 refine Dm gH.1.v rfl rfl rfl rfl ?_
 refine Dm (.int .i64 (mo:Int)) rfl rfl rfl rfl ?_
 refine VR (a:=x113) pF.h kr.h.sz rfl .no (.tmp rfl rfl) (.tmp rfl rfl) rfl rfl (.t (.t (.t (.t (.t (.t (.t (.t (.t .h))))))))) (Int.natCast_nonneg mo) V9 (fun zO aEr=>?_)
 refine aai (xm x113) u_.h kr.h.sz rfl rfl .no (.tmp rfl rfl) rfl .h zb (fun ayK=>?_)
 obtain⟨CO,avz,hF⟩:=bind_some hF
 refine ahB rfl rfl .no (.rd (.t (.t (.t (.t (.t (.t (.t .h))))))) rfl (.rd .h rfl .nil)) (.dep rfl .nil) (fun ha=>bU awp.h (.cons (EN ha (.tmp rfl rfl) rfl) (.cons (EN ha (.tmp rfl rfl) rfl) .nil)) (@aeA r4.Cache p6.2.2.2.2.2.2.2.2.1 x113 ayK _ avz)) (fun _=>?_)
 refine Da (.int .i64 CO) rfl rfl rfl rfl ?_
 refine uM ?_
 obtain⟨adA,aro,aiY⟩:=bind_some hF
 refine dS [0,1,2,3,4,5,6,7,8,9,10,11,12,13,14,15,16,17,18,19,20,21,22,23] [0,1,3,7,15,31,7,127,255,511,7,1031,7,4103,7,16391,49159,7,7,393223,917511,2096135,4194303,8388607] [21,22] mixed (by decide+kernel) ?_
 refine kS (fun f' cs'=>∃(vB:Bool)(g:Fr),vB=adA/\f'=aQ g [(3,(.pointer (some ⟨k7,0,some 0⟩))),(4,gH.1.v),(5,(.int .i64 (mo:Int))),(97,(.bool vB))]/\aN cs' [aW k7 36 (.agg [p6.1.v,p6.2.2.1.v,p6.2.2.2.2.1.v,p6.2.2.2.2.2.2.1.v,(.int .i64 r4.Source.Version),p6.2.2.2.2.2.2.2.2.1.v,(.int .i64 r4.Cache.Age),(.int .i64 r4.Now),p6.2.2.2.2.2.2.2.2.2.1.v,p6.2.2.2.2.2.2.2.2.2.2.2.1.v,(.int .i64 r4.Spent),p6.2.2.2.2.2.2.2.2.2.2.2.2.2.1.v].toArray),aU (aF 3 (aC az)) p6.2.1 p6.1.v r4.Schema,aU (aF 57 qL) p6.2.2.2.1 p6.2.2.1.v r4.Methods,aU (aF 98 oJ) p6.2.2.2.2.2.1 p6.2.2.2.2.1.v r4.Rules,aU (aF 70 gN) p6.2.2.2.2.2.2.2.1 p6.2.2.2.2.2.2.1.v r4.Source.Facts,bC (aD 47 oK) p6.2.2.2.2.2.2.2.2.1.v r4.Cache.Entries,aU (aF 45 mY) p6.2.2.2.2.2.2.2.2.2.2.1 p6.2.2.2.2.2.2.2.2.2.1.v r4.Log,aU (aF 3 (aC az)) p6.2.2.2.2.2.2.2.2.2.2.2.2.1 p6.2.2.2.2.2.2.2.2.2.2.2.1.v r4.Times,aU (aF 152 (aF 24 (aF 3 (aC az)))) p6.2.2.2.2.2.2.2.2.2.2.2.2.2.2 p6.2.2.2.2.2.2.2.2.2.2.2.2.2.1.v r4.Results,bC (aD 45 qN) gH.1.v r8]) ?_ ?_
 · replace hF:=aro
   refine Dm (.int .i64 CO) rfl rfl rfl rfl ?_
   refine bW rfl .no (fun ha=>EB (i:=CO) (j:=0) (EN ha (.tmp rfl rfl) rfl) (EN ha (.int _ _) rfl)) ?_
   refine Dm (.bool (decide ((CO:Int)<0))) rfl rfl rfl rfl ?_
   rcases Bool.eq_false_or_eq_true (decide ((CO:Int)<0))with QU|QU
   · rw[QU]
     try rw[QU]at hF; dsimp only[cond_true,cond_false]at hF
     iterate 20 refine nz 76 rfl rfl rfl rfl ?_
     refine bW rfl .no (fun ha=>dR (b:=true) (u:=(.bool true)) (v:=undef) (EN ha (.tmp rfl rfl) rfl) (EN ha (.bool _) rfl) (EN ha (.tmp rfl rfl) rfl)) ?_
     refine uM ?_
     obtain rfl:=Option.some.inj hF
     exact⟨_,_,rfl,(bZ.cons rfl (bZ.cons rfl (bZ.cons rfl (bZ.cons rfl (bZ.nil))))).eq,(.sel (.cons (.t (.t .h)) (.cons (.t (.t .h)) (.cons (.t (.t .h)) (.cons (.t (.t .h)) (.cons (.t (.t .h)) (.rd (.t (.t .h)) rfl (.cons (.t (.t (.t .h))) (.cons (.t (.t (.t .h))) (.cons (.t (.t (.t .h))) (.rd (.t (.t (.t .h))) rfl .nil)))))))))))⟩
   rw[QU]
   try rw[QU]at hF; dsimp only[cond_true,cond_false]at hF
   refine bW rfl (.on 76 rfl rfl rfl) (fun ha=>iY (off:=5) VK.h (EN ha (.tmp rfl rfl) rfl)) ?_
   refine bW rfl (.on 76 rfl rfl rfl) (fun ha=>iY (off:=0) VL.h (EN ha (.tmp rfl rfl) rfl)) ?_
   refine dM rfl (.on 76 rfl rfl rfl) (.t (.t .h)) (fun ha hp=>fe (v:=p6.2.2.2.2.2.2.2.2.1.v) awd.h (EN ha (.tmp rfl rfl) rfl) hp.2 rfl rfl) ?_
   refine bW rfl (.on 76 rfl rfl rfl) (fun ha=>fu (v:=(.int .i64 CO)) (EN ha (.tmp rfl rfl) rfl)) ?_
   obtain⟨X6,aaU,hF⟩:=bind_some hF
   obtain⟨avA,avB⟩:=Ev aaU
   refine VR (a:=X6) uw.h qj.h.sz rfl (.on 76 rfl rfl rfl) (.tmp rfl rfl) (.tmp rfl rfl) rfl rfl (.t (.t (.t (.t (.t (.t (.t .h))))))) avA avB (fun acK aEs=>?_)
   refine bW rfl (.on 76 rfl rfl rfl) (fun ha=>iY (off:=2) ap9.h (EN ha (.tmp rfl rfl) rfl)) ?_
   refine n_ (R':=(aD 70 mI)) xQ.h rfl (.on 76 rfl rfl rfl) (.tmp rfl rfl) rfl .h ahM (fun ayL=>?_)
   refine bW rfl (.on 76 rfl rfl rfl) (fun ha=>iY (off:=0) PR.h (EN ha (.tmp rfl rfl) rfl)) ?_
   refine dM rfl (.on 76 rfl rfl rfl) (.t (.t (.t (.t .h)))) (fun ha hp=>fe (v:=p6.1.v) iA.h (EN ha (.tmp rfl rfl) rfl) hp.2 rfl rfl) ?_
   refine bW rfl (.on 76 rfl rfl rfl) (fun ha=>iY (off:=1) aam.h (EN ha (.tmp rfl rfl) rfl)) ?_
   refine dM rfl (.on 76 rfl rfl rfl) (.t (.t (.t (.t .h)))) (fun ha hp=>fe (v:=p6.2.2.1.v) WU.h (EN ha (.tmp rfl rfl) rfl) hp.2 rfl rfl) ?_
   refine bW rfl (.on 76 rfl rfl rfl) (fun ha=>iY (off:=3) ahG.h (EN ha (.tmp rfl rfl) rfl)) ?_
   refine bW rfl (.on 76 rfl rfl rfl) (fun ha=>iY (off:=0) ap7.h (EN ha (.tmp rfl rfl) rfl)) ?_
   refine dM rfl (.on 76 rfl rfl rfl) (.t (.t (.t (.t .h)))) (fun ha hp=>fe (v:=p6.2.2.2.2.2.2.1.v) xQ.h (EN ha (.tmp rfl rfl) rfl) hp.2 rfl rfl) ?_
   refine bW rfl (.on 76 rfl rfl rfl) (fun ha=>fu (v:=gH.1.v) (EN ha (.tmp rfl rfl) rfl)) ?_
   refine bW rfl (.on 76 rfl rfl rfl) (fun ha=>fu (v:=(.int .i64 (mo:Int))) (EN ha (.tmp rfl rfl) rfl)) ?_
   refine VR (a:=x113) pF.h kr.h.sz rfl (.on 76 rfl rfl rfl) (.tmp rfl rfl) (.tmp rfl rfl) rfl rfl (.t (.t (.t (.t (.t (.t (.t (.t (.t (.t (.t (.t (.t .h))))))))))))) (Int.natCast_nonneg mo) V9 (fun aEt aEu=>?_)
   refine aai (xm x113) u_.h kr.h.sz rfl rfl (.on 76 rfl rfl rfl) (.tmp rfl rfl) rfl .h zb (fun ayM=>?_)
   obtain⟨ady,avC,hF⟩:=bind_some hF
   refine VG rfl rfl (.on 76 rfl rfl rfl) (.cons (.t (.t (.t (.t (.t (.t (.t (.t (.t (.t .h)))))))))) (.cons (.t (.t (.t (.t (.t (.t (.t (.t .h)))))))) (.cons (.t (.t (.t (.t (.t (.t (.t .h))))))) (.rd .h rfl .nil)))) (.dep rfl (.dep rfl (.dep rfl (.own (.t (.t (.t (.t (.t (.t .h)))))) (fun _ h=>h) .nil)))) (fun ha=>jk (pre:=_) (.cons aG (.cons aG (.cons aG .nil))) (fun _=>(.cons .nil)) (bU awU.h (.cons (EN ha (.tmp rfl rfl) rfl) (.cons (EN ha (.tmp rfl rfl) rfl) (.cons (EN ha (.tmp rfl rfl) rfl) (.cons (EN ha (.tmp rfl rfl) rfl) .nil)))) (@amx r4.Schema p6.1 r4.Methods p6.2.2.1 r4.Source.Facts p6.2.2.2.2.2.2.1 x113 ayM _ avC))) (fun ayN=>?_)
   obtain⟨adz,hx151,hF⟩:=bind_some hF
   refine cO rfl rfl (.on 76 rfl rfl rfl) (.cons (.t (.t (.t .h))) (.rd (.t (.t (.t (.t (.t .h))))) rfl .nil)) (.dep rfl (.dep rfl (.dep rfl (.dep rfl .nil)))) (fun ha=>jT aG (fun _=>.nil) (iV (.rd (.t .h) rfl (.rd .h rfl .nil)) (bU abP.h (.cons (EN ha (.tmp rfl rfl) rfl) (.cons (EN ha (.tmp rfl rfl) rfl) .nil)) (@YZ X6.Facts ayL ady ayN.1 _ hx151)))) (fun _=>?_)
   refine bW rfl .no (fun ha=>dR (b:=false) (u:=(.bool true)) (v:=(.bool adz)) (EN ha (.tmp rfl rfl) rfl) (EN ha (.bool _) rfl) (EN ha (.tmp rfl rfl) rfl)) ?_
   refine uM ?_
   obtain rfl:=Option.some.inj hF
   exact⟨_,_,rfl,(bZ.cons rfl (bZ.cons rfl (bZ.cons rfl (bZ.cons rfl (bZ.nil))))).eq,(.sel (.cons (.t (.t (.t (.t (.t (.t (.t (.t (.t (.t .h)))))))))) (.cons (.t (.t (.t .h))) (.cons (.t (.t .h)) (.cons (.t (.t (.t (.t (.t (.t (.t (.t .h)))))))) (.cons (.t .h) (.rd (.t (.t (.t (.t (.t (.t (.t .h))))))) rfl (.cons (.t (.t (.t (.t (.t (.t (.t (.t .h)))))))) (.cons (.t (.t (.t (.t (.t (.t (.t (.t .h)))))))) (.cons (.t (.t (.t (.t (.t (.t (.t (.t .h)))))))) (.rd (.t (.t (.t (.t (.t (.t (.t (.t .h)))))))) rfl .nil)))))))))))⟩
 rintro _ _ ⟨vB,aEv,rfl,rfl,hE⟩
 replace hF:=aiY
 clear aiY
 try dsimp only at hF
 refine bq hE ?_
 refine nY (b:=vB) (.tmp rfl rfl) (fun abA=>?_) (fun abA=>?_)
 · rw[if_pos abA]at hF
   refine dY (aP (jU (v:=(.bool false)) (.bool _)) ?_)
   refine eT (sN ?_)
   obtain rfl:=Option.some.inj hF
   exact gQ () (.tmp rfl rfl .nil) rfl (.sel .nil)
 rw[if_neg (by rw[abA]; exact Bool.false_ne_true)]at hF
 refine rG (xh (Cm (.int .i64 (mo:Int)) rfl rfl ?_))
 refine aP (qF (i:=(mo:Int)) (j:=1) (.tmp rfl rfl) (.int _ _)) ?_
 refine Ca (.int .i64 (IntKind.i64.wrap ((mo:Int)+1))) rfl rfl ?_
 refine eT ?_
 have avD:IntKind.i64.wrap ((mo:Int)+1)=((mo+1:Nat):Int):=by rw[eP (by omega) (by omega)]; rfl
 rw[avD]
 exact⟨_,Nat.lt_succ_self _,_,mo+1,Bj,rfl,(bZ.cons rfl (bZ.cons rfl (bZ.cons rfl (bZ.nil)))).eq,avy,(.sel (.cons .h (.cons .h (.cons .h (.cons .h (.cons .h (.rd .h rfl (.cons (.t .h) (.cons (.t .h) (.cons (.t .h) (.rd (.t .h) rfl .nil))))))))))),hF⟩
end Go.Proofs.YtfcjmpkenaiomaaGreat
