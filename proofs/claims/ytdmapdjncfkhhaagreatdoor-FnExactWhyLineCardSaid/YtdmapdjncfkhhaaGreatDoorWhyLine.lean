/-
  FnExactWhyLine: the plain law and the row: for all arguments.
-/
import Derived.Test.YtdmapdjncfkhhaaGreatDoorWhyLineG3
import Derived.Test.YtdmapdjncfkhhaaGreatDoorFc
import Derived.Test.YtdmapdjncfkhhaaGreatDoorRows
import Derived.Test.YtdmapdjncfkhhaaGreatDoorTie
import Derived.Test.YtdmapdjncfkhhaaGreatDoorCards
import Derived.LaidMore
import Derived.OpenShut
import Derived.Stop.Joined
import Derived.Stop.LaidErr
import Derived.SevenTiedAt
import Derived.Lib.LaidTab
import Derived.WalkKit
import Derived.KernelRfl
/-
 Plain laws of the helpers. Written by a program.
-/
set_option maxRecDepth 100000
set_option maxHeartbeats 4000000
set_option linter.unusedVariables false
namespace Go.Proofs.YtdmapdjncfkhhaaGreatDoor
open Go Go.Fw
def l5(a:Fact):Prop:=(fA vH) a.Values
def arN(a:Access):Prop:=(fA vH) a.Values
theorem XE:Sz Jn (fun a:List Int=>a.length) (qK sH):=asN (fun _ _=>rfl)
def Qq(a:Method):Nat:=a.Inputs.length
theorem arO:Sz P9 Qq Y3:=by
 intro a ⟨azk,ash,aCo,aC0,aCp⟩ left hl hm
 unfold P9
 have ht:Qq a=a.Inputs.length:=rfl
 obtain⟨n1,e1,h1⟩:=XE a.Inputs ash _ hl hm
 rw[e1,Option.bind_some]
 try dsimp only at h1
 rcases h1 with⟨rfl,p1⟩|p1
 rotate_left
 · rw[if_pos (by simpa using p1)]; exact⟨-1,rfl,.inr (by omega)⟩
 rw[if_neg (by simp only[decide_eq_true_eq]; omega)]
 exact⟨_,rfl,.inl ⟨by rw[ht]<;>omega,p1⟩⟩
theorem ard:Sz WF (xc Qq) (qK Y3):=abp arO (fun _ _=>rfl) (fun _ _ _ _=>rfl) (fun _ _=>rfl)
def Q4(a:Rule):Nat:=a.Map.length
theorem atg:Sz QK Q4 Y4:=by
 intro a ⟨aC1,aII,azl⟩ left hl hm
 unfold QK
 have ht:Q4 a=a.Map.length:=rfl
 obtain⟨n1,e1,h1⟩:=XE a.Map azl _ hl hm
 rw[e1,Option.bind_some]
 try dsimp only at h1
 rcases h1 with⟨rfl,p1⟩|p1
 rotate_left
 · rw[if_pos (by simpa using p1)]; exact⟨-1,rfl,.inr (by omega)⟩
 rw[if_neg (by simp only[decide_eq_true_eq]; omega)]
 exact⟨_,rfl,.inl ⟨by rw[ht]<;>omega,p1⟩⟩
theorem asi:Sz WV (xc Q4) (qK Y4):=abp atg (fun _ _=>rfl) (fun _ _ _ _=>rfl) (fun _ _=>rfl)
def Ff(a:Atom):Nat:=a.Terms.length
theorem ath:Sz QL Ff X4:=by
 intro a ⟨azk,ati⟩ left hl hm
 unfold QL
 have ht:Ff a=a.Terms.length:=rfl
 obtain⟨n1,e1,h1⟩:=XE a.Terms ati _ hl hm
 rw[e1,Option.bind_some]
 try dsimp only at h1
 rcases h1 with⟨rfl,p1⟩|p1
 rotate_left
 · rw[if_pos (by simpa using p1)]; exact⟨-1,rfl,.inr (by omega)⟩
 rw[if_neg (by simp only[decide_eq_true_eq]; omega)]
 exact⟨_,rfl,.inl ⟨by rw[ht]<;>omega,p1⟩⟩
theorem asj:Sz WW (xc Ff) (qK X4):=abp ath (fun _ _=>rfl) (fun _ _ _ _=>rfl) (fun _ _=>rfl)
def QF(a:aV):Nat:=a.Head.length+(xc Ff) a.Atoms
theorem asl:Sz Qx QF ady:=by
 intro a ⟨avi,atj⟩ left hl hm
 unfold Qx
 have ht:QF a=a.Head.length+(xc Ff) a.Atoms:=rfl
 obtain⟨n1,e1,h1⟩:=XE a.Head avi _ hl hm
 rw[e1,Option.bind_some]
 try dsimp only at h1
 rcases h1 with⟨rfl,p1⟩|p1
 rotate_left
 · rw[if_pos (by simpa using p1)]; exact⟨-1,rfl,.inr (by omega)⟩
 rw[if_neg (by simp only[decide_eq_true_eq]; omega)]
 obtain⟨n2,e2,h2⟩:=asj a.Atoms atj _ p1 (by omega)
 rw[e2,Option.bind_some]
 try dsimp only at h2
 rcases h2 with⟨rfl,p2⟩|p2
 rotate_left
 · rw[if_pos (by simpa using p2)]; exact⟨-1,rfl,.inr (by omega)⟩
 rw[if_neg (by simp only[decide_eq_true_eq]; omega)]
 exact⟨_,rfl,.inl ⟨by rw[ht]<;>omega,p2⟩⟩
theorem Re:∀(a:List Int),(fA vH) a->zu a=some a:=
 Xk (fun _=>rfl) (fun _ _=>rfl) (fun x r k c hx hk=>by
   rw[MK]
   simp[tK,hk])
def lc(a:Method):Prop:=(fA vH) a.Inputs
theorem Xb(a:Method)(h:lc a):P_ a=some a:=by
 have aB6:(fA vH) a.Inputs:=h
 simp (disch:=assumption) only[P_,Re,Option.bind_some]
theorem WP:∀(a:List Method),(fA lc) a->ML a=some a:=
 Xk (fun _=>rfl) (fun _ _=>rfl) (fun x r k c hx hk=>by
   rw[Mg]
   rw[Xb _ hx]
   simp[tK,hk])
def abU(a:Rule):Prop:=(fA vH) a.Map
theorem abV(a:Rule)(h:abU a):QM a=some a:=by
 have aCq:(fA vH) a.Map:=h
 simp (disch:=assumption) only[QM,Re,Xb,WP,Option.bind_some]
theorem abu:∀(a:List Rule),(fA abU) a->M7 a=some a:=
 Xk (fun _=>rfl) (fun _ _=>rfl) (fun x r k c hx hk=>by
   rw[Mq]
   rw[abV _ hx]
   simp[tK,hk])
def XF(a:Atom):Prop:=(fA vH) a.Terms
theorem aiR(a:Atom)(h:XF a):QN a=some a:=by
 have aB7:(fA vH) a.Terms:=h
 simp (disch:=assumption) only[QN,Re,Xb,WP,abV,abu,Option.bind_some]
theorem asn:∀(a:List Atom),(fA XF) a->WX a=some a:=
 Xk (fun _=>rfl) (fun _ _=>rfl) (fun x r k c hx hk=>by
   rw[Mr]
   rw[aiR _ hx]
   simp[tK,hk])
def ah7(a:aV):Prop:=(fA vH) a.Head/\(fA XF) a.Atoms
theorem aso(a:aV)(h:ah7 a):Jk a=some a:=by
 have aB9:(fA vH) a.Head:=h.1
 have aB8:(fA XF) a.Atoms:=h.2
 simp (disch:=assumption) only[Jk,aiR,asn,Re,Xb,WP,abV,abu,Option.bind_some]
theorem Rh:∀(a:List Int),Fe a a=some true:=
 Xl (fun _ _=>rfl) (fun _ _=>rfl) (fun b x r k h=>by
   rw[MR,jB,h]
   simp)
theorem Xc(a:Method):Qp a a=some true:=by simp[Qp,Rh]
theorem WQ:∀(a:List Method),WH a a=some true:=
 Xl (fun _ _=>rfl) (fun _ _=>rfl) (fun b x r k h=>by
   rw[Mi,jB,h]
   simp[Xc])
theorem abW(a:Rule):Q0 a a=some true:=by simp[Q0,Rh,Xc,WQ]
theorem abv:∀(a:List Rule),W_ a a=some true:=
 Xl (fun _ _=>rfl) (fun _ _=>rfl) (fun b x r k h=>by
   rw[MG,jB,h]
   simp[abW])
theorem aiS(a:Atom):Q3 a a=some true:=by simp[Q3,Rh,Xc,WQ,abW,abv]
theorem asq:∀(a:List Atom),Xa a a=some true:=
 Xl (fun _ _=>rfl) (fun _ _=>rfl) (fun b x r k h=>by
   rw[MH,jB,h]
   simp[aiS])
theorem asr(a:aV):QE a a=some true:=by simp[QE,aiS,asq,Rh,Xc,WQ,abW,abv]
end Go.Proofs.YtdmapdjncfkhhaaGreatDoor
/-
 Plain laws.
-/
set_option maxRecDepth 100000
set_option linter.unusedVariables false
namespace Go.Proofs.YtdmapdjncfkhhaaGreatDoor
open Go Go.Fw
theorem aaV(a b:List Int):QS a b=some (qY (fun x y=>x==y) a b):=
 aiB (L:=I6) (f:=fun x y=>some (x==y)) (fun _ _=>rfl) (fun _ _=>rfl) (fun b x r k y h=>by rw[I6,jB,h]; rfl) a b (fun _ _ _ _=>rfl)
theorem aae(a b:List Int):OY a b=some (qY (fun x y=>x==y) a b):=
 aiB (L:=Hd) (f:=fun x y=>some (x==y)) (fun _ _=>rfl) (fun _ _=>rfl) (fun b x r k y h=>by rw[Hd,jB,h]; rfl) a b (fun _ _ _ _=>rfl)
def mU:List Int->List Int->Bool:=qY (fun x y=>x==y)
theorem ae5(x y:Int):Md x y=some (jX x y):=by
 simp only[Md,O_,Option.bind_some,jX,bne_self_eq_false,Bool.false_eq_true,if_false,decide_eq_true_eq]
 split
 · rfl
 · split<;>rfl
theorem ae1(s1 b:List Int):∀(l:List Int)(k:Nat),s1.drop k=l->k<=s1.length->DR s1 b l k=some (cmpL l (b.drop k))
 |[],k,hd,hk=>by
   have h1:s1.length<=k:=List.drop_eq_nil_iff.1 hd
   rw[DR]
   cases hb:b.drop k with
   |nil=>
     have h2:b.length<=k:=List.drop_eq_nil_iff.1 hb
     rw[if_neg (by simp; omega)]; rfl
   |cons y t=>
     have h2:k<b.length:=(bW hb).1
     rw[if_pos (by simp; omega)]; rfl
 |x::r,k,hd,hk=>by
   have h1:k<s1.length:=(bW hd).1
   rw[DR]
   cases hb:b.drop k with
   |nil=>
     have h2:b.length<=k:=List.drop_eq_nil_iff.1 hb
     rw[if_pos (by simp; omega)]; rfl
   |cons y t=>
     have h2:k<b.length:=(bW hb).1
     obtain⟨e1,e2⟩:=QJ hb
     rw[if_neg (by simp; omega),jB,e1,Option.bind_some,ae5,Option.bind_some,cmpL]
     split
     · rfl
     · rw[ae1 s1 b r (k+1) (QJ hd).2 h1,e2]
theorem ae9(a b:List Int):L_ a b=some (cmpL a b):=by
 have:=ae1 a b a 0 rfl (by omega)
 simpa[L_]using this
theorem apY(x y:Int):PG [x,y]=some (if x !=0 then x else y):=by
 simp only[PG,Mf]
 split
 · rfl
 · split
   · rfl
   · rename_i h; simp at h; rw[h]
def j_(a b:Fact):Int:=if jX a.Rel b.Rel !=0 then jX a.Rel b.Rel else cmpL a.Values b.Values
theorem aam(a b:Fact):Ik a b=some (j_ a b):=by
 simp only[Ik,ae5,ae9,Option.bind_some,apY,j_]
theorem ae_(a b:Fact)(ha:a.Values.length<4294967296):∀(m k:Nat),k<=a.Values.length->k<=b.Values.length->a.Values.length<k+m->D6 a b m k=some (cmpL (a.Values.drop k) (b.Values.drop k))
 |0,k,h1,_,h2=>by omega
 |m+1,k,h1,h1',h2=>by
   rw[D6]
   by_cases h:k<a.Values.length/\k<b.Values.length
   · rw[if_pos (by simp[h.1,h.2])]
     simp only[jB,List.getElem?_eq_getElem h.1,List.getElem?_eq_getElem h.2,Option.bind_some]
     rw[List.drop_eq_getElem_cons h.1,List.drop_eq_getElem_cons h.2,cmpL,jX]
     by_cases e1:a.Values[k]<b.Values[k]
     · simp[e1]
     · rw[if_neg (by simpa using e1)]
       by_cases e2:b.Values[k]<a.Values[k]
       · simp[e1,e2]
       · rw[if_neg (by simpa using e2),if_neg e1,if_neg e2,show ((k:Int)+1)=((k+1:Nat):Int)from rfl,abo (by omega),ae_ a b ha m (k+1) h.1 h.2 (by omega)]
         simp
   · rw[if_neg (by simp only[Bool.and_eq_true,decide_eq_true_eq]; omega)]
     by_cases h3:k<b.Values.length
     · have:k=a.Values.length:=by omega
       subst this
       rw[if_pos (by simp; omega),List.drop_of_length_le (Nat.le_refl _),List.drop_eq_getElem_cons h3]; rfl
     · rw[List.drop_of_length_le (show b.Values.length<=k by omega),if_neg (by simp; omega)]
       by_cases h4:k<a.Values.length
       · rw[if_pos (by simp; omega),List.drop_eq_getElem_cons h4]; rfl
       · rw[if_neg (by simp; omega),List.drop_of_length_le (by omega)]; rfl
theorem aan(a b:Fact)(ha:a.Values.length<4294967296):H_ a b=some (j_ a b):=by
 unfold H_ j_ jX
 by_cases h:a.Rel=b.Rel
 · rw[if_neg (by simp[h])]
   have:=ae_ a b ha (((a.Values.length:Int)-0).toNat+2) 0 (by omega) (by omega) (by omega)
   rw[show D6 a b (((a.Values.length:Int)-0).toNat+2) 0=_ from this]
   simp[h]
 · rw[if_pos (by simpa using h)]
   by_cases h2:a.Rel<b.Rel
   · simp[h2]
   · have:b.Rel<a.Rel:=by omega
     simp[h2,this]
def xQ(a b:Access):Bool:=a.Method==b.Method&&mU a.Values b.Values
theorem aqC(a b:Access):Nq a b=some (xQ a b):=by
 simp only[Nq,aaV,xQ,mU,Option.bind_some]
 generalize (a.Method==b.Method)=b1
 cases b1<;>rfl
theorem aok(a b:Access):PK a b=some (xQ a b):=by
 simp only[PK,aae,xQ,mU,Option.bind_some]
 generalize (a.Method==b.Method)=b1
 cases b1<;>rfl
theorem He(a:List Int)(h:a.length<4294967296):xI a=some a:=by simp[xI,nD h]
theorem aol(a:Access)(h:arN a):MC a=some a:=by simp[MC,He _ h.1]
theorem agb(m:Int)(v:List Int)(h:v.length<4294967296):M3 m v=some {Method:=m,Values:=v}:=by simp[M3,nD h]
theorem arf(a:List Method)(h:xc Qq a<4294967296):fA lc a:=ab9 (f:=Qq) (fun x hx=>ui _ hx) _ h
def yM(n:Int):Bool:=decide (1<=n)&&decide (n<=3)
def jJ(s:List Int):Bool:=yM (s.length:Int)&&s.all yM
theorem Mo(s:List Int):zm s=some (jJ s):=by
 unfold zm
 rw[Nj (L:=Iu s) (f:=fun n=>lI n 1 3) (p:=yM) (e:=yM (s.length:Int)) (fun k=>by simp[Iu,lI,yM]) (fun x r k=>rfl) s 0 (fun x _=>rfl),jJ,Bool.and_comm]
theorem am8(l:List Int):OU l=some (l.any fun x=>!yM x):=by
 unfold OU VR
 rw[pV (L:=LX) (f:=fun x=>Wv x) (p:=fun x=>!yM x) (fun k=>rfl) (fun x r k=>rfl) l 0 (fun x hx=>rfl),Option.bind_some,uo]
theorem Wm(s:List Int):EL s=some (jJ s):=by
 unfold EL
 rw[am8]
 simp only[pX,Option.bind_some,jJ,yM]
 cases hh:(decide (1<=(s.length:Int))&&decide ((s.length:Int)<=3))
 · simp
 · simp[List.all_eq_not_any_not,yM]
theorem agL{s:List Int}(h:jJ s=true):s.length<=3/\ ∀x∈s,1<=x/\x<=3:=by
 simp[jJ,yM]at h
 exact⟨by omega,h.2⟩
theorem ug(x lo hi:Int):lI x lo hi=some (aZ lo hi x):=rfl
theorem EH(x lo hi:Int):pX x lo hi=some (aZ lo hi x):=rfl
def jK(s:List Int)(rel:Int):Bool:=jJ s&&aZ 0 ((s.length:Int)-1) rel
theorem aaW(s:List Int)(rel:Int)(hs:s.length<4294967296):E9 s rel=some (jK s rel):=by
 simp only[E9,Wm,EH,Option.bind_some,jK]
 rw[fo (by omega) (by omega)]
 cases jJ s<;>rfl
theorem arh{s:List Int}{rel:Int}(h:jK s rel=true):∃x,ix s rel=some x/\1<=x/\x<=3:=by
 simp only[jK,Bool.and_eq_true]at h
 obtain⟨x,h1,h2⟩:=XQ h.2
 exact⟨x,h1,(agL h.1).2 x (List.mem_of_getElem? h2)⟩
def jQ(s:List Int)(rel:Int):Int:=(ix s rel).getD 0
theorem vF{s:List Int}{rel:Int}(h:jK s rel=true):ix s rel=some (jQ s rel)/\1<=jQ s rel/\jQ s rel<=3:=by
 obtain⟨x,h1,h2⟩:=arh h
 unfold jQ
 rw[h1]; exact⟨rfl,h2⟩
def wM(s:List Int)(m:Method):Bool:=jK s m.Rel&&(aZ 0 9 m.Limit&&(aZ 0 99 m.Cost&&(aZ 1 99 m.Quota&&(jY (fun _=>true) (fun y x=>decide (x<=y)) none m.Inputs&&m.Inputs.all (aZ 0 (jQ s m.Rel-1))))))
theorem apj(s:List Int)(m:Method)(hs:s.length<4294967296)(hm:m.Inputs.length<4294967296):MW s m=some (wM s m):=by
 simp only[MW,Mo,ug,Option.bind_some]
 rw[fo (by omega) (by omega)]
 have hL:jK s m.Rel=true->AL s m m.Inputs 0=some (jY (aZ 0 (jQ s m.Rel-1)) (fun y x=>decide (x<=y)) none m.Inputs):=fun h=>by
   obtain⟨e1,e2,e3⟩:=vF h
   have:=ahV (L:=AL s m) (P:=fun _=>True) (p:=aZ 0 (jQ s m.Rel-1)) (q:=fun y x=>decide (x<=y)) (e:=true) m.Inputs (fun _ _=>trivial) hm (fun _=>rfl) (fun x r _=>by
     rw[AL]
     simp only[e1,Option.bind_some,ug,ar7]
     rw[fo (by omega) (by omega)]
     cases aZ 0 (jQ s m.Rel-1) x<;>rfl) (fun x r k y _ _ hy hk=>by
     rw[AL]
     simp only[e1,Option.bind_some,ug,ahW,aiC _ k hk,hy]
     rw[fo (by omega) (by omega)]
     cases aZ 0 (jQ s m.Rel-1) x<;>cases decide (x<=y)<;>rfl)
   simpa using this
 unfold wM
 cases hh:jK s m.Rel
 · simp only[jK]at hh
   cases h1:jJ s
   · rfl
   · rw[h1,Bool.true_and]at hh
     simp[hh]
 · rw[hL hh,abr]
   simp only[jK,Bool.and_eq_true]at hh
   rw[hh.1,hh.2]
   cases aZ 0 9 m.Limit
   · rfl
   cases aZ 0 99 m.Cost
   · rfl
   cases aZ 1 99 m.Quota<;>rfl
theorem aoO(l:List Int)(hl:l.length<4294967296):PU l=some (jY (fun _=>true) (fun y x=>decide (x<=y)) none l):=by
 have:=ahV (L:=Ii l) (P:=fun _=>True) (p:=fun _=>true) (q:=fun y x=>decide (x<=y)) (e:=true) l (fun _ _=>trivial) hl (fun _=>rfl) (fun x r _=>rfl) (fun x r k y _ _ hy hk=>by
     rw[Ii]
     simp only[Option.bind_some,ahW,aiC _ k hk,hy,cond_true]
     cases decide (x<=y)<;>rfl)
 simpa[PU]using this
theorem am2(l:List Int)(a1:Int)(h1:-1000<=a1/\a1<=1000):OQ l a1=some (l.any fun x=>!aZ 0 (a1-1) x):=by
 unfold OQ VO
 rw[pV (L:=LV a1) (f:=fun x=>O9 x a1) (p:=fun x=>!aZ 0 (a1-1) x) (fun k=>rfl) (fun x r k=>rfl) l 0 (fun x hx=>by rw[O9,EH,fo (by omega) (by omega)]; rfl),Option.bind_some,uo]
theorem aqD(n:Int):Xo n=some (aZ 0 99 n):=rfl
theorem apk(s:List Int)(m:Method)(hs:s.length<4294967296)(hm:m.Inputs.length<4294967296):Qj s m=some (wM s m):=by
 simp only[Qj,aaW _ _ hs,Option.bind_some,wM]
 cases hh:jK s m.Rel
 · rfl
 obtain⟨e1,e2,e3⟩:=vF hh
 simp only[e1,Option.bind_some,Wh,aoO _ hm,am2 _ _ (show -1000<=jQ s m.Rel/\jQ s m.Rel<=1000 by omega),EH,aqD,cond_true,Bool.true_and]
 have e4:(m.Inputs.any fun x=>!aZ 0 (jQ s m.Rel-1) x)=!(m.Inputs.all (aZ 0 (jQ s m.Rel-1))):=by simp[List.all_eq_not_any_not]
 rw[e4]
 cases jY (fun _=>true) (fun y x=>decide (x<=y)) none m.Inputs<;>cases m.Inputs.all (aZ 0 (jQ s m.Rel-1))<;>cases aZ 0 9 m.Limit<;>cases aZ 0 99 m.Cost<;>cases aZ 1 99 m.Quota<;>rfl
def f_(s:List Int)(l:List Method):Bool:=jJ s&&(decide ((l.length:Int)<=5)&&l.all (wM s))
theorem afH(s:List Int)(l:List Method)(hs:s.length<4294967296)(hl:fA lc l):Ms s l=some (f_ s l):=by
 unfold Ms
 rw[Nj (L:=HZ s l) (f:=fun m=>MW s m) (p:=wM s) (e:=jJ s&&decide ((l.length:Int)<=5)) (fun k=>by
   rw[HZ,Mo]
   cases jJ s<;>rfl) (fun x r k=>rfl) l 0 (fun x hx=>apj s x hs (hl.2 x hx).1),f_]
 cases jJ s<;>cases decide ((l.length:Int)<=5)<;>cases l.all (wM s)<;>rfl
theorem amF(l:List Method)(s:List Int)(hs:s.length<4294967296)(hl:fA lc l):OI l s=some (l.any fun x=>!wM s x):=by
 unfold OI VD
 rw[pV (L:=LG s) (f:=fun x=>Pj x s) (p:=fun x=>!wM s x) (fun k=>rfl) (fun x r k=>rfl) l 0 (fun x hx=>by rw[Pj,apk s x hs (hl.2 x hx).1]; rfl),Option.bind_some,uo]
theorem afI(s:List Int)(l:List Method)(hs:s.length<4294967296)(hl:fA lc l):MB s l=some (f_ s l):=by
 simp only[MB,Wm,Option.bind_some,amF l s hs hl,f_,List.all_eq_not_any_not]
 cases jJ s<;>cases decide ((l.length:Int)<=5)<;>rfl
def iP(s:List Int)(r:Rule):Bool:=jK s r.From&&(jK s r.To&&(((r.Map.length:Int)==jQ s r.To)&&r.Map.all (aZ 0 (jQ s r.From-1))))
theorem aqE(s:List Int)(r:Rule)(hs:s.length<4294967296):Nk s r=some (iP s r):=by
 simp only[Nk,Mo,ug,Option.bind_some]
 rw[fo (by omega) (by omega)]
 have hL:jK s r.From=true->Ey s r r.Map 0=some (r.Map.all (aZ 0 (jQ s r.From-1))):=fun h=>by
   obtain⟨e1,e2,e3⟩:=vF h
   have:=Nj (L:=Ey s r) (f:=fun x=>some (aZ 0 (jQ s r.From-1) x)) (p:=aZ 0 (jQ s r.From-1)) (e:=true) (fun _=>rfl) (fun x r' k=>by
     rw[Ey]
     simp only[e1,Option.bind_some,ug]
     rw[fo (by omega) (by omega)]) r.Map 0 (fun _ _=>rfl)
   simpa using this
 unfold iP
 cases hF:jK s r.From
 · simp only[jK]at hF
   cases h1:jJ s
   · rfl
   · rw[h1,Bool.true_and]at hF
     simp[hF]
 · cases hT:jK s r.To
   · simp only[jK]at hT hF
     simp only[Bool.and_eq_true]at hF
     rw[hF.1,Bool.true_and]at hT
     simp[hF,hT]
   · obtain⟨e1,-⟩:=vF hT
     rw[hL hF,e1]
     simp only[jK,Bool.and_eq_true]at hF hT
     simp only[hF,hT,Bool.not_true,cond_false,Option.bind_some,bne]
     cases ((r.Map.length:Int)==jQ s r.To)<;>rfl
theorem am0(l:List Int)(a1:Int)(h1:-1000<=a1/\a1<=1000):OP l a1=some (l.any fun x=>!aZ 0 (a1-1) x):=by
 unfold OP VM
 rw[pV (L:=LU a1) (f:=fun x=>O5 x a1) (p:=fun x=>!aZ 0 (a1-1) x) (fun k=>rfl) (fun x r k=>rfl) l 0 (fun x hx=>by rw[O5,EH,fo (by omega) (by omega)]; rfl),Option.bind_some,uo]
theorem aqF(s:List Int)(r:Rule)(hs:s.length<4294967296):QW s r=some (iP s r):=by
 simp only[QW,aaW _ _ hs,Option.bind_some,iP]
 cases hF:jK s r.From
 · rfl
 cases hT:jK s r.To
 · rfl
 obtain⟨e1,e2,e3⟩:=vF hF
 obtain⟨e4,-⟩:=vF hT
 simp only[e1,e4,Option.bind_some,V_,am0 _ _ (show -1000<=jQ s r.From/\jQ s r.From<=1000 by omega),cond_true,Bool.true_and,List.all_eq_not_any_not]
 cases ((r.Map.length:Int)==jQ s r.To)<;>rfl
def kN(s:List Int)(l:List Rule):Bool:=jJ s&&(decide ((l.length:Int)<=4)&&l.all (iP s))
theorem apl(s:List Int)(l:List Rule)(hs:s.length<4294967296):Qa s l=some (kN s l):=by
 unfold Qa
 rw[Nj (L:=Iw s l) (f:=fun m=>Nk s m) (p:=iP s) (e:=jJ s&&decide ((l.length:Int)<=4)) (fun k=>by
   rw[Iw,Mo]
   cases jJ s<;>rfl) (fun x r k=>rfl) l 0 (fun x hx=>aqE s x hs),kN]
 cases jJ s<;>cases decide ((l.length:Int)<=4)<;>cases l.all (iP s)<;>rfl
theorem amO(l:List Rule)(s:List Int)(hs:s.length<4294967296):OL l s=some (l.any fun x=>!iP s x):=by
 unfold OL VH
 rw[pV (L:=LJ s) (f:=fun x=>Py x s) (p:=fun x=>!iP s x) (fun k=>rfl) (fun x r k=>rfl) l 0 (fun x hx=>by rw[Py,aqF s x hs]; rfl),Option.bind_some,uo]
theorem apm(s:List Int)(l:List Rule)(hs:s.length<4294967296):Qk s l=some (kN s l):=by
 simp only[Qk,Wm,Option.bind_some,amO l s hs,kN,List.all_eq_not_any_not]
 cases jJ s<;>cases decide ((l.length:Int)<=4)<;>rfl
theorem am5(l:List Int):OT l=some (l.any fun x=>!aZ 0 9 x):=by
 unfold OT VQ
 rw[pV (L:=LW) (f:=fun x=>Wl x) (p:=fun x=>!aZ 0 9 x) (fun k=>rfl) (fun x r k=>rfl) l 0 (fun x hx=>rfl),Option.bind_some,uo]
theorem aoP(l:List Int):P6 l=some (l.all (aZ 0 9)):=by
 simp only[P6,am5,Option.bind_some,List.all_eq_not_any_not]
def iI(s:List Int)(f:Fact):Bool:=jK s f.Rel&&(((f.Values.length:Int)==jQ s f.Rel)&&f.Values.all (aZ 0 9))
def acj(s:List Int)(l:List Fact):Bool:=jY (iI s) (fun y x=>decide (0<=j_ y x)) none l&&(jJ s&&decide ((l.length:Int)<=24))
def wY(l:List Method)(m:Int):Method:=(ix l m).getD ⟨0,[],0,0,0⟩
theorem Xp{l:List Method}{m:Int}(h:aZ 0 ((l.length:Int)-1) m=true):ix l m=some (wY l m)/\wY l m∈l:=by
 obtain⟨x,h1,h2⟩:=XQ h
 unfold wY
 rw[h1]; exact⟨rfl,List.mem_of_getElem? h2⟩
def xX(s:List Int)(l:List Method)(a:Access):Bool:=f_ s l&&(aZ 0 ((l.length:Int)-1) a.Method&&(((a.Values.length:Int)==((wY l a.Method).Inputs.length:Int))&&a.Values.all (aZ 0 9)))
theorem agc(a b:List Int)(ha:a.length<4294967296):∀(m k:Nat),k<=a.length->k<=b.length->a.length<k+m->I8 a b m k=some (decide (cmpL (a.drop k) (b.drop k)<0))
 |0,k,h1,_,h2=>by omega
 |m+1,k,h1,h1',h2=>by
   rw[I8]
   by_cases h:k<a.length/\k<b.length
   · rw[if_pos (by simp[h.1,h.2])]
     simp only[jB,List.getElem?_eq_getElem h.1,List.getElem?_eq_getElem h.2,Option.bind_some]
     rw[List.drop_eq_getElem_cons h.1,List.drop_eq_getElem_cons h.2,cmpL,jX]
     by_cases e:a[k]=b[k]
     · rw[if_neg (by simp[e]),show ((k:Int)+1)=((k+1:Nat):Int)from rfl,abo (by omega),agc a b ha m (k+1) h.1 h.2 (by omega)]
       simp[e]
     · rw[if_pos (by simpa using e)]
       by_cases e1:a[k]<b[k]
       · simp[e1]
       · have e2:b[k]<a[k]:=by omega
         simp[e1,e2]
   · rw[if_neg (by simp only[Bool.and_eq_true,decide_eq_true_eq]; omega)]
     by_cases h3:k<b.length
     · have:k=a.length:=by omega
       subst this
       rw[List.drop_of_length_le (Nat.le_refl _),List.drop_eq_getElem_cons h3]
       simp[cmpL,h3]
     · rw[List.drop_of_length_le (show b.length<=k by omega)]
       by_cases h4:k<a.length
       · rw[List.drop_eq_getElem_cons h4]
         simp[cmpL]; omega
       · rw[List.drop_of_length_le (by omega)]
         simp[cmpL]; omega
theorem aqG(a b:List Int)(ha:a.length<4294967296):QU a b=some (decide (cmpL a b<0)):=by
 have:=agc a b ha (((a.length:Int)-0).toNat+2) 0 (by omega) (by omega) (by omega)
 simpa[QU]using this
def NY(f:Fact)(vals:List Int):List Int->Nat->Bool
 |[],_=>true
 |x::r,k=>(f.Values[x.toNat]?.getD 0==vals[k]?.getD 0)&&NY f vals r (k+1)
def zQ(m:Method)(vals:List Int)(f:Fact):Bool:=f.Rel==m.Rel&&NY f vals m.Inputs 0
theorem Ny(l:List Int)(x:Int)(h:0<=x/\x<(l.length:Int)):ix l x=some (l[x.toNat]?.getD 0):=by
 have hlt:x.toNat<l.length:=by omega
 unfold ix
 rw[if_pos h.1,List.getElem?_eq_getElem hlt]; rfl
theorem agd(vals:List Int)(f:Fact):∀(l:List Int)(k:Nat),(∀x∈l,0<=x/\x<(f.Values.length:Int))->k+l.length<=vals.length->I_ vals f l k=some (NY f vals l k)
 |[],_,_,_=>rfl
 |x::r,k,h,hl=>by
   simp only[List.length_cons]at hl
   rw[I_,Ny _ _ (h x (by simp)),Ny _ _ ⟨by omega,by omega⟩,Option.bind_some,Option.bind_some,NY,Int.toNat_natCast]
   by_cases e:f.Values[x.toNat]?.getD 0=vals[k]?.getD 0
   · rw[if_neg (by simp[e]),agd vals f r (k+1) (fun y hy=>h y (by simp[hy])) (by omega)]; simp[e]
   · rw[if_pos (by simpa using e)]; simp[e]
theorem afX(f:Fact)(a:Access):∀(l:List Int)(k:Nat),(∀x∈l,0<=x/\x<(f.Values.length:Int))->k+l.length<=a.Values.length->Ip f a l k=some (!NY f a.Values l k)
 |[],_,_,_=>rfl
 |x::r,k,h,hl=>by
   simp only[List.length_cons]at hl
   rw[Ip,Ny _ _ (h x (by simp)),Ny _ _ ⟨by omega,by omega⟩,Option.bind_some,Option.bind_some,NY,Int.toNat_natCast]
   by_cases e:f.Values[x.toNat]?.getD 0=a.Values[k]?.getD 0
   · rw[if_neg (by simp[e]),afX f a r (k+1) (fun y hy=>h y (by simp[hy])) (by omega)]; simp[e]
   · rw[if_pos (by simpa using e)]; simp[e]
def Rx(m:Method)(vals:List Int)(f:Fact):Prop:=(f.Rel=m.Rel-> ∀x∈m.Inputs,0<=x/\x<(f.Values.length:Int))/\m.Inputs.length<=vals.length
theorem aqH(m:Method)(vals:List Int)(f:Fact)(h:Rx m vals f):QV m vals f=some (zQ m vals f):=by
 unfold QV zQ
 by_cases e:f.Rel=m.Rel
 · rw[if_neg (by simp[e]),agd vals f m.Inputs 0 (h.1 e) (by have:=h.2; omega)]; simp[e]
 · rw[if_pos (by simpa using e)]; simp[e]
theorem aoQ(f:Fact)(m:Method)(a:Access)(h:Rx m a.Values f):xO f m a=some (!zQ m a.Values f):=by
 unfold xO zQ
 by_cases e:f.Rel=m.Rel
 · rw[if_neg (by simp[e]),afX f a m.Inputs 0 (h.1 e) (by have:=h.2; omega)]; simp[e]
 · rw[if_pos (by simpa using e)]; simp[e]
theorem ahp{s:List Int}{l:List Method}{a:Access}{f:Fact}(h1:xX s l a=true)(h2:iI s f=true):Rx (wY l a.Method) a.Values f:=by
 simp only[xX,f_,Bool.and_eq_true,List.all_eq_true]at h1
 obtain⟨⟨-,-,hm⟩,hi,hv,-⟩:=h1
 have hmm:=hm _ (Xp hi).2
 simp only[wM,Bool.and_eq_true,List.all_eq_true]at hmm
 obtain⟨-,-,-,-,-,hin⟩:=hmm
 simp only[iI,Bool.and_eq_true]at h2
 obtain⟨-,hf,-⟩:=h2
 refine⟨fun e x hx=>?_,by simp at hv; omega⟩
 have:=hin x hx
 simp[aZ]at this hf
 rw[hf,e]
 omega
theorem aaD(a:Fact)(h:l5 a):Jg a=some a:=by simp[Jg,He _ h.1]
theorem Wd(l:List Fact)(h:fA l5 l):MO l=some l:=
 ahU (L:=Im) (fun _ _=>rfl) (fun x r k c hx hc=>by rw[Im,aaD x hx,Option.bind_some,app1 hc,Option.bind_some]) l h
theorem apZ(s:List Int)(l:List Method)(facts:List Fact)(a:Access)(h1:xX s l a=true)(h2:∀f∈facts,iI s f=true)(hb:fA l5 facts):Na l facts a=some (facts.filter (zQ (wY l a.Method) a.Values)):=by
 have hi:aZ 0 ((l.length:Int)-1) a.Method=true:=by
   simp only[xX,Bool.and_eq_true]at h1
   exact h1.2.1
 rw[Na,(Xp hi).1,Option.bind_some,Wd facts hb,Option.bind_some,VI,
   aiD (p:=fun f=>!zQ (wY l a.Method) a.Values f) (fun f hf=>aoQ f _ a (ahp h1 (h2 f hf)))]
 simp
theorem apn(log:List Access)(a:Access):Qi log a=some (log.any fun x=>xQ x a):=
 ahX (L:=Ml a) (f:=fun x=>Nq x a) (fun _=>rfl) (fun _ _ _=>rfl) log 0 (fun x _=>aqC x a)
theorem amI(l:List Access)(a:Access):OJ l a=some (l.any fun x=>xQ x a):=by
 unfold OJ VE
 rw[pV (L:=LH a) (f:=fun x=>Pp x a) (p:=fun x=>xQ x a) (fun k=>rfl) (fun x r k=>rfl) l 0 (fun x hx=>by rw[Pp,aok]; rfl),Option.bind_some,uo]
theorem aoR(log:List Access)(a:Access):MP log a=some (log.any fun x=>xQ x a):=by
 rw[MP,amI]; rfl
theorem Ji(r:Int)(v:List Int)(h:v.length<4294967296):zA r v=some {Rel:=r,Values:=v}:=by simp[zA,nD h]
theorem aoS(m:Method)(vals:List Int)(facts:List Fact)(hf:∀f∈facts,Rx m vals f)(hb:fA l5 facts):MM m vals facts=some (facts.filter (zQ m vals)):=by
 have:=agw (L:=Ib m vals) (P:=fun f=>Rx m vals f/\l5 f) (p:=zQ m vals) (fun _ _=>rfl) (fun x r k c hx hc=>by
   rw[Ib,aqH _ _ _ hx.1,Option.bind_some]
   cases zQ m vals x<;>simp[Ji _ _ hx.2.1,app1 hc]) facts 0 [] (fun x hx=>⟨hf x hx,hb.2 x hx⟩) (by simpa using hb.1)
 simpa[MM]using this
theorem agM(l:List Fact)(h:fA l5 l):Xn l=some l:=
 ahU (L:=I9) (fun _ _=>rfl) (fun x r k c hx hc=>by rw[I9,Ji _ _ hx.1,Option.bind_some,app1 hc,Option.bind_some]) l h
theorem ahq(x y:Int):jX y x= -jX x y:=by
 unfold jX
 repeat' split
 all_goals omega
theorem ahr:∀(a b:List Int),cmpL b a= -cmpL a b
 |[],[]=>rfl
 |[],_::_=>rfl
 |_::_,[]=>rfl
 |x::a,y::b=>by
   simp only[cmpL,ahq x y,ahr a b]
   by_cases h:jX x y=0
   · simp[h]
   · rw[if_pos (by simp only[bne_iff_ne]; omega),if_pos (by simpa using h)]
theorem apo(a b:Fact):j_ b a= -j_ a b:=by
 unfold j_
 rw[ahq a.Rel b.Rel,ahr a.Values b.Values]
 by_cases h:jX a.Rel b.Rel=0
 · simp[h]
 · rw[if_pos (by simp only[bne_iff_ne]; omega),if_pos (by simpa using h)]
def rM(l:List Fact)(f:Fact):Bool:=l.any fun x=>j_ x f==0
theorem aaJ(l:List Fact)(f:Fact)(h:fA l5 l):ES l f=some (rM l f):=by
 have hx:∀x∈l,x.Values.length<4294967296:=fun x hx=>(h.2 x hx).1
 clear h
 unfold ES
 generalize 0=k
 induction l generalizing k with
 |nil=>rfl
 |cons x l ih=>
   unfold Mv
   rw[aan x f (hx x (by simp)),Option.bind_some]
   by_cases h:j_ x f=0
   · rw[if_pos (by simpa using h)]; simp[rM,h]
   · rw[if_neg (by simpa using h),ih (fun y hy=>hx y (by simp[hy]))]; simp[rM,h]
theorem amR(l:List Fact)(f:Fact):OO l f=some (rM l f):=by
 unfold OO VK
 rw[pV (L:=LM f) (f:=fun x=>PY x f) (p:=fun x=>j_ x f==0) (fun k=>rfl) (fun x r k=>rfl) l 0 (fun x hx=>by rw[PY,aam]; rfl),Option.bind_some,uo]
 rfl
theorem aaK(l:List Fact)(f:Fact):EX l f=some (rM l f):=by
 rw[EX,amR]; rfl
def oU(f:Fact):List Fact->List Fact
 |[]=>[f]
 |x::l=>if 0<j_ x f then f::x::l else x::oU f l
theorem aa_(f:Fact):∀l:List Fact,(oU f l).length=l.length+1
 |[]=>rfl
 |x::l=>by
   unfold oU
   split
   · rfl
   · simp[aa_ f l]
theorem ahs{f y:Fact}:∀{l:List Fact},y∈oU f l->y=f\/y∈l
 |[],h=>by simp[oU]at h; exact .inl h
 |x::l,h=>by
   unfold oU at h
   split at h
   · simp at h; simp[h]
   · rcases List.mem_cons.1 h with h|h
     · simp[h]
     · rcases ahs h with h|h<;>simp[h]
theorem ah8(f:Fact):∀(l:List Fact)(k:Nat),(jE (fun x=>decide (0<j_ x f)) l k= -1/\oU f l=l++[f])\/ ∃j:Nat,j<l.length/\jE (fun x=>decide (0<j_ x f)) l k=((k+j:Nat):Int)/\oU f l=l.take j++f::l.drop j
 |[],k=>.inl ⟨rfl,rfl⟩
 |x::l,k=>by
   unfold jE oU
   by_cases h:0<j_ x f
   · rw[if_pos h,if_pos (by simpa using h)]
     exact .inr ⟨0,by simp,by simp,by simp⟩
   · rw[if_neg h,if_neg (by simpa using h)]
     rcases ah8 f l (k+1)with⟨h1,h2⟩|⟨j,h1,h2,h3⟩
     · exact .inl ⟨h1,by rw[h2]; rfl⟩
     · exact .inr ⟨j+1,by simp; omega,by rw[h2]; congr 1; omega,by rw[h3]; rfl⟩
def eZ(l:List Fact)(f:Fact):List Fact:=if rM l f then l else oU f l
theorem QG(l:List Fact)(f:Fact):(eZ l f).length<=l.length+1:=by
 unfold eZ
 split
 · omega
 · rw[aa_]; exact Nat.le_refl _
theorem aht{l:List Fact}{f y:Fact}(h:y∈eZ l f):y=f\/y∈l:=by
 unfold eZ at h
 split at h
 · exact .inr h
 · exact ahs h
theorem aa3(l:List Fact)(f:Fact)(hl:l.length+1<4294967296)(hf:l5 f):zB l f=some (eZ l f):=by
 unfold zB eZ
 rw[aaK,Option.bind_some]
 cases hh:rM l f
 · rw[if_neg (by simp),if_neg (by simp)]
   have hix:VL l f=some (jE (fun x=>decide (0<j_ x f)) l 0):=
     pV (L:=LQ f) (f:=fun x=>QC x f) (p:=fun x=>decide (0<j_ x f)) (fun k=>rfl) (fun x r k=>rfl) l 0 (fun x hx=>by rw[QC,aam]; rfl)
   rw[hix,Option.bind_some]
   rcases ah8 f l 0 with⟨h1,h2⟩|⟨j,h1,h2,h3⟩
   · rw[h1,if_pos (by decide),aaD f hf,Option.bind_some,L8,h2]
     rw[if_pos ⟨by omega,by omega,hl⟩,Option.bind_some,Int.toNat_natCast,List.take_length,List.drop_length]
   · rw[h2,if_neg (by simp only[decide_eq_true_eq]; omega),aaD f hf,Option.bind_some,L8,h3]
     rw[if_pos ⟨by omega,by omega,hl⟩,Option.bind_some,Int.toNat_natCast,Nat.zero_add]
 · rw[if_pos rfl,if_pos rfl]
theorem aao(f:Fact):∀(l:List Fact)(k:Nat)(c:List Fact),(∀x∈l,l5 x)->c.length+l.length<4294967296->xN f l k c true=some (c++l)
 |[],k,c,_,_=>by simp[xN]
 |x::l,k,c,hx,h=>by
   simp only[List.length_cons]at h
   unfold xN
   rw[Bool.not_true,cond_false,Option.bind_some]
   dsimp only
   rw[if_neg (by simp),Ji _ _ (hx x (by simp)).1,Option.bind_some,kz (by simp; omega),Option.bind_some,Option.bind_some]
   dsimp only
   rw[aao f l _ _ (fun y hy=>hx y (by simp[hy])) (by simp; omega)]
   simp
theorem afJ(f:Fact)(hf:l5 f):∀(l:List Fact)(k:Nat)(c:List Fact)(b:Bool),(∀x∈l,l5 x)->c.length+l.length+1<4294967296->xN f l k c b=some (if b then c++l else c++oU f l)
 |[],k,c,b,_,h=>by
   unfold xN
   cases b
   · rw[if_pos (show (!false)=true from rfl),Ji _ _ hf.1,Option.bind_some,kz (by simp at h ⊢; omega),if_neg (by simp)]; rfl
   · simp
 |x::l,k,c,b,hx,h=>by
   simp only[List.length_cons]at h
   have hx1:=hx x (by simp)
   have hx2:∀y∈l,l5 y:=fun y hy=>hx y (by simp[hy])
   unfold xN
   cases b
   · rw[Bool.not_false,cond_true,aan f x hf.1,Option.bind_some,Option.bind_some]
     dsimp only
     have ha:=apo f x
     by_cases hc:0<j_ x f
     · rw[if_pos (by simp only[decide_eq_true_eq]; omega),Ji _ _ hf.1,Option.bind_some,kz (by simp; omega),Option.bind_some,Ji _ _ hx1.1,Option.bind_some,kz (by simp; omega),Option.bind_some,Option.bind_some]
       dsimp only
       rw[aao f l _ _ hx2 (by simp; omega),if_neg (by simp)]
       simp[oU,hc]
     · rw[if_neg (by simp only[decide_eq_true_eq]; omega),Ji _ _ hx1.1,Option.bind_some,kz (by simp; omega),Option.bind_some,Option.bind_some]
       dsimp only
       rw[afJ f hf l _ _ _ hx2 (by simp; omega),if_neg (by simp),if_neg (by simp)]
       simp[oU,hc]
   · rw[if_pos rfl]
     exact aao f (x::l) k c hx (by simp; omega)
theorem aaL(l:List Fact)(f:Fact)(hb:fA l5 l)(hl:l.length+1<4294967296)(hf:l5 f):vB l f=some (eZ l f):=by
 unfold vB eZ
 rw[aaJ l f hb,Option.bind_some,afJ f hf l 0 [] _ hb.2 (by simpa using hl),List.nil_append,List.nil_append]
def kI(n:Int):List UInt8:=[UInt8.ofNat (48+n.toNat)]
theorem aaA{K:Nat}(hK:2<=K)(n:Int)(h:0<=n/\n<=9):EC K n=some (kI n):=by
 obtain⟨k,rfl⟩:∃k,K=k+2:=⟨K-2,by omega⟩
 obtain⟨h0,h1⟩:=h
 have:n=0\/n=1\/n=2\/n=3\/n=4\/n=5\/n=6\/n=7\/n=8\/n=9:=by omega
 rcases this with rfl|rfl|rfl|rfl|rfl|rfl|rfl|rfl|rfl|rfl<;>rfl
theorem ass(n:Int)(h:0<=n/\n<=9):Lib.itoa n=kI n:=by
 unfold Lib.itoa kI
 rw[if_neg (by omega),Lib.decDigits,dif_pos (by omega)]
theorem afY(n:Int)(h:0<=n/\n<=9):EG n=some (kI n):=by
 rw[EG,Pm,if_pos (by omega),ass n h]; rfl
theorem agX(x y:List UInt8)(l:List (List UInt8))(sep:List UInt8):Lib.join (x::y::l) sep=x++(sep++Lib.join (y::l) sep):=by
 simp[Lib.join,List.intercalate,List.intersperse]
theorem join_one(x:List UInt8)(sep:List UInt8):Lib.join [x] sep=x:=by
 simp[Lib.join,List.intercalate,List.intersperse]
def rO(sep:List UInt8)(l:List (List UInt8)):List UInt8:=l.flatMap fun x=>sep++x
theorem Nb(x:List UInt8)(sep:List UInt8):∀l:List (List UInt8),Lib.join (x::l) sep=x++rO sep l
 |[]=>by rw[join_one]; simp[rO]
 |y::l=>by rw[agX,Nb y sep l]; simp[rO]
theorem aa'(sep:List UInt8)(n:Nat):∀l:List (List UInt8),(∀x∈l,x.length<=n)->(rO sep l).length<=(sep.length+n)*l.length
 |[],_=>by simp[rO]
 |x::l,h=>by
   have h1:=aa' sep n l fun y hy=>h y (by simp[hy])
   have h2:=h x (by simp)
   simp only[rO,List.flatMap_cons,List.length_append,List.length_cons,Nat.mul_succ]at*
   omega
theorem afZ{K:Nat}(hK:2<=K):∀(l:List Int)(k:Nat)(c:List UInt8),0<k->(∀x∈l,0<=x/\x<=9)->c.length+2*l.length<4294967296->vz K l k c=some (c++rO [44] (l.map kI))
 |[],k,c,_,_,_=>by simp[vz,rO]
 |x::l,k,c,hk,h,hl=>by
   simp only[List.length_cons]at hl
   have e1:gV c [44]=some (c++[44]):=by unfold gV; rw[if_pos (by simp; omega)]
   have e2:gV (c++[44]) (kI x)=some (c++[44]++kI x):=by unfold gV; rw[if_pos (by simp[kI]; omega)]
   unfold vz
   rw[if_pos (by simpa using hk),e1,Option.bind_some,aaA hK x (h x (by simp)),Option.bind_some,e2,Option.bind_some,Option.bind_some]
   dsimp only
   rw[afZ hK l _ _ (by omega) (fun y hy=>h y (by simp[hy])) (by simp[kI]; omega)]
   simp[rO]
theorem aqI{K:Nat}(hK:2<=K)(l:List Int)(h:∀x∈l,0<=x/\x<=9)(hl:l.length<=3):Bb K l=some (Lib.join (l.map kI) [44]):=by
 unfold Bb
 cases l with
 |nil=>rfl
 |cons x l=>
   simp only[List.length_cons]at hl
   have e2:gV [] (kI x)=some (kI x):=by unfold gV; rw[if_pos (by simp[kI])]; rfl
   unfold vz
   rw[if_neg (by simp),aaA hK x (h x (by simp)),Option.bind_some,e2,Option.bind_some,Option.bind_some]
   dsimp only
   rw[afZ hK l _ _ (by omega) (fun y hy=>h y (by simp[hy])) (by simp[kI]; omega),List.map_cons,Nb]
theorem af0:∀(l:List Int)(k:Nat)(c:List (List UInt8)),(∀x∈l,0<=x/\x<=9)->c.length+l.length<=3->(∀x∈c,x.length<=1)->xP [44] l k c=some (Lib.join (c++l.map kI) [44])
 |[],k,c,_,hl,hc=>by
   have hj:(Lib.join c [44]).length<=10:=by
     cases c with
     |nil=>simp[Lib.join,List.intercalate]
     |cons x c=>
       rw[Nb,List.length_append]
       have h1:=aa' [44] 1 c fun y hy=>hc y (by simp[hy])
       have h2:=hc x (by simp)
       simp only[List.length_cons,List.length_nil]at h1 hl
       omega
   simp only[List.length_nil,Nat.add_zero]at hl
   unfold xP
   rw[Iq,if_pos ⟨by omega,by omega⟩]
   simp
 |x::l,k,c,h,hl,hc=>by
   simp only[List.length_cons]at hl
   unfold xP
   rw[afY x (h x (by simp)),Option.bind_some,kz (by simp; omega),Option.bind_some,af0 l _ _ (fun y hy=>h y (by simp[hy])) (by simp; omega) (fun y hy=>by
     rcases List.mem_append.1 hy with hy|hy
     · exact hc y hy
     · rw[List.mem_singleton.1 hy]; simp[kI])]
   simp
theorem aqJ(l:List Int)(h:∀x∈l,0<=x/\x<=9)(hl:l.length<=3):Bf l [44]=some (Lib.join (l.map kI) [44]):=by
 rw[Bf,af0 l 0 [] h (by simpa using hl) (by simp)]; rfl
theorem aba(l:List Int)(hl:l.length<=3):(Lib.join (l.map kI) [44]).length<=7:=by
 cases l with
 |nil=>simp[Lib.join,List.intercalate]
 |cons x l=>
   rw[List.map_cons,Nb,List.length_append]
   have h1:=aa' [44] 1 (l.map kI) fun y hy=>by
     obtain⟨z,-,rfl⟩:=List.mem_map.1 hy
     simp[kI]
   simp only[List.length_cons,List.length_nil,List.length_map]at h1 hl
   have:(kI x).length=1:=rfl
   omega
theorem ahu{l:List Int}(h:l.all (aZ 0 9)=true):∀x∈l,0<=x/\x<=9:=by
 simpa only[List.all_eq_true,aZ,Bool.and_eq_true,decide_eq_true_eq]using h
theorem Wn(u:Nat):Lib.decDigits u=if u<10 then [UInt8.ofNat (48+u)]else Lib.decDigits (u / 10)++[UInt8.ofNat (48+u % 10)]:=by
 rw[Lib.decDigits]
 by_cases h:u<10
 · rw[dif_pos h,if_pos h]
 · rw[dif_neg h,if_neg h]
theorem Wo:∀(m u:Nat),u<10 ^ (m+1)->(Lib.decDigits u).length<=m+1
 |0,u,h=>by rw[Wn,if_pos (by simpa using h)]; simp
 |m+1,u,h=>by
   rw[Wn]
   split
   · simp
   · have:=Wo m (u / 10) (by rw[Nat.pow_succ]at h; omega)
     rw[List.length_append,List.length_singleton]; omega
theorem Xq(n:Int)(h:-9223372036854775808<=n/\n<=9223372036854775807):(Lib.itoa n).length<=20:=by
 unfold Lib.itoa
 split
 · have:=Wo 18 n.natAbs (by omega)
   rw[List.length_cons]; omega
 · have:=Wo 18 n.toNat (by omega)
   omega
theorem afh:∀(m u:Nat)(n:Int)(c:List UInt8),n.natAbs=u->u<10 ^ m-> -9223372036854775808<=n/\n<=9223372036854775807->c.length+m<4294967296->zl (m+1) n c=some ((if u=0 then []else Lib.decDigits u)++c)
 |0,u,n,c,hu,h,_,_=>by
   have h0:n=0:=by simp at h; omega
   subst h0
   have:u=0:=by simpa using hu.symm
   subst this
   unfold zl
   rw[if_neg (by simp)]; rfl
 |m+1,u,n,c,hu,h,hr,hc=>by
   by_cases h0:u=0
   · have hn:n=0:=by omega
     subst hn
     subst h0
     unfold zl
     rw[if_neg (by simp)]; rfl
   · have hn:n≠0:=by omega
     have hc1:∀b:UInt8,gV [b] c=some (b::c):=fun b=>by unfold gV; rw[if_pos (by simp; omega)]; rfl
     have hd:n.tdiv 10=if n<0 then -((u / 10:Nat):Int)else ((u / 10:Nat):Int):=by
       split
       · have:n= -(u:Int):=by omega
         rw[this,Int.neg_tdiv]; rfl
       · have:n=(u:Int):=by omega
         rw[this]; rfl
     have hm:n.tmod 10=if n<0 then -((u % 10:Nat):Int)else ((u % 10:Nat):Int):=by
       split
       · have:n= -(u:Int):=by omega
         rw[this,Int.neg_tmod]; rfl
       · have:n=(u:Int):=by omega
         rw[this]; rfl
     have hw:IntKind.i64.wrap (n.tdiv 10)=n.tdiv 10:=fo (by rw[hd]; split<;>omega) (by rw[hd]; split<;>omega)
     have hu8:∀r:Nat,r<10->uM (IntKind.i64.wrap (48+(r:Int)))=UInt8.ofNat (48+r):=by
       intro r hr
       have:r=0\/r=1\/r=2\/r=3\/r=4\/r=5\/r=6\/r=7\/r=8\/r=9:=by omega
       rcases this with rfl|rfl|rfl|rfl|rfl|rfl|rfl|rfl|rfl|rfl<;>decide
     have hlt:u % 10<10:=Nat.mod_lt _ (by omega)
     have hgo:=afh m (u / 10) (n.tdiv 10) (UInt8.ofNat (48+u % 10)::c) (by rw[hd]; split<;>omega) (by rw[Nat.pow_succ]at h; omega) (by rw[hd]; split<;>omega) (by simp; omega)
     have hfin:((if u / 10=0 then []else Lib.decDigits (u / 10))++UInt8.ofNat (48+u % 10)::c)=(if u=0 then []else Lib.decDigits u)++c:=by
       rw[if_neg h0,Wn u]
       by_cases h9:u<10
       · rw[if_pos h9,if_pos (by omega),Nat.mod_eq_of_lt h9]; rfl
       · rw[if_neg h9,if_neg (by omega)]; simp
     rw[hfin]at hgo
     unfold zl
     rw[if_pos (by simpa using hn),hw,hm]
     by_cases hneg:n<0
     · rw[if_pos hneg]
       by_cases hz:u % 10=0
       · rw[if_neg (by simp only[decide_eq_true_eq]; omega),show -((u % 10:Nat):Int)=((u % 10:Nat):Int)from by omega,hu8 _ hlt,hc1,Option.bind_some]
         exact hgo
       · rw[if_pos (by simp only[decide_eq_true_eq]; omega),show IntKind.i64.wrap (- -((u % 10:Nat):Int))=((u % 10:Nat):Int)from by rw[Int.neg_neg]; exact fo (by omega) (by omega),hu8 _ hlt,hc1,Option.bind_some]
         exact hgo
     · rw[if_neg hneg,if_neg (by simp only[decide_eq_true_eq]; omega),hu8 _ hlt,hc1,Option.bind_some]
       exact hgo
theorem afK(k:Nat)(n:Int)(hr:-9223372036854775808<=n/\n<=9223372036854775807)(hk:19<=k)(hk2:k<1000):EC (k+1) n=some (Lib.itoa n):=by
 unfold EC Lib.itoa
 by_cases h0:n=0
 · subst h0
   rw[if_pos (by decide),if_neg (by decide),show Int.toNat 0=0 from rfl,Wn]; rfl
 · rw[if_neg (by simpa using h0),afh k n.natAbs n [] rfl (Nat.lt_of_lt_of_le (show n.natAbs<10 ^ 19 by omega) (Nat.pow_le_pow_right (by decide) hk)) hr (by simp; omega),Option.bind_some,if_neg (show ¬ n.natAbs=0 by omega),List.append_nil]
   dsimp only
   by_cases hneg:n<0
   · have:=Wo 18 n.natAbs (by omega)
     rw[if_pos (by simpa using hneg),if_pos hneg]
     unfold gV
     rw[if_pos (by simp; omega)]; rfl
   · rw[if_neg (by simpa using hneg),if_neg hneg,show n.natAbs=n.toNat from by omega]
theorem aom(n:Int)(hr:-9223372036854775808<=n/\n<=9223372036854775807):EG n=some (Lib.itoa n):=by
 rw[EG,Pm,if_pos hr]; rfl
theorem mW{a b:List UInt8}(h:a.length+b.length<4294967296):gV a b=some (a++b):=by unfold gV; rw[if_pos (by omega)]
def oV(l:List Int):List (List UInt8):=l.map Lib.itoa
def DL(l:List Int):Prop:=∀x∈l,-9223372036854775808<=x/\x<=9223372036854775807
theorem Q5(sep:List UInt8):∀l:List (List UInt8),(Lib.join l sep).length<=(l.map List.length).sum+sep.length*l.length
 |[]=>by simp[Lib.join,List.intercalate]
 |[x]=>by rw[join_one]; simp
 |x::y::l=>by
   have:=Q5 sep (y::l)
   rw[agX]
   simp only[List.length_append,List.map_cons,List.sum_cons,List.length_cons,Nat.mul_succ]at*
   omega
theorem ahv:∀l:List Int,DL l->((oV l).map List.length).sum<=20*l.length
 |[],_=>by simp[oV]
 |x::l,h=>by
   have h1:=ahv l fun y hy=>h y (by simp[hy])
   have h2:=Xq x (h x (by simp))
   simp only[oV,List.map_cons,List.sum_cons,List.length_cons]at*
   omega
theorem WR(l:List Int)(h:DL l):(Lib.join (oV l) [44]).length<=21*l.length:=by
 have h1:=Q5 [44] (oV l)
 have h2:=ahv l h
 have h3:(oV l).length=l.length:=by simp[oV]
 simp only[List.length_singleton]at h1
 omega
theorem afL:∀(l:List Int)(k:Nat)(c:List UInt8),0<k->DL l->c.length+21*l.length<4294967296->vz 20 l k c=some (c++rO [44] (oV l))
 |[],k,c,_,_,_=>by simp[vz,rO,oV]
 |x::l,k,c,hk,h,hl=>by
   simp only[List.length_cons]at hl
   have hx:=Xq x (h x (by simp))
   unfold vz
   rw[if_pos (by simpa using hk),mW (by simp; omega),Option.bind_some,afK 19 x (h x (by simp)) (by omega) (by omega),Option.bind_some,mW (by simp; omega),Option.bind_some,Option.bind_some]
   dsimp only
   rw[afL l _ _ (by omega) (fun y hy=>h y (by simp[hy])) (by simp; omega)]
   simp[rO,oV]
theorem agl(l:List Int)(h:DL l)(hl:l.length<=1048576):Bb 20 l=some (Lib.join (oV l) [44]):=by
 unfold Bb
 cases l with
 |nil=>rfl
 |cons x l=>
   simp only[List.length_cons]at hl
   have hx:=Xq x (h x (by simp))
   unfold vz
   rw[if_neg (by simp),afK 19 x (h x (by simp)) (by omega) (by omega),Option.bind_some,mW (by simp; omega),Option.bind_some,Option.bind_some,List.nil_append]
   dsimp only
   rw[afL l _ _ (by omega) (fun y hy=>h y (by simp[hy])) (by omega),show oV (x::l)=Lib.itoa x::oV l from rfl,Nb]
theorem afM:∀(l:List Int)(k:Nat)(c:List (List UInt8)),DL l->c.length+l.length<=1048576->(c.map List.length).sum<=20*c.length->xP [44] l k c=some (Lib.join (c++oV l) [44])
 |[],k,c,_,hl,hc=>by
   have hj:=Q5 [44] c
   simp only[List.length_singleton,List.length_nil,Nat.add_zero]at hj hl
   unfold xP
   rw[Iq,if_pos ⟨by omega,by omega⟩]
   simp[oV]
 |x::l,k,c,h,hl,hc=>by
   simp only[List.length_cons]at hl
   have hx:=Xq x (h x (by simp))
   unfold xP
   rw[aom x (h x (by simp)),Option.bind_some,kz (by simp; omega),Option.bind_some,afM l _ _ (fun y hy=>h y (by simp[hy])) (by simp; omega) (by simp; omega)]
   simp[oV]
theorem agm(l:List Int)(h:DL l)(hl:l.length<=1048576):Bf l [44]=some (Lib.join (oV l) [44]):=by
 rw[Bf,afM l 0 [] h (by simpa using hl) (by simp)]; rfl
def XG(f:Fact):Bool:=aZ 0 2 f.Rel&&(aZ 1 3 (f.Values.length:Int)&&f.Values.all (aZ 0 9))
def uK(f:Fact):List UInt8:=if XG f then [114]++kI f.Rel++[40]++Lib.join (f.Values.map kI) [44]++[41]else []
theorem agY{m v:List UInt8}(hm:m.length<=1)(hv:v.length<=7):(((gV [114] m).bind fun x=>(gV x [40]).bind fun y=>(gV y v).bind fun z=>(gV z [41]).bind fun u=>some u):Option (List UInt8))=some ([114]++m++[40]++v++[41]):=by
 rw[mW (by simp; omega),Option.bind_some,mW (by simp; omega),Option.bind_some,mW (by simp; omega),Option.bind_some,mW (by simp; omega),Option.bind_some]
theorem afi{K:Nat}(hK:2<=K)(a:Fact)(hm:0<=a.Rel/\a.Rel<=2)(hl:a.Values.length<=3):∀(l:List Int)(k:Nat),(l.all (aZ 0 9)=true-> ∀x∈a.Values,0<=x/\x<=9)->Ec a K l k=some (if l.all (aZ 0 9)then [114]++kI a.Rel++[40]++Lib.join (a.Values.map kI) [44]++[41]else [])
 |[],k,hv=>by
   have hv':=hv rfl
   unfold Ec
   rw[aaA hK _ (by omega),Option.bind_some,aqI hK a.Values hv' hl]
   simp only[Option.bind_some]
   rw[if_pos (by rfl)]
   exact agY (by simp[kI]) (aba a.Values hl)
 |x::l,k,hv=>by
   unfold Ec
   rw[ug,Option.bind_some]
   cases h:aZ 0 9 x
   · simp[h]
   · rw[if_neg (by simp),afi hK a hm hl l _ (fun h'=>hv (by simp[h,h']))]; simp[h]
theorem afN{K:Nat}(hK:2<=K)(a:Fact):Mx K a=some (uK a):=by
 unfold Mx uK XG
 rw[ug,Option.bind_some]
 cases h1:aZ 0 2 a.Rel
 · rfl
 rw[ug,Option.bind_some]
 cases h2:aZ 1 3 (a.Values.length:Int)
 · rfl
 have hm:0<=a.Rel/\a.Rel<=2:=by simpa only[aZ,Bool.and_eq_true,decide_eq_true_eq]using h1
 have hn:1<=(a.Values.length:Int)/\(a.Values.length:Int)<=3:=by simpa only[aZ,Bool.and_eq_true,decide_eq_true_eq]using h2
 simp only[Bool.not_true,cond_false,Option.bind_some,Bool.false_eq_true,if_false,Bool.true_and]
 exact afi hK a hm (by omega) a.Values 0 ahu
theorem aon(a:Fact):PL a=some (uK a):=by
 unfold PL uK XG XD
 rw[EH,Option.bind_some,Option.bind_some]
 cases h1:aZ 0 2 a.Rel
 · rfl
 rw[EH,Option.bind_some]
 cases h2:aZ 1 3 (a.Values.length:Int)
 · rfl
 have hm:0<=a.Rel/\a.Rel<=2:=by simpa only[aZ,Bool.and_eq_true,decide_eq_true_eq]using h1
 have hn:1<=(a.Values.length:Int)/\(a.Values.length:Int)<=3:=by simpa only[aZ,Bool.and_eq_true,decide_eq_true_eq]using h2
 simp only[Bool.not_true,cond_false,aoP,Option.bind_some,Bool.true_and]
 cases h3:a.Values.all (aZ 0 9)
 · rfl
 · simp only[Bool.not_true,Bool.false_eq_true,if_false,if_true]
   rw[afY _ (by omega),Option.bind_some,aqJ a.Values (ahu h3) (by omega)]
   simp only[Option.bind_some]
   exact agY (by simp[kI]) (aba a.Values (by omega))
theorem Xd(a:Fact):(uK a).length<=11:=by
 unfold uK
 split
 · rename_i h
   simp only[XG,Bool.and_eq_true,aZ,decide_eq_true_eq]at h
   have:=aba a.Values (by omega)
   simp[kI]; omega
 · simp
def Fs(l:List Fact):List UInt8:=if Lib.join (l.map uK) [32]=[]then [110,111,110,101]else Lib.join (l.map uK) [32]
theorem agZ:∀l:List Fact,((l.map uK).map List.length).sum<=11*l.length
 |[]=>by simp
 |f::l=>by
   have h1:=agZ l
   have h2:=Xd f
   simp only[List.map_cons,List.sum_cons,List.length_cons]at*
   omega
theorem WI(l:List Fact):(Fs l).length<=12*l.length+4:=by
 have h1:=Q5 [32] (l.map uK)
 have h2:=agZ l
 simp only[List.length_singleton,List.length_map]at h1
 unfold Fs
 split
 · simp
 · omega
theorem afv{K:Nat}(hK:2<=K):∀(l:List Fact)(k:Nat)(c:List UInt8),0<k->c.length+12*l.length<4294967296->AQ K l k c=some (if c++rO [32] (l.map uK)=[]then [110,111,110,101]else c++rO [32] (l.map uK))
 |[],k,c,_,_=>by
   unfold AQ
   by_cases hc:c=[]
   · subst hc; rfl
   · rw[if_neg (by simpa using hc),if_neg (by simp[hc])]; simp[rO]
 |f::l,k,c,hk,hl=>by
   simp only[List.length_cons]at hl
   have hf:=Xd f
   unfold AQ
   rw[if_pos (by simpa using hk),mW (by simp; omega),Option.bind_some,afN hK,Option.bind_some,mW (by simp; omega),Option.bind_some,Option.bind_some]
   dsimp only
   rw[afv hK l _ _ (by omega) (by simp; omega)]
   simp[rO]
theorem age{K:Nat}(hK:2<=K)(l:List Fact)(hl:l.length<=1048576):M5 K l=some (Fs l):=by
 unfold M5 Fs
 cases l with
 |nil=>rfl
 |cons f l=>
   simp only[List.length_cons]at hl
   have hf:=Xd f
   unfold AQ
   rw[if_neg (by simp),afN hK,Option.bind_some,mW (by simp; omega),Option.bind_some,Option.bind_some,List.nil_append]
   dsimp only
   rw[afv hK l _ _ (by omega) (by omega),List.map_cons,Nb]
theorem afp:∀(l:List Fact)(k:Nat)(c:List (List UInt8)),c.length+l.length<=1048576->(c.map List.length).sum<=11*c.length->Ef l k c=some (if Lib.join (c++l.map uK) [32]=[]then [110,111,110,101]else Lib.join (c++l.map uK) [32])
 |[],k,c,hl,hc=>by
   have hj:=Q5 [32] c
   simp only[List.length_singleton,List.length_nil,Nat.add_zero]at hj hl
   unfold Ef
   rw[Iq,if_pos ⟨by omega,by omega⟩,Option.bind_some,List.map_nil,List.append_nil]
   by_cases h:Lib.join c [32]=[]
   · rw[if_pos (by simpa using h),if_pos h]
   · rw[if_neg (by simpa using h),if_neg h]
 |f::l,k,c,hl,hc=>by
   simp only[List.length_cons]at hl
   have hf:=Xd f
   unfold Ef
   rw[aon,Option.bind_some,kz (by simp; omega),Option.bind_some,afp l _ _ (by simp; omega) (by simp; omega)]
   simp
theorem af1(l:List Fact)(hl:l.length<=1048576):MQ l=some (Fs l):=by
 unfold MQ Fs
 rw[afp l 0 [] (by simpa using hl) (by simp),List.nil_append]
theorem apq{zs:List Int}(h:zs.Pairwise (· <= ·)):∀m,m<=zs.length->
   (Lib.compactUpTo zs.toArray m).Pairwise (· < ·)/\(∀x,x∈Lib.compactUpTo zs.toArray m↔x∈zs.take m)/\(∀x∈Lib.compactUpTo zs.toArray m,∀y,zs[m]?=some y->x<=y):=by
 intro m
 induction m with
 |zero=>intro _; simp[Lib.compactUpTo]
 |succ m ih=>
   intro hm
   obtain⟨i1,i2,i3⟩:=ih (by omega)
   have hlt:m<zs.length:=by omega
   have hg:zs.toArray[m]! =zs[m]:=by simp[hlt]
   have hnext:∀x,x∈zs.take (m+1)-> ∀y,zs[m+1]?=some y->x<=y:=by
     intro x hx y hy
     obtain⟨j,hj,rfl⟩:=List.mem_iff_getElem.1 hx
     obtain⟨hy1,rfl⟩:=List.getElem?_eq_some_iff.1 hy
     rw[List.getElem_take]
     simp only[List.length_take]at hj
     exact List.pairwise_iff_getElem.1 h j (m+1) (by omega) hy1 (by omega)
   rw[Lib.compactUpTo_succ,hg]
   have htake:zs.take (m+1)=zs.take m++[zs[m]]:=by rw[List.take_succ_eq_append_getElem hlt]
   by_cases hk:Lib.keeps zs.toArray m=true
   · rw[if_pos hk]
     have hlow:∀x∈Lib.compactUpTo zs.toArray m,x<zs[m]:=by
       intro x hx
       have hm0:m≠0:=by
         intro e; subst e; simp[Lib.compactUpTo]at hx
       have hpl:m-1<zs.length:=by omega
       have hpm:zs.toArray[m-1]! =zs[m-1]:=by simp[hpl]
       have hne:zs[m]≠zs[m-1]:=by
         simp only[Lib.keeps,decide_eq_true_eq,hg,hpm]at hk
         rcases hk with h0|h0
         · exact absurd h0 hm0
         · exact h0
       have hx1:=(i2 x).1 hx
       obtain⟨j,hj,rfl⟩:=List.mem_iff_getElem.1 hx1
       rw[List.getElem_take]at*
       simp only[List.length_take]at hj
       have a1:zs[j]<=zs[m-1]:=by
         rcases Nat.lt_or_ge j (m-1)with h1|h1
         · exact List.pairwise_iff_getElem.1 h j (m-1) (by omega) hpl h1
         · have:j=m-1:=by omega
           subst this; exact Int.le_refl _
       have a2:zs[m-1]<=zs[m]:=List.pairwise_iff_getElem.1 h (m-1) m hpl hlt (by omega)
       omega
     refine⟨?_,?_,?_⟩
     · rw[List.pairwise_append]
       exact⟨i1,by simp,fun a ha b hb=>by simp at hb; subst hb; exact hlow a ha⟩
     · intro x; rw[htake,List.mem_append,List.mem_append,i2]
     · intro x hx y hy
       apply hnext x _ y hy
       rw[htake,List.mem_append,←i2,←List.mem_append]; exact hx
   · rw[if_neg hk,List.append_nil]
     have hm0:m≠0:=fun e=>hk (by simp[Lib.keeps,e])
     have hpl:m-1<zs.length:=by omega
     have hpm:zs.toArray[m-1]! =zs[m-1]:=by simp[hpl]
     have he:zs[m]=zs[m-1]:=by
       simp only[Lib.keeps,decide_eq_true_eq,hg,hpm]at hk
       exact Classical.byContradiction fun hc=>hk (.inr hc)
     have hin:zs[m]∈zs.take m:=by
       rw[he]
       exact List.mem_iff_getElem.2 ⟨m-1,by simp; omega,by rw[List.getElem_take]⟩
     have hiff:∀x,x∈zs.take (m+1)↔x∈zs.take m:=by
       intro x; rw[htake,List.mem_append,List.mem_singleton]
       exact⟨fun h=>h.elim id fun h=>h ▸ hin,.inl⟩
     refine⟨i1,fun x=>by rw[i2,hiff],fun x hx y hy=>hnext x ((hiff x).2 ((i2 x).1 hx)) y hy⟩
theorem ap0{zs:List Int}(h:zs.Pairwise (· <= ·)):(Lib.compact zs).Pairwise (· < ·)/\ ∀x,x∈Lib.compact zs↔x∈zs:=by
 obtain⟨h1,h2,-⟩:=apq h zs.length (Nat.le_refl _)
 exact⟨h1,fun x=>by rw[Lib.compact,h2,List.take_length]⟩
theorem ack:∀{a b:List Int},a.Pairwise (· < ·)->b.Pairwise (· < ·)->(∀x,x∈a↔x∈b)->a=b
 |[],[],_,_,_=>rfl
 |[],y::b,_,_,h=>absurd ((h y).2 (by simp)) (by simp)
 |x::a,[],_,_,h=>absurd ((h x).1 (by simp)) (by simp)
 |x::a,y::b,ha,hb,h=>by
   rw[List.pairwise_cons]at ha hb
   have e:x=y:=by
     have h1:=(h x).1 (by simp)
     have h2:=(h y).2 (by simp)
     rw[List.mem_cons]at h1 h2
     rcases h1 with h1|h1
     · exact h1
     · rcases h2 with h2|h2
       · exact h2.symm
       · have:=hb.1 x h1; have:=ha.1 y h2; omega
   subst e
   rw[ack ha.2 hb.2 fun z=>?_]
   constructor
   · intro hz
     have h1:=(h z).1 (by simp[hz])
     have:=ha.1 z hz
     rcases List.mem_cons.1 h1 with h1|h1
     · omega
     · exact h1
   · intro hz
     have h1:=(h z).2 (by simp[hz])
     have:=hb.1 z hz
     rcases List.mem_cons.1 h1 with h1|h1
     · omega
     · exact h1
def vZ(x:Int):List Int->List Int
 |[]=>[x]
 |y::l=>if x<y then x::y::l else y::vZ x l
theorem abw{x:Int}:∀{l:List Int}{y:Int},y∈vZ x l↔y=x\/y∈l
 |[],y=>by simp[vZ]
 |z::l,y=>by
   unfold vZ
   split
   · simp
   · rw[List.mem_cons,abw,List.mem_cons]
     constructor<;>rintro (h|h|h)<;>simp[h]
theorem aiT{x:Int}:∀{l:List Int},l.Pairwise (· < ·)->x∉l->(vZ x l).Pairwise (· < ·)
 |[],_,_=>by simp[vZ]
 |z::l,h,hn=>by
   unfold vZ
   rw[List.mem_cons,not_or]at hn
   rw[List.pairwise_cons]at h
   split
   · rename_i hx
     rw[List.pairwise_cons,List.pairwise_cons]
     refine⟨fun a ha=>?_,h⟩
     rcases List.mem_cons.1 ha with rfl|ha
     · exact hx
     · have:=h.1 a ha; omega
   · rename_i hx
     rw[List.pairwise_cons]
     refine⟨fun a ha=>?_,aiT h.2 hn.2⟩
     rcases abw.1 ha with rfl|ha
     · omega
     · exact h.1 a ha
theorem ah9{x:Int}:∀{l:List Int},(vZ x l).length=l.length+1
 |[]=>rfl
 |z::l=>by
   unfold vZ
   split
   · rfl
   · simp[ah9]
def jh(l:List Int)(x:Int):List Int:=if x∈l then l else vZ x l
theorem ah_{l:List Int}{x y:Int}:y∈jh l x↔y=x\/y∈l:=by
 unfold jh
 split
 · rename_i h; exact⟨.inr,fun h'=>h'.elim (fun e=>e ▸ h) id⟩
 · exact abw
theorem aiU{l:List Int}{x:Int}(h:l.Pairwise (· < ·)):(jh l x).Pairwise (· < ·):=by
 unfold jh
 split
 · exact h
 · exact aiT h (by assumption)
theorem Q6{l:List Int}{x:Int}:(jh l x).length<=l.length+1:=by
 unfold jh
 split
 · omega
 · rw[ah9]; exact Nat.le_refl _
theorem Jq{y:Int}:∀{v l:List Int},y∈v.foldl jh l↔y∈l\/y∈v
 |[],l=>by simp
 |x::v,l=>by
   rw[List.foldl_cons,Jq,ah_,List.mem_cons]
   constructor
   · rintro ((h|h)|h)<;>simp[h]
   · rintro (h|h|h)<;>simp[h]
theorem Ri:∀{v l:List Int},l.Pairwise (· < ·)->(v.foldl jh l).Pairwise (· < ·)
 |[],_,h=>h
 |x::v,l,h=>Ri (v:=v) (aiU h)
theorem abx:∀{v l:List Int},(v.foldl jh l).length<=l.length+v.length
 |[],_=>Nat.le_refl _
 |x::v,l=>by
   have h1:=abx (v:=v) (l:=jh l x)
   have h2:=Q6 (l:=l) (x:=x)
   simp only[List.foldl_cons,List.length_cons]; omega
theorem abb(v:List Int):v.foldl jh []=Lib.compact (v.mergeSort fun x y=>decide (x<=y)):=by
 have hs:(v.mergeSort fun x y=>decide (x<=y)).Pairwise (· <= ·):=by
   have:=List.pairwise_mergeSort (le:=fun x y:Int=>decide (x<=y)) (fun a b c h1 h2=>by simp only[decide_eq_true_eq]at*; omega) (fun a b=>by simp only[Bool.or_eq_true,decide_eq_true_eq]; omega) v
   exact this.imp fun h=>by simpa using h
 obtain⟨c1,c2⟩:=ap0 hs
 exact ack (Ri (by simp)) c1 fun x=>by rw[Jq,c2,List.mem_mergeSort]; simp
theorem Qr(x:Int)(l:List Int):Bj l x=some (decide (x∈l)):=by
 unfold Bj
 generalize 0=k
 induction l generalizing k with
 |nil=>rfl
 |cons y l ih=>
   unfold MZ
   by_cases h:y=x
   · subst h; simp
   · rw[if_neg (by simpa using h),ih]
     congr 1
     simp only[List.mem_cons,decide_eq_decide]
     exact⟨.inr,fun h'=>h'.elim (fun e=>absurd e.symm h) id⟩
theorem Wp(l:List Int)(x:Int)(hl:l.length<4294967296):∀(m i:Nat)(c:List Int)(b:Bool),i<=l.length->l.length-i<m->c.length+(l.length-i)+(bif b then 0 else 1)<4294967296->Jf l x m c b (i:Int)=some (if b then c++l.drop i else c++vZ x (l.drop i))
 |0,_,_,_,_,hm,_=>by omega
 |m+1,i,c,b,hi,hm,h=>by
   unfold Jf
   by_cases hlt:i<l.length
   · obtain⟨y,t,hg,hd,ht⟩:∃y t,ix l (i:Int)=some y/\l.drop i=y::t/\l.drop (i+1)=t:=⟨_,_,by rw[jB,List.getElem?_eq_getElem hlt],List.drop_eq_getElem_cons hlt,rfl⟩
     have hw:IntKind.i64.wrap ((i:Int)+1)=((i+1:Nat):Int):=by rw[fo (by omega) (by omega)]; rfl
     rw[if_pos (by simp only[decide_eq_true_eq]; omega)]
     simp only[hg,Option.bind_some,hw]
     cases b
     · simp only[cond_false]at h
       by_cases hx:x<y
       · simp only[Bool.not_false,cond_true,hx,decide_true,if_true,Option.bind_some]
         rw[kz (by simp; omega),Option.bind_some,kz (by simp; omega),Option.bind_some,Option.bind_some]
         dsimp only
         rw[Wp l x hl m (i+1) _ _ hlt (by omega) (by simp; omega),ht,hd]
         simp[vZ,hx]
       · simp only[Bool.not_false,cond_true,hx,decide_false,Bool.false_eq_true,if_false,Option.bind_some]
         rw[kz (by simp; omega),Option.bind_some,Option.bind_some]
         dsimp only
         rw[Wp l x hl m (i+1) _ _ hlt (by omega) (by simp; omega),ht,hd]
         simp[vZ,hx]
     · simp only[cond_true]at h
       simp only[Bool.not_true,cond_false,Bool.false_eq_true,if_false,Option.bind_some]
       rw[kz (by simp; omega),Option.bind_some,Option.bind_some]
       dsimp only
       rw[Wp l x hl m (i+1) _ _ hlt (by omega) (by simp; omega),ht,hd]
       simp
   · have hd:l.drop i=[]:=List.drop_eq_nil_of_le (by omega)
     rw[if_neg (by simp only[decide_eq_true_eq]; omega),hd]
     cases b
     · simp only[cond_false]at h
       rw[if_pos (show (!false)=true from rfl),kz (by simp; omega),if_neg (by simp)]; rfl
     · simp
theorem Qs(l:List Int)(x:Int)(h:l.length+1<4294967296):Bl l x=some (jh l x):=by
 unfold Bl jh
 rw[Qr,Option.bind_some]
 by_cases hx:x∈l
 · rw[if_pos (by simpa using hx),if_pos hx]
 · rw[if_neg (by simpa using hx),if_neg hx]
   have:=Wp l x (by omega) (((l.length:Int)-0).toNat+2) 0 [] false (by omega) (by omega) (by simpa using h)
   rw[show ((0:Nat):Int)=0 from rfl]at this
   rw[this]
   simp
theorem XH{x y:Int}:jX x y<0↔x<y:=by unfold jX; split<;>(try split)<;>omega
theorem atl{x y:Int}:0<jX x y↔y<x:=by unfold jX; split<;>(try split)<;>omega
theorem AZ{x y:Int}:jX x y=0↔x=y:=by unfold jX; split<;>(try split)<;>omega
theorem ahw:∀{a b:List Int},cmpL a b=0↔a=b
 |[],[]=>by simp[cmpL]
 |[],_::_=>by simp[cmpL]
 |_::_,[]=>by simp[cmpL]
 |x::a,y::b=>by
   unfold cmpL
   by_cases h:jX x y=0
   · rw[if_neg (by simpa using h),ahw,AZ.1 h]; simp
   · rw[if_pos (by simpa using h)]
     constructor
     · intro h'; exact absurd h' h
     · intro h'; exact absurd (AZ.2 (List.cons.inj h').1) h
theorem ahx:∀{a b:List Int},0<cmpL a b↔cmpL b a<0
 |[],[]=>by simp[cmpL]
 |[],_::_=>by simp[cmpL]
 |_::_,[]=>by simp[cmpL]
 |x::a,y::b=>by
   unfold cmpL
   by_cases h:jX x y=0
   · have h2:=AZ.1 h
     subst h2
     rw[if_neg (by simpa using h),if_neg (by simpa using h)]; exact ahx
   · rw[if_pos (by simpa using h),if_pos (by have:¬ jX y x=0:=fun e=>h (by rw[AZ]at*; exact e.symm); simpa using this),atl,XH]
theorem ag0:∀{a b c:List Int},cmpL a b<0->cmpL b c<0->cmpL a c<0
 |[],_,[],h1,h2=>by
   rename_i b
   cases b<;>simp[cmpL]at h1 h2
 |[],_,_::_,_,_=>by simp[cmpL]
 |_::_,[],_,h1,_=>by simp[cmpL]at h1
 |_::_,_::_,[],_,h2=>by simp[cmpL]at h2
 |x::a,y::b,z::c,h1,h2=>by
   unfold cmpL at*
   by_cases e1:jX x y=0
   · have:=AZ.1 e1
     subst this
     rw[if_neg (by simpa using e1)]at h1
     by_cases e2:jX x z=0
     · have:=AZ.1 e2
       subst this
       rw[if_neg (by simpa using e1)]at h2 ⊢
       exact ag0 h1 h2
     · rw[if_pos (by simpa using e2)]at h2 ⊢
       exact h2
   · rw[if_pos (by simpa using e1)]at h1
     by_cases e2:jX y z=0
     · have:=AZ.1 e2
       subst this
       rw[if_pos (by simpa using e1)]; exact h1
     · rw[if_pos (by simpa using e2)]at h2
       rw[XH]at h1 h2
       have:jX x z<0:=XH.2 (by omega)
       rw[if_pos (by simp; omega)]; exact this
theorem Jj(a b:Fact):j_ a b=cmpL (a.Rel::a.Values) (b.Rel::b.Values):=rfl
theorem Ps{a b:Fact}:j_ a b=0↔a=b:=by
 rw[Jj,ahw]
 constructor
 · intro h; cases a; cases b; simp at h; simp[h]
 · rintro rfl; rfl
theorem apr{a b:Fact}:0<j_ a b↔j_ b a<0:=by rw[Jj,Jj,ahx]
theorem aaB{a b c:Fact}:j_ a b<0->j_ b c<0->j_ a c<0:=by
 rw[Jj,Jj,Jj]; exact ag0
def ol(a b:Fact):Prop:=j_ a b<0
theorem Nc{l:List Fact}{f:Fact}:rM l f=true↔f∈l:=by
 simp only[rM,List.any_eq_true,beq_iff_eq,Ps]
 constructor
 · rintro⟨x,h,rfl⟩; exact h
 · intro h; exact⟨f,h,rfl⟩
theorem abd{f y:Fact}:∀{l:List Fact},y∈oU f l↔y=f\/y∈l
 |[]=>by simp[oU]
 |x::l=>by
   unfold oU
   split
   · simp
   · rw[List.mem_cons,abd,List.mem_cons]
     constructor<;>rintro (h|h|h)<;>simp[h]
theorem ah'{f:Fact}:∀{l:List Fact},l.Pairwise ol->f∉l->(oU f l).Pairwise ol
 |[],_,_=>by simp[oU]
 |x::l,h,hn=>by
   unfold oU
   rw[List.mem_cons,not_or]at hn
   rw[List.pairwise_cons]at h
   split
   · rename_i hx
     have hx':=apr.1 hx
     rw[List.pairwise_cons,List.pairwise_cons]
     refine⟨fun a ha=>?_,h⟩
     rcases List.mem_cons.1 ha with rfl|ha
     · exact hx'
     · exact aaB hx' (h.1 a ha)
   · rename_i hx
     rw[List.pairwise_cons]
     refine⟨fun a ha=>?_,ah' h.2 hn.2⟩
     rcases abd.1 ha with rfl|ha
     · have:j_ x a≠0:=fun e=>hn.1 (Ps.1 e).symm
       show j_ x a<0
       omega
     · exact h.1 a ha
theorem Xe{l:List Fact}{f y:Fact}:y∈eZ l f↔y=f\/y∈l:=by
 unfold eZ
 split
 · rename_i h
   rw[Nc]at h
   exact⟨.inr,fun h'=>h'.elim (fun e=>e ▸ h) id⟩
 · exact abd
theorem aia{l:List Fact}{f:Fact}(h:l.Pairwise ol):(eZ l f).Pairwise ol:=by
 unfold eZ
 split
 · exact h
 · rename_i hn
   exact ah' h fun hm=>hn (Nc.2 hm)
theorem acl{p:Fact->Bool}:∀(o:Option Fact)(l:List Fact),jY p (fun y x=>decide (0<=j_ y x)) o l=true↔(∀x∈l,p x=true)/\(∀y,o=some y-> ∀x∈l,ol y x)/\l.Pairwise ol
 |o,[]=>by cases o<;>simp[jY]
 |none,x::l=>by
   rw[jY,Bool.and_eq_true,acl (some x) l,List.pairwise_cons]
   simp only[List.mem_cons,forall_eq_or_imp,reduceCtorEq,false_implies,implies_true,true_and,Option.some.injEq,forall_eq']
   exact⟨fun ⟨a,b,c,d⟩=>⟨⟨a,b⟩,c,d⟩,fun ⟨⟨a,b⟩,c,d⟩=>⟨a,b,c,d⟩⟩
 |some y,x::l=>by
   rw[jY,Bool.and_eq_true,Bool.and_eq_true,acl (some x) l,List.pairwise_cons]
   simp only[List.mem_cons,forall_eq_or_imp,Option.some.injEq,forall_eq',Bool.not_eq_true',decide_eq_false_iff_not,Int.not_le]
   constructor
   · rintro⟨⟨a,b⟩,c,d,e⟩
     exact⟨⟨a,c⟩,⟨b,fun z hz=>aaB b (d z hz)⟩,d,e⟩
   · rintro⟨⟨a,c⟩,⟨b,_⟩,d,e⟩
     exact⟨⟨a,b⟩,c,d,e⟩
theorem ag1{s:List Int}{l:List Fact}:acj s l=true↔(∀f∈l,iI s f=true)/\l.Pairwise ol/\jJ s=true/\l.length<=24:=by
 rw[acj,Bool.and_eq_true,acl,Bool.and_eq_true,decide_eq_true_eq]
 simp only[reduceCtorEq,false_implies,implies_true,true_and]
 constructor
 · rintro⟨⟨a,b⟩,c,d⟩; exact⟨a,b,c,by omega⟩
 · rintro⟨a,b,c,d⟩; exact⟨⟨a,b⟩,c,by omega⟩
def oG(v:List Int):Nat->List (List Int)
 |0=>[[]]
 |n+1=>(oG v n).flatMap fun l=>v.map fun x=>l++[x]
theorem Qt{v:List Int}:∀{n:Nat}{x:List Int},x∈oG v n->x.length=n/\ ∀y∈x,y∈v
 |0,x,h=>by simp only[oG,List.mem_singleton]at h; subst h; simp
 |n+1,x,h=>by
   simp only[oG,List.mem_flatMap,List.mem_map]at h
   obtain⟨l,hl,y,hy,rfl⟩:=h
   obtain⟨h1,h2⟩:=Qt hl
   refine⟨by simp[h1],fun z hz=>?_⟩
   rw[List.mem_append,List.mem_singleton]at hz
   rcases hz with hz|rfl
   · exact h2 z hz
   · exact hy
theorem aib{α β:Type}(f:α->List β)(c:Nat)(hf:∀x,(f x).length=c):∀l:List α,(l.flatMap f).length=l.length*c
 |[]=>by simp
 |x::l=>by rw[List.flatMap_cons,List.length_append,hf,aib f c hf l,List.length_cons,Nat.succ_mul]; omega
theorem ag2(v:List Int):∀n,(oG v n).length=v.length ^ n
 |0=>rfl
 |n+1=>by rw[oG,aib _ v.length (by simp),ag2 v n,Nat.pow_succ]
theorem MS{v:List Int}{n:Nat}(hv:v.length<=10)(hn:n<=3):(oG v n).length<=1000:=by
 rw[ag2]
 calc v.length ^ n<=10 ^ n:=Nat.pow_le_pow_left hv n
   _<=10 ^ 3:=Nat.pow_le_pow_right (by omega) hn
theorem XI{v:List Int}(h:v.Pairwise (· < ·))(lo:Int)(n:Nat)(hb:∀x∈v,lo<=x/\x<lo+n):v.length<=n:=by
 induction v generalizing lo n with
 |nil=>simp
 |cons x v ih=>
   rw[List.pairwise_cons]at h
   have hx:=hb x (by simp)
   have:=ih h.2 (x+1) (n-(x+1-lo).toNat) (fun y hy=>by
     have a:=h.1 y hy
     have b:=hb y (by simp[hy])
     omega)
   simp only[List.length_cons]; omega
def wZ(log:List Access)(a:Access):Bool:=log.any fun x=>xQ x a
def zF(vs:List Int)(log:List Access)(k:Nat)(m:Method):List Access:=
 if m.Limit !=0 then []else ((oG vs m.Inputs.length).filter fun v=>!wZ log {Method:=(k:Int),Values:=v}).map fun v=>({Method:=(k:Int),Values:=v}:Access)
def gQ(vs:List Int)(log:List Access):List Method->Nat->List Access
 |[],_=>[]
 |m::l,k=>zF vs log k m++gQ vs log l (k+1)
theorem aa4{vs:List Int}{log:List Access}{k:Nat}{m:Method}(hv:vs.length<=10)(hm:m.Inputs.length<=3):(zF vs log k m).length<=1000:=by
 unfold zF
 split
 · simp
 · rw[List.length_map]; exact Nat.le_trans (List.length_filter_le ..) (MS hv hm)
theorem ahy{vs:List Int}{log:List Access}(hv:vs.length<=10):∀{l:List Method}{k:Nat},(∀m∈l,m.Inputs.length<=3)->(gQ vs log l k).length<=1000*l.length
 |[],_,_=>by simp[gQ]
 |m::l,k,h=>by
   rw[gQ,List.length_append,List.length_cons]
   have h1:=aa4 (vs:=vs) (log:=log) (k:=k) hv (h m (by simp))
   have h2:=ahy (log:=log) hv (l:=l) (k:=k+1) fun x hx=>h x (by simp[hx])
   omega
theorem ahz{vs:List Int}{log:List Access}{a:Access}:∀{l:List Method}{k:Nat},a∈gQ vs log l k-> ∃(j:Nat)(m:Method),l[j]?=some m/\a.Method=((k+j:Nat):Int)/\a.Values.length=m.Inputs.length/\ ∀y∈a.Values,y∈vs
 |[],_,h=>by simp[gQ]at h
 |m::l,k,h=>by
   rw[gQ,List.mem_append]at h
   rcases h with h|h
   · unfold zF at h
     split at h
     · simp at h
     · obtain⟨v,hv,rfl⟩:=List.mem_map.1 h
       obtain⟨h1,h2⟩:=Qt (List.mem_filter.1 hv).1
       exact⟨0,m,rfl,rfl,h1,h2⟩
   · obtain⟨j,x,h1,h2,h3,h4⟩:=ahz h
     exact⟨j+1,x,by simpa using h1,by rw[h2]; congr 1; omega,h3,h4⟩
theorem abX:∀(o:Option Int)(l:List Int),jY (fun _=>true) (fun y x=>decide (x<=y)) o l=true↔(∀y,o=some y-> ∀x∈l,y<x)/\l.Pairwise (· < ·)
 |o,[]=>by cases o<;>simp[jY]
 |none,x::l=>by
   rw[jY,Bool.true_and,abX (some x) l,List.pairwise_cons]
   simp
 |some y,x::l=>by
   rw[jY,Bool.and_eq_true,Bool.and_eq_true,abX (some x) l,List.pairwise_cons]
   simp only[List.mem_cons,forall_eq_or_imp,Option.some.injEq,forall_eq',Bool.not_eq_true',decide_eq_false_iff_not,Int.not_le,true_and]
   constructor
   · rintro⟨b,d,e⟩
     exact⟨⟨b,fun z hz=>Int.lt_trans b (d z hz)⟩,d,e⟩
   · rintro⟨⟨b,_⟩,d,e⟩
     exact⟨b,d,e⟩
theorem aqK{s:List Int}{m:Method}(h:wM s m=true):m.Inputs.length<=3:=by
 simp only[wM,Bool.and_eq_true,List.all_eq_true]at h
 obtain⟨h1,-,-,-,h2,h3⟩:=h
 have h4:=((abX none _).1 h2).2
 have h5:=vF h1
 refine XI h4 0 3 fun x hx=>?_
 have:=h3 x hx
 simp only[aZ,Bool.and_eq_true,decide_eq_true_eq]at this
 omega
theorem ahA{s:List Int}{l:List Method}{vs:List Int}{log:List Access}(hl:f_ s l=true)(hv:∀v∈vs,0<=v/\v<=9){a:Access}(h:a∈gQ vs log l 0):xX s l a=true:=by
 obtain⟨j,m,h1,h2,h3,h4⟩:=ahz h
 have hj:j<l.length:=(List.getElem?_eq_some_iff.1 h1).1
 have hi:aZ 0 ((l.length:Int)-1) a.Method=true:=by rw[h2]; simp only[aZ,Bool.and_eq_true,decide_eq_true_eq]; omega
 have hm:wY l a.Method=m:=by
   unfold wY
   rw[h2,Nat.zero_add,jB,h1]; rfl
 simp only[xX,Bool.and_eq_true]
 refine⟨hl,hi,?_,?_⟩
 · rw[hm,h3]; simp
 · rw[List.all_eq_true]
   intro y hy
   have:=hv y (h4 y hy)
   simp only[aZ,Bool.and_eq_true,decide_eq_true_eq]; omega
def Dg(l:List Method)(facts:List Fact)(a:Access):List Fact:=facts.filter (zQ (wY l a.Method) a.Values)
def sF(l:List Method)(facts:List Fact)(fs:List Fact)(a:Access):List Fact:=(Dg l facts a).foldl eZ fs
def qd(vs:List Int)(f:Fact):List Int:=f.Values.foldl jh vs
def si(vs:List Int):Prop:=vs.Pairwise (· < ·)/\ ∀v∈vs,0<=v/\v<=9
theorem Nz{vs:List Int}(h:si vs):vs.length<=10:=XI h.1 0 10 fun x hx=>by have:=h.2 x hx; omega
theorem Xr{vs:List Int}{f:Fact}(h:si vs)(hf:∀v∈f.Values,0<=v/\v<=9):si (qd vs f):=
 ⟨Ri h.1,fun v hv=>by
   rcases Jq.1 hv with hv|hv
   · exact h.2 v hv
   · exact hf v hv⟩
theorem abe:∀{g:List Fact}{vs:List Int},si vs->(∀f∈g,∀v∈f.Values,0<=v/\v<=9)->si (g.foldl qd vs)
 |[],_,h,_=>h
 |x::g,vs,h,hg=>abe (g:=g) (Xr h (hg x (by simp))) fun f hf=>hg f (by simp[hf])
theorem ari{s:List Int}{f:Fact}(h:iI s f=true):f.Values.length<=3/\ ∀v∈f.Values,0<=v/\v<=9:=by
 simp only[iI,Bool.and_eq_true,beq_iff_eq]at h
 obtain⟨h1,h2,h3⟩:=h
 have:=vF h1
 refine⟨by omega,fun v hv=>?_⟩
 have:=List.all_eq_true.1 h3 v hv
 simp only[aZ,Bool.and_eq_true,decide_eq_true_eq]at this
 omega
theorem Wy(n:Int):EU n=some (aZ 0 9 n):=rfl
theorem afO(C:List (List Int))(j:Int)(x:List Int)(hx:ix C j=some x)(hl:x.length+1<4294967296):∀(l:List Int)(i:Nat)(c:List (List Int)),c.length+l.length<4294967296->Ev C j l i c=some (c++l.map fun y=>x++[y])
 |[],i,c,_=>by simp[Ev]
 |y::l,i,c,h=>by
   simp only[List.length_cons]at h
   unfold Ev
   rw[hx,Option.bind_some,nD (by omega),Option.bind_some,kz (by simp; omega),Option.bind_some,kz (by simp; omega),Option.bind_some,afO C j x hx hl l _ _ (by simp; omega)]
   simp
theorem agf(x:List Int)(hl:x.length+1<4294967296):∀(l:List Int)(i:Nat)(c:List (List Int)),c.length+l.length<4294967296->EO x l i c=some (c++l.map fun y=>x++[y])
 |[],i,c,_=>by simp[EO]
 |y::l,i,c,h=>by
   simp only[List.length_cons]at h
   unfold EO
   rw[He x (by omega),Option.bind_some,kz (by simp; omega),Option.bind_some,kz (by simp; omega),Option.bind_some,agf x hl l _ _ (by simp; omega)]
   simp
theorem aoo(v:List Int)(C:List (List Int))(hC:∀x∈C,x.length+1<4294967296)(hb:C.length<4294967296):∀(m i:Nat)(c:List (List Int)),i<=C.length->C.length-i<m->c.length+(C.length-i)*v.length<4294967296->IM v m C c (i:Int)=some (c++(C.drop i).flatMap fun l=>v.map fun x=>l++[x]):=by
 intro m
 induction m with
 |zero=>intro i c _ h _; omega
 |succ m ih=>
   intro i c hi hm hc
   unfold IM
   by_cases hlt:i<C.length
   · have e:C.length-i=(C.length-(i+1))+1:=by omega
     rw[e,Nat.add_mul,Nat.one_mul]at hc
     rw[if_pos (by simpa using hlt),afO C (i:Int) C[i] (by rw[jB,List.getElem?_eq_getElem hlt]) (hC _ (List.getElem_mem hlt)) v 0 c (by omega),Option.bind_some]
     dsimp only
     rw[show IntKind.i64.wrap ((i:Int)+1)=((i+1:Nat):Int)from by rw[fo (by omega) (by omega)]; rfl,ih (i+1) _ (by omega) (by omega) (by simp; omega),List.drop_eq_getElem_cons hlt,List.flatMap_cons,List.append_assoc]
   · rw[if_neg (by simpa using hlt),List.drop_eq_nil_of_le (by omega)]; simp
theorem agh(v:List Int):∀(l:List (List Int))(i:Nat)(c:List (List Int)),(∀x∈l,x.length+1<4294967296)->c.length+l.length*v.length<4294967296->EP v l i c=some (c++l.flatMap fun l=>v.map fun x=>l++[x])
 |[],i,c,_,_=>by simp[EP]
 |x::l,i,c,hx,h=>by
   simp only[List.length_cons,Nat.add_mul,Nat.one_mul]at h
   unfold EP
   rw[agf x (hx x (by simp)) v 0 c (by omega),Option.bind_some]
   dsimp only
   rw[agh v l _ _ (fun y hy=>hx y (by simp[hy])) (by simp; omega),List.flatMap_cons,List.append_assoc]
theorem ag5{v:List Int}{n:Nat}(hv:v.length<=10)(hn:n<=3):(oG v n).length*v.length<=10000:=by
 have:=MS (v:=v) hv hn
 calc (oG v n).length*v.length<=1000*10:=Nat.mul_le_mul this hv
   _=10000:=rfl
theorem ap1(v:List Int)(n:Nat)(hv:v.length<=10)(hn:n<=3):Qz v (n:Int)=some (oG v n):=by
 have key:∀(m i:Nat),i<=n->n-i<m->IP v (n:Int) m (oG v i) (i:Int)=some (oG v n):=by
   intro m
   induction m with
   |zero=>intro i _ h; omega
   |succ m ih=>
     intro i hi hm
     unfold IP
     by_cases hlt:i<n
     · have h1:=ag5 (v:=v) (n:=i) hv (by omega)
       have h2:=MS (v:=v) (n:=i) hv (by omega)
       rw[if_pos (by simpa using hlt),show (((oG v i).length:Int)-0).toNat+2=(oG v i).length+2 by omega,show (0:Int)=((0:Nat):Int)from rfl,
         aoo v _ (fun x hx=>by have:=(Qt hx).1; omega) (by omega) _ 0 [] (by omega) (by omega) (by simp; omega),Option.bind_some]
       dsimp only
       rw[show IntKind.i64.wrap ((i:Int)+1)=((i+1:Nat):Int)from by rw[fo (by omega) (by omega)]; rfl,List.nil_append,List.drop_zero]
       exact ih (i+1) (by omega) (by omega)
     · rw[if_neg (by simpa using hlt)]
       have:i=n:=by omega
       rw[this]
 have:=key (((n:Int)-0).toNat+2) 0 (by omega) (by omega)
 exact this
theorem arj(v:List Int)(n:Nat)(hv:v.length<=10)(hn:n<=3):Rc v (n:Int)=some (oG v n):=by
 have key:∀(m i:Nat),i<=n->n-i<m->Jh v (n:Int) m (oG v i) (i:Int)=some (oG v n):=by
   intro m
   induction m with
   |zero=>intro i _ h; omega
   |succ m ih=>
     intro i hi hm
     unfold Jh
     by_cases hlt:i<n
     · have h1:=ag5 (v:=v) (n:=i) hv (by omega)
       have h2:=MS (v:=v) (n:=i) hv (by omega)
       rw[if_pos (by simpa using hlt),agh v _ 0 [] (fun x hx=>by have:=(Qt hx).1; omega) (by simp; omega),Option.bind_some]
       dsimp only
       rw[show IntKind.i64.wrap ((i:Int)+1)=((i+1:Nat):Int)from by rw[fo (by omega) (by omega)]; rfl,List.nil_append]
       exact ih (i+1) (by omega) (by omega)
     · rw[if_neg (by simpa using hlt)]
       have:i=n:=by omega
       rw[this]
 have:=key (((n:Int)-0).toNat+2) 0 (by omega) (by omega)
 exact this
theorem avj(log:List Access)(a:Access):Qi log a=some (wZ log a):=apn log a
theorem avk(l:List Access)(a:Access):MP l a=some (wZ l a):=aoR l a
theorem aoT(r:Reached)(k:Nat)(l:List (List Int))(c:List Access)(hl:∀x∈l,x.length<4294967296)(hc:c.length+l.length<4294967296):AU r k l 0 c=some (c++(l.filter fun v=>!wZ r.Log {Method:=(k:Int),Values:=v}).map fun v=>({Method:=(k:Int),Values:=v}:Access)):=
 Ra (L:=AU r k) (P:=fun x=>x.length<4294967296) (p:=fun v=>!wZ r.Log {Method:=(k:Int),Values:=v}) (g:=fun v=>({Method:=(k:Int),Values:=v}:Access)) (fun _ _=>rfl) (fun x t i c hx hc=>by
   rw[AU,agb _ _ hx,Option.bind_some,avj,Option.bind_some]
   cases wZ r.Log {Method:=(k:Int),Values:=x}
   · simp[app1 hc]
   · simp) l 0 c hl hc
theorem anx(r:Reached)(k:Nat)(l:List (List Int))(c:List Access)(hc:c.length+l.length<4294967296):Aw r k l 0 c=some (c++(l.filter fun v=>!wZ r.Log {Method:=(k:Int),Values:=v}).map fun v=>({Method:=(k:Int),Values:=v}:Access)):=
 Ra (L:=Aw r k) (P:=fun _=>True) (p:=fun v=>!wZ r.Log {Method:=(k:Int),Values:=v}) (g:=fun v=>({Method:=(k:Int),Values:=v}:Access)) (fun _ _=>rfl) (fun x t i c hx hc=>by
   rw[Aw,avk,Option.bind_some]
   cases wZ r.Log {Method:=(k:Int),Values:=x}
   · simp[app1 hc]
   · simp) l 0 c (fun _ _=>trivial) hc
theorem af2(r:Reached)(hv:r.Values.length<=10):∀(l:List Method)(k:Nat)(c:List Access),(∀m∈l,m.Inputs.length<=3)->c.length+1000*l.length<4294967296->EB r l k c=some (c++gQ r.Values r.Log l k)
 |[],k,c,_,_=>by simp[EB,gQ]
 |m::l,k,c,hm,hc=>by
   simp only[List.length_cons]at hc
   have h3:=hm m (by simp)
   have e:(if ((m.Limit:Int)!=0)then some c else (Qz r.Values (m.Inputs.length:Int)).bind fun jl=>AU r k jl 0 c)=some (c++zF r.Values r.Log k m):=by
     unfold zF
     split
     · simp
     · have:=MS (v:=r.Values) hv h3
       rw[ap1 _ _ hv h3,Option.bind_some,aoT r k _ c (fun x hx=>by have:=(Qt hx).1; omega) (by omega)]
   have h4:=aa4 (vs:=r.Values) (log:=r.Log) (k:=k) hv h3
   unfold EB
   rw[e,Option.bind_some]
   dsimp only
   rw[af2 r hv l _ _ (fun x hx=>hm x (by simp[hx])) (by simp; omega),gQ,List.append_assoc]
theorem ae6(r:Reached)(hv:r.Values.length<=10):∀(l:List Method)(k:Nat)(c:List Access),(∀m∈l,m.Inputs.length<=3)->c.length+1000*l.length<4294967296->D8 r l k c=some (c++gQ r.Values r.Log l k)
 |[],k,c,_,_=>by simp[D8,gQ]
 |m::l,k,c,hm,hc=>by
   simp only[List.length_cons]at hc
   have h3:=hm m (by simp)
   have e:(if ((m.Limit:Int)!=0)then some c else (Rc r.Values (m.Inputs.length:Int)).bind fun jl=>Aw r k jl 0 c)=some (c++zF r.Values r.Log k m):=by
     unfold zF
     split
     · simp
     · have:=MS (v:=r.Values) hv h3
       rw[arj _ _ hv h3,Option.bind_some,anx r k _ c (by omega)]
   have h4:=aa4 (vs:=r.Values) (log:=r.Log) (k:=k) hv h3
   unfold D8
   rw[e,Option.bind_some]
   dsimp only
   rw[ae6 r hv l _ _ (fun x hx=>hm x (by simp[hx])) (by simp; omega),gQ,List.append_assoc]
theorem Wz{s:List Int}{l:List Method}(hl:f_ s l=true):l.length<=5/\ ∀m∈l,m.Inputs.length<=3:=by
 simp only[f_,Bool.and_eq_true,decide_eq_true_eq]at hl
 exact⟨by omega,fun m hm=>aqK (List.all_eq_true.1 hl.2.2 m hm)⟩
theorem agN{s:List Int}(l:List Method)(r:Reached)(hl:f_ s l=true)(hv:r.Values.length<=10):E8 l r=some (gQ r.Values r.Log l 0):=by
 obtain⟨h1,h2⟩:=Wz hl
 rw[E8,af2 r hv l 0 [] h2 (by simp; omega),List.nil_append]
theorem anS{s:List Int}(l:List Method)(r:Reached)(hl:f_ s l=true)(hv:r.Values.length<=10):Mh r l=some (gQ r.Values r.Log l 0):=by
 obtain⟨h1,h2⟩:=Wz hl
 rw[Mh,ae6 r hv l 0 [] h2 (by simp; omega),List.nil_append]
theorem ae'(a b:List Int)(h:a.length+b.length<4294967296):Ma [a,b]=some (a++b):=by
 unfold Ma DT
 rw[fo (by omega) (by omega),if_neg (by simp only[decide_eq_true_eq]; omega),Option.bind_some]
 dsimp only
 unfold DT
 rw[fo (by omega) (by omega),if_neg (by simp only[decide_eq_true_eq]; omega),Option.bind_some]
 dsimp only
 unfold DT VW
 rw[if_pos (by omega),Option.bind_some]
 unfold G9
 rw[nD (by omega),Option.bind_some]
 unfold G9
 rw[kz (by omega),Option.bind_some]
 rfl
theorem anK(R:List Int)(hR:R.length<4294967296):∀(m i:Nat)(c:List Int),i<=R.length->R.length-i<m->c.length+(R.length-i)<4294967296->H9 R m c (i:Int)=some (Lib.compact ((c++(R.drop i).filter (aZ 0 9)).mergeSort fun x y=>decide (x<=y))):=by
 intro m
 induction m with
 |zero=>intro i c _ h _; omega
 |succ m ih=>
   intro i c hi hm hc
   unfold H9
   by_cases hlt:i<R.length
   · rw[if_pos (by simpa using hlt),jB,List.getElem?_eq_getElem hlt,Option.bind_some,Wy,Option.bind_some,List.drop_eq_getElem_cons hlt,List.filter_cons]
     cases hp:aZ 0 9 R[i]
     · rw[if_neg (by simp),Option.bind_some,if_neg (by simp)]
       dsimp only
       rw[show IntKind.i64.wrap ((i:Int)+1)=((i+1:Nat):Int)from by rw[fo (by omega) (by omega)]; rfl,ih (i+1) _ (by omega) (by omega) (by omega)]
     · rw[if_pos rfl,kz (by simp; omega),Option.bind_some,Option.bind_some,if_pos rfl]
       dsimp only
       rw[show IntKind.i64.wrap ((i:Int)+1)=((i+1:Nat):Int)from by rw[fo (by omega) (by omega)]; rfl,ih (i+1) _ (by omega) (by omega) (by simp; omega)]
       simp
   · rw[if_neg (by simpa using hlt),List.drop_eq_nil_of_le (by omega)]
     simp[Hl,Hf]
theorem afP(a b:List Int)(h:a.length+b.length<4294967296):IX a b=some (((a++b).filter (aZ 0 9)).foldl jh []):=by
 unfold IX
 rw[ae' a b h,Option.bind_some,show (((a++b).length:Int)-0).toNat+2=(a++b).length+2 by omega,show (0:Int)=((0:Nat):Int)from rfl,
   anK (a++b) (by simp; omega) _ 0 [] (by omega) (by omega) (by simp; omega),abb]
 simp
theorem ast{v:List Int}(h:v.Pairwise (· < ·)):v.foldl jh []=v:=
 ack (Ri (by simp)) h fun x=>by rw[Jq]; simp
theorem an5{vs b:List Int}(h:si vs)(hb:∀v∈b,0<=v/\v<=9)(hl:b.length<1000000):IX vs b=some (b.foldl jh vs):=by
 have:=Nz h
 have e:∀l:List Int,(∀v∈l,0<=v/\v<=9)->l.filter (aZ 0 9)=l:=fun l hl=>List.filter_eq_self.2 fun v hv=>by
   have:=hl v hv
   simp only[aZ,Bool.and_eq_true,decide_eq_true_eq]; omega
 rw[afP vs b (by omega),e (vs++b) (fun v hv=>(List.mem_append.1 hv).elim (h.2 v) (hb v)),List.foldl_append,ast h.1]
theorem abf:∀{g fs:List Fact},(g.foldl eZ fs).length<=fs.length+g.length
 |[],_=>by simp
 |x::g,fs=>by
   rw[List.foldl_cons]
   have h1:=abf (g:=g) (fs:=eZ fs x)
   have h2:=QG fs x
   simp only[List.length_cons]; omega
def x9(jg:List Int):Reached:={Facts:=[],Values:=(jg.filter (aZ 0 9)).foldl jh [],Log:=[],Rounds:=0}
theorem aai:∀(l:List Int)(k:Nat)(vs:List Int),vs.length+l.length<4294967295->H7 l k vs=some ({Facts:=[],Values:=(l.filter (aZ 0 9)).foldl jh vs,Log:=[],Rounds:=0}:Reached)
 |[],k,vs,_=>rfl
 |x::l,k,vs,h=>by
   simp only[List.length_cons]at h
   have:=Q6 (l:=vs) (x:=x)
   unfold H7
   rw[ug,Option.bind_some,List.filter_cons]
   cases hp:aZ 0 9 x
   · rw[if_neg (by simp),Option.bind_some,if_neg (by simp)]
     dsimp only
     rw[aai l _ _ (by omega)]
   · rw[if_pos rfl,Qs _ _ (by omega),Option.bind_some,Option.bind_some,if_pos rfl]
     dsimp only
     rw[aai l _ _ (by omega),List.foldl_cons]
theorem aop(jg:List Int)(h:jg.length<4294967295):Px jg=some (x9 jg):=by
 rw[Px,aai _ _ _ (by simpa using h)]; rfl
theorem aoq(jg:List Int)(h:jg.length<4294967295):PI jg=some (x9 jg):=by
 rw[PI,afP _ _ (by simp; omega),Option.bind_some,List.append_nil]; rfl
theorem M6(t:Int):Bi t=some (aZ 10 17 t):=rfl
theorem Qu(t:Int):Fq t=some (aZ 10 17 t):=rfl
def zR(t:Int):Bool:=aZ 0 9 t||aZ 10 17 t
theorem aqL(t:Int):Nn t=some (zR t):=by
 rw[Nn,ug,Option.bind_some,M6,zR]
 cases aZ 0 9 t<;>rfl
theorem aqM(t:Int):QX t=some (zR t):=by
 rw[QX,Wy,Option.bind_some,Qu,zR]
 cases aZ 0 9 t<;>rfl
theorem aps(l:List Int):Qm l=some (l.all zR):=by
 unfold Qm VN VT
 rw[pV (L:=LY) (f:=PD) (p:=fun x=>!zR x) (fun k=>rfl) (fun x r k=>rfl) l 0 (fun x _=>by rw[PD,aqM]; rfl),Option.bind_some,uo,Option.bind_some]
 simp[List.all_eq_not_any_not]
def qJ(s:List Int)(a:Atom):Bool:=jK s a.Rel&&(((a.Terms.length:Int)==jQ s a.Rel)&&a.Terms.all zR)
theorem aqN(s:List Int)(a:Atom)(hs:s.length<4294967296):QO s a=some (qJ s a):=by
 have hL:I4 a.Terms 0=some (a.Terms.all zR):=by
   have:=Nj (L:=I4) (f:=Nn) (p:=zR) (e:=true) (fun k=>rfl) (fun x r k=>rfl) a.Terms 0 (fun x _=>aqL x)
   rw[this]; simp
 unfold QO qJ
 rw[Mo,Option.bind_some]
 cases h1:jJ s
 · simp[jK,h1]
 rw[ug,Option.bind_some,fo (by omega) (by omega)]
 cases h2:aZ 0 ((s.length:Int)-1) a.Rel
 · simp[jK,h1,h2]
 have hh:jK s a.Rel=true:=by simp[jK,h1,h2]
 rw[(vF hh).1,hL,hh]
 by_cases e:(a.Terms.length:Int)=jQ s a.Rel
 · simp[e]
 · simp[e]
theorem aqO(s:List Int)(a:Atom)(hs:s.length<4294967296):QY s a=some (qJ s a):=by
 unfold QY qJ
 rw[aaW _ _ hs,Option.bind_some]
 cases hh:jK s a.Rel
 · rfl
 rw[(vF hh).1,aps]
 cases e:((a.Terms.length:Int)==jQ s a.Rel)<;>simp[e]
def fu(p:Int->Bool)(l:List Atom):List Int:=((l.flatMap (·.Terms)).filter p).foldl jh []
def eT(l:List Atom):Nat:=(l.flatMap (·.Terms)).length
theorem abg{p:Int->Bool}{v l:List Int}:((v.filter p).foldl jh l).length<=l.length+v.length:=by
 have h1:=abx (v:=v.filter p) (l:=l)
 have h2:=List.length_filter_le p v
 omega
theorem aoU(x:Atom)(hx:x.Terms.length<4294967296):∀(m i:Nat)(c:List Int),i<=x.Terms.length->x.Terms.length-i<m->c.length+(x.Terms.length-i)<4294967295->Ez x m c (i:Int)=some (((x.Terms.drop i).filter (aZ 10 17)).foldl jh c):=by
 intro m
 induction m with
 |zero=>intro i c _ h _; omega
 |succ m ih=>
   intro i c hi hm hc
   unfold Ez
   by_cases hlt:i<x.Terms.length
   · rw[if_pos (by simpa using hlt),jB,List.getElem?_eq_getElem hlt,Option.bind_some,M6,Option.bind_some,List.drop_eq_getElem_cons hlt,List.filter_cons]
     cases hp:(aZ 10 17) x.Terms[i]
     · rw[if_neg (by simp),Option.bind_some,if_neg (by simp)]
       dsimp only
       rw[show IntKind.i64.wrap ((i:Int)+1)=((i+1:Nat):Int)from by rw[fo (by omega) (by omega)]; rfl,ih (i+1) _ (by omega) (by omega) (by omega)]
     · have:=Q6 (l:=c) (x:=x.Terms[i])
       rw[if_pos rfl,Option.bind_some,Qs _ _ (by omega),Option.bind_some,Option.bind_some,if_pos rfl]
       dsimp only
       rw[show IntKind.i64.wrap ((i:Int)+1)=((i+1:Nat):Int)from by rw[fo (by omega) (by omega)]; rfl,ih (i+1) _ (by omega) (by omega) (by omega),List.foldl_cons]
   · rw[if_neg (by simpa using hlt),List.drop_eq_nil_of_le (by omega)]; rfl
theorem af3:∀(l:List Atom)(k:Nat)(c:List Int),c.length+eT l<4294967295->I1 l k c=some (((l.flatMap (·.Terms)).filter (aZ 10 17)).foldl jh c)
 |[],k,c,_=>rfl
 |a::l,k,c,h=>by
   simp only[eT,List.flatMap_cons,List.length_append]at h
   have:=abg (p:=(aZ 10 17)) (v:=a.Terms) (l:=c)
   unfold I1
   have e:Ez a (a.Terms.length+2) c 0=some (((a.Terms.drop 0).filter (aZ 10 17)).foldl jh c):=aoU a (by omega) _ 0 c (by omega) (by omega) (by omega)
   rw[show ((a.Terms.length:Int)-0).toNat+2=a.Terms.length+2 by omega,e,Option.bind_some]
   dsimp only
   rw[List.drop_zero,af3 l _ _ (by simp only[eT]; omega),List.flatMap_cons,List.filter_append,List.foldl_append]
theorem agO(q:aV)(h:eT q.Atoms<4294967295):Nl q=some (fu (aZ 10 17) q.Atoms):=by
 rw[Nl,af3 _ _ _ (by simpa using h)]; rfl
theorem anE(x:Atom)(hx:x.Terms.length<4294967296):∀(m i:Nat)(c:List Int),i<=x.Terms.length->x.Terms.length-i<m->c.length+(x.Terms.length-i)<4294967295->D9 x m c (i:Int)=some (((x.Terms.drop i).filter (aZ 0 9)).foldl jh c):=by
 intro m
 induction m with
 |zero=>intro i c _ h _; omega
 |succ m ih=>
   intro i c hi hm hc
   unfold D9
   by_cases hlt:i<x.Terms.length
   · rw[if_pos (by simpa using hlt),jB,List.getElem?_eq_getElem hlt,Option.bind_some,ug,Option.bind_some,List.drop_eq_getElem_cons hlt,List.filter_cons]
     cases hp:(aZ 0 9) x.Terms[i]
     · rw[if_neg (by simp),Option.bind_some,if_neg (by simp)]
       dsimp only
       rw[show IntKind.i64.wrap ((i:Int)+1)=((i+1:Nat):Int)from by rw[fo (by omega) (by omega)]; rfl,ih (i+1) _ (by omega) (by omega) (by omega)]
     · have:=Q6 (l:=c) (x:=x.Terms[i])
       rw[if_pos rfl,Option.bind_some,Qs _ _ (by omega),Option.bind_some,Option.bind_some,if_pos rfl]
       dsimp only
       rw[show IntKind.i64.wrap ((i:Int)+1)=((i+1:Nat):Int)from by rw[fo (by omega) (by omega)]; rfl,ih (i+1) _ (by omega) (by omega) (by omega),List.foldl_cons]
   · rw[if_neg (by simpa using hlt),List.drop_eq_nil_of_le (by omega)]; rfl
theorem afa:∀(l:List Atom)(k:Nat)(c:List Int),c.length+eT l<4294967295->Hy l k c=some (((l.flatMap (·.Terms)).filter (aZ 0 9)).foldl jh c)
 |[],k,c,_=>rfl
 |a::l,k,c,h=>by
   simp only[eT,List.flatMap_cons,List.length_append]at h
   have:=abg (p:=(aZ 0 9)) (v:=a.Terms) (l:=c)
   unfold Hy
   have e:D9 a (a.Terms.length+2) c 0=some (((a.Terms.drop 0).filter (aZ 0 9)).foldl jh c):=anE a (by omega) _ 0 c (by omega) (by omega) (by omega)
   rw[show ((a.Terms.length:Int)-0).toNat+2=a.Terms.length+2 by omega,e,Option.bind_some]
   dsimp only
   rw[List.drop_zero,afa l _ _ (by simp only[eT]; omega),List.flatMap_cons,List.filter_append,List.foldl_append]
theorem V6(q:aV)(h:eT q.Atoms<4294967295):Eg q=some (fu (aZ 0 9) q.Atoms):=by
 rw[Eg,afa _ _ _ (by simpa using h)]; rfl
theorem ann(l:List Int)(c:List Int)(h:c.length+l.length<4294967296):DY l 0 c=some (c++l.filter (aZ 10 17)):=by
 have:=Ra (L:=DY) (P:=fun _=>True) (p:=(aZ 10 17)) (g:=fun x:Int=>x) (fun _ _=>rfl) (fun x r k c _ hc=>by
   rw[DY,Qu,Option.bind_some]
   cases (aZ 10 17) x
   · rw[if_neg (by simp),if_neg (by simp)]; rfl
   · rw[if_pos rfl,app1 hc,if_pos rfl]; rfl) l 0 c (fun _ _=>trivial) h
 rw[this,List.map_id']
theorem aeZ:∀(l:List Atom)(k:Nat)(c:List Int),c.length+eT l<4294967296->DZ l k c=some (Lib.compact ((c++(l.flatMap (·.Terms)).filter (aZ 10 17)).mergeSort fun x y=>decide (x<=y)))
 |[],k,c,_=>by simp[DZ,Hl,Hf]
 |a::l,k,c,h=>by
   simp only[eT,List.flatMap_cons,List.length_append]at h
   have:=List.length_filter_le (aZ 10 17) a.Terms
   unfold DZ
   rw[ann a.Terms c (by omega),Option.bind_some]
   dsimp only
   rw[aeZ l _ _ (by simp only[eT,List.length_append]; omega),List.flatMap_cons,List.filter_append,List.append_assoc]
theorem agP(q:aV)(h:eT q.Atoms<4294967295):Nr q=some (fu (aZ 10 17) q.Atoms):=by
 rw[Nr,V4,aeZ _ _ _ (by simp; omega),Option.bind_some,List.nil_append,fu,abb]
theorem anl(l:List Int)(c:List Int)(h:c.length+l.length<4294967296):DV l 0 c=some (c++l.filter (aZ 0 9)):=by
 have:=Ra (L:=DV) (P:=fun _=>True) (p:=(aZ 0 9)) (g:=fun x:Int=>x) (fun _ _=>rfl) (fun x r k c _ hc=>by
   rw[DV,Wy,Option.bind_some]
   cases (aZ 0 9) x
   · rw[if_neg (by simp),if_neg (by simp)]; rfl
   · rw[if_pos rfl,app1 hc,if_pos rfl]; rfl) l 0 c (fun _ _=>trivial) h
 rw[this,List.map_id']
theorem aeY:∀(l:List Atom)(k:Nat)(c:List Int),c.length+eT l<4294967296->DW l k c=some (Lib.compact ((c++(l.flatMap (·.Terms)).filter (aZ 0 9)).mergeSort fun x y=>decide (x<=y)))
 |[],k,c,_=>by simp[DW,Hl,Hf]
 |a::l,k,c,h=>by
   simp only[eT,List.flatMap_cons,List.length_append]at h
   have:=List.length_filter_le (aZ 0 9) a.Terms
   unfold DW
   rw[anl a.Terms c (by omega),Option.bind_some]
   dsimp only
   rw[aeY l _ _ (by simp only[eT,List.length_append]; omega),List.flatMap_cons,List.filter_append,List.append_assoc]
theorem O8(q:aV)(h:eT q.Atoms<4294967295):AR q=some (fu (aZ 0 9) q.Atoms):=by
 rw[AR,VY,aeY _ _ _ (by simp; omega),Option.bind_some,List.nil_append,fu,abb]
theorem aeX(l:List Int)(v:Int):Mc l v=some (jE (fun x=>v==x) l 0):=by
 rw[Mc]
 exact pV (L:=L9 v) (f:=fun x=>some (v==x)) (p:=fun x=>v==x) (fun _=>rfl) (fun _ _ _=>rfl) l 0 (fun _ _=>rfl)
theorem aac(l:List Int)(v:Int):G_ l v=some (decide (v∈l)):=by
 rw[G_,aeX,Option.bind_some,uo]
 congr 1
 rw[Bool.eq_iff_iff]
 simp
def gM(s:List Int)(q:aV):Bool:=q.Atoms.all (qJ s)&&(q.Head.all (fun t=>decide (t∈fu (aZ 10 17) q.Atoms))&&(jJ s&&(aZ 1 4 (q.Atoms.length:Int)&&decide ((q.Head.length:Int)<=3))))
theorem aor(s:List Int)(q:aV)(v:List Int):∀(l:List Int)(k:Nat),Es s q v l k=some (l.all (fun t=>decide (t∈v))&&(jJ s&&(aZ 1 4 (q.Atoms.length:Int)&&decide ((q.Head.length:Int)<=3)))):=by
 intro l
 induction l with
 |nil=>
   intro k
   rw[Es,Mo,Option.bind_some,ug]
   cases jJ s<;>cases aZ 1 4 (q.Atoms.length:Int)<;>rfl
 |cons x l ih=>
   intro k
   rw[Es,Qr,Option.bind_some,ih,List.all_cons]
   cases decide (x∈v)<;>rfl
theorem IY(s:List Int)(q:aV)(hs:s.length<4294967296)(h:eT q.Atoms<4294967295):xS s q=some (gM s q):=by
 have key:∀(l:List Atom)(k:Nat),Et s q l k=some (l.all (qJ s)&&(q.Head.all (fun t=>decide (t∈fu (aZ 10 17) q.Atoms))&&(jJ s&&(aZ 1 4 (q.Atoms.length:Int)&&decide ((q.Head.length:Int)<=3))))):=by
   intro l
   induction l with
   |nil=>
     intro k
     rw[Et,agO q h,Option.bind_some,aor]
     simp
   |cons x l ih=>
     intro k
     rw[Et,aqN s x hs,Option.bind_some,ih,List.all_cons]
     cases qJ s x<;>rfl
 rw[xS,key]; rfl
theorem PM(s:List Int)(q:aV)(hs:s.length<4294967296)(h:eT q.Atoms<4294967295):AY s q=some (gM s q):=by
 have h1:OM q.Atoms s=some (q.Atoms.any fun a=>!qJ s a):=by
   unfold OM VJ
   rw[pV (L:=LK s) (f:=fun a=>PV a s) (p:=fun a=>!qJ s a) (fun k=>rfl) (fun x r k=>rfl) q.Atoms 0 (fun x _=>by rw[PV,aqO s x hs]; rfl),Option.bind_some,uo]
 have h2:OV q.Head (fu (aZ 10 17) q.Atoms)=some (q.Head.any fun t=>!decide (t∈fu (aZ 10 17) q.Atoms)):=by
   unfold OV VU
   rw[pV (L:=LZ _) (f:=fun t=>PW t (fu (aZ 10 17) q.Atoms)) (p:=fun t=>!decide (t∈fu (aZ 10 17) q.Atoms)) (fun k=>rfl) (fun x r k=>rfl) q.Head 0 (fun x _=>by rw[PW,aac]; rfl),Option.bind_some,uo]
 unfold AY gM
 rw[Wm,Option.bind_some,EH,Option.bind_some,h1,Option.bind_some,W9,agP q h,Option.bind_some,h2]
 have e1:(q.Atoms.any fun a=>!qJ s a)=!(q.Atoms.all (qJ s)):=by simp[List.all_eq_not_any_not]
 have e2:(q.Head.any fun t=>!decide (t∈fu (aZ 10 17) q.Atoms))=!(q.Head.all fun t=>decide (t∈fu (aZ 10 17) q.Atoms)):=by simp[List.all_eq_not_any_not]
 rw[e1,e2]
 cases jJ s<;>cases aZ 1 4 (q.Atoms.length:Int)<;>cases q.Atoms.all (qJ s)<;>cases decide ((q.Head.length:Int)<=3)<;>cases (q.Head.all fun t=>decide (t∈fu (aZ 10 17) q.Atoms))<;>rfl
theorem aqP(s:List Int)(l:List Method)(q:aV)(hs:s.length<4294967296)(hl:fA lc l)(h:eT q.Atoms<4294967295):QP s l q=some (f_ s l&&gM s q):=by
 rw[QP,afH s l hs hl,Option.bind_some,IY s q hs h]
 cases f_ s l<;>rfl
theorem apt(s:List Int)(l:List Method)(q:aV)(hs:s.length<4294967296)(hl:fA lc l)(h:eT q.Atoms<4294967295):Qn s l q=some (f_ s l&&gM s q):=by
 rw[Qn,afI s l hs hl,Option.bind_some,PM s q hs h]
 cases f_ s l<;>rfl
def kr:List Int->List Int->Int->Option Int
 |v::vs,x::xs,t=>if v=t then some x else kr vs xs t
 |_,_,_=>none
theorem ahB(vs:List Int)(t:Int):kr vs [] t=none:=by cases vs<;>rfl
theorem aos(b:aS)(t:Int)(hv:b.Vars.length<4294967296):∀(m i:Nat),i<=b.Vars.length->b.Vars.length-i<m->IG b t m (i:Int)=some ((kr (b.Vars.drop i) (b.Values.drop i) t).getD (-1)):=by
 intro m
 induction m with
 |zero=>intro i _ h; omega
 |succ m ih=>
   intro i hi hm
   unfold IG
   by_cases h1:i<b.Vars.length
   · by_cases h2:i<b.Values.length
     · rw[if_pos (by simp; omega),jB,List.getElem?_eq_getElem h1,Option.bind_some,jB,List.getElem?_eq_getElem h2,Option.bind_some,List.drop_eq_getElem_cons h1,List.drop_eq_getElem_cons h2,kr]
       by_cases e:b.Vars[i]=t
       · rw[if_pos (by simpa using e),if_pos e]; rfl
       · rw[if_neg (by simpa using e),if_neg e,show IntKind.i64.wrap ((i:Int)+1)=((i+1:Nat):Int)from by rw[fo (by omega) (by omega)]; rfl,ih (i+1) (by omega) (by omega)]
     · rw[if_neg (by simp; omega),List.drop_eq_nil_of_le (show b.Values.length<=i by omega),ahB]; rfl
   · rw[if_neg (by simp; omega),List.drop_eq_nil_of_le (by omega)]; rfl
theorem aot(b:aS)(t:Int)(hv:b.Vars.length<4294967296):∀(m i:Nat),i<=b.Vars.length->b.Vars.length-i<m->IJ b t m (i:Int)=some (kr (b.Vars.drop i) (b.Values.drop i) t).isSome:=by
 intro m
 induction m with
 |zero=>intro i _ h; omega
 |succ m ih=>
   intro i hi hm
   unfold IJ
   by_cases h1:i<b.Vars.length
   · by_cases h2:i<b.Values.length
     · rw[if_pos (by simp; omega),jB,List.getElem?_eq_getElem h1,Option.bind_some,List.drop_eq_getElem_cons h1,List.drop_eq_getElem_cons h2,kr]
       by_cases e:b.Vars[i]=t
       · rw[if_pos (by simpa using e),if_pos e]; rfl
       · rw[if_neg (by simpa using e),if_neg e,show IntKind.i64.wrap ((i:Int)+1)=((i+1:Nat):Int)from by rw[fo (by omega) (by omega)]; rfl,ih (i+1) (by omega) (by omega)]
     · rw[if_neg (by simp; omega),List.drop_eq_nil_of_le (show b.Values.length<=i by omega),ahB]; rfl
   · rw[if_neg (by simp; omega),List.drop_eq_nil_of_le (by omega)]; rfl
def lm(vs xs:List Int)(t:Int):Int:=if aZ 10 17 t then (kr vs xs t).getD (-1)else t
theorem aaM(b:aS)(t:Int)(hv:b.Vars.length<4294967296):AX b t=some (lm b.Vars b.Values t):=by
 unfold AX lm
 rw[M6,Option.bind_some]
 cases aZ 10 17 t
 · simp
 · rw[if_neg (by simp),if_pos rfl,show ((b.Vars.length:Int)-0).toNat+2=b.Vars.length+2 by omega,show (0:Int)=((0:Nat):Int)from rfl,aos b t hv _ 0 (by omega) (by omega)]
   rfl
theorem ap2(b:aS)(t:Int)(hv:b.Vars.length<4294967296):M9 b t=some (kr b.Vars b.Values t).isSome:=by
 unfold M9
 rw[show ((b.Vars.length:Int)-0).toNat+2=b.Vars.length+2 by omega,show (0:Int)=((0:Nat):Int)from rfl,aot b t hv _ 0 (by omega) (by omega)]
 rfl
theorem aby(t:Int):∀(vs xs:List Int)(k:Nat),vs.length=xs.length->(jE (fun x=>t==x) vs k= -1/\kr vs xs t=none)\/ ∃j:Nat,j<vs.length/\jE (fun x=>t==x) vs k=((k+j:Nat):Int)/\ ∃y,xs[j]?=some y/\kr vs xs t=some y
 |[],xs,k,_=>.inl ⟨rfl,rfl⟩
 |v::vs,[],k,h=>by simp at h
 |v::vs,x::xs,k,h=>by
   unfold jE kr
   by_cases e:v=t
   · subst e
     rw[if_pos (by simp),if_pos rfl]
     exact .inr ⟨0,by simp,by simp,x,rfl,rfl⟩
   · rw[if_neg (by simp; exact fun h=>e h.symm),if_neg e]
     rcases aby t vs xs (k+1) (by simpa using h)with⟨h1,h2⟩|⟨j,h1,h2,y,h3,h4⟩
     · exact .inl ⟨h1,h2⟩
     · exact .inr ⟨j+1,by simp; omega,by rw[h2]; congr 1; omega,y,by simpa using h3,h4⟩
theorem ag6(b:aS)(t:Int)(h:b.Vars.length=b.Values.length):H8 b t=some (jE (fun x=>t==x) b.Vars 0):=by
 unfold H8
 rw[if_neg (by omega),tK,if_pos (by simp),Option.bind_some,aeX,Option.bind_some]
 congr 2
 rw[show ((b.Vars.length:Int)).toNat=b.Vars.length by omega,List.take_length]
theorem WA(b:aS)(t:Int)(h:b.Vars.length=b.Values.length):zq b t=some (lm b.Vars b.Values t):=by
 unfold zq lm
 rw[Qu,Option.bind_some]
 cases aZ 10 17 t
 · simp
 · rw[if_neg (by simp),if_pos rfl,ag6 b t h,Option.bind_some]
   rcases aby t b.Vars b.Values 0 h with⟨h1,h2⟩|⟨j,h1,h2,y,h3,h4⟩
   · rw[h1,h2,if_pos (by decide)]; rfl
   · rw[h2,h4,if_neg (by simp),Nat.zero_add,jB,h3]; rfl
theorem ahC{t x:Int}:∀{vs xs:List Int},vs.length=xs.length->kr vs xs t=none->kr (vs++[t]) (xs++[x]) t=some x
 |[],[],_,_=>by simp[kr]
 |v::vs,[],h,_=>by simp at h
 |[],x::xs,h,_=>by simp at h
 |v::vs,y::xs,h,hn=>by
   unfold kr at hn
   split at hn
   · simp at hn
   · rename_i e
     rw[List.cons_append,List.cons_append,kr,if_neg e]
     exact ahC (by simpa using h) hn
def nS(fv:List Int):List Int->Nat->List Int->List Int->Option (List Int×List Int)
 |[],_,vs,xs=>some (vs,xs)
 |t::r,k,vs,xs=>
   if aZ 10 17 t&&!(kr vs xs t).isSome then nS fv r (k+1) (vs++[t]) (xs++[fv[k]?.getD 0])
   else if lm vs xs t !=fv[k]?.getD 0 then none else nS fv r (k+1) vs xs
def GK:Option (List Int×List Int)->aS×Bool
 |some p=>({Vars:=p.1,Values:=p.2},true)
 |none=>({Vars:=[],Values:=[]},false)
theorem aap(f:Fact):∀(l:List Int)(k:Nat)(vs xs:List Int),k+l.length<=f.Values.length->vs.length=xs.length->vs.length+l.length<4294967295->Ia f l k vs xs=some (GK (nS f.Values l k vs xs))
 |[],k,vs,xs,_,_,_=>rfl
 |t::l,k,vs,xs,hk,he,hb=>by
   simp only[List.length_cons]at hk hb
   have hlt:k<f.Values.length:=by omega
   have e1:AX {Vars:=vs,Values:=xs} t=some (lm vs xs t):=aaM _ _ (by show vs.length<_; omega)
   have e2:M9 {Vars:=vs,Values:=xs} t=some (kr vs xs t).isSome:=ap2 _ _ (by show vs.length<_; omega)
   have e3:E5 {Vars:=vs,Values:=xs} t f.Values[k]=some {Vars:=vs++[t],Values:=xs++[f.Values[k]]}:=by
     simp only[E5]
     rw[nD (by omega),Option.bind_some,kz (by simp; omega),Option.bind_some,nD (by omega),Option.bind_some,kz (by simp; omega),Option.bind_some]
   have ih1:=aap f l (k+1) vs xs (by omega) he (by omega)
   have ih2:=aap f l (k+1) (vs++[t]) (xs++[f.Values[k]]) (by omega) (by simp[he]) (by simp; omega)
   unfold Ia nS
   rw[e1,Option.bind_some,M6,Option.bind_some,e2,jB,List.getElem?_eq_getElem hlt]
   rcases Bool.eq_false_or_eq_true (aZ 10 17 t)with h1|h1<;>rcases Bool.eq_false_or_eq_true (kr vs xs t).isSome with h3|h3<;>by_cases h2:lm vs xs t=f.Values[k]<;>simp[h1,h2,h3,e3,ih1,ih2]<;>rfl
theorem aaq(f:Fact):∀(l:List Int)(k:Nat)(vs xs:List Int),k+l.length<=f.Values.length->vs.length=xs.length->vs.length+l.length<4294967295->Il f l k vs xs=some (GK (nS f.Values l k vs xs))
 |[],k,vs,xs,_,_,_=>rfl
 |t::l,k,vs,xs,hk,he,hb=>by
   simp only[List.length_cons]at hk hb
   have hlt:k<f.Values.length:=by omega
   have hd:(decide (jE (fun x=>t==x) vs 0<0))=!(kr vs xs t).isSome:=by
     rcases aby t vs xs 0 he with⟨h1,h2⟩|⟨j,h1,h2,y,h3,h4⟩
     · rw[h1,h2]; rfl
     · rw[h2,h4]; simp
   have e1:zq {Vars:=vs,Values:=xs} t=some (lm vs xs t):=WA _ t he
   have e2:H8 {Vars:=vs,Values:=xs} t=some (jE (fun x=>t==x) vs 0):=ag6 _ t he
   have e4:app vs [t]=some (vs++[t]):=kz (by simp; omega)
   have e5:app xs [f.Values[k]]=some (xs++[f.Values[k]]):=kz (by simp; omega)
   have e6:zq {Vars:=vs++[t],Values:=xs++[f.Values[k]]} t=some (lm (vs++[t]) (xs++[f.Values[k]]) t):=WA _ t (by simp[he])
   have ih1:=aaq f l (k+1) vs xs (by omega) he (by omega)
   have ih2:=aaq f l (k+1) (vs++[t]) (xs++[f.Values[k]]) (by omega) (by simp[he]) (by simp; omega)
   unfold Il nS
   rw[Qu,Option.bind_some,e2,jB,List.getElem?_eq_getElem hlt]
   by_cases h3:(kr vs xs t).isSome=true
   · rcases Bool.eq_false_or_eq_true (aZ 10 17 t)with h1|h1<;>by_cases h2:lm vs xs t=f.Values[k]<;>simp[h1,h2,h3,hd,e1,ih1]<;>rfl
   · have hn:kr vs xs t=none:=by simpa using h3
     by_cases h1:aZ 10 17 t=true
     · have hv:lm (vs++[t]) (xs++[f.Values[k]]) t=f.Values[k]:=by rw[lm,h1,if_pos rfl,ahC he hn]; rfl
       simp[h1,hn,hd,e4,e5,e6,hv,ih2]
     · rw[Bool.not_eq_true]at h1
       by_cases h2:lm vs xs t=f.Values[k]<;>simp[h1,h2,hn,hd,e1,ih1]<;>rfl
def zG(b:aS)(a:Atom)(f:Fact):Option (List Int×List Int):=
 if (a.Rel !=f.Rel)||(((a.Terms.length:Int)!=(f.Values.length:Int))||((b.Vars.length:Int)!=(b.Values.length:Int)))then none else nS f.Values a.Terms 0 b.Vars b.Values
def om(n:Nat)(b:aS):Prop:=b.Vars.length=b.Values.length/\b.Vars.length<=n
theorem aoV(b:aS)(a:Atom)(f:Fact){n:Nat}(hb:om n b)(hn:n+a.Terms.length<4294967295):PT b a f=some (GK (zG b a f)):=by
 unfold PT zG
 rw[Jo,nD (by have:=hb.2; omega),Option.bind_some,nD (by have:=hb.1; have:=hb.2; omega),Option.bind_some,Option.bind_some]
 dsimp only
 split
 · rfl
 · rename_i h
   simp only[Bool.or_eq_true,bne_iff_ne,ne_eq,not_or,Decidable.not_not]at h
   exact aap f a.Terms 0 _ _ (by omega) hb.1 (by have:=hb.2; show b.Vars.length+_<_; omega)
theorem aoW(b:aS)(a:Atom)(f:Fact){n:Nat}(hb:om n b)(hn:n+a.Terms.length<4294967295):PZ b a f=some (GK (zG b a f)):=by
 unfold PZ zG
 split
 · rfl
 · rename_i h
   simp only[Bool.or_eq_true,bne_iff_ne,ne_eq,not_or,Decidable.not_not]at h
   rw[Wj,He _ (by have:=hb.2; omega),Option.bind_some,He _ (by have:=hb.1; have:=hb.2; omega),Option.bind_some,Option.bind_some]
   exact aaq f a.Terms 0 _ _ (by omega) hb.1 (by have:=hb.2; show b.Vars.length+_<_; omega)
def lq(a:Atom)(facts:List Fact)(b:aS):List aS:=facts.filterMap fun f=>(zG b a f).map fun p=>({Vars:=p.1,Values:=p.2}:aS)
theorem Xt(a:Atom)(facts:List Fact)(b:aS):(lq a facts b).length<=facts.length:=List.length_filterMap_le ..
theorem V7(a:Atom)(b:aS){n:Nat}(hb:om n b)(hn:n+a.Terms.length<4294967295):∀(l:List Fact)(k:Nat)(c:List aS),c.length+l.length<4294967296->Ei a b l k c=some (c++lq a l b)
 |[],k,c,_=>by simp[Ei,lq]
 |f::l,k,c,h=>by
   simp only[List.length_cons]at h
   unfold Ei
   rw[aoV b a f hb hn,Option.bind_some,lq,List.filterMap_cons]
   cases hp:zG b a f with
   |none=>
     simp only[GK,Bool.false_eq_true,if_false,Option.bind_some,Option.map_none]
     rw[V7 a b hb hn l _ _ (by omega)]; rfl
   |some p=>
     simp only[GK,eq_self,if_true,Option.map_some]
     rw[app1 (by omega),Option.bind_some,Option.bind_some]
     rw[V7 a b hb hn l _ _ (by simp; omega),List.append_assoc]; rfl
theorem afw(a:Atom)(facts:List Fact){n:Nat}(hn:n+a.Terms.length<4294967295):∀(l:List aS)(k:Nat)(c:List aS),(∀b∈l,om n b)->c.length+l.length*facts.length<4294967296->xL a facts l k c=some (c++l.flatMap (lq a facts))
 |[],k,c,_,_=>by simp[xL]
 |b::l,k,c,hb,h=>by
   simp only[List.length_cons,Nat.succ_mul]at h
   have:=Xt a facts b
   unfold xL
   rw[V7 a b (hb b (by simp)) hn facts 0 c (by omega),Option.bind_some]
   dsimp only
   rw[afw a facts hn l _ _ (fun x hx=>hb x (by simp[hx])) (by simp; omega),List.flatMap_cons,List.append_assoc]
theorem V8(a:Atom)(b:aS){n:Nat}(hb:om n b)(hn:n+a.Terms.length<4294967295):∀(l:List Fact)(k:Nat)(c:List aS),c.length+l.length<4294967296->Eo a b l k c=some (c++lq a l b)
 |[],k,c,_=>by simp[Eo,lq]
 |f::l,k,c,h=>by
   simp only[List.length_cons]at h
   unfold Eo
   rw[aoW b a f hb hn,Option.bind_some,lq,List.filterMap_cons]
   cases hp:zG b a f with
   |none=>
     simp only[GK,Bool.false_eq_true,if_false,Option.bind_some,Option.map_none]
     rw[V8 a b hb hn l _ _ (by omega)]; rfl
   |some p=>
     simp only[GK,eq_self,if_true,Option.map_some]
     rw[app1 (by omega),Option.bind_some,Option.bind_some]
     rw[V8 a b hb hn l _ _ (by simp; omega),List.append_assoc]; rfl
theorem afx(a:Atom)(facts:List Fact){n:Nat}(hn:n+a.Terms.length<4294967295):∀(l:List aS)(k:Nat)(c:List aS),(∀b∈l,om n b)->c.length+l.length*facts.length<4294967296->xM a facts l k c=some (c++l.flatMap (lq a facts))
 |[],k,c,_,_=>by simp[xM]
 |b::l,k,c,hb,h=>by
   simp only[List.length_cons,Nat.succ_mul]at h
   have:=Xt a facts b
   unfold xM
   rw[V8 a b (hb b (by simp)) hn facts 0 c (by omega),Option.bind_some]
   dsimp only
   rw[afx a facts hn l _ _ (fun x hx=>hb x (by simp[hx])) (by simp; omega),List.flatMap_cons,List.append_assoc]
theorem WJ{fv:List Int}:∀{l:List Int}{k:Nat}{vs xs:List Int}{p:List Int×List Int},nS fv l k vs xs=some p->vs.length=xs.length->p.1.length=p.2.length/\p.1.length<=vs.length+l.length
 |[],k,vs,xs,p,h,he=>by
   simp only[nS,Option.some.injEq]at h
   subst h; exact⟨he,by simp⟩
 |t::l,k,vs,xs,p,h,he=>by
   unfold nS at h
   split at h
   · have:=WJ h (by simp[he])
     simp only[List.length_append,List.length_cons,List.length_nil]at this ⊢
     exact⟨this.1,by omega⟩
   · split at h
     · simp at h
     · have:=WJ h he
       simp only[List.length_cons]
       exact⟨this.1,by omega⟩
theorem abY{a:Atom}{facts:List Fact}{b x:aS}{n:Nat}(hb:om n b)(h:x∈lq a facts b):om (n+a.Terms.length) x:=by
 simp only[lq,List.mem_filterMap,Option.map_eq_some_iff]at h
 obtain⟨f,-,p,hp,rfl⟩:=h
 unfold zG at hp
 split at hp
 · simp at hp
 · have:=WJ hp hb.1
   exact⟨this.1,by show p.1.length<=_; have:=hb.2; omega⟩
def zH(facts:List Fact):List Atom->List aS->List aS
 |[],l=>l
 |a::r,l=>zH facts r (l.flatMap (lq a facts))
theorem abZ{α β:Type}(f:α->List β)(c:Nat)(hf:∀x,(f x).length<=c):∀l:List α,(l.flatMap f).length<=l.length*c
 |[]=>by simp
 |x::l=>by
   have h1:=hf x
   have h2:=abZ f c hf l
   rw[List.flatMap_cons,List.length_append,List.length_cons,Nat.succ_mul]; omega
theorem afj(facts:List Fact)(hf:facts.length<=24):∀(l:List Atom)(k n:Nat)(c:List aS),l.length<=4->(∀a∈l,a.Terms.length<=3)->(∀b∈c,om n b)->n+3*l.length<=1000->c.length*24 ^ l.length<=24 ^ 4->AA facts l k c=some (zH facts l c)
 |[],k,n,c,_,_,_,_,_=>rfl
 |a::l,k,n,c,hl,ha,hb,hn,hc=>by
   have ha3:=ha a (by simp)
   rw[List.length_cons,Nat.pow_succ,Nat.mul_comm (24 ^ l.length) 24,←Nat.mul_assoc]at hc
   have hp:0<24 ^ l.length:=Nat.pow_pos (by omega)
   have h1:c.length*24<=24 ^ 4:=Nat.le_trans (Nat.le_mul_of_pos_right _ hp) hc
   have h2:c.length*facts.length<=c.length*24:=Nat.mul_le_mul_left _ hf
   have h3:=abZ (lq a facts) 24 (fun b=>Nat.le_trans (Xt a facts b) hf) c
   unfold AA zH
   rw[Qh,afw a facts (n:=n) (by simp at hn; omega) c 0 [] hb (by simp; omega),Option.bind_some,List.nil_append]
   exact afj facts hf l (k+1) (n+a.Terms.length) _ (by simp at hl; omega) (fun x hx=>ha x (by simp[hx])) (fun x hx=>by
     obtain⟨b,hb1,hb2⟩:=List.mem_flatMap.1 hx
     exact abY (hb b hb1) hb2) (by simp at hn; omega) (Nat.le_trans (Nat.mul_le_mul_right _ h3) hc)
theorem afk(facts:List Fact)(hf:facts.length<=24):∀(l:List Atom)(k n:Nat)(c:List aS),l.length<=4->(∀a∈l,a.Terms.length<=3)->(∀b∈c,om n b)->n+3*l.length<=1000->c.length*24 ^ l.length<=24 ^ 4->AB facts l k c=some (zH facts l c)
 |[],k,n,c,_,_,_,_,_=>rfl
 |a::l,k,n,c,hl,ha,hb,hn,hc=>by
   have ha3:=ha a (by simp)
   rw[List.length_cons,Nat.pow_succ,Nat.mul_comm (24 ^ l.length) 24,←Nat.mul_assoc]at hc
   have hp:0<24 ^ l.length:=Nat.pow_pos (by omega)
   have h1:c.length*24<=24 ^ 4:=Nat.le_trans (Nat.le_mul_of_pos_right _ hp) hc
   have h2:c.length*facts.length<=c.length*24:=Nat.mul_le_mul_left _ hf
   have h3:=abZ (lq a facts) 24 (fun b=>Nat.le_trans (Xt a facts b) hf) c
   unfold AB zH
   rw[Qo,afx a facts (n:=n) (by simp at hn; omega) c 0 [] hb (by simp; omega),Option.bind_some,List.nil_append]
   exact afk facts hf l (k+1) (n+a.Terms.length) _ (by simp at hl; omega) (fun x hx=>ha x (by simp[hx])) (fun x hx=>by
     obtain⟨b,hb1,hb2⟩:=List.mem_flatMap.1 hx
     exact abY (hb b hb1) hb2) (by simp at hn; omega) (Nat.le_trans (Nat.mul_le_mul_right _ h3) hc)
theorem mi{s:List Int}{q:aV}(h:gM s q=true):q.Atoms.length<=4/\(∀a∈q.Atoms,a.Terms.length<=3)/\q.Head.length<=3:=by
 simp only[gM,Bool.and_eq_true,List.all_eq_true,decide_eq_true_eq]at h
 obtain⟨h1,-,-,h2,h3⟩:=h
 simp only[aZ,Bool.and_eq_true,decide_eq_true_eq]at h2
 refine⟨by omega,fun a ha=>?_,by omega⟩
 have:=h1 a ha
 simp only[qJ,Bool.and_eq_true,beq_iff_eq]at this
 have h4:=vF this.1
 omega
def zw(q:aV)(facts:List Fact):List aS:=zH facts q.Atoms [{Vars:=[],Values:=[]}]
theorem aou{s:List Int}{q:aV}{facts:List Fact}(hq:gM s q=true)(hf:facts.length<=24):IL q facts=some (zw q facts):=by
 obtain⟨h1,h2,-⟩:=mi hq
 rw[IL,afj facts hf q.Atoms 0 0 _ h1 h2 (fun b hb=>by simp at hb; subst hb; exact⟨rfl,by simp⟩) (by omega) (by
   simp only[List.length_cons,List.length_nil,Nat.zero_add,Nat.one_mul]
   exact Nat.pow_le_pow_right (by omega) h1)]
 rfl
theorem aov{s:List Int}{q:aV}{facts:List Fact}(hq:gM s q=true)(hf:facts.length<=24):IU q facts=some (zw q facts):=by
 obtain⟨h1,h2,-⟩:=mi hq
 rw[IU,afk facts hf q.Atoms 0 0 _ h1 h2 (fun b hb=>by simp at hb; subst hb; exact⟨rfl,by simp⟩) (by omega) (by
   simp only[List.length_cons,List.length_nil,Nat.zero_add,Nat.one_mul]
   exact Nat.pow_le_pow_right (by omega) h1)]
 rfl
theorem ahD{facts:List Fact}:∀{l:List Atom}{n:Nat}{c:List aS},(∀b∈c,om n b)-> ∀b∈zH facts l c,om (n+eT l) b
 |[],n,c,h,b,hb=>by simpa[eT]using h b hb
 |a::l,n,c,h,b,hb=>by
   have:=ahD (l:=l) (n:=n+a.Terms.length) (c:=c.flatMap (lq a facts)) (fun x hx=>by
     obtain⟨b,hb1,hb2⟩:=List.mem_flatMap.1 hx
     exact abY (h b hb1) hb2) b hb
   have e:n+eT (a::l)=n+a.Terms.length+eT l:=by simp only[eT,List.flatMap_cons,List.length_append]; omega
   rw[e]; exact this
theorem uq:∀{l:List Atom},(∀a∈l,a.Terms.length<=3)->eT l<=3*l.length
 |[],_=>by simp[eT]
 |a::l,h=>by
   have h1:=h a (by simp)
   have h2:=uq (l:=l) fun x hx=>h x (by simp[hx])
   simp only[eT,List.flatMap_cons,List.length_append,List.length_cons]at*; omega
theorem WK{s:List Int}{q:aV}{facts:List Fact}(hq:gM s q=true):∀b∈zw q facts,om 12 b:=fun b hb=>by
 obtain⟨h1,h2,-⟩:=mi hq
 have h3:=uq h2
 have:=ahD (n:=0) (fun b hb=>by simp at hb; subst hb; exact⟨rfl,by simp⟩) b hb
 exact⟨this.1,by have:=this.2; omega⟩
def ko(q:aV)(b:aS):List Int:=q.Head.map (lm b.Vars b.Values)
theorem afQ(b:aS)(hb:b.Vars.length=b.Values.length):∀(l:List Int)(k:Nat)(c:List Int),c.length+l.length<4294967296->Ew b l k c=some (c++l.map (lm b.Vars b.Values))
 |[],k,c,_=>by simp[Ew]
 |t::l,k,c,h=>by
   simp only[List.length_cons]at h
   rw[Ew,WA b t hb,Option.bind_some,app1 (by omega),Option.bind_some,afQ b hb l _ _ (by simp; omega),List.map_cons,List.append_assoc]
   rfl
theorem PN(q:aV)(b:aS)(hb:b.Vars.length=b.Values.length)(hq:q.Head.length<=3):EY q b=some (ko q b):=by
 rw[EY,afQ b hb _ _ _ (by simp; omega),List.nil_append]; rfl
theorem aic:∀l:List Atom,eT l<=xc Ff l
 |[]=>by simp[eT]
 |a::l=>by
   have:=aic l
   simp only[eT,List.flatMap_cons,List.length_append,xc,List.map_cons,List.sum_cons,List.length_cons,Ff]at*; omega
theorem arP(q:aV)(h:QF q<4294967296):ah7 q:=by
 unfold QF at h
 exact⟨ui _ (by omega),ab9 (f:=Ff) (fun x hx=>ui _ hx) _ (by omega)⟩
theorem MU{p:Int->Bool}{l:List Atom}:(fu p l).length<=eT l:=by
 have:=abg (p:=p) (v:=l.flatMap (·.Terms)) (l:=[])
 simpa[fu,eT]using this
theorem ab0{a:Fact}:¬ ol a a:=by
 unfold ol; rw[Ps.2 rfl]; decide
theorem atm{a b:Fact}(h1:ol a b)(h2:ol b a):False:=ab0 (aaB h1 h2)
theorem ajB:∀{a b:List Fact},a.Pairwise ol->b.Pairwise ol->(∀x,x∈a↔x∈b)->a=b
 |[],[],_,_,_=>rfl
 |[],y::b,_,_,h=>absurd ((h y).2 (by simp)) (by simp)
 |x::a,[],_,_,h=>absurd ((h x).1 (by simp)) (by simp)
 |x::a,y::b,ha,hb,h=>by
   rw[List.pairwise_cons]at ha hb
   have e:x=y:=by
     have h1:=(h x).1 (by simp)
     have h2:=(h y).2 (by simp)
     rw[List.mem_cons]at h1 h2
     rcases h1 with h1|h1
     · exact h1
     · rcases h2 with h2|h2
       · exact h2.symm
       · exact (atm (hb.1 x h1) (ha.1 y h2)).elim
   subst e
   rw[ajB ha.2 hb.2 fun z=>?_]
   constructor
   · intro hz
     have h1:=(h z).1 (by simp[hz])
     rcases List.mem_cons.1 h1 with rfl|h1
     · exact (ab0 (ha.1 z hz)).elim
     · exact h1
   · intro hz
     have h1:=(h z).2 (by simp[hz])
     rcases List.mem_cons.1 h1 with rfl|h1
     · exact (ab0 (hb.1 z hz)).elim
     · exact h1
theorem QH{y:Fact}:∀{l c:List Fact},y∈l.foldl eZ c↔y∈c\/y∈l
 |[],c=>by simp
 |x::l,c=>by
   rw[List.foldl_cons,QH,Xe,List.mem_cons]
   constructor
   · rintro ((h|h)|h)
     · exact .inr (.inl h)
     · exact .inl h
     · exact .inr (.inr h)
   · rintro (h|h|h)
     · exact .inl (.inr h)
     · exact .inl (.inl h)
     · exact .inr h
theorem Xu:∀{l c:List Fact},c.Pairwise ol->(l.foldl eZ c).Pairwise ol
 |[],_,h=>h
 |x::l,c,h=>by rw[List.foldl_cons]; exact Xu (aia h)
def LC(a:Atom)(i:Int):Int:=(ix a.Terms i).getD 0
def vP(a:Atom)(b:List Int)(i:Int):Bool:=aZ 0 ((a.Terms.length:Int)-1) i&&!(aZ 10 17 (LC a i)&&!decide (LC a i∈b))
def xm(m:Method)(a:Atom)(b:List Int):Bool:=m.Rel==a.Rel&&m.Inputs.all (vP a b)
theorem ark{m:Method}{a:Atom}{b b':List Int}(h:∀v,aZ 10 17 v=true->(v∈b↔v∈b')):xm m a b=xm m a b':=by
 have e:vP a b=vP a b':=by
   funext i
   unfold vP
   cases hv:aZ 10 17 (LC a i)
   · rfl
   · rw[decide_eq_decide.2 (h _ hv)]
 rw[xm,xm,e]
theorem aaw(a:Atom)(b:List Int)(ha:a.Terms.length<4294967296):∀(l:List Int)(k:Nat),IE a b l k=some (l.all (vP a b))
 |[],k=>rfl
 |x::l,k=>by
   rw[IE,ug,fo (by omega) (by omega),Option.bind_some,List.all_cons,vP]
   cases h:aZ 0 ((a.Terms.length:Int)-1) x
   · simp
   · obtain⟨y,e1,-⟩:=XQ h
     have e2:LC a x=y:=by rw[LC,e1]; rfl
     rw[if_neg (by simp),e1,Option.bind_some,M6,Option.bind_some,e2]
     cases aZ 10 17 y
     · simpa using aaw a b ha l (k+1)
     · rw[Qr]
       by_cases hm:y∈b
       · simpa[hm]using aaw a b ha l (k+1)
       · simp[hm]
theorem ap3(m:Method)(a:Atom)(b:List Int)(ha:a.Terms.length<4294967296):M8 m a b=some (xm m a b):=by
 rw[M8,aaw a b ha,xm]
 by_cases h:m.Rel=a.Rel
 · simp[h]
 · simp[h]
theorem aoX(a:Atom)(b:List Int)(ha:a.Terms.length<4294967296)(i:Int):MN i a b=some (!vP a b i):=by
 rw[MN,EH,fo (by omega) (by omega),Option.bind_some,vP]
 cases h:aZ 0 ((a.Terms.length:Int)-1) i
 · rfl
 · obtain⟨y,e1,-⟩:=XQ h
   have e2:LC a i=y:=by rw[LC,e1]; rfl
   simp only[Bool.not_true,cond_false,e1,Option.bind_some,Qu,e2]
   cases aZ 10 17 y
   · rfl
   · rw[aac]
     cases decide (y∈b)<;>rfl
theorem ap4(m:Method)(a:Atom)(b:List Int)(ha:a.Terms.length<4294967296):QB m a b=some (xm m a b):=by
 have h1:OW m.Inputs a b=some (m.Inputs.any fun i=>!vP a b i):=by
   unfold OW VV
   rw[pV (L:=L6 a b) (f:=fun i=>MN i a b) (p:=fun i=>!vP a b i) (fun k=>rfl) (fun x r k=>rfl) m.Inputs 0 (fun x _=>aoX a b ha x),Option.bind_some,uo]
 rw[QB,h1,xm]
 have e2:(m.Inputs.any fun i=>!vP a b i)=!(m.Inputs.all (vP a b)):=by simp[List.all_eq_not_any_not]
 rw[e2]
 cases m.Rel==a.Rel<;>cases m.Inputs.all (vP a b)<;>rfl
def x_(l:List Method)(a:Atom)(b:List Int):Int:=jE (fun m=>xm m a b) l 0
theorem ap5(l:List Method)(a:Atom)(b:List Int)(ha:a.Terms.length<4294967296):WY l a b=some (x_ l a b):=
 pV (L:=Mt a b) (f:=fun m=>M8 m a b) (fun _=>rfl) (fun _ _ _=>rfl) l 0 fun m _=>ap3 m a b ha
theorem arl(l:List Method)(a:Atom)(b:List Int)(ha:a.Terms.length<4294967296):VB l a b=some (x_ l a b):=
 pV (L:=LF a b) (f:=fun m=>O3 m a b) (fun _=>rfl) (fun _ _ _=>rfl) l 0 fun m _=>by
   rw[O3,ap4 m a b ha,Option.bind_some]
   cases xm m a b<;>rfl
def pR(m:Method):Method:=if (m.Limit:Int)!=0 then {m with Rel:=-1}else m
theorem apu(l:List Method)(h:l.length<4294967296):Qe l=some (l.map pR):=by
 have:=abq (L:=Iy) (P:=fun _=>True) (g:=pR) (fun _ _=>rfl) (fun x r k c _ hc=>by
   rw[Iy,app1 hc,app1 hc,pR]
   split<;>rfl) l 0 [] (fun _ _=>trivial) (by simpa using h)
 simpa[Qe]using this
theorem anT(l:List Method)(hl:l.length<4294967296):∀(m i:Nat),i<=l.length->l.length-i<m->Ij l m ((l.take i).map pR++l.drop i) (i:Int)=some (l.map pR):=by
 intro m
 induction m with
 |zero=>intro i _ h; omega
 |succ m ih=>
   intro i hi hm
   unfold Ij
   by_cases hlt:i<l.length
   · have hx:((l.take i).map pR++l.drop i)[i]?=some l[i]:=by
       rw[List.getElem?_append_right (by simp; omega)]
       simp[hlt,Nat.min_eq_left hi]
     have ht:l.take (i+1)=l.take i++[l[i]]:=(List.take_append_getElem hlt).symm
     have hs:∀y:Method,y=pR l[i]->((l.take i).map pR++l.drop i).set i y=(l.take (i+1)).map pR++l.drop (i+1):=by
       rintro y rfl
       rw[List.set_append,if_neg (by simp; omega)]
       simp only[List.length_map,List.length_take,Nat.min_eq_left hi,Nat.sub_self]
       rw[List.drop_eq_getElem_cons hlt,List.set_cons_zero,ht,List.map_append,List.append_assoc]
       rfl
     rw[if_pos (by simpa using hlt),jB,hx,Option.bind_some,Option.bind_some]
     have hw:IntKind.i64.wrap ((i:Int)+1)=((i+1:Nat):Int):=by rw[fo (by omega) (by omega)]; rfl
     rw[hw]
     have hn:=ih (i+1) (by omega) (by omega)
     by_cases h0:(l[i].Limit:Int)!=0
     · rw[if_pos h0]
       simp only[Option.bind_some,Int.toNat_natCast]
       rw[hs _ (by rw[pR,if_pos h0])]
       exact hn
     · rw[if_neg h0]
       simp only[Option.bind_some]
       have e:(l.take i).map pR++l.drop i=(l.take (i+1)).map pR++l.drop (i+1):=by
         rw[List.drop_eq_getElem_cons hlt,ht,List.map_append,List.append_assoc,List.map_cons,pR,if_neg h0]
         rfl
       rw[e]
       exact hn
   · rw[if_neg (by simpa using hlt),List.drop_eq_nil_of_le (by omega),List.take_of_length_le (by omega),List.append_nil]
theorem aoY(l:List Method)(hl:l.length<4294967296):PX l=some (l.map pR):=by
 rw[PX,VP,nD hl]
 simp only[Option.bind_some]
 rw[show ((l.length:Int)-0).toNat+2=l.length+2 by omega]
 exact anT l hl (l.length+2) 0 (by omega) (by omega)
def nG(l:List Method)(b:List Int)(dn:Nat->Bool):List Atom->Nat->Option (Nat×Int×Atom)
 |[],_=>none
 |a::r,k=>if decide ((0:Int)<=x_ l a b)&&!dn k then some (k,x_ l a b,a)else nG l b dn r (k+1)
def J3(b:List Int)(a:Atom):List Int:=(a.Terms.filter (aZ 10 17)).foldl jh b
abbrev GS:=List Step×List Int×List Int
def nz(s:GS):Option (Nat×Int×Atom)->GS
 |none=>s
 |some (k,m,a)=>(s.1++[{Atom:=(k:Int),Method:=m}],J3 s.2.1 a,s.2.2++[(k:Int)])
def xH(l:List Method)(atoms:List Atom)(s:GS):GS:=nz s (nG l s.2.1 (fun k=>decide ((k:Int)∈s.2.2)) atoms 0)
def pG(l:List Method)(atoms:List Atom):Nat->GS->GS
 |0,s=>s
 |n+1,s=>pG l atoms n (xH l atoms s)
theorem aqQ(b:List Int)(a:Atom)(h:b.length+a.Terms.length<4294967295):QQ b a=some (J3 b a):=by
 have key:∀(l:List Int)(k:Nat)(c:List Int),c.length+l.length<4294967295->I5 l k c=some ((l.filter (aZ 10 17)).foldl jh c):=by
   intro l
   induction l with
   |nil=>intro k c _; rfl
   |cons x l ih=>
     intro k c hc
     simp only[List.length_cons]at hc
     have:=Q6 (l:=c) (x:=x)
     rw[I5,M6,Option.bind_some,List.filter_cons]
     cases aZ 10 17 x
     · simpa using ih (k+1) c (by omega)
     · rw[if_pos rfl,Qs c x (by omega),Option.bind_some,if_pos rfl]
       exact ih (k+1) _ (by omega)
 rw[QQ,nD (by omega),Option.bind_some,key _ _ _ (by omega)]; rfl
theorem aat(l:List Method)(s:GS)(h1:s.1.length<1000)(h2:s.2.1.length<1000)(h3:s.2.2.length<1000):∀(ats:List Atom)(k:Nat),(∀a∈ats,a.Terms.length<=3)->
   Iz l ats k s.1 s.2.1 s.2.2=some (nz s (nG l s.2.1 (fun k=>decide ((k:Int)∈s.2.2)) ats k))
 |[],k,_=>rfl
 |a::ats,k,ha=>by
   have h0:=ha a (by simp)
   rw[Iz,ap5 l a _ (by omega),Option.bind_some,nG]
   cases hd:decide ((0:Int)<=x_ l a s.2.1)
   · simpa using aat l s h1 h2 h3 ats (k+1) fun x hx=>ha x (by simp[hx])
   · rw[Qr]
     by_cases hm:(k:Int)∈s.2.2
     · simpa[hm]using aat l s h1 h2 h3 ats (k+1) fun x hx=>ha x (by simp[hx])
     · simp only[hm,cond_true,Option.bind_some,decide_false,Bool.not_false,if_true,Bool.and_self,nz,app1 (c:=s.1) (x:=({Atom:=(k:Int),Method:=x_ l a s.2.1}:Step)) (by omega),app1 (c:=s.2.2) (x:=(k:Int)) (by omega),aqQ s.2.1 a (by omega)]
theorem arQ(b:List Int)(a:Atom):(J3 b a).length<=b.length+a.Terms.length:=by
 have h1:=abx (v:=a.Terms.filter (aZ 10 17)) (l:=b)
 have h2:=List.length_filter_le (aZ 10 17) a.Terms
 unfold J3; omega
theorem Xf{l:List Method}{b:List Int}{dn:Nat->Bool}:∀{ats:List Atom}{k k':Nat}{m:Int}{a:Atom},nG l b dn ats k=some (k',m,a)->k<=k'/\ats[k'-k]?=some a/\dn k'=false/\0<=m/\m=x_ l a b
 |[],k,k',m,a,h=>by simp[nG]at h
 |x::ats,k,k',m,a,h=>by
   rw[nG]at h
   split at h
   · rename_i hc
     simp only[Bool.and_eq_true,decide_eq_true_eq,Bool.not_eq_true']at hc
     simp only[Option.some.injEq,Prod.mk.injEq]at h
     obtain⟨rfl,rfl,rfl⟩:=h
     exact⟨Nat.le_refl _,by simp,hc.2,hc.1,rfl⟩
   · obtain⟨h1,h2,h3⟩:=Xf h
     refine⟨by omega,?_,h3⟩
     rw[show k'-k=(k'-(k+1))+1 by omega,List.getElem?_cons_succ,h2]
theorem apv(l:List Method)(q:aV)(h4:q.Atoms.length<=4)(ha:∀a∈q.Atoms,a.Terms.length<=3):Qf l q=some (pG l q.Atoms q.Atoms.length ([],[],[])).1:=by
 have key:∀(r:List Atom)(k:Nat)(s:GS),s.1.length+r.length<=4->s.2.1.length+3*r.length<=12->s.2.2.length+r.length<=4->IA l q r k s.1 s.2.1 s.2.2=some (pG l q.Atoms r.length s).1:=by
   intro r
   induction r with
   |nil=>intro k s _ _ _; rfl
   |cons x r ih=>
     intro k s h1 h2 h3
     simp only[List.length_cons]at h1 h2 h3
     rw[IA,aat l s (by omega) (by omega) (by omega) q.Atoms 0 ha,Option.bind_some,List.length_cons,pG]
     have hb:(xH l q.Atoms s).1.length<=s.1.length+1/\(xH l q.Atoms s).2.1.length<=s.2.1.length+3/\(xH l q.Atoms s).2.2.length<=s.2.2.length+1:=by
       unfold xH
       rcases hn:nG l s.2.1 (fun k=>decide ((k:Int)∈s.2.2)) q.Atoms 0 with _|⟨k',m,a⟩
       · simp only[nz]; omega
       · have h5:=ha a (List.mem_of_getElem? (Xf hn).2.1)
         have h6:=arQ s.2.1 a
         simp only[nz,List.length_append,List.length_cons,List.length_nil]; omega
     exact ih (k+1) (xH l q.Atoms s) (by omega) (by omega) (by omega)
 exact key q.Atoms 0 ([],[],[]) (by simpa using h4) (by simp; omega) (by simpa using h4)
theorem aaX{l:List Method}{b b':List Int}{dn dn':Nat->Bool}(hb:∀v,aZ 10 17 v=true->(v∈b↔v∈b')):∀{ats:List Atom}{k:Nat},(∀j,k<=j->j<k+ats.length->dn j=dn' j)->nG l b dn ats k=nG l b' dn' ats k
 |[],k,_=>rfl
 |a::ats,k,h=>by
   have e:x_ l a b=x_ l a b':=by
     unfold x_
     rw[show (fun m=>xm m a b)=fun m=>xm m a b' from funext fun m=>ark hb]
   rw[nG,nG,e,h k (Nat.le_refl _) (by simp),aaX hb fun j h1 h2=>h j (by omega) (by simp only[List.length_cons]; omega)]
def pNx:Option (Nat×Int×Atom)->Step×Bool
 |none=>(({Atom:=0,Method:=0}:Step),false)
 |some (k,m,_)=>(({Atom:=(k:Int),Method:=m}:Step),true)
theorem aaj(l:List Method)(b:List Int)(dn:List Bool):∀(ats:List Atom)(k:Nat),(∀a∈ats,a.Terms.length<=3)->k+ats.length<=dn.length->Ho l b dn ats k=some (pNx (nG l b (fun j=>dn[j]?.getD false) ats k))
 |[],k,_,_=>rfl
 |a::ats,k,ha,hk=>by
   simp only[List.length_cons]at hk
   have h0:=ha a (by simp)
   rw[Ho,arl l a b (by omega),Option.bind_some,jB,List.getElem?_eq_getElem (show k<dn.length by omega),Option.bind_some,nG,List.getElem?_eq_getElem (show k<dn.length by omega),Option.getD_some]
   have ih:=aaj l b dn ats (k+1) (fun x hx=>ha x (by simp[hx])) (by omega)
   cases dn[k]
   · cases hd:decide ((0:Int)<=x_ l a b)
     · simpa using ih
     · rfl
   · simpa using ih
def nV(n:Nat)(s:GS):List Bool:=(List.range n).map fun k:Nat=>decide ((k:Int)∈s.2.2)
def Gi(n:Nat)(s:GS):Nat:=((List.range n).filter fun k:Nat=>!decide ((k:Int)∈s.2.2)).length
theorem Nu{n k:Nat}{s:GS}(h:k<n):(nV n s)[k]?=some (decide ((k:Int)∈s.2.2)):=by
 rw[nV,List.getElem?_map,List.getElem?_range h]; rfl
theorem arR{n k:Nat}{s:GS}{m:Int}{a:Atom}(h:k<n):(nV n s).set k true=nV n (nz s (some (k,m,a))):=by
 refine List.ext_getElem? fun j=>?_
 rcases Nat.lt_or_ge j n with hj|hj
 · rw[Nu hj,List.getElem?_set]
   by_cases e:k=j
   · subst e
     rw[if_pos rfl,if_pos (by simpa[nV]using h)]
     simp[nz]
   · rw[if_neg e,Nu hj]
     have:¬ (j:Int)=(k:Int):=by omega
     simp[nz,this]
 · rw[List.getElem?_eq_none (by simpa[nV]using hj),List.getElem?_eq_none (by simpa[nV]using hj)]
theorem arn{n k:Nat}{s:GS}{m:Int}{a:Atom}(h:k<n)(hk:¬ (k:Int)∈s.2.2):Gi n (nz s (some (k,m,a)))<Gi n s:=by
 unfold Gi
 have e:((List.range n).filter fun j:Nat=>!decide ((j:Int)∈(nz s (some (k,m,a))).2.2))=((List.range n).filter fun j:Nat=>!decide ((j:Int)∈s.2.2)).filter fun j:Nat=>!decide (j=k):=by
   rw[List.filter_filter]
   congr 1
   funext j
   have:((j:Int)=(k:Int))↔j=k:=by omega
   simp[nz,this,Bool.and_comm]
 rw[e]
 exact List.length_filter_lt_length_iff_exists.2 ⟨k,List.mem_filter.2 ⟨List.mem_range.2 h,by simpa using hk⟩,by simp⟩
theorem aiV{l:List Method}{atoms:List Atom}{s:GS}(h:nG l s.2.1 (fun k=>decide ((k:Int)∈s.2.2)) atoms 0=none):∀n,pG l atoms n s=s
 |0=>rfl
 |n+1=>by rw[pG,xH,h]; exact aiV h n
theorem arS{b:List Int}{a:Atom}{v:Int}:v∈J3 b a↔v∈b\/(v∈a.Terms/\aZ 10 17 v=true):=by
 rw[J3,Jq,List.mem_filter]
theorem aoZ(l:List Method)(atoms:List Atom)(h4:atoms.length<=4)(ha:∀a∈atoms,a.Terms.length<=3):∀(m n:Nat)(s:GS)(b':List Int),(∀v,aZ 10 17 v=true->(v∈s.2.1↔v∈b'))->Gi atoms.length s<m->Gi atoms.length s<=n->s.1.length+Gi atoms.length s<=4->b'.length+3*Gi atoms.length s<=12->
   ∀x,x=pNx (nG l s.2.1 (fun k=>decide ((k:Int)∈s.2.2)) atoms 0)->DU l atoms m s.1 (nV atoms.length s) b' x.1.Atom x.1.Method x.2=some ((pG l atoms n s).1,nV atoms.length (pG l atoms n s)):=by
 intro m
 induction m with
 |zero=>intro n s b' _ h; omega
 |succ m ih=>
   rintro n s b' hb hm hn h1 h2 x rfl
   rcases he:nG l s.2.1 (fun k=>decide ((k:Int)∈s.2.2)) atoms 0 with _|⟨k,mt,a⟩
   · rw[aiV he]; rfl
   · show DU l atoms (m+1) s.1 (nV atoms.length s) b' (k:Int) mt true=_
     obtain⟨-,e2,e3,e4,-⟩:=Xf he
     have hk:k<atoms.length:=by
       rcases Nat.lt_or_ge k atoms.length with h|h
       · exact h
       · rw[List.getElem?_eq_none (by omega)]at e2; cases e2
     have hku:¬ (k:Int)∈s.2.2:=by simpa using e3
     have hs:=arn (m:=mt) (a:=a) hk hku
     have h5:=ha a (List.mem_of_getElem? e2)
     rw[Nat.sub_zero]at e2
     rw[DU,if_pos rfl,show tK (decide ((0:Int)<=(k:Int))&&decide ((k:Int)<((nV atoms.length s).length:Int)))=some ()from by
       unfold tK; rw[if_pos (by simp[nV,hk])],Option.bind_some,Option.bind_some,Int.toNat_natCast,arR (m:=mt) (a:=a) hk,jB,e2,Option.bind_some,kz (by omega),Option.bind_some,app1 (by omega),Option.bind_some]
     have hb2:∀v,aZ 10 17 v=true->(v∈(nz s (some (k,mt,a))).2.1↔v∈b'++a.Terms):=fun v hv=>by
       show v∈J3 s.2.1 a↔_
       rw[arS,List.mem_append,hb v hv]
       simp[hv]
     have hq:Ed atoms l (b'++a.Terms) (nV atoms.length (nz s (some (k,mt,a))))=some (pNx (nG l (nz s (some (k,mt,a))).2.1 (fun j=>decide ((j:Int)∈(nz s (some (k,mt,a))).2.2)) atoms 0)):=by
       rw[Ed,aaj l _ _ atoms 0 ha (by simp[nV])]
       rw[aaX (b:=b'++a.Terms) (fun v hv=>(hb2 v hv).symm) (dn':=fun j=>decide ((j:Int)∈(nz s (some (k,mt,a))).2.2)) fun j _ hj=>by
         rw[Nu (by omega)]; rfl]
     rw[hq,Option.bind_some]
     obtain⟨n',rfl⟩:∃n',n=n'+1:=⟨n-1,by omega⟩
     have hg:pG l atoms (n'+1) s=pG l atoms n' (nz s (some (k,mt,a))):=by rw[pG,xH,he]
     rw[hg]
     exact ih n' (nz s (some (k,mt,a))) (b'++a.Terms) hb2 (by omega) (by omega) (by
       have:(nz s (some (k,mt,a))).1.length=s.1.length+1:=by simp[nz]
       omega) (by simp only[List.length_append]; omega) _ rfl
theorem asu(n:Nat)(s:GS):Gi n s<=n:=by
 have:=List.length_filter_le (fun k:Nat=>!decide ((k:Int)∈s.2.2)) (List.range n)
 rw[List.length_range]at this
 exact this
def LD(l:List Method)(atoms:List Atom):GS:=pG l atoms atoms.length ([],[],[])
theorem aqR(l:List Method)(atoms:List Atom)(h4:atoms.length<=4)(ha:∀a∈atoms,a.Terms.length<=3):QZ 20 l atoms=some ((LD l atoms).1,nV atoms.length (LD l atoms)):=by
 have h0:=asu atoms.length (([],[],[]):GS)
 have hd:List.replicate atoms.length false=nV atoms.length ([],[],[]):=by
   refine List.ext_getElem? fun j=>?_
   rcases Nat.lt_or_ge j atoms.length with hj|hj
   · rw[Nu hj]; simp[hj]
   · rw[List.getElem?_eq_none (by simpa using hj),List.getElem?_eq_none (by simpa[nV]using hj)]
 have hq:Ed atoms l ([]:List Int) (nV atoms.length ([],[],[]))=some (pNx (nG l ([]:List Int) (fun j=>decide ((j:Int)∈([]:List Int))) atoms 0)):=by
   rw[Ed,aaj l _ _ atoms 0 ha (by simp[nV])]
   rw[aaX (b:=([]:List Int)) (fun _ _=>Iff.rfl) (dn':=fun j=>decide ((j:Int)∈([]:List Int))) fun j _ hj=>by
     rw[Nu (by omega)]; rfl]
 rw[QZ,VX,aiv _ _ (by omega),Option.bind_some,hd,hq,Option.bind_some,
   aoZ l atoms h4 ha 20 atoms.length ([],[],[]) [] (fun _ _=>Iff.rfl) (by omega) h0 (by simp; omega) (by simp; omega) _ rfl]
 rfl
theorem ao0(l:List Method)(q:aV)(h4:q.Atoms.length<=4)(ha:∀a∈q.Atoms,a.Terms.length<=3):Qf l q=some (LD l q.Atoms).1:=apv l q h4 ha
def xn(u:List Int):List Atom->Nat->List Atom
 |[],_=>[]
 |a::r,k=>if (k:Int)∈u then a::xn u r (k+1)else xn u r (k+1)
theorem acm{l:List Method}{atoms:List Atom}:∀(n:Nat){s:GS},(s.1.map fun t=>t.Atom)=s.2.2->s.2.2.Nodup->((pG l atoms n s).1.map fun t=>t.Atom)=(pG l atoms n s).2.2/\(pG l atoms n s).2.2.Nodup
 |0,s,h1,h2=>⟨h1,h2⟩
 |n+1,s,h1,h2=>by
   rw[pG,xH]
   rcases he:nG l s.2.1 (fun k=>decide ((k:Int)∈s.2.2)) atoms 0 with _|⟨k,mt,a⟩
   · exact acm n h1 h2
   · have e3:=(Xf he).2.2.1
     refine acm n ?_ ?_
     · simp[nz,h1]
     · have:¬ (k:Int)∈s.2.2:=by simpa using e3
       show (s.2.2++[(k:Int)]).Nodup
       refine List.nodup_append.2 ⟨h2,by simp,fun x hx y hy=>?_⟩
       obtain rfl:y=(k:Int):=by simpa using hy
       rintro rfl
       exact this hx
theorem ahE(x:Atom)(k:Int):∀(l:List Step),(l.map fun t=>t.Atom).Nodup->((l.filter fun t=>t.Atom==k).map fun _=>x)=if k∈(l.map fun t=>t.Atom)then [x]else []
 |[],_=>rfl
 |t::l,h=>by
   simp only[List.map_cons,List.nodup_cons]at h
   have ih:=ahE x k l h.2
   rw[List.filter_cons]
   by_cases e:t.Atom=k
   · subst e
     rw[if_neg h.1]at ih
     rw[if_pos (by simp),List.map_cons,ih,if_pos (by simp)]
   · rw[if_neg (by simpa using e),ih]
     have e':¬ k=t.Atom:=fun h=>e h.symm
     simp[e']
theorem agQ(r:Int)(t:List Int)(h:t.length<4294967296):Np r t=some {Rel:=r,Terms:=t}:=by
 rw[Np,nD h]; rfl
theorem ano(r:List Step)(k:Nat)(x:Atom)(hr:r.length<=1000)(hx:x.Terms.length<=3):∀(m i:Nat)(c:List Atom),i<=r.length->r.length-i<m->c.length+(r.length-i)<=4000->Hm r k x m c (i:Int)=some (c++((r.drop i).filter fun t=>t.Atom==(k:Int)).map fun _=>x):=by
 intro m
 induction m with
 |zero=>intro i c _ h; omega
 |succ m ih=>
   intro i c hi hm hc
   unfold Hm
   by_cases hlt:i<r.length
   · have hw:IntKind.i64.wrap ((i:Int)+1)=((i+1:Nat):Int):=by rw[fo (by omega) (by omega)]; rfl
     rw[if_pos (by simpa using hlt),jB,List.getElem?_eq_getElem hlt,Option.bind_some,agQ _ _ (by omega),Option.bind_some,app1 (by omega),hw,List.drop_eq_getElem_cons hlt,List.filter_cons]
     cases hb:r[i].Atom==(k:Int)
     · simp only[Bool.false_eq_true,if_false,Option.bind_some]
       exact ih (i+1) c (by omega) (by omega) (by omega)
     · simp only[if_true,Option.bind_some,List.map_cons]
       rw[ih (i+1) _ (by omega) (by omega) (by simp; omega),List.append_assoc]; rfl
   · rw[if_neg (by simpa using hlt),List.drop_eq_nil_of_le (by omega)]; simp
theorem ahF{u:List Int}{a:Atom}{l:List Atom}{k:Nat}:xn u (a::l) k=(if (k:Int)∈u then [a]else [])++xn u l (k+1):=by
 rw[xn]; split<;>rfl
theorem ae0(s:List Int)(r:List Step)(u hd:List Int)(hu:(r.map fun t=>t.Atom)=u)(hn:u.Nodup)(hr:r.length<=1000)(hs:s.length<4294967296):∀(l:List Atom)(k:Nat)(c:List Atom),(∀a∈l,a.Terms.length<=3)->c.length+l.length<=1000->eT c+eT l<1000000->
   DX s r hd l k c=some (if gM s {Head:=hd,Atoms:=c++xn u l k}then ({Head:=hd,Atoms:=c++xn u l k},true)else ({Head:=[],Atoms:=[]},false))
 |[],k,c,_,_,ht=>by
   rw[DX,IY s _ hs (by simp[eT]at ht ⊢; omega),Option.bind_some,xn,List.append_nil]
   cases gM s {Head:=hd,Atoms:=c}<;>rfl
 |a::l,k,c,ha,hc,ht=>by
   simp only[List.length_cons]at hc
   have h0:=ha a (by simp)
   rw[DX,show ((r.length:Int)-0).toNat+2=r.length+2 by omega,show (0:Int)=((0:Nat):Int)from rfl,ano r k a hr h0 _ 0 c (by omega) (by omega) (by omega),Option.bind_some,List.drop_zero,ahE a (k:Int) r (by rw[hu]; exact hn),hu,ahF,←List.append_assoc]
   have e1:eT (a::l)=a.Terms.length+eT l:=by simp[eT]
   have e2:eT (c++if (k:Int)∈u then [a]else [])<=eT c+a.Terms.length:=by
     split<;>simp[eT]
   exact ae0 s r u hd hu hn hr hs l (k+1) _ (fun x hx=>ha x (by simp[hx])) (by split<;>simp<;>omega) (by omega)
def Ry(l:List Method)(q:aV):aV:={Head:=q.Head,Atoms:=xn (LD (l.map pR) q.Atoms).2.2 q.Atoms 0}
def zf(s:List Int)(l:List Method)(q:aV):aV×Bool:=if f_ s l&&gM s q&&gM s (Ry l q)then (Ry l q,true)else ({Head:=[],Atoms:=[]},false)
theorem ajC(l:List Method)(atoms:List Atom):((LD l atoms).1.map fun t=>t.Atom)=(LD l atoms).2.2/\(LD l atoms).2.2.Nodup:=acm atoms.length (s:=([],[],[])) rfl (by simp)
theorem agn{s:List Int}{l:List Method}(h:f_ s l=true):l.length<=5:=by
 simp only[f_,Bool.and_eq_true,decide_eq_true_eq]at h; omega
theorem ajD{l:List Method}{atoms:List Atom}:∀(n:Nat)(s:GS),(pG l atoms n s).1.length<=s.1.length+n
 |0,s=>by simp[pG]
 |n+1,s=>by
   have h1:=ajD (l:=l) (atoms:=atoms) n (xH l atoms s)
   have h2:(xH l atoms s).1.length<=s.1.length+1:=by
     unfold xH
     rcases nG l s.2.1 (fun k=>decide ((k:Int)∈s.2.2)) atoms 0 with _|⟨k,mt,a⟩<;>simp[nz]
   rw[pG]; omega
theorem anF(s:List Int)(l:List Method)(q:aV)(hs:s.length<4294967296)(gX:fA lc l)(ht:eT q.Atoms<4294967295):O4 s l q=some (zf s l q):=by
 rw[O4,aqP s l q hs gX ht,Option.bind_some,zf]
 cases hl:f_ s l
 · rfl
 cases hq:gM s q
 · rfl
 obtain⟨h4,ha,hh⟩:=mi hq
 have h5:=agn hl
 have h6:=uq ha
 have h7:=ajD (l:=l.map pR) (atoms:=q.Atoms) q.Atoms.length ([],[],[])
 simp only[List.length_nil]at h7
 rw[if_neg (by simp),apu l (by omega),Option.bind_some,ao0 _ q h4 ha,Option.bind_some,nD (by omega),Option.bind_some,
   ae0 s _ _ q.Head (ajC (l.map pR) q.Atoms).1 (ajC (l.map pR) q.Atoms).2 (by show (pG (l.map pR) q.Atoms q.Atoms.length ([],[],[])).1.length<=1000; omega) hs q.Atoms 0 [] ha (by simp; omega) (by simp[eT]at h6 ⊢; omega)]
 rfl
theorem aaN(s:List Int)(n:Nat)(st:List Step)(g:GS)(hd:List Int)(hs:s.length<4294967296):∀(l:List Atom)(k:Nat)(c:List Atom),(∀a∈l,a.Terms.length<=3)->k+l.length<=n->c.length+l.length<=1000->eT c+eT l<1000000->
   EW s (st,nV n g) hd l k c=some ({Head:=hd,Atoms:=c++xn g.2.2 l k},gM s {Head:=hd,Atoms:=c++xn g.2.2 l k})
 |[],k,c,_,_,_,ht=>by
   rw[EW,PM s _ hs (by simp[eT]at ht ⊢; omega),Option.bind_some,xn,List.append_nil]
 |a::l,k,c,ha,hk,hc,ht=>by
   simp only[List.length_cons]at hc hk
   have h0:=ha a (by simp)
   rw[EW]
   dsimp only
   rw[jB,Nu (by omega),Option.bind_some,WN,He _ (by omega),Option.bind_some,Option.bind_some,app1 (by omega),ahF,←List.append_assoc]
   have e1:eT (a::l)=a.Terms.length+eT l:=by simp[eT]
   by_cases hm:(k:Int)∈g.2.2
   · simp only[hm,decide_true,if_true,Option.bind_some]
     exact aaN s n st g hd hs l (k+1) _ (fun x hx=>ha x (by simp[hx])) (by omega) (by simp; omega) (by simp[eT]at e1 ht ⊢; omega)
   · simp only[hm,decide_false,Bool.false_eq_true,if_false,Option.bind_some,List.append_nil]
     exact aaN s n st g hd hs l (k+1) _ (fun x hx=>ha x (by simp[hx])) (by omega) (by omega) (by omega)
theorem arT{s:List Int}{l:List Method}{q:aV}(hs:s.length<4294967296)(hl:f_ s l=true)(hq:gM s q=true):Rv 20 s l q=some (Ry l q,gM s (Ry l q)):=by
 obtain⟨h4,ha,hh⟩:=mi hq
 have h5:=agn hl
 have h6:=uq ha
 rw[Rv,aoY l (by omega),Option.bind_some,aqR _ q.Atoms h4 ha,Option.bind_some,He _ (by omega),Option.bind_some,
   aaN s q.Atoms.length _ _ q.Head hs q.Atoms 0 [] ha (by omega) (by simp; omega) (by simp[eT]at h6 ⊢; omega)]
 rfl
theorem anG(s:List Int)(l:List Method)(q:aV)(hs:s.length<4294967296)(gX:fA lc l)(ht:eT q.Atoms<4294967295):O6 20 s l q=some (zf s l q):=by
 rw[O6,apt s l q hs gX ht,Option.bind_some,zf]
 cases hl:f_ s l
 · rfl
 cases hq:gM s q
 · rfl
 rw[if_neg (by simp),arT hs hl hq,Option.bind_some]
 cases gM s (Ry l q)<;>rfl
def mG(W:List Int):Nat->Int->Int
 |0,c=>c
 |n+1,c=>if c∈W then mG W n (c+1)else c
theorem agR{W W':List Int}(h:∀v,v∈W↔v∈W'):∀(n:Nat)(c:Int),mG W n c=mG W' n c
 |0,_=>rfl
 |n+1,c=>by
   rw[mG,mG,agR h n]
   by_cases hc:c∈W
   · rw[if_pos hc,if_pos ((h c).1 hc)]
   · rw[if_neg hc,if_neg fun h'=>hc ((h c).2 h')]
theorem Xv{W:List Int}:∀(n:Nat)(c:Int),c<=mG W n c
 |0,c=>Int.le_refl _
 |n+1,c=>by
   rw[mG]; split
   · have:=Xv (W:=W) n (c+1); omega
   · exact Int.le_refl _
theorem abz{W:List Int}(hW:∀v∈W,v<=9):∀(n:Nat)(c:Int),c<=10->mG W n c<=10
 |0,c,h=>h
 |n+1,c,h=>by
   rw[mG]; split
   · rename_i hc; have:=hW c hc; exact abz hW n (c+1) (by omega)
   · exact h
theorem afb{W:List Int}(hW:∀v∈W,v<=9):∀(n:Nat)(c:Int),0<=c->c<=10->10<c+n->HV W n c=some (mG W n c)
 |0,c,_,h1,h2=>by omega
 |n+1,c,h0,h1,h2=>by
   rw[HV,Qr,Option.bind_some,mG]
   by_cases hc:c∈W
   · have:=hW c hc
     simp only[hc,decide_true,if_true]
     rw[fo (by omega) (by omega)]
     exact afb hW n (c+1) (by omega) (by omega) (by omega)
   · simp[hc]
theorem af4{W:List Int}(hW:∀v∈W,v<=9):∀(n:Nat)(c:Int),0<=c->c<=10->10<c+n->Ja W n c=some (mG W n c)
 |0,c,_,h1,h2=>by omega
 |n+1,c,h0,h1,h2=>by
   rw[Ja,aac,Option.bind_some,mG]
   by_cases hc:c∈W
   · have:=hW c hc
     simp only[hc,decide_true,if_true]
     rw[fo (by omega) (by omega)]
     exact af4 hW n (c+1) (by omega) (by omega) (by omega)
   · simp[hc]
def v_(W:List Int):List Int->Int->List Int->List Int->Option (List Int×List Int)
 |[],_,vs,xs=>some (vs,xs)
 |t::r,c,vs,xs=>if 9<mG W 20 c then none else v_ W r (mG W 20 c+1) (vs++[t]) (xs++[mG W 20 c])
theorem ag7{W W':List Int}(h:∀v,v∈W↔v∈W'):∀(l:List Int)(c:Int)(vs xs:List Int),v_ W l c vs xs=v_ W' l c vs xs
 |[],_,_,_=>rfl
 |t::r,c,vs,xs=>by rw[v_,v_,agR h,ag7 h r]
theorem ahG{W:List Int}:∀{l:List Int}{c:Int}{vs xs:List Int}{p:List Int×List Int},0<=c->vs.length=xs.length->(∀x∈xs,0<=x/\x<=9)->v_ W l c vs xs=some p->p.1=vs++l/\p.1.length=p.2.length/\ ∀x∈p.2,0<=x/\x<=9
 |[],c,vs,xs,p,_,h1,h2,h=>by
   obtain rfl:=Option.some.inj h
   exact⟨by simp,h1,h2⟩
 |t::r,c,vs,xs,p,h0,h1,h2,h=>by
   rw[v_]at h
   split at h
   · cases h
   · rename_i h9
     have hg:=Xv (W:=W) 20 c
     obtain⟨e1,e2,e3⟩:=ahG (by omega) (by simp[h1]) (fun x hx=>by
       rcases List.mem_append.1 hx with hx|hx
       · exact h2 x hx
       · obtain rfl:=List.mem_singleton.1 hx; omega) h
     exact⟨by rw[e1,List.append_assoc]; rfl,e2,e3⟩
def ng(vs xs:List Int)(a:Atom):Fact:={Rel:=a.Rel,Values:=a.Terms.map (lm vs xs)}
def pq(W:List Int)(q:aV):Option (List Fact×aS):=(v_ W (fu (aZ 10 17) q.Atoms) 0 [] []).map fun p=>((q.Atoms.map (ng p.1 p.2)).foldl eZ [],({Vars:=p.1,Values:=p.2}:aS))
def sP:Option (List Fact×aS)->List Fact×aS×Bool
 |none=>([],{Vars:=[],Values:=[]},false)
 |some (f,b)=>(f,b,true)
theorem anH(vs xs:List Int)(c:List Fact)(a:Atom)(hv:vs.length<100)(ha:a.Terms.length<=3)(hc:c.length<=1000)(hb:fA l5 c):∀(m i:Nat),i<=a.Terms.length->a.Terms.length-i<m->D_ vs xs c a m ((a.Terms.take i).map (lm vs xs)) (i:Int)=some (eZ c (ng vs xs a)):=by
 intro m
 induction m with
 |zero=>intro i _ h; omega
 |succ m ih=>
   intro i hi hm
   unfold D_
   by_cases hlt:i<a.Terms.length
   · have hw:IntKind.i64.wrap ((i:Int)+1)=((i+1:Nat):Int):=by rw[fo (by omega) (by omega)]; rfl
     have e:AX ({Vars:=vs,Values:=xs}:aS) a.Terms[i]=some (lm vs xs a.Terms[i]):=aaM _ _ (by show vs.length<_; omega)
     have ht:a.Terms.take (i+1)=a.Terms.take i++[a.Terms[i]]:=(List.take_append_getElem hlt).symm
     have ih':=ih (i+1) (by omega) (by omega)
     rw[ht,List.map_append,List.map_cons,List.map_nil]at ih'
     rw[if_pos (by simpa using hlt),jB,List.getElem?_eq_getElem hlt,Option.bind_some,e,Option.bind_some,app1 (by simp; omega),Option.bind_some,hw,ih']
   · rw[if_neg (by simpa using hlt),List.take_of_length_le (by omega),show ({Rel:=a.Rel,Values:=a.Terms.map (lm vs xs)}:Fact)=ng vs xs a from rfl,
       aaL c _ hb (by omega) (ui _ (by simp[ng]; omega))]
     rfl
theorem aiW{vs xs:List Int}{a:Atom}(ha:a.Terms.length<=3):l5 (ng vs xs a):=ui _ (by simp[ng]; omega)
theorem asv{c:List Fact}{f:Fact}(hc:c.length<=1000)(hb:fA l5 c)(hf:l5 f):fA l5 (eZ c f):=⟨by have:=QG c f; omega,fun x hx=>by
 rcases aht hx with rfl|hx
 · exact hf
 · exact hb.2 x hx⟩
theorem afc(vs xs:List Int)(hv:vs.length<100):∀(l:List Atom)(k:Nat)(c:List Fact),(∀a∈l,a.Terms.length<=3)->c.length+l.length<=1000->fA l5 c->Hz vs xs l k c=some ((l.map (ng vs xs)).foldl eZ c,({Vars:=vs,Values:=xs}:aS),true)
 |[],k,c,_,_,_=>rfl
 |a::l,k,c,ha,hc,hb=>by
   simp only[List.length_cons]at hc
   have h0:=ha a (by simp)
   have h1:D_ vs xs c a (((a.Terms.length:Int)-0).toNat+2) [] 0=some (eZ c (ng vs xs a)):=anH vs xs c a hv h0 (by omega) hb (((a.Terms.length:Int)-0).toNat+2) 0 (by omega) (by omega)
   rw[Hz,h1,Option.bind_some]
   have h2:=QG c (ng vs xs a)
   exact afc vs xs hv l (k+1) _ (fun x hx=>ha x (by simp[hx])) (by omega) (asv (by omega) hb (aiW h0))
theorem afd(q:aV)(W:List Int)(hW:∀v∈W,v<=9)(ha:∀a∈q.Atoms,a.Terms.length<=3)(h4:q.Atoms.length<=500):∀(l:List Int)(k:Nat)(vs xs:List Int)(c:Int),0<=c->c<=10->vs.length+l.length<100->vs.length=xs.length->Ea q W 20 l k vs xs c=some (sP ((v_ W l c vs xs).map fun p=>((q.Atoms.map (ng p.1 p.2)).foldl eZ [],({Vars:=p.1,Values:=p.2}:aS))))
 |[],k,vs,xs,c,_,_,hv,_=>by
   rw[Ea,afc vs xs (by simpa using hv) q.Atoms 0 [] ha (by simp; omega) asO]; rfl
 |t::l,k,vs,xs,c,h0,h1,hv,he=>by
   simp only[List.length_cons]at hv
   have hg:=Xv (W:=W) 20 c
   have hl:=abz hW 20 c h1
   rw[Ea,afb hW 20 c h0 h1 (by omega),Option.bind_some,v_]
   dsimp only
   by_cases h9:9<mG W 20 c
   · rw[if_pos (by simpa using h9),if_pos h9]; rfl
   · have e:E5 ({Vars:=vs,Values:=xs}:aS) t (mG W 20 c)=some ({Vars:=vs++[t],Values:=xs++[mG W 20 c]}:aS):=by
       rw[E5,nD (by show vs.length<_; omega),Option.bind_some,app1 (by show vs.length+1<_; omega),Option.bind_some,nD (by show xs.length<_; omega),Option.bind_some,app1 (by show xs.length+1<_; omega)]; rfl
     rw[if_neg (by simpa using h9),if_neg h9,e,Option.bind_some,Option.bind_some,fo (by omega) (by omega)]
     exact afd q W hW ha h4 l (k+1) (vs++[t]) (xs++[mG W 20 c]) _ (by omega) (by omega) (by simp; omega) (by simp[he])
theorem Jd{p:Int->Bool}{l:List Atom}{v:Int}:v∈fu p l↔v∈l.flatMap (·.Terms)/\p v=true:=by
 rw[fu,Jq,List.mem_filter]; simp
theorem WS{l:List Atom}:∀v∈fu (aZ 0 9) l,v<=9:=fun v hv=>by
 have:=(Jd.1 hv).2
 simp only[aZ,Bool.and_eq_true,decide_eq_true_eq]at this
 exact this.2
theorem WB{p:Int->Bool}{l:List Atom}(ha:∀a∈l,a.Terms.length<=3)(h:l.length<=30):(fu p l).length<=90:=by
 have h1:=MU (p:=p) (l:=l)
 have h2:=uq ha
 omega
theorem aau(q:aV)(ha:∀a∈q.Atoms,a.Terms.length<=3)(h4:q.Atoms.length<=30):IB 20 q=some (sP (pq (fu (aZ 0 9) q.Atoms) q)):=by
 have h2:=uq ha
 have h3:=WB (p:=aZ 10 17) ha h4
 rw[IB,V6 q (by omega),Option.bind_some,agO q (by omega),Option.bind_some,
   afd q _ WS ha (by omega) _ 0 [] [] 0 (by omega) (by omega) (by simp; omega) rfl]
 rfl
theorem aqS(a:Atom)(b:aS)(hb:b.Vars.length=b.Values.length)(ha:a.Terms.length<=3):Ns a b=some (ng b.Vars b.Values a):=by
 have key:∀(l:List Int)(k:Nat)(c:List Int),c.length+l.length<100->ED a b l k c=some {Rel:=a.Rel,Values:=c++l.map (lm b.Vars b.Values)}:=by
   intro l
   induction l with
   |nil=>intro k c _; simp[ED]
   |cons x r ih=>
     intro k c hc
     simp only[List.length_cons]at hc
     rw[ED,WA b x hb,Option.bind_some,app1 (by omega),Option.bind_some,ih _ _ (by simp; omega),List.append_assoc]; rfl
 rw[Ns,key _ _ _ (by simp; omega)]; rfl
theorem af5(vs xs:List Int)(he:vs.length=xs.length):∀(l:List Atom)(k:Nat)(c:List Fact),(∀a∈l,a.Terms.length<=3)->c.length+l.length<=1000->Jb vs xs l k c=some ((l.map (ng vs xs)).foldl eZ c,({Vars:=vs,Values:=xs}:aS),true)
 |[],k,c,_,_=>rfl
 |a::l,k,c,ha,hc=>by
   simp only[List.length_cons]at hc
   have h0:=ha a (by simp)
   have h1:Ns a ({Vars:=vs,Values:=xs}:aS)=some (ng vs xs a):=aqS a _ he h0
   have h2:=QG c (ng vs xs a)
   rw[Jb,h1,Option.bind_some,aa3 c _ (by omega) (aiW h0),Option.bind_some]
   exact af5 vs xs he l (k+1) _ (fun x hx=>ha x (by simp[hx])) (by omega)
theorem ao1(q:aV)(W R:List Int)(hW:∀v∈W,v<=9)(ha:∀a∈q.Atoms,a.Terms.length<=3)(h4:q.Atoms.length<=500)(hR:R.length<100):∀(m i:Nat)(vs xs:List Int)(c:Int),i<=R.length->R.length-i<m->0<=c->c<=10->vs.length<=i->vs.length=xs.length->Jc q W R 20 m vs xs c (i:Int)=some (sP ((v_ W (R.drop i) c vs xs).map fun p=>((q.Atoms.map (ng p.1 p.2)).foldl eZ [],({Vars:=p.1,Values:=p.2}:aS)))):=by
 intro m
 induction m with
 |zero=>intro i _ _ _ _ h; omega
 |succ m ih=>
   intro i vs xs c hi hm h0 h1 hv he
   have hg:=Xv (W:=W) 20 c
   have hl:=abz hW 20 c h1
   unfold Jc
   by_cases hlt:i<R.length
   · have hw:IntKind.i64.wrap ((i:Int)+1)=((i+1:Nat):Int):=by rw[fo (by omega) (by omega)]; rfl
     rw[if_pos (by simpa using hlt),jB,List.getElem?_eq_getElem hlt,Option.bind_some,af4 hW 20 c h0 h1 (by omega),Option.bind_some]
     dsimp only
     rw[Wy,Option.bind_some,List.drop_eq_getElem_cons hlt,v_]
     by_cases h9:9<mG W 20 c
     · have e:aZ 0 9 (mG W 20 c)=false:=by
         simp only[aZ,Bool.and_eq_false_iff,decide_eq_false_iff_not]; omega
       rw[e,if_pos h9]; rfl
     · have e:aZ 0 9 (mG W 20 c)=true:=by
         simp only[aZ,Bool.and_eq_true,decide_eq_true_eq]; omega
       rw[e,if_neg h9,if_neg (by simp),app1 (by omega),Option.bind_some,app1 (by omega),Option.bind_some,Option.bind_some,fo (by omega) (by omega),hw]
       exact ih (i+1) _ _ _ (by omega) (by omega) (by omega) (by omega) (by simp; omega) (by simp[he])
   · rw[if_neg (by simpa using hlt),af5 vs xs he q.Atoms 0 [] ha (by simp; omega),List.drop_eq_nil_of_le (by omega)]; rfl
theorem agS(q:aV)(W:List Int)(hW:∀v∈W,v<=9)(ha:∀a∈q.Atoms,a.Terms.length<=3)(h4:q.Atoms.length<=30):Nt 20 q W=some (sP (pq W q)):=by
 have h2:=uq ha
 have h3:=WB (p:=aZ 10 17) ha h4
 rw[Nt,agP q (by omega),Option.bind_some]
 exact ao1 q W _ hW ha (by omega) (by omega) _ 0 [] [] 0 (by omega) (by omega) (by omega) (by omega) (by simp) rfl
theorem afy(q:aV)(ha:∀a∈q.Atoms,a.Terms.length<=3)(h4:q.Atoms.length<=30):Mm 20 q=some (sP (pq (fu (aZ 0 9) q.Atoms) q)):=by
 have h2:=uq ha
 rw[Mm,O8 q (by omega),Option.bind_some,agS q _ WS ha h4]; rfl
theorem ap6{A B:List Fact}(hA:∀f∈A,f.Rel<3)(hB:∀f∈B,f.Rel=3):((A++B).foldl eZ []).filter (fun f=>decide ((f.Rel:Int)<3))=A.foldl eZ []:=by
 refine ajB ((Xu List.Pairwise.nil).filter _) (Xu List.Pairwise.nil) fun x=>?_
 rw[List.mem_filter,QH,QH,List.mem_append]
 simp only[List.not_mem_nil,false_or,decide_eq_true_eq]
 constructor
 · rintro⟨h|h,h2⟩
   · exact h
   · have:=hB x h; omega
 · exact fun h=>⟨.inl h,hA x h⟩
theorem aqT(q:aV)(ha:∀a∈q.Atoms,a.Terms.length<=3)(h4:q.Atoms.length<=30)(hh:q.Head.length<=3):QR q=some q:=by
 have key:∀(l:List Atom)(k:Nat)(c:List Atom),(∀a∈l,a.Terms.length<=3)->c.length+l.length<=100->EA q.Head l k c=some {Head:=q.Head,Atoms:=c++l}:=by
   intro l
   induction l with
   |nil=>intro k c _ _; simp[EA]
   |cons x l ih=>
     intro k c hx hc
     simp only[List.length_cons]at hc
     have h0:=hx x (by simp)
     rw[EA,agQ _ _ (by omega),Option.bind_some,app1 (by omega),Option.bind_some,ih _ _ (fun a h=>hx a (by simp[h])) (by simp; omega),List.append_assoc]; rfl
 rw[QR,nD (by omega),Option.bind_some,key _ _ _ ha (by simp; omega)]; rfl
def uL(C:List Int):List Atom:=C.map fun c=>({Rel:=3,Terms:=[c]}:Atom)
theorem afz(p:aV):∀(l:List Int)(k:Nat)(c:List Atom),c.length+l.length<=100->AO p 20 l k c=AO p 20 [] 0 (c++uL l)
 |[],k,c,_=>by rw[uL,List.map_nil,List.append_nil]; rfl
 |x::l,k,c,h=>by
   simp only[List.length_cons]at h
   conv=>lhs; rw[AO,app1 (by omega),Option.bind_some,afz p l _ _ (by simp; omega),List.append_assoc]
   rfl
theorem ag8(A:List Atom)(C:List Int):(A++uL C).flatMap (·.Terms)=A.flatMap (·.Terms)++C:=by
 rw[List.flatMap_append]
 congr 1
 induction C with
 |nil=>rfl
 |cons x C ih=>rw[uL,List.map_cons,List.flatMap_cons]; rw[uL]at ih; rw[ih]; rfl
theorem arU{A:List Atom}{C:List Int}(hC:∀c∈C,0<=c/\c<=9):fu (aZ 10 17) (A++uL C)=fu (aZ 10 17) A:=by
 rw[fu,ag8,List.filter_append,(List.filter_eq_nil_iff (l:=C)).2 (fun c hc=>by
   have:=hC c hc
   simp only[aZ,Bool.and_eq_true,decide_eq_true_eq]; omega),List.append_nil]; rfl
theorem ag9{l:List Atom}:∀v∈fu (aZ 0 9) l,0<=v/\v<=9:=fun v hv=>by
 have:=(Jd.1 hv).2
 simpa only[aZ,Bool.and_eq_true,decide_eq_true_eq]using this
theorem aaY{l:List Atom}:(fu (aZ 0 9) l).length<=10:=XI (Ri List.Pairwise.nil) 0 10 fun x hx=>by have:=ag9 x hx; omega
def pW(p q:aV):List Int:=fu (aZ 0 9) p.Atoms++fu (aZ 0 9) q.Atoms
theorem aro{s:List Int}{q:aV}(h:gM s q=true):∀a∈q.Atoms,a.Rel<3:=fun a ha=>by
 have hs:jJ s=true/\qJ s a=true:=by
   simp only[gM,Bool.and_eq_true]at h
   exact⟨h.2.2.1,List.all_eq_true.1 h.1 a ha⟩
 have h1:=(agL hs.1).1
 have h2:=hs.2
 simp only[qJ,jK,aZ,Bool.and_eq_true,decide_eq_true_eq]at h2
 omega
theorem apw{s:List Int}{p q:aV}(hp:gM s p=true)(hq:gM s q=true):Qg 20 p q=some (sP (pq (pW p q) p)):=by
 obtain⟨h1,h2,h3⟩:=mi hp
 obtain⟨g1,g2,g3⟩:=mi hq
 have e1:=uq g2
 have hC:=ag9 (l:=q.Atoms)
 have hl:=aaY (l:=q.Atoms)
 have hx:∀a∈p.Atoms++uL (fu (aZ 0 9) q.Atoms),a.Terms.length<=3:=fun a ha=>by
   rcases List.mem_append.1 ha with ha|ha
   · exact h2 a ha
   · obtain⟨c,-,rfl⟩:=List.mem_map.1 ha; simp
 have hn:(p.Atoms++uL (fu (aZ 0 9) q.Atoms)).length<=30:=by
   simp only[List.length_append,uL,List.length_map]; omega
 have hF:=aau {Head:=p.Head,Atoms:=p.Atoms++uL (fu (aZ 0 9) q.Atoms)} hx hn
 have hw:∀v,v∈fu (aZ 0 9) (p.Atoms++uL (fu (aZ 0 9) q.Atoms))↔v∈pW p q:=fun v=>by
   rw[Jd,ag8,pW,List.mem_append,List.mem_append,Jd,Jd]
   constructor
   · rintro⟨h|h,hv⟩
     · exact .inl ⟨h,hv⟩
     · exact .inr h
   · rintro (⟨h,hv⟩|h)
     · exact⟨.inl h,hv⟩
     · exact⟨.inr h,h.2⟩
 rw[Qg,aqT p h2 (by omega) h3,Option.bind_some,V6 q (by omega),Option.bind_some,afz p _ _ _ (by omega),AO,hF,Option.bind_some]
 rw[pq,pq]
 dsimp only
 rw[arU hC,ag7 hw]
 rcases v_ (pW p q) (fu (aZ 10 17) p.Atoms) 0 [] []with _|⟨vs,xs⟩
 · rfl
 · simp only[Option.map_some,sP]
   have hA:∀f∈p.Atoms.map (ng vs xs),f.Rel<3:=fun f hf=>by
     obtain⟨a,ha,rfl⟩:=List.mem_map.1 hf
     exact aro hp a ha
   have hB:∀f∈(uL (fu (aZ 0 9) q.Atoms)).map (ng vs xs),f.Rel=3:=fun f hf=>by
     obtain⟨a,ha,rfl⟩:=List.mem_map.1 hf
     obtain⟨c,-,rfl⟩:=List.mem_map.1 ha
     rfl
   have hlen:(((p.Atoms++uL (fu (aZ 0 9) q.Atoms)).map (ng vs xs)).foldl eZ []).length<=30:=by
     have:=abf (g:=(p.Atoms++uL (fu (aZ 0 9) q.Atoms)).map (ng vs xs)) (fs:=[])
     simp only[List.length_map,List.length_nil]at this; omega
   have key:∀(r:List Fact×aS×Bool)(l:List Fact)(k:Nat)(c:List Fact),c.length+l.length<=100->Eh r l k c=some (c++l.filter (fun f=>decide ((f.Rel:Int)<3)),r.2.1,r.2.2):=by
     intro r l
     induction l with
     |nil=>intro k c _; simp[Eh]
     |cons x l ih=>
       intro k c hc
       simp only[List.length_cons]at hc
       rw[Eh,app1 (by omega),Option.bind_some,List.filter_cons]
       cases decide ((x.Rel:Int)<3)
       · simp only[Bool.false_eq_true,if_false,Option.bind_some]
         exact ih _ _ (by omega)
       · simp only[if_true,Option.bind_some]
         rw[ih _ _ (by simp; omega),List.append_assoc]; rfl
   rw[key _ _ _ _ (by simp only[List.length_nil]; omega),List.nil_append,List.map_append,ap6 hA hB]
theorem PO(q:aV)(b:aS)(hb:b.Vars.length<4294967296)(hq:q.Head.length<=3):ET q b=some (ko q b):=by
 have key:∀(l:List Int)(k:Nat)(c:List Int),c.length+l.length<1000->Eu b l k c=some (c++l.map (lm b.Vars b.Values)):=by
   intro l
   induction l with
   |nil=>intro k c _; simp[Eu]
   |cons x l ih=>
     intro k c hc
     simp only[List.length_cons]at hc
     rw[Eu,aaM b x hb,Option.bind_some,app1 (by omega),Option.bind_some,ih _ _ (by simp; omega),List.append_assoc]; rfl
 rw[ET,key _ _ _ (by simp; omega)]; rfl
def zS(q:aV)(f:List Fact)(h:List Int):Bool:=(zw q f).any fun x=>mU (ko q x) h
theorem an6{s:List Int}{q:aV}{f:List Fact}(h:List Int)(hq:gM s q=true)(hf:f.length<=24):∃b,Ej q f h=some (b,zS q f h):=by
 have hok:=WK (facts:=f) hq
 rw[Ej,aou hq hf,Option.bind_some,zS]
 generalize zw q f=L at hok
 have key:∀(l:List aS)(k:Nat),(∀b∈l,om 12 b)-> ∃b,Ay q h l k=some (b,l.any fun x=>mU (ko q x) h):=by
   intro l
   induction l with
   |nil=>intro k _; exact⟨_,rfl⟩
   |cons x l ih=>
     intro k hk
     obtain⟨e1,e2⟩:=hk x (by simp)
     rw[Ay,PO q x (by omega) (mi hq).2.2,Option.bind_some,aaV,Option.bind_some,List.any_cons,show qY (fun x y=>x==y) (ko q x) h=mU (ko q x) h from rfl]
     cases mU (ko q x) h
     · simpa using ih (k+1) fun b hb=>hk b (by simp[hb])
     · rw[if_pos rfl,Jo,nD (by omega),Option.bind_some,nD (by omega)]; exact⟨_,rfl⟩
 exact key L 0 hok
theorem an7{s:List Int}{q:aV}{f:List Fact}(h:List Int)(hq:gM s q=true)(hf:f.length<=24):∃b,Ep q f h=some (b,zS q f h):=by
 have hok:=WK (facts:=f) hq
 rw[Ep,aov hq hf,Option.bind_some,zS]
 generalize zw q f=L at hok
 have key:∀(l:List aS)(k:Nat),(∀b∈l,om 12 b)-> ∃b,Az q h l k=some (b,l.any fun x=>mU (ko q x) h):=by
   intro l
   induction l with
   |nil=>intro k _; exact⟨_,rfl⟩
   |cons x l ih=>
     intro k hk
     obtain⟨e1,e2⟩:=hk x (by simp)
     rw[Az,PN q x e1 (mi hq).2.2,Option.bind_some,aae,Option.bind_some,List.any_cons,show qY (fun x y=>x==y) (ko q x) h=mU (ko q x) h from rfl]
     cases mU (ko q x) h
     · simpa using ih (k+1) fun b hb=>hk b (by simp[hb])
     · exact⟨_,rfl⟩
 exact key L 0 hok
def Rz(p q:aV):Option (List Fact×aS)->Bool
 |none=>false
 |some (f,b)=>zS q f (ko p b)
def Tw(p q:aV):Bool:=(p.Head.length==q.Head.length)&&Rz p q (pq (pW p q) p)
theorem Xg{W:List Int}{q:aV}{f:List Fact}{b:aS}(h:pq W q=some (f,b)):f.length<=q.Atoms.length/\b.Vars=fu (aZ 10 17) q.Atoms/\b.Vars.length=b.Values.length/\(∀x∈b.Values,0<=x/\x<=9)/\f=(q.Atoms.map (ng b.Vars b.Values)).foldl eZ []:=by
 obtain⟨p,h1,h2⟩:=Option.map_eq_some_iff.1 h
 obtain⟨e1,e2,e3⟩:=ahG (by omega) rfl (by simp) h1
 cases h2
 have:=abf (g:=q.Atoms.map (ng p.1 p.2)) (fs:=[])
 simp only[List.length_map,List.length_nil]at this
 exact⟨by omega,by simpa using e1,e2,e3,rfl⟩
theorem an8{s:List Int}{p q:aV}(hs:s.length<4294967296)(hp:gM s p=true)(hq:gM s q=true):Pn 20 s p q=some (Tw p q):=by
 obtain⟨h1,h2,h3⟩:=mi hp
 obtain⟨g1,g2,g3⟩:=mi hq
 have e1:=uq g2
 have e2:=uq h2
 rw[Pn,IY s p hs (by omega),hp,Option.bind_some,IY s q hs (by omega),hq,Tw]
 by_cases hh:p.Head.length=q.Head.length
 · have hh':((p.Head.length:Int)!=(q.Head.length:Int))=false:=by simp[hh]
   simp only[Bool.not_true,cond_false,Option.bind_some,hh',Bool.false_eq_true,if_false]
   rw[apw hp hq,Option.bind_some]
   rcases hf:pq (pW p q) p with _|⟨f,b⟩
   · simp[sP,Rz]
   · obtain⟨f1,f2,f3,f4,-⟩:=Xg hf
     have f5:=WB (p:=aZ 10 17) h2 (by omega)
     have hb:b.Vars.length<=90:=by rw[f2]; exact f5
     obtain⟨b',hm⟩:=an6 (q:=q) (f:=f) (ko p b) hq (by omega)
     simp only[sP,Bool.not_true,Bool.false_eq_true,if_false]
     rw[PO p b (by omega) h3,Option.bind_some,hm,Option.bind_some]
     simp[Rz,hh]
 · have hh':((p.Head.length:Int)!=(q.Head.length:Int))=true:=by simp; omega
   simp[hh',hh]
theorem ao2{s:List Int}{p q:aV}(hp:gM s p=true)(hq:gM s q=true):P5 20 p q=some (Tw p q):=by
 obtain⟨h1,h2,h3⟩:=mi hp
 obtain⟨g1,g2,g3⟩:=mi hq
 have e1:=uq g2
 have e2:=uq h2
 have l1:=aaY (l:=p.Atoms)
 have l2:=aaY (l:=q.Atoms)
 have hW:∀v∈pW p q,v<=9:=fun v hv=>by
   rcases List.mem_append.1 hv with hv|hv
   · exact WS v hv
   · exact WS v hv
 rw[P5,Tw]
 by_cases hh:p.Head.length=q.Head.length
 · have hh':((p.Head.length:Int)!=(q.Head.length:Int))=false:=by simp[hh]
   rw[if_neg (by rw[hh']; simp),O8 p (by omega),Option.bind_some,O8 q (by omega),Option.bind_some,ae' _ _ (by omega),Option.bind_some,show fu (aZ 0 9) p.Atoms++fu (aZ 0 9) q.Atoms=pW p q from rfl,agS p _ hW h2 (by omega),Option.bind_some]
   rcases hf:pq (pW p q) p with _|⟨f,b⟩
   · simp[sP,Rz]
   · obtain⟨f1,f2,f3,f4,-⟩:=Xg hf
     obtain⟨b',hm⟩:=an7 (q:=q) (f:=f) (ko p b) hq (by omega)
     simp only[sP,Bool.not_true,Bool.false_eq_true,if_false]
     rw[PN p b f3 h3,Option.bind_some,hm,Option.bind_some]
     simp[Rz,hh]
 · have hh':((p.Head.length:Int)!=(q.Head.length:Int))=true:=by simp; omega
   rw[if_pos hh']
   simp[hh]
def J4(s:List Int)(l:List Method)(q:aV):Bool:=(zf s l q).2&&Tw (zf s l q).1 q
theorem ajE{s:List Int}{l:List Method}{q:aV}(h:(zf s l q).2=true):gM s (zf s l q).1=true/\gM s q=true/\f_ s l=true:=by
 unfold zf at h ⊢
 split at h
 · rename_i hc
   rw[if_pos hc]
   simp only[Bool.and_eq_true]at hc
   exact⟨hc.2,hc.1.2,hc.1.1⟩
 · cases h
theorem aow(s:List Int)(l:List Method)(q:aV)(hs:s.length<4294967296)(gX:fA lc l)(ht:eT q.Atoms<4294967295):Pw 20 s l q=some (J4 s l q):=by
 rw[Pw,anF s l q hs gX ht,Option.bind_some,J4]
 cases h:(zf s l q).2
 · rfl
 · obtain⟨h1,h2,-⟩:=ajE h
   rw[an8 hs h1 h2]; rfl
theorem aox(s:List Int)(l:List Method)(q:aV)(hs:s.length<4294967296)(gX:fA lc l)(ht:eT q.Atoms<4294967295):PH 20 s l q=some (J4 s l q):=by
 rw[PH,anG s l q hs gX ht,Option.bind_some,J4]
 cases h:(zf s l q).2
 · rfl
 · obtain⟨h1,h2,-⟩:=ajE h
   rw[ao2 h1 h2]; rfl
theorem Xh{t:Int}:∀{vs xs:List Int},vs.length=xs.length->t∈vs-> ∃y∈xs,kr vs xs t=some y
 |[],xs,_,h=>by simp at h
 |v::vs,[],h,_=>by simp at h
 |v::vs,x::xs,h,ht=>by
   by_cases e:v=t
   · exact⟨x,by simp,by rw[kr,if_pos e]⟩
   · obtain⟨y,h1,h2⟩:=Xh (xs:=xs) (by simpa using h) (by
       rcases List.mem_cons.1 ht with ht|ht
       · exact (e ht.symm).elim
       · exact ht)
     exact⟨y,by simp[h1],by rw[kr,if_neg e,h2]⟩
theorem arV{s:List Int}{W:List Int}{q:aV}{f:List Fact}{b:aS}(hq:gM s q=true)(h:pq W q=some (f,b)):acj s f=true:=by
 obtain⟨f1,f2,f3,f4,f5⟩:=Xg h
 have hsh:=mi hq
 have hat:jJ s=true/\ ∀a∈q.Atoms,qJ s a=true:=by
   simp only[gM,Bool.and_eq_true]at hq
   exact⟨hq.2.2.1,fun a ha=>List.all_eq_true.1 hq.1 a ha⟩
 refine ag1.2 ⟨fun x hx=>?_,?_,hat.1,by have:=hsh.1; omega⟩
 · rw[f5,QH]at hx
   rcases hx with hx|hx
   · cases hx
   · obtain⟨a,ha,rfl⟩:=List.mem_map.1 hx
     have h1:=hat.2 a ha
     simp only[qJ,Bool.and_eq_true]at h1
     simp only[iI,ng,Bool.and_eq_true,List.length_map,List.all_eq_true]
     refine⟨h1.1,h1.2.1,fun v hv=>?_⟩
     obtain⟨t,ht,rfl⟩:=List.mem_map.1 hv
     have h2:=List.all_eq_true.1 h1.2.2 t ht
     unfold lm
     cases hv:aZ 10 17 t
     · rw[if_neg (by simp)]
       simpa[zR,hv]using h2
     · have hm:t∈b.Vars:=by
         rw[f2,Jd]
         exact⟨List.mem_flatMap.2 ⟨a,ha,ht⟩,hv⟩
       obtain⟨y,hy,e⟩:=Xh f3 hm
       rw[if_pos rfl,e,Option.getD_some]
       have:=f4 y hy
       simp only[aZ,Bool.and_eq_true,decide_eq_true_eq]; omega
 · rw[f5]; exact Xu List.Pairwise.nil
theorem ag_:∀{a b:List Int},mU a b=true↔a=b
 |[],[]=>by simp[mU,qY]
 |[],_::_=>by simp[mU,qY]
 |_::_,[]=>by simp[mU,qY]
 |x::a,y::b=>by
   have h:=ag_ (a:=a) (b:=b)
   simp only[mU]at h
   simp[mU,qY,h]
theorem ao3{a b:Access}:xQ a b=true↔a=b:=by
 cases a; cases b; simp[xQ,ag_]
theorem aid{log:List Access}{a:Access}:wZ log a=true↔a∈log:=by
 simp[wZ,List.any_eq_true,ao3]
theorem abh{vs:List Int}{log:List Access}{a:Access}:∀{l:List Method}{k:Nat},a∈gQ vs log l k↔ ∃(j:Nat)(m:Method),l[j]?=some m/\m.Limit=0/\a.Method=((k+j:Nat):Int)/\a.Values∈oG vs m.Inputs.length/\a∉log
 |[],k=>by simp[gQ]
 |m::l,k=>by
   rw[gQ,List.mem_append,abh]
   constructor
   · rintro (h|⟨j,x,h1,h2,h3,h4,h5⟩)
     · unfold zF at h
       split at h
       · simp at h
       · rename_i hm
         obtain⟨v,hv,rfl⟩:=List.mem_map.1 h
         obtain⟨h1,h2⟩:=List.mem_filter.1 hv
         refine⟨0,m,rfl,by simpa using hm,rfl,h1,fun h=>?_⟩
         rw[aid.2 h]at h2; simp at h2
     · exact⟨j+1,x,by simpa using h1,h2,by rw[h3]; congr 1; omega,h4,h5⟩
   · rintro⟨j,x,h1,h2,h3,h4,h5⟩
     cases j with
     |zero=>
       left
       simp only[List.getElem?_cons_zero,Option.some.injEq]at h1
       subst h1
       unfold zF
       rw[if_neg (by simp[h2])]
       have e:({Method:=(k:Int),Values:=a.Values}:Access)=a:=by cases a; simp at h3 ⊢; exact h3.symm
       refine List.mem_map.2 ⟨a.Values,List.mem_filter.2 ⟨h4,?_⟩,e⟩
       rw[e]
       cases hb:wZ log a
       · rfl
       · exact absurd (aid.1 hb) h5
     |succ j=>exact .inr ⟨j,x,by simpa using h1,h2,by rw[h3]; congr 1; omega,h4,h5⟩
theorem ahH{v:Int}:∀{g:List Fact}{vs:List Int},v∈g.foldl qd vs↔v∈vs\/ ∃f∈g,v∈f.Values
 |[],_=>by simp
 |x::g,vs=>by
   rw[List.foldl_cons,ahH,qd,Jq]
   simp only[List.mem_cons,exists_eq_or_imp,or_assoc]
def pB(m i:Int):Bool:=(CG .i64 (m.fdiv (2 ^ min i.toNat (IntKind.bits .i64))) 1)==1
theorem ab1(m:Int)(i:Nat):Kc .i64 m (i:Int)=some (m.fdiv (2 ^ min (i:Int).toNat (IntKind.bits .i64))):=by
 unfold Kc; rw[if_neg (by omega)]
def ji(m:Int):Nat->Nat->List Int
 |0,_=>[]
 |n+1,k=>(if pB m (k:Int)then [(k:Int)]else [])++ji m n (k+1)
theorem abA(m:Int):∀(n k:Nat),(ji m n k).length<=n
 |0,_=>by simp[ji]
 |n+1,k=>by
   have:=abA m n (k+1)
   rw[ji,List.length_append]; split<;>simp<;>omega
theorem aiX(m:Int):∀(n k:Nat),∀x∈ji m n k,(k:Int)<=x/\x<((k+n:Nat):Int)
 |0,_=>by simp[ji]
 |n+1,k=>by
   intro x hx
   rw[ji,List.mem_append]at hx
   rcases hx with hx|hx
   · split at hx
     · obtain rfl:=List.mem_singleton.1 hx; omega
     · cases hx
   · have:=aiX m n (k+1) x hx; omega
theorem aqU(Au:Int)(n:Nat)(hn:n<=8):QT Au (n:Int)=some (ji Au n 0):=by
 have key:∀(m i:Nat)(c:List Int),i<=n->n-i<m->c.length<=i->I7 Au (n:Int) m c (i:Int)=some (c++ji Au (n-i) i):=by
   intro m
   induction m with
   |zero=>intro i c _ h; omega
   |succ m ih=>
     intro i c hi hm hc
     unfold I7
     by_cases hlt:i<n
     · have hw:IntKind.i64.wrap ((i:Int)+1)=((i+1:Nat):Int):=by rw[fo (by omega) (by omega)]; rfl
       rw[if_pos (by simpa using hlt),ab1,Option.bind_some,app1 (by omega),hw,show n-i=(n-(i+1))+1 by omega,ji,pB]
       cases (CG .i64 (Au.fdiv (2 ^ min (i:Int).toNat (IntKind.bits .i64))) 1)==1
       · simp only[Bool.false_eq_true,if_false,Option.bind_some,List.nil_append]
         exact ih (i+1) c (by omega) (by omega) (by omega)
       · simp only[if_true,Option.bind_some]
         rw[ih (i+1) _ (by omega) (by omega) (by simp; omega),List.append_assoc]
     · rw[if_neg (by simpa using hlt),show n-i=0 by omega,ji,List.append_nil]
 rw[QT,show ((n:Int)-0).toNat+2=n+2 by omega]
 have:=key (n+2) 0 [] (by omega) (by omega) (by simp)
 simpa using this
def NF(a b:List Int):Bool:=if (a.length:Int)!=(b.length:Int)then decide ((a.length:Int)<(b.length:Int))else decide (cmpL a b<0)
theorem ap7(a b:List Int)(ha:a.length<4294967296):Qy a b=some (NF a b):=by
 rw[Qy,NF,aqG a b ha]
 split<;>rfl
def KR(is:List Int->Bool)(n:Nat)(b:Option (List Int))(m:Int):Option (List Int):=match b with
 |none=>if is (ji m n 0)then some (ji m n 0)else none
 |some y=>if NF (ji m n 0) y&&is (ji m n 0)then some (ji m n 0)else some y
def wH(is:List Int->Bool)(n:Nat):Nat->Nat->Option (List Int)->Option (List Int)
 |0,_,b=>b
 |c+1,i,b=>wH is n c (i+1) (KR is n b (i:Int))
def ZQ(is:List Int->Bool)(x:List Int)(b:Option (List Int)):Option (List Int):=match b with
 |none=>if is x then some x else none
 |some y=>if NF x y&&is x then some x else some y
def uU(r:Rule)(f:Fact):Fact:={Rel:=r.To,Values:=r.Map.map fun i=>f.Values[i.toNat]?.getD 0}
theorem aav(r:Rule)(f:Fact):∀(l:List Int)(k:Nat)(c:List Int),(∀x∈l,0<=x/\x<(f.Values.length:Int))->c.length+l.length<4294967296->El r f l k c=some {Rel:=r.To,Values:=c++l.map fun i=>f.Values[i.toNat]?.getD 0}
 |[],k,c,_,_=>by simp[El]
 |x::l,k,c,h,hl=>by
   simp only[List.length_cons]at hl
   unfold El
   rw[Ny _ _ (h x (by simp)),Option.bind_some,kz (by simp; omega),Option.bind_some,aav r f l _ _ (fun y hy=>h y (by simp[hy])) (by simp; omega)]
   simp
theorem aag(r:Rule)(f:Fact):∀(l:List Int)(k:Nat)(c:List Int),(∀x∈l,0<=x/\x<(f.Values.length:Int))->c.length+l.length<4294967296->D7 r f l k c=some ({Rel:=r.To,Values:=c++l.map fun i=>f.Values[i.toNat]?.getD 0},true)
 |[],k,c,_,_=>by simp[D7]
 |x::l,k,c,h,hl=>by
   simp only[List.length_cons]at hl
   unfold D7
   rw[Ny _ _ (h x (by simp)),Option.bind_some,kz (by simp; omega),Option.bind_some,aag r f l _ _ (fun y hy=>h y (by simp[hy])) (by simp; omega)]
   simp
def nW(facts:List Fact)(x:Fact)(c:List Fact)(r:Rule):List Fact:=if x.Rel==r.From&&!rM facts (uU r x)then eZ c (uU r x)else c
def lG(l:List Rule)(facts:List Fact):List Fact:=facts.foldl (fun c x=>l.foldl (nW facts x) c) []
theorem abj(facts:List Fact)(x:Fact)(c:List Fact)(r:Rule):(nW facts x c r).length<=c.length+1:=by
 unfold nW
 split
 · exact QG _ _
 · omega
def Vz(x:Fact)(l:List Rule):Prop:=∀r∈l,r.Map.length<=3/\(x.Rel=r.From-> ∀i∈r.Map,0<=i/\i<(x.Values.length:Int))
def okO(c:List Fact):Prop:=∀y∈c,y.Values.length<=3
theorem avl{c:List Fact}(h:okO c)(hl:c.length<4294967296):fA l5 c:=⟨hl,fun y hy=>ui _ (by have:=h y hy; omega)⟩
theorem abB{facts:List Fact}{x:Fact}{c:List Fact}{r:Rule}(h:okO c)(hr:r.Map.length<=3):okO (nW facts x c r):=by
 unfold nW
 split
 · intro y hy
   rcases aht hy with rfl|hy
   · simpa[uU]using hr
   · exact h y hy
 · exact h
theorem abC(facts:List Fact)(x:Fact):∀(l:List Rule)(c:List Fact),(l.foldl (nW facts x) c).length<=c.length+l.length
 |[],c=>Nat.le_refl _
 |r::l,c=>by
   have h1:=abC facts x l (nW facts x c r)
   have h2:=abj facts x c r
   simp only[List.foldl_cons,List.length_cons]; omega
theorem ab2(facts:List Fact)(x:Fact):∀(l:List Rule)(c:List Fact),(∀r∈l,r.Map.length<=3)->okO c->okO (l.foldl (nW facts x) c)
 |[],c,_,h=>h
 |r::l,c,hr,h=>ab2 facts x l _ (fun r' h'=>hr r' (by simp[h'])) (abB h (hr r (by simp)))
theorem afl(facts:List Fact)(hb:fA l5 facts)(x:Fact):∀(l:List Rule)(k:Nat)(c:List Fact),Vz x l->okO c->c.length+l.length+1<4294967296->H5 facts x l k c=some (l.foldl (nW facts x) c)
 |[],k,c,_,_,_=>rfl
 |r::l,k,c,hr,ho,hl=>by
   simp only[List.length_cons]at hl
   have h1:=hr r (by simp)
   unfold H5
   have hstep:(if ((r.From:Int)!=x.Rel)then some c else (EJ r x).bind fun xD=>(ES facts xD).bind fun wz=>if (!wz)then (vB c xD).bind fun Am=>some Am else some c)=some (nW facts x c r):=by
     unfold nW
     by_cases he:x.Rel=r.From
     · rw[if_neg (by simp[he]),EJ,aav r x r.Map 0 [] (h1.2 he) (by simp; omega),Option.bind_some,List.nil_append]
       have e:({Rel:=r.To,Values:=r.Map.map fun i=>x.Values[i.toNat]?.getD 0}:Fact)=uU r x:=rfl
       rw[e,aaJ facts _ hb,Option.bind_some]
       cases hh:rM facts (uU r x)
       · rw[if_pos (show (!false)=true from rfl),if_pos (by simp[he]),aaL c _ (avl ho (by omega)) (by omega) (ui _ (by simp[uU]; omega))]; rfl
       · rw[if_neg (by simp),if_neg (by simp)]
     · rw[if_pos (by simp only[bne_iff_ne]; exact fun h=>he h.symm),if_neg (by simp[he])]
   rw[hstep,Option.bind_some]
   dsimp only
   have h2:=abj facts x c r
   rw[afl facts hb x l _ _ (fun r' h'=>hr r' (by simp[h'])) (abB ho h1.1) (by omega)]
   rfl
theorem afR(facts:List Fact)(x:Fact):∀(l:List Rule)(k:Nat)(c:List Fact),Vz x l->okO c->c.length+l.length+1<4294967296->IV facts x l k c=some (l.foldl (nW facts x) c)
 |[],k,c,_,_,_=>rfl
 |r::l,k,c,hr,ho,hl=>by
   simp only[List.length_cons]at hl
   have h1:=hr r (by simp)
   unfold IV
   have hstep:((Io r x).bind fun iN=>(bif iN.2 then ((EX facts iN.1).bind fun qw=>some (!qw))else (some false)).bind fun Vu=>match Vu with|wG=>if wG then (zB c iN.1).bind fun Ld=>some Ld else some c)=some (nW facts x c r):=by
     unfold nW Io
     by_cases he:x.Rel=r.From
     · rw[if_neg (by simp[he]),aag r x r.Map 0 [] (h1.2 he) (by simp; omega),Option.bind_some,List.nil_append]
       have e:({Rel:=r.To,Values:=r.Map.map fun i=>x.Values[i.toNat]?.getD 0}:Fact)=uU r x:=rfl
       dsimp only
       rw[e,cond_true,aaK,Option.bind_some,Option.bind_some]
       cases hh:rM facts (uU r x)
       · simp only[Bool.not_false,if_true]
         rw[if_pos (by simp[he]),aa3 c _ (by omega) (ui _ (by simp[uU]; omega))]; rfl
       · simp
     · rw[if_pos (by simpa using he),Option.bind_some]
       simp[he]
   rw[hstep,Option.bind_some]
   dsimp only
   have h2:=abj facts x c r
   rw[afR facts x l _ _ (fun r' h'=>hr r' (by simp[h'])) (abB ho h1.1) (by omega)]
   rfl
theorem afm(l:List Rule)(facts:List Fact)(hb:fA l5 facts)(hr:∀r∈l,r.Map.length<=3):∀(fs:List Fact)(k:Nat)(c:List Fact),(∀x∈fs,Vz x l)->okO c->c.length+fs.length*l.length+1<4294967296->
   H6 l facts fs k c=some (fs.foldl (fun c x=>l.foldl (nW facts x) c) c)
 |[],k,c,_,_,_=>rfl
 |x::fs,k,c,hx,ho,hl=>by
   simp only[List.length_cons,Nat.succ_mul]at hl
   unfold H6
   rw[afl facts hb x l 0 c (hx x (by simp)) ho (by omega),Option.bind_some]
   dsimp only
   have h2:=abC facts x l c
   rw[afm l facts hb hr fs _ _ (fun y hy=>hx y (by simp[hy])) (ab2 facts x l c hr ho) (by omega)]
   rfl
theorem afS(l:List Rule)(facts:List Fact)(hr:∀r∈l,r.Map.length<=3):∀(fs:List Fact)(k:Nat)(c:List Fact),(∀x∈fs,Vz x l)->okO c->c.length+fs.length*l.length+1<4294967296->
   IW l facts fs k c=some (fs.foldl (fun c x=>l.foldl (nW facts x) c) c)
 |[],k,c,_,_,_=>rfl
 |x::fs,k,c,hx,ho,hl=>by
   simp only[List.length_cons,Nat.succ_mul]at hl
   unfold IW
   rw[afR facts x l 0 c (hx x (by simp)) ho (by omega),Option.bind_some]
   dsimp only
   have h2:=abC facts x l c
   rw[afS l facts hr fs _ _ (fun y hy=>hx y (by simp[hy])) (ab2 facts x l c hr ho) (by omega)]
   rfl
theorem Nv{s:List Int}{r:Rule}(h:iP s r=true):r.Map.length<=3/\ ∀i∈r.Map,0<=i/\i<jQ s r.From:=by
 simp only[iP,Bool.and_eq_true,beq_iff_eq,List.all_eq_true,aZ,decide_eq_true_eq]at h
 obtain⟨h1,h2,h3,h4⟩:=h
 have:=(vF h2).2
 exact⟨by omega,fun i hi=>by have:=h4 i hi; omega⟩
theorem agp{x y:Int}{a b:List Int}:cmpL (x::a) (y::b)<0↔x<y\/(x=y/\cmpL a b<0):=by
 rw[show cmpL (x::a) (y::b)=if jX x y !=0 then jX x y else cmpL a b from rfl]
 by_cases h:jX x y=0
 · rw[if_neg (by simpa using h)]
   have:=AZ.1 h
   subst this
   constructor
   · exact fun h=>.inr ⟨rfl,h⟩
   · rintro (h|h)
     · omega
     · exact h.2
 · rw[if_pos (by simpa using h),XH]
   have hne:x≠y:=fun e=>h (AZ.2 e)
   constructor
   · exact .inl
   · rintro (h|h)
     · exact h
     · exact absurd h.1 hne
def cV:List Int->Int
 |[a]=>a
 |[a,b]=>10*a+b
 |[a,b,c]=>100*a+10*b+c
 |_=>0
def adl(f:Fact):Int:=f.Rel*1000+cV f.Values
theorem azm{a b:List Int}(h:a.length=b.length)(h1:1<=a.length)(h3:a.length<=3)(ha:∀x∈a,0<=x/\x<=9)(hb:∀x∈b,0<=x/\x<=9)(hc:cmpL a b<0):cV a<cV b:=by
 rcases a with _|⟨a0,_|⟨a1,_|⟨a2,_|⟨a3,a⟩⟩⟩⟩<;>rcases b with _|⟨b0,_|⟨b1,_|⟨b2,_|⟨b3,b⟩⟩⟩⟩<;>simp only[List.length_cons,List.length_nil]at h h1 h3<;>try omega
 all_goals
   simp only[List.mem_cons,List.not_mem_nil,or_false,forall_eq_or_imp,forall_eq]at ha hb
   simp only[agp,cV]at hc ⊢
   try simp only[cmpL]at hc
   omega
theorem adm{a:List Int}(h3:a.length<=3)(ha:∀x∈a,0<=x/\x<=9):0<=cV a/\cV a<=999:=by
 rcases a with _|⟨a0,_|⟨a1,_|⟨a2,_|⟨a3,a⟩⟩⟩⟩
 · exact⟨by decide,by decide⟩
 · simp only[List.mem_cons,List.not_mem_nil,or_false,forall_eq]at ha
   simp only[cV]; omega
 · simp only[List.mem_cons,List.not_mem_nil,or_false,forall_eq_or_imp,forall_eq]at ha
   simp only[cV]; omega
 · simp only[List.mem_cons,List.not_mem_nil,or_false,forall_eq_or_imp,forall_eq]at ha
   simp only[cV]; omega
 · simp only[List.length_cons]at h3; omega
def GF(s:List Int)(l:List Fact):Prop:=(∀f∈l,iI s f=true)/\l.Pairwise ol
theorem sw{s:List Int}{f:Fact}(h:iI s f=true):(0<=f.Rel/\f.Rel<=2)/\(1<=f.Values.length/\f.Values.length<=3)/\(f.Values.length:Int)=jQ s f.Rel/\ ∀v∈f.Values,0<=v/\v<=9:=by
 have h4:=ari h
 simp only[iI,Bool.and_eq_true,beq_iff_eq]at h
 obtain⟨h1,h2,h3⟩:=h
 have h5:=vF h1
 simp only[jK,jJ,yM,aZ,Bool.and_eq_true,decide_eq_true_eq]at h1
 refine⟨⟨by omega,by omega⟩,⟨by omega,by omega⟩,h2,h4.2⟩
theorem nE{s:List Int}{l:List Fact}(h:GF s l):l.length<=3000:=by
 have h1:(l.map adl).Pairwise (· < ·):=by
   rw[List.pairwise_map]
   refine List.Pairwise.imp_of_mem (fun{a b} ha hb hab=>?_) h.2
   have h1:=sw (h.1 a ha)
   have h2:=sw (h.1 b hb)
   have h3:=adm h1.2.1.2 h1.2.2.2
   have h4:=adm h2.2.1.2 h2.2.2.2
   unfold ol at hab
   rw[Jj,agp]at hab
   unfold adl
   rcases hab with hab|⟨e,hab⟩
   · omega
   · have:=azm (by have a:=h1.2.2.1; have b:=h2.2.2.1; rw[e]at a; omega) h1.2.1.1 h1.2.1.2 h1.2.2.2 h2.2.2.2 hab
     omega
 have:=XI h1 0 3000 fun x hx=>by
   obtain⟨a,ha,rfl⟩:=List.mem_map.1 hx
   have h1:=sw (h.1 a ha)
   have h3:=adm h1.2.1.2 h1.2.2.2
   unfold adl; omega
 simpa using this
theorem zT{s:List Int}{l:List Fact}(h:GF s l):fA l5 l:=⟨by have:=nE h; omega,fun f hf=>ui _ (by have:=sw (h.1 f hf); omega)⟩
theorem abk{α:Type}(g:α->Int)(c:Nat):∀(n:Nat)(L:List α),(∀a∈L,0<=g a/\g a<n)->(∀v,(L.filter fun a=>g a==v).length<=c)->L.length<=n*c
 |0,L,h,_=>by
   rcases L with _|⟨a,L⟩
   · simp
   · have:=h a (by simp); omega
 |n+1,L,h,hc=>by
   have h1:=abk g c n (L.filter fun a=>!(g a==(n:Int))) (fun a ha=>by
     obtain⟨h1,h2⟩:=List.mem_filter.1 ha
     have:=h a h1
     simp only[Bool.not_eq_true',beq_eq_false_iff_ne]at h2
     omega) (fun v=>by
     rw[List.filter_filter]
     refine Nat.le_trans ?_ (hc v)
     rw[←List.filter_filter,List.filter_filter]
     have:(L.filter fun a=>(g a==v)&&!(g a==(n:Int)))=(L.filter fun a=>g a==v).filter fun a=>!(g a==(n:Int)):=by
       rw[List.filter_filter]; congr 1; funext a; rw[Bool.and_comm]
     rw[this]
     exact List.length_filter_le ..)
   have h2:=hc n
   have h3:L.length=(L.filter fun a=>g a==(n:Int)).length+(L.filter fun a=>!(g a==(n:Int))).length:=by
     rw[←List.length_append]
     exact ((List.filter_append_perm (fun a=>g a==(n:Int)) L).length_eq).symm
   rw[Nat.succ_mul]; omega
theorem avm{v:List Int}(lo:Int)(n:Nat)(h:v.Nodup)(hb:∀x∈v,lo<=x/\x<lo+n):v.length<=n:=by
 have:=abk (fun x:Int=>x-lo) 1 n v (fun a ha=>by have:=hb a ha; omega) fun y=>by
   have h1:(v.filter fun a=>a-lo==y).Nodup:=h.filter _
   have h2:∀a∈(v.filter fun a=>a-lo==y),a=y+lo:=fun a ha=>by
     have:=(List.mem_filter.1 ha).2
     simp only[beq_iff_eq]at this; omega
   generalize v.filter (fun a=>a-lo==y)=w at h1 h2
   rcases w with _|⟨a,_|⟨b,w⟩⟩
   · simp
   · simp
   · have e1:=h2 a (by simp)
     have e2:=h2 b (by simp)
     rw[List.nodup_cons]at h1
     exact absurd (show a∈b::w by simp; left; omega) h1.1
 omega
def nZ:List Int->List Int->List Int
 |[],vs=>vs
 |t::r,vs=>if aZ 10 17 t&&!decide (t∈vs)then nZ r (vs++[t])else nZ r vs
theorem agq{t:Int}{vs xs:List Int}(h:vs.length=xs.length):(kr vs xs t).isSome=decide (t∈vs):=by
 by_cases ht:t∈vs
 · obtain⟨y,-,e⟩:=Xh h ht
   rw[e]; simp[ht]
 · have key:∀(vs xs:List Int),t∉vs->kr vs xs t=none:=by
     intro vs
     induction vs with
     |nil=>intro xs _; rfl
     |cons v vs ih=>
       intro xs hn
       rw[List.mem_cons,not_or]at hn
       rcases xs with _|⟨x,xs⟩
       · rfl
       · rw[kr,if_neg (fun e=>hn.1 e.symm)]; exact ih xs hn.2
   rw[key vs xs ht]; simp[ht]
theorem aie:∀{T vs:List Int},vs.length<=(nZ T vs).length
 |[],vs=>Nat.le_refl _
 |t::r,vs=>by
   unfold nZ
   split
   · have:=aie (T:=r) (vs:=vs++[t])
     simp only[List.length_append,List.length_cons,List.length_nil]at this; omega
   · exact aie
theorem ab3:∀{T vs:List Int},vs.Nodup->(∀x∈vs,10<=x/\x<10+(8:Nat))->(nZ T vs).Nodup/\ ∀x∈nZ T vs,10<=x/\x<10+(8:Nat)
 |[],vs,h1,h2=>⟨h1,h2⟩
 |t::r,vs,h1,h2=>by
   unfold nZ
   split
   · rename_i h
     simp only[aZ,Bool.and_eq_true,decide_eq_true_eq,Bool.not_eq_true',decide_eq_false_iff_not]at h
     refine ab3 ?_ fun x hx=>?_
     · rw[List.nodup_append]
       exact⟨h1,by simp,fun a ha b hb e=>by
         obtain rfl:=List.mem_singleton.1 hb
         exact h.2 (e ▸ ha)⟩
     · rcases List.mem_append.1 hx with hx|hx
       · exact h2 x hx
       · obtain rfl:=List.mem_singleton.1 hx; omega
   · exact ab3 h1 h2
theorem aaO{fv:List Int}:∀{l:List Int}{k:Nat}{vs xs:List Int}{p:List Int×List Int},nS fv l k vs xs=some p->vs.length=xs.length->p.1=nZ l vs
 |[],k,vs,xs,p,h,_=>by
   simp only[nS,Option.some.injEq]at h
   subst h; rfl
 |t::l,k,vs,xs,p,h,he=>by
   unfold nS at h
   unfold nZ
   rw[←agq he]
   split at h
   · rename_i hc
     rw[if_pos hc]
     exact aaO h (by simp[he])
   · rename_i hc
     rw[if_neg hc]
     split at h
     · simp at h
     · exact aaO h he
theorem acn:∀(T:List Int)(k:Nat)(vs xs:List Int)(L:List (List Int)),vs.length=xs.length->L.Nodup->(∀a∈L,a.length=k+T.length/\ ∀x∈a,0<=x/\x<=9)->(∀a∈L,∀b∈L,a.take k=b.take k)->(L.filter fun fv=>(nS fv T k vs xs).isSome).length*10 ^ vs.length<=10 ^ (nZ T vs).length
 |[],k,vs,xs,L,_,hn,hl,ht=>by
   have h1:L.length<=1:=by
     rcases L with _|⟨a,_|⟨b,L⟩⟩
     · simp
     · simp
     · have e:=ht a (by simp) b (by simp)
       have e1:=(hl a (by simp)).1
       have e2:=(hl b (by simp)).1
       simp only[List.length_nil,Nat.add_zero]at e1 e2
       rw[List.take_of_length_le (by omega),List.take_of_length_le (by omega)]at e
       rw[List.nodup_cons]at hn
       exact absurd (show a∈b::L by simp[e]) hn.1
   have h2:=List.length_filter_le (fun fv:List Int=>(nS fv [] k vs xs).isSome) L
   calc _<=1*10 ^ vs.length:=Nat.mul_le_mul_right _ (by omega)
     _=_:=by rw[Nat.one_mul]; rfl
 |t::r,k,vs,xs,L,he,hn,hl,ht=>by
   have hstep:∀v:Int,∀a∈(L.filter fun fv=>fv[k]?.getD 0==v),∀b∈(L.filter fun fv=>fv[k]?.getD 0==v),a.take (k+1)=b.take (k+1):=fun v a ha b hb=>by
     obtain⟨a1,a2⟩:=List.mem_filter.1 ha
     obtain⟨b1,b2⟩:=List.mem_filter.1 hb
     have e1:=(hl a a1).1
     have e2:=(hl b b1).1
     simp only[List.length_cons]at e1 e2
     rw[List.getElem?_eq_getElem (by omega),Option.getD_some,beq_iff_eq]at a2 b2
     rw[List.take_succ_eq_append_getElem (by omega),List.take_succ_eq_append_getElem (by omega),ht a a1 b b1,a2,b2]
   have hl':∀v:Int,∀a∈(L.filter fun fv=>fv[k]?.getD 0==v),a.length=k+1+r.length/\ ∀x∈a,0<=x/\x<=9:=fun v a ha=>by
     have:=hl a (List.mem_filter.1 ha).1
     exact⟨by rw[this.1,List.length_cons]; omega,this.2⟩
   unfold nZ
   rw[←agq he]
   by_cases hc:(aZ 10 17 t&&!(kr vs xs t).isSome)=true
   · rw[if_pos hc]
     have h1:∀v:Int,(((L.filter fun fv=>(nS fv (t::r) k vs xs).isSome).filter fun fv=>fv[k]?.getD 0==v).length)<=10 ^ (nZ r (vs++[t])).length / 10 ^ (vs.length+1):=fun v=>by
       rw[Nat.le_div_iff_mul_le (Nat.pow_pos (by omega))]
       have:=acn r (k+1) (vs++[t]) (xs++[v]) (L.filter fun fv=>fv[k]?.getD 0==v) (by simp[he]) (hn.filter _) (hl' v) (hstep v)
       rw[List.length_append,List.length_cons,List.length_nil]at this
       refine Nat.le_trans (Nat.mul_le_mul_right _ (Nat.le_of_eq ?_)) this
       congr 1
       rw[List.filter_filter,List.filter_filter]
       refine List.filter_congr fun a _=>?_
       rw[Bool.and_comm]
       cases hv:a[k]?.getD 0==v
       · simp
       · have:a[k]?.getD 0=v:=by simpa using hv
         simp only[Bool.and_true]
         rw[nS,if_pos hc,this]
     have h2:=abk (fun fv:List Int=>fv[k]?.getD 0) _ 10 (L.filter fun fv=>(nS fv (t::r) k vs xs).isSome) (fun a ha=>by
       have ha:=(List.mem_filter.1 ha).1
       have e:=hl a ha
       simp only[List.length_cons]at e
       rw[List.getElem?_eq_getElem (by omega),Option.getD_some]
       have:=e.2 _ (List.getElem_mem (by omega:k<a.length))
       omega) h1
     have h3:=Nat.div_mul_le_self (10 ^ (nZ r (vs++[t])).length) (10 ^ (vs.length+1))
     calc _<=10*(10 ^ (nZ r (vs++[t])).length / 10 ^ (vs.length+1))*10 ^ vs.length:=Nat.mul_le_mul_right _ h2
       _=(10 ^ (nZ r (vs++[t])).length / 10 ^ (vs.length+1))*10 ^ (vs.length+1):=by rw[Nat.pow_succ,Nat.mul_comm 10,Nat.mul_assoc,Nat.mul_comm 10]
       _<=_:=h3
   · rw[if_neg hc]
     have:=acn r (k+1) vs xs (L.filter fun fv=>fv[k]?.getD 0==lm vs xs t) he (hn.filter _) (hl' _) (hstep _)
     refine Nat.le_trans (Nat.mul_le_mul_right _ (Nat.le_of_eq ?_)) this
     congr 1
     rw[List.filter_filter]
     refine List.filter_congr fun a _=>?_
     rw[nS,if_neg hc]
     by_cases hv:lm vs xs t=a[k]?.getD 0
     · rw[if_neg (by simpa using hv)]; simp[hv]
     · rw[if_pos (by simpa using hv)]
       have:(a[k]?.getD 0==lm vs xs t)=false:=by simpa using fun e=>hv e.symm
       simp[this]
theorem abD{α β:Type}(g:α->Option β):∀l:List α,(l.filterMap g).length=(l.filter fun a=>(g a).isSome).length
 |[]=>rfl
 |a::l=>by
   rw[List.filterMap_cons,List.filter_cons]
   cases h:g a
   · simpa using abD g l
   · simpa using abD g l
theorem arp{s:List Int}{facts:List Fact}(hg:GF s facts)(a:Atom)(b:aS)(hb:b.Vars.length=b.Values.length):(lq a facts b).length*10 ^ b.Vars.length<=10 ^ (nZ a.Terms b.Vars).length:=by
 have h0:(lq a facts b).length<=(((facts.filter fun f=>a.Rel==f.Rel&&(a.Terms.length:Int)==(f.Values.length:Int)).map (·.Values)).filter fun fv=>(nS fv a.Terms 0 b.Vars b.Values).isSome).length:=by
   rw[lq,abD,List.filter_map,List.length_map,List.filter_filter]
   refine Nat.le_of_eq (congrArg _ (List.filter_congr fun f _=>?_))
   rw[Option.isSome_map,zG]
   have hb':((b.Vars.length:Int)!=(b.Values.length:Int))=false:=by simp[hb]
   rw[hb',Bool.or_false]
   cases h1:a.Rel==f.Rel<;>cases h2:(a.Terms.length:Int)==(f.Values.length:Int)<;>simp only[bne,h1,h2,Bool.not_true,Bool.not_false,Bool.or_true,Bool.true_or,Bool.or_self,Bool.false_eq_true,if_true,if_false,Option.isSome_none,Bool.and_true,Bool.and_false,Bool.and_self,Function.comp_apply]
 refine Nat.le_trans (Nat.mul_le_mul_right _ h0) (acn a.Terms 0 b.Vars b.Values _ hb ?_ ?_ ?_)
 · rw[List.Nodup,List.pairwise_map]
   refine List.Pairwise.imp_of_mem (fun{x y} hx hy hxy e=>?_) (hg.2.filter _)
   have e1:=(List.mem_filter.1 hx).2
   have e2:=(List.mem_filter.1 hy).2
   simp only[Bool.and_eq_true,beq_iff_eq]at e1 e2
   unfold ol at hxy
   have:x=y:=by
     cases x; cases y
     simp only at e e1 e2
     rw[e,←e1.1,←e2.1]
   rw[this,Ps.2 rfl]at hxy
   omega
 · intro x hx
   obtain⟨f,hf,rfl⟩:=List.mem_map.1 hx
   obtain⟨hf,e⟩:=List.mem_filter.1 hf
   simp only[Bool.and_eq_true,beq_iff_eq]at e
   exact⟨by omega,(sw (hg.1 f hf)).2.2.2⟩
 · intro x _ y _; simp
def VS(vs:List Int):Prop:=vs.Nodup/\ ∀x∈vs,10<=x/\x<10+(8:Nat)
theorem aco{vs:List Int}(h:VS vs):vs.length<=8:=avm 10 8 h.1 h.2
def CB(vs:List Int)(c:List aS):Prop:=(∀b∈c,b.Vars=vs/\b.Vars.length=b.Values.length)/\c.length<=10 ^ vs.length
theorem avn{vs:List Int}{c:List aS}(h:CB vs c)(hv:VS vs):c.length<=100000000:=Nat.le_trans h.2 (Nat.le_trans (Nat.pow_le_pow_right (by omega) (aco hv)) (by decide))
theorem ajF{vs:List Int}{c:List aS}(h:CB vs c)(hv:VS vs):∀b∈c,om 8 b:=fun b hb=>by
 have:=h.1 b hb
 have:=aco hv
 exact⟨by omega,by rw[(h.1 b hb).1]; exact aco hv⟩
theorem aiY{s:List Int}{facts:List Fact}(hg:GF s facts)(a:Atom){vs:List Int}:∀{c:List aS},(∀b∈c,b.Vars=vs/\b.Vars.length=b.Values.length)->(c.flatMap (lq a facts)).length*10 ^ vs.length<=c.length*10 ^ (nZ a.Terms vs).length
 |[],_=>by simp
 |b::c,h=>by
   have h1:=arp hg a b (h b (by simp)).2
   rw[(h b (by simp)).1]at h1
   have h2:=aiY hg a fun x hx=>h x (List.mem_cons_of_mem _ hx)
   rw[List.flatMap_cons,List.length_append,Nat.add_mul,List.length_cons,Nat.succ_mul]
   omega
theorem avo{s:List Int}{facts:List Fact}(hg:GF s facts)(a:Atom){vs:List Int}{c:List aS}(h:CB vs c):CB (nZ a.Terms vs) (c.flatMap (lq a facts)):=by
 constructor
 · intro b hb
   obtain⟨b0,h0,h1⟩:=List.mem_flatMap.1 hb
   obtain⟨e1,e2⟩:=h.1 b0 h0
   simp only[lq,List.mem_filterMap,Option.map_eq_some_iff]at h1
   obtain⟨f,-,p,hp,rfl⟩:=h1
   unfold zG at hp
   split at hp
   · simp at hp
   · exact⟨by rw[←e1]; exact aaO hp e2,(WJ hp e2).1⟩
 · have h1:=aiY hg a h.1
   have h2:(c.flatMap (lq a facts)).length*10 ^ vs.length<=10 ^ (nZ a.Terms vs).length*10 ^ vs.length:=Nat.le_trans h1 (by rw[Nat.mul_comm]; exact Nat.mul_le_mul_left _ h.2)
   exact Nat.le_of_mul_le_mul_right h2 (Nat.pow_pos (by omega))
theorem afq(a:Atom)(facts:List Fact){n:Nat}(hn:n+a.Terms.length<4294967295):∀(l:List aS)(k:Nat)(c:List aS),(∀b∈l,om n b)->c.length+(l.flatMap (lq a facts)).length+facts.length<4294967296->xL a facts l k c=some (c++l.flatMap (lq a facts))
 |[],k,c,_,_=>by simp[xL]
 |b::l,k,c,hb,h=>by
   rw[List.flatMap_cons,List.length_append]at h
   unfold xL
   rw[V7 a b (hb b (by simp)) hn facts 0 c (by omega),Option.bind_some]
   dsimp only
   rw[afq a facts hn l _ _ (fun x hx=>hb x (by simp[hx])) (by rw[List.length_append]; omega),List.flatMap_cons,List.append_assoc]
theorem afr(a:Atom)(facts:List Fact){n:Nat}(hn:n+a.Terms.length<4294967295):∀(l:List aS)(k:Nat)(c:List aS),(∀b∈l,om n b)->c.length+(l.flatMap (lq a facts)).length+facts.length<4294967296->xM a facts l k c=some (c++l.flatMap (lq a facts))
 |[],k,c,_,_=>by simp[xM]
 |b::l,k,c,hb,h=>by
   rw[List.flatMap_cons,List.length_append]at h
   unfold xM
   rw[V8 a b (hb b (by simp)) hn facts 0 c (by omega),Option.bind_some]
   dsimp only
   rw[afr a facts hn l _ _ (fun x hx=>hb x (by simp[hx])) (by rw[List.length_append]; omega),List.flatMap_cons,List.append_assoc]
theorem ahI{s:List Int}{facts:List Fact}(hg:GF s facts):∀(l:List Atom)(k:Nat)(vs:List Int)(c:List aS),(∀a∈l,a.Terms.length<=3)->VS vs->CB vs c->AA facts l k c=some (zH facts l c)/\AB facts l k c=some (zH facts l c)
 |[],k,vs,c,_,_,_=>⟨rfl,rfl⟩
 |a::l,k,vs,c,ha,hv,hc=>by
   have ha3:=ha a (by simp)
   have hc':=avo hg a hc
   have hv':VS (nZ a.Terms vs):=ab3 hv.1 hv.2
   have h1:=avn hc' hv'
   have h2:=nE hg
   have ih:=ahI hg l (k+1) _ _ (fun x hx=>ha x (by simp[hx])) hv' hc'
   unfold AA AB zH
   rw[Qh,afq a facts (n:=8) (by omega) c 0 [] (ajF hc hv) (by simp only[List.length_nil]; omega),Option.bind_some,List.nil_append,Qo,afr a facts (n:=8) (by omega) c 0 [] (ajF hc hv) (by simp only[List.length_nil]; omega),Option.bind_some,List.nil_append]
   exact ih
theorem agT{s:List Int}{q:aV}{facts:List Fact}(hq:gM s q=true)(hg:GF s facts):IL q facts=some (zw q facts)/\IU q facts=some (zw q facts):=by
 have:=ahI hg q.Atoms 0 [] [{Vars:=[],Values:=[]}] (mi hq).2.1 ⟨List.nodup_nil,by simp⟩ ⟨by simp,by simp⟩
 constructor
 · rw[IL,this.1]; rfl
 · rw[IU,this.2]; rfl
theorem anU{s:List Int}{q:aV}{f:List Fact}(h:List Int)(hq:gM s q=true)(hf:GF s f):∃b,Ej q f h=some (b,zS q f h):=by
 have hok:=WK (facts:=f) hq
 rw[Ej,(agT hq hf).1,Option.bind_some,zS]
 generalize zw q f=L at hok
 have key:∀(l:List aS)(k:Nat),(∀b∈l,om 12 b)-> ∃b,Ay q h l k=some (b,l.any fun x=>mU (ko q x) h):=by
   intro l
   induction l with
   |nil=>intro k _; exact⟨_,rfl⟩
   |cons x l ih=>
     intro k hk
     obtain⟨e1,e2⟩:=hk x (by simp)
     rw[Ay,PO q x (by omega) (mi hq).2.2,Option.bind_some,aaV,Option.bind_some,List.any_cons,show qY (fun x y=>x==y) (ko q x) h=mU (ko q x) h from rfl]
     cases mU (ko q x) h
     · simpa using ih (k+1) fun b hb=>hk b (by simp[hb])
     · rw[if_pos rfl,Jo,nD (by omega),Option.bind_some,nD (by omega)]; exact⟨_,rfl⟩
 exact key L 0 hok
theorem anV{s:List Int}{q:aV}{f:List Fact}(h:List Int)(hq:gM s q=true)(hf:GF s f):∃b,Ep q f h=some (b,zS q f h):=by
 have hok:=WK (facts:=f) hq
 rw[Ep,(agT hq hf).2,Option.bind_some,zS]
 generalize zw q f=L at hok
 have key:∀(l:List aS)(k:Nat),(∀b∈l,om 12 b)-> ∃b,Az q h l k=some (b,l.any fun x=>mU (ko q x) h):=by
   intro l
   induction l with
   |nil=>intro k _; exact⟨_,rfl⟩
   |cons x l ih=>
     intro k hk
     obtain⟨e1,e2⟩:=hk x (by simp)
     rw[Az,PN q x e1 (mi hq).2.2,Option.bind_some,aae,Option.bind_some,List.any_cons,show qY (fun x y=>x==y) (ko q x) h=mU (ko q x) h from rfl]
     cases mU (ko q x) h
     · simpa using ih (k+1) fun b hb=>hk b (by simp[hb])
     · exact⟨_,rfl⟩
 exact key L 0 hok
theorem atn{s:List Int}{r:Rule}(h:iP s r=true):jK s r.To=true/\(r.Map.length:Int)=jQ s r.To/\ ∀i∈r.Map,0<=i/\i<jQ s r.From:=by
 have h1:=(Nv h).2
 simp only[iP,Bool.and_eq_true,beq_iff_eq]at h
 exact⟨h.2.1,h.2.2.1,h1⟩
theorem arW{s:List Int}{r:Rule}{x:Fact}(hr:iP s r=true)(hx:iI s x=true)(he:x.Rel=r.From):iI s (uU r x)=true:=by
 obtain⟨h1,h2,h3⟩:=atn hr
 have h4:=sw hx
 simp only[iI,uU,Bool.and_eq_true,List.length_map,beq_iff_eq,List.all_eq_true]
 refine⟨h1,h2,fun v hv=>?_⟩
 obtain⟨i,hi,rfl⟩:=List.mem_map.1 hv
 have h5:=h3 i hi
 have h6:=h4.2.2.1
 rw[he]at h6
 have hlt:i.toNat<x.Values.length:=by omega
 rw[List.getElem?_eq_getElem hlt,Option.getD_some]
 have:=h4.2.2.2 _ (List.getElem_mem hlt)
 simp only[aZ,Bool.and_eq_true,decide_eq_true_eq]; exact this
theorem Fu{s:List Int}{c:List Fact}{y:Fact}(h:GF s c)(hy:iI s y=true):GF s (eZ c y):=⟨fun z hz=>by
 rcases Xe.1 hz with rfl|hz
 · exact hy
 · exact h.1 z hz,aia h.2⟩
theorem Jr{s:List Int}:∀{m c:List Fact},GF s c->(∀y∈m,iI s y=true)->GF s (m.foldl eZ c)
 |[],_,h,_=>h
 |y::m,c,h,hm=>Jr (m:=m) (Fu h (hm y (by simp))) fun z hz=>hm z (by simp[hz])
def MI(s:List Int)(facts c:List Fact):Prop:=GF s c/\ ∀y∈c,y∉facts
theorem avp{s:List Int}{facts c:List Fact}{x:Fact}{r:Rule}(hr:iP s r=true)(hx:iI s x=true)(h:MI s facts c):MI s facts (nW facts x c r):=by
 unfold nW
 split
 · rename_i hc
   simp only[Bool.and_eq_true,beq_iff_eq,Bool.not_eq_true']at hc
   refine⟨Fu h.1 (arW hr hx hc.1),fun y hy=>?_⟩
   rcases Xe.1 hy with rfl|hy
   · intro hm
     rw[Nc.2 hm]at hc
     exact absurd hc.2 (by simp)
   · exact h.2 y hy
 · exact h
theorem aif{s:List Int}{facts:List Fact}{x:Fact}(hx:iI s x=true):∀{R:List Rule}{c:List Fact},(∀r∈R,iP s r=true)->MI s facts c->MI s facts (R.foldl (nW facts x) c)
 |[],_,_,h=>h
 |r::R,c,hR,h=>aif hx (R:=R) (fun z hz=>hR z (by simp[hz])) (avp (hR r (by simp)) hx h)
theorem aig{s:List Int}{facts:List Fact}{R:List Rule}(hR:∀r∈R,iP s r=true):∀{fs c:List Fact},(∀x∈fs,iI s x=true)->MI s facts c->MI s facts (fs.foldl (fun c x=>R.foldl (nW facts x) c) c)
 |[],_,_,h=>h
 |x::fs,c,hf,h=>aig hR (fs:=fs) (fun z hz=>hf z (by simp[hz])) (aif (hf x (by simp)) hR h)
theorem Qv{s:List Int}{R:List Rule}{facts:List Fact}(hR:∀r∈R,iP s r=true)(hg:GF s facts):MI s facts (lG R facts):=aig hR hg.1 ⟨⟨by simp,List.Pairwise.nil⟩,by simp⟩
theorem aiZ{s:List Int}{R:List Rule}{facts:List Fact}(hR:∀r∈R,iP s r=true)(hg:GF s facts):∀x∈facts,Vz x R:=fun x hx r hr=>by
 have h1:=Nv (hR r hr)
 refine⟨h1.1,fun he i hi=>?_⟩
 have h2:=(sw (hg.1 x hx)).2.2.1
 rw[h2,he]
 exact h1.2 i hi
theorem WL{s:List Int}{R:List Rule}{facts:List Fact}(hR:∀r∈R,iP s r=true)(h4:R.length<=4)(hg:GF s facts):Mw R facts=some (lG R facts)/\M_ R facts=some (lG R facts):=by
 have h1:=nE hg
 have hmul:facts.length*R.length<=3000*4:=Nat.mul_le_mul h1 h4
 have hr:∀r∈R,r.Map.length<=3:=fun r hr=>(Nv (hR r hr)).1
 constructor
 · rw[Mw,afm R facts (zT hg) hr facts 0 [] (aiZ hR hg) (by intro y hy; simp at hy) (by simp only[List.length_nil]; omega)]; rfl
 · rw[M_,afS R facts hr facts 0 [] (aiZ hR hg) (by intro y hy; simp at hy) (by simp only[List.length_nil]; omega)]; rfl
theorem abE{c:List Fact}{f:Fact}(h:f∉c):(eZ c f).length=c.length+1:=by rw[eZ,if_neg (fun e=>h (Nc.1 e)),aa_]
theorem Xi:∀{m c:List Fact},m.Pairwise ol->(∀y∈m,y∉c)->(m.foldl eZ c).length=c.length+m.length
 |[],_,_,_=>rfl
 |f::m,c,h1,h2=>by
   rw[List.pairwise_cons]at h1
   rw[List.foldl_cons,Xi h1.2 (fun y hy hc=>by
     rcases Xe.1 hc with e|hc
     · have:=h1.1 y hy
       rw[e]at this
       unfold ol at this
       rw[Ps.2 rfl]at this; omega
     · exact h2 y (by simp[hy]) hc),abE (h2 f (by simp)),List.length_cons]
   omega
theorem aa5:∀{g c:List Fact},g.foldl eZ c=c\/c.length<(g.foldl eZ c).length
 |[],_=>.inl rfl
 |x::g,c=>by
   rw[List.foldl_cons]
   by_cases hx:x∈c
   · rw[show eZ c x=c from if_pos (Nc.2 hx)]; exact aa5
   · have e:=abE hx
     right
     rcases aa5 (g:=g) (c:=eZ c x)with h|h
     · rw[h]; omega
     · omega
theorem aa6{l:List Method}{F:List Fact}:∀{o:List Access}{fs:List Fact},o.foldl (sF l F) fs=fs\/fs.length<(o.foldl (sF l F) fs).length
 |[],_=>.inl rfl
 |a::o,fs=>by
   rw[List.foldl_cons]
   rcases aa5 (g:=Dg l F a) (c:=fs)with h|h
   · rw[show sF l F fs a=fs from h]; exact aa6
   · right
     have h':fs.length<(sF l F fs a).length:=h
     rcases aa6 (l:=l) (F:=F) (o:=o) (fs:=sF l F fs a)with h2|h2
     · rw[h2]; exact h'
     · omega
theorem PP{s:List Int}{c:List Fact}{x:Fact}(h:GF s c)(hx:iI s x=true):vB c x=some (eZ c x):=aaL c x (zT h) (by have:=nE h; omega) (ui _ (by have:=sw hx; omega))
theorem ag'{s:List Int}{c:List Fact}{x:Fact}(h:GF s c)(hx:iI s x=true):zB c x=some (eZ c x):=aa3 c x (by have:=nE h; omega) (ui _ (by have:=sw hx; omega))
theorem WT{s:List Int}{L:List Fact->Nat->List Fact->Option (List Fact)}(h0:∀k c,L [] k c=some c)(h1:∀x r k c,GF s c->iI s x=true->L (x::r) k c=L r (k+1) (eZ c x)):∀(m:List Fact)(k:Nat)(c:List Fact),(∀y∈m,iI s y=true)->GF s c->L m k c=some (m.foldl eZ c)
 |[],k,c,_,_=>h0 k c
 |x::m,k,c,hm,hc=>by
   rw[h1 x m k c hc (hm x (by simp)),WT h0 h1 m _ _ (fun y hy=>hm y (by simp[hy])) (Fu hc (hm x (by simp)))]; rfl
def uw(R:List Rule):Nat->List Fact->List Fact
 |0,x=>x
 |n+1,x=>if lG R x=[]then x else uw R n ((lG R x).foldl eZ x)
theorem Jl{s:List Int}{R:List Rule}(hR:∀r∈R,iP s r=true)(h4:R.length<=4):∀(n m:Nat)(x:List Fact),GF s x->3000<=x.length+n->n<m->(En R m x=some (uw R n x)/\EF R m x=some (uw R n x))/\GF s (uw R n x):=by
 intro n
 induction n with
 |zero=>
   intro m x hg h hm
   obtain⟨m,rfl⟩:∃k,m=k+1:=⟨m-1,by omega⟩
   obtain⟨e1,e2⟩:=WL hR h4 hg
   have pU:=Qv hR hg
   have hnil:lG R x=[]:=by
     have h1:=nE (Jr hg pU.1.1)
     rw[Xi pU.1.2 pU.2]at h1
     exact List.length_eq_zero_iff.1 (by omega)
   rw[hnil]at e1 e2
   refine⟨⟨?_,?_⟩,hg⟩
   · rw[En,e1]; rfl
   · rw[EF,e2]; rfl
 |succ n ih=>
   intro m x hg h hm
   obtain⟨m,rfl⟩:∃k,m=k+1:=⟨m-1,by omega⟩
   obtain⟨e1,e2⟩:=WL hR h4 hg
   have pU:=Qv hR hg
   rw[En,e1,EF,e2,uw]
   by_cases hn:lG R x=[]
   · rw[if_pos hn,hn]; exact⟨⟨rfl,rfl⟩,hg⟩
   · have hpos:0<(lG R x).length:=List.length_pos_iff.2 hn
     have hc:(((lG R x).length:Int)==0)=false:=by
       rw[beq_eq_false_iff_ne]; omega
     have k1:Em (lG R x) 0 x=some ((lG R x).foldl eZ x):=WT (L:=Em) (s:=s) (fun _ _=>rfl) (fun y r k c h1 h2=>by rw[Em,PP h1 h2,Option.bind_some]) _ _ _ pU.1.1 hg
     have k2:EE (lG R x) 0 x=some ((lG R x).foldl eZ x):=WT (L:=EE) (s:=s) (fun _ _=>rfl) (fun y r k c h1 h2=>by rw[EE,ag' h1 h2,Option.bind_some]) _ _ _ pU.1.1 hg
     have h1:=Xi pU.1.2 pU.2
     have:=ih m ((lG R x).foldl eZ x) (Jr hg pU.1.1) (by omega) (by omega)
     simp only[Option.bind_some,hc,Bool.false_eq_true,if_false,k1,k2,hn]
     exact this
def LI(ls:List Line)(fs:List Fact):Prop:=ls.length=fs.length/\(ls.map (·.Fact)).foldl eZ []=fs
theorem ajG{ls:List Line}{fs:List Fact}{x:Line}(h:LI ls fs)(hn:x.Fact∉fs):LI (ls++[x]) (eZ fs x.Fact):=⟨by rw[List.length_append,abE hn,h.1]; rfl,by rw[List.map_append,List.foldl_append,h.2]; rfl⟩
theorem ajH{c:List Fact}{x:Fact}(h:rM c x=false):x∉c:=fun e=>by rw[Nc.2 e]at h; cases h
theorem abF{c:List Fact}{x:Fact}(h:rM c x=true):eZ c x=c:=if_pos h
theorem adn{s:List Int}(z:Access)(hz:z.Values.length<=3):∀(g:List Fact)(k:Nat)(ls:List Line)(fs:List Fact),(∀y∈g,iI s y=true)->GF s fs->LI ls fs-> ∃ls',Ic z g k ls fs=some (ls',g.foldl eZ fs)/\LI ls' (g.foldl eZ fs)
 |[],k,ls,fs,_,_,h=>⟨ls,rfl,h⟩
 |x::g,k,ls,fs,hg,hf,h=>by
   have hx:=hg x (by simp)
   have h1:=nE hf
   have h2:=h.1
   have hg':∀y∈g,iI s y=true:=fun y hy=>hg y (by simp[hy])
   rw[Ic,aaJ fs x (zT hf),Option.bind_some,List.foldl_cons]
   cases hh:rM fs x
   · rw[if_pos (show (!false)=true from rfl),agb _ _ (by omega),Option.bind_some,app1 (by omega),Option.bind_some,PP hf hx,Option.bind_some]
     exact adn z hz g (k+1) _ _ hg' (Fu hf hx) (ajG h (ajH hh))
   · rw[if_neg (by simp),Option.bind_some,abF hh]
     exact adn z hz g (k+1) _ _ hg' hf h
theorem Q7{s:List Int}{l:List Method}{F:List Fact}(hF:∀f∈F,iI s f=true)(a:Access):∀f∈Dg l F a,iI s f=true:=fun f hf=>hF f (List.mem_filter.1 hf).1
theorem ai0{s:List Int}{l:List Method}{F:List Fact}(hF:∀f∈F,iI s f=true):∀{o:List Access}{fs:List Fact},GF s fs->GF s (o.foldl (sF l F) fs)
 |[],_,h=>h
 |a::o,fs,h=>ai0 hF (o:=o) (Jr h (Q7 hF a))
theorem ai1{s:List Int}{l:List Method}{a:Access}(h:xX s l a=true):a.Values.length<=3:=by
 simp only[xX,Bool.and_eq_true,beq_iff_eq]at h
 have h1:=(Xp h.2.1).2
 have:=(Wz h.1).2 _ h1
 omega
theorem ak1{s:List Int}{l:List Method}{F:List Fact}(hF:GF s F):∀(o:List Access)(k:Nat)(ls:List Line)(fs:List Fact)(log:List Access),(∀a∈o,xX s l a=true)->GF s fs->LI ls fs->log.length+o.length<4294967296-> ∃ls',AJ l F o k ls fs log=some (ls',o.foldl (sF l F) fs,log++o)/\LI ls' (o.foldl (sF l F) fs)
 |[],k,ls,fs,log,_,_,h,_=>⟨ls,by simp[AJ],h⟩
 |a::o,k,ls,fs,log,ho,hf,h,hl=>by
   have ha:=ho a (by simp)
   simp only[List.length_cons]at hl
   have e1:ix l a.Method=some (wY l a.Method):=by
     simp only[xX,Bool.and_eq_true]at ha
     exact (Xp ha.2.1).1
   have e2:MM (wY l a.Method) a.Values F=some (Dg l F a):=aoS _ _ _ (fun f hf=>ahp ha (hF.1 f hf)) (zT hF)
   obtain⟨l1,e3,h3⟩:=adn a (ai1 ha) (Dg l F a) 0 ls fs (Q7 hF.1 a) hf h
   obtain⟨l2,e4,h4⟩:=ak1 hF o (k+1) l1 (sF l F fs a) (log++[a]) (fun x hx=>ho x (by simp[hx])) (Jr hf (Q7 hF.1 a)) h3 (by rw[List.length_append]; simp only[List.length_cons,List.length_nil]; omega)
   refine⟨l2,?_,h4⟩
   rw[AJ,app1 (by omega),Option.bind_some,e1,Option.bind_some,e2,Option.bind_some,e3,Option.bind_some,Option.bind_some]
   dsimp only
   rw[show (Dg l F a).foldl eZ fs=sF l F fs a from rfl,e4,List.append_assoc]; rfl
theorem arq{s:List Int}{R:List Rule}{facts:List Fact}(hR:∀r∈R,iP s r=true)(hg:∀x∈facts,iI s x=true)(f:Fact):∃k,WZ R facts f=some k:=by
 have h2:∀(r:Rule)(j:Nat),iP s r=true-> ∀(fs:List Fact)(k:Nat),(∀x∈fs,iI s x=true)-> ∃z,IQ f j r fs k=some z:=by
   intro r j hr fs
   induction fs with
   |nil=>intro k _; exact⟨_,rfl⟩
   |cons x fs ih=>
     intro k hf
     have hx:=hf x (by simp)
     obtain⟨z,hz⟩:=ih (k+1) fun y hy=>hf y (by simp[hy])
     rw[IQ]
     by_cases he:x.Rel=r.From
     · have h3:=(Nv hr)
       have h4:=(sw hx).2.2.1
       have e1:EJ r x=some (uU r x):=by
         rw[EJ,aav r x r.Map 0 [] (fun i hi=>by rw[h4,he]; exact h3.2 i hi) (by simp only[List.length_nil]; omega)]; rfl
       rw[show (x.Rel==r.From)=true by simpa using he,cond_true,e1,Option.bind_some,aan (uU r x) f (by simp only[uU,List.length_map]; omega),Option.bind_some,Option.bind_some]
       dsimp only
       split
       · exact⟨_,rfl⟩
       · exact⟨z,hz⟩
     · rw[show (x.Rel==r.From)=false by simpa using he,cond_false,Option.bind_some]
       exact⟨z,hz⟩
 have h1:∀(rs:List Rule)(k:Nat),(∀r∈rs,iP s r=true)-> ∃z,IR facts f rs k=some z:=by
   intro rs
   induction rs with
   |nil=>intro k _; exact⟨_,rfl⟩
   |cons r rs ih=>
     intro k hr
     obtain⟨z,hz⟩:=h2 r k (hr r (by simp)) facts 0 hg
     obtain⟨y,hy⟩:=ih (k+1) fun x hx=>hr x (by simp[hx])
     rw[IR,hz,Option.bind_some]
     rcases z with z|z
     · exact⟨_,rfl⟩
     · exact⟨y,hy⟩
 exact h1 R 0 hR
theorem ak2{s:List Int}{R:List Rule}{facts:List Fact}(hR:∀r∈R,iP s r=true)(hg:∀x∈facts,iI s x=true):∀(m:List Fact)(k:Nat)(ls:List Line),ls.length+m.length<4294967296-> ∃ls',Ie R facts m k ls=some ls'/\ls'.length=ls.length+m.length/\ls'.map (·.Fact)=ls.map (·.Fact)++m
 |[],k,ls,_=>⟨ls,rfl,rfl,by simp⟩
 |x::m,k,ls,h=>by
   simp only[List.length_cons]at h
   obtain⟨z,hz⟩:=arq hR hg x
   obtain⟨l1,e1,h1,h2⟩:=ak2 hR hg m (k+1) (ls++[({Rule:=z,Access:=({Method:=0,Values:=[]}:Access),Fact:=x}:Line)]) (by rw[List.length_append]; simp only[List.length_cons,List.length_nil]; omega)
   refine⟨l1,?_,?_,?_⟩
   · rw[Ie,hz,Option.bind_some,app1 (by omega),Option.bind_some,e1]
   · rw[h1,List.length_append]; simp only[List.length_cons,List.length_nil]; omega
   · rw[h2]; simp
theorem ato{vs:List Int}{v:Int}(h:si vs)(hv:0<=v/\v<=9):si (jh vs v):=⟨aiU h.1,fun x hx=>by
 rcases ah_.1 hx with rfl|hx
 · exact hv
 · exact h.2 x hx⟩
theorem ak3(x:Fact)(hx:∀v∈x.Values,0<=v/\v<=9)(hl:x.Values.length<=3):∀(m i:Nat)(vs:List Int),si vs->i<=x.Values.length->x.Values.length-i<m->Ig x m vs (i:Int)=some ((x.Values.drop i).foldl jh vs)
 |0,i,vs,_,_,h=>by omega
 |m+1,i,vs,hv,hi,h=>by
   have h10:=Nz hv
   unfold Ig
   by_cases hlt:i<x.Values.length
   · have hw:IntKind.i64.wrap ((i:Int)+1)=((i+1:Nat):Int):=by rw[fo (by omega) (by omega)]; rfl
     rw[if_pos (by simpa using hlt),jB,List.getElem?_eq_getElem hlt,Option.bind_some,Qs _ _ (by omega),Option.bind_some,hw,ak3 x hx hl m (i+1) _ (ato hv (hx _ (List.getElem_mem hlt))) hlt (by omega),List.drop_eq_getElem_cons hlt]; rfl
   · rw[if_neg (by simpa using hlt),List.drop_eq_nil_of_le (by omega)]; rfl
theorem ak4{s:List Int}:∀(fs:List Fact)(k:Nat)(vs:List Int),(∀x∈fs,iI s x=true)->si vs->Ih fs k vs=some (fs.foldl qd vs)
 |[],k,vs,_,_=>rfl
 |x::fs,k,vs,hf,hv=>by
   have h1:=sw (hf x (by simp))
   have:=ak3 x h1.2.2.2 h1.2.1.2 (((x.Values.length:Int)-0).toNat+2) 0 vs hv (by omega) (by omega)
   rw[show ((0:Nat):Int)=0 from rfl]at this
   rw[Ih,this,Option.bind_some,Option.bind_some]
   exact ak4 fs (k+1) _ (fun y hy=>hf y (by simp[hy])) (Xr hv h1.2.2.2)
def kZ(l:List Method)(F fs:List Fact)(vs:List Int)(log:List Access):List Fact:=(gQ vs log l 0).foldl (sF l F) fs
def iO(l:List Method)(R:List Rule)(F fs:List Fact)(vs:List Int)(log:List Access):List Fact:=(lG R (kZ l F fs vs log)).foldl eZ (kZ l F fs vs log)
def Jv(l:List Method)(R:List Rule)(F:List Fact):Nat->List Fact->List Int->List Access->List Fact
 |0,fs,_,_=>fs
 |n+1,fs,vs,log=>if (iO l R F fs vs log).length=fs.length then fs else Jv l R F n (iO l R F fs vs log) ((iO l R F fs vs log).foldl qd vs) (log++gQ vs log l 0)
structure UI(s:List Int)(fs:List Fact)(vs:List Int)(log:List Access):Prop where
 gf:GF s fs
 vok:si vs
 fv:fs.foldl qd vs=vs
 log:log.length<=5000*fs.length
theorem asw{v:List Int}:∀{l:List Int},(∀x∈v,x∈l)->v.foldl jh l=l:=by
 induction v with
 |nil=>intro l _; rfl
 |cons x v ih=>
   intro l h
   rw[List.foldl_cons,show jh l x=l from if_pos (h x (by simp))]
   exact ih fun y hy=>h y (by simp[hy])
theorem ahJ:∀{g:List Fact}{vs:List Int},(∀f∈g,∀v∈f.Values,v∈vs)->g.foldl qd vs=vs
 |[],_,_=>rfl
 |f::g,vs,h=>by
   rw[List.foldl_cons,show qd vs f=vs from asw (h f (by simp))]
   exact ahJ fun x hx=>h x (by simp[hx])
theorem Q8{s:List Int}{l:List Method}{vs:List Int}{log:List Access}(hl:f_ s l=true)(hv:si vs):(gQ vs log l 0).length<=5000:=by
 have h:=Wz hl
 have:=ahy (log:=log) (k:=0) (Nz hv) h.2
 omega
theorem abl{l:List Method}{vs:List Int}{log:List Access}:gQ vs (log++gQ vs log l 0) l 0=[]:=by
 refine List.eq_nil_iff_forall_not_mem.2 fun a ha=>?_
 obtain⟨j,m,h1,h2,h3,h4,h5⟩:=abh.1 ha
 refine h5 (List.mem_append_right _ ?_)
 exact abh.2 ⟨j,m,h1,h2,h3,h4,fun hm=>h5 (List.mem_append_left _ hm)⟩
theorem Tx{s:List Int}{l:List Method}{R:List Rule}{F fs:List Fact}{vs:List Int}{log:List Access}(hl:f_ s l=true)(hR:∀r∈R,iP s r=true)(hF:GF s F)(h:UI s fs vs log):
   GF s (kZ l F fs vs log)/\GF s (iO l R F fs vs log)/\(iO l R F fs vs log).length=(kZ l F fs vs log).length+(lG R (kZ l F fs vs log)).length/\fs.length<=(kZ l F fs vs log).length/\((iO l R F fs vs log).length=fs.length->kZ l F fs vs log=fs/\lG R fs=[]/\iO l R F fs vs log=fs)/\
   (fs.length<(iO l R F fs vs log).length->UI s (iO l R F fs vs log) ((iO l R F fs vs log).foldl qd vs) (log++gQ vs log l 0)):=by
 have hA:GF s (kZ l F fs vs log):=ai0 hF.1 h.gf
 have pU:=Qv hR hA
 have hB:GF s (iO l R F fs vs log):=Jr hA pU.1.1
 have hlen:(iO l R F fs vs log).length=(kZ l F fs vs log).length+(lG R (kZ l F fs vs log)).length:=Xi pU.1.2 pU.2
 have hgr:=aa6 (l:=l) (F:=F) (o:=gQ vs log l 0) (fs:=fs)
 have hle:fs.length<=(kZ l F fs vs log).length:=by
   rcases hgr with e|e
   · rw[kZ,e]; exact Nat.le_refl _
   · exact Nat.le_of_lt e
 refine⟨hA,hB,hlen,hle,fun e=>?_,fun e=>⟨hB,abe h.vok fun f hf=>(sw (hB.1 f hf)).2.2.2,?_,?_⟩⟩
 · have e1:kZ l F fs vs log=fs:=by
     rcases hgr with e1|e1
     · exact e1
     · have e1:fs.length<(kZ l F fs vs log).length:=e1
       omega
   have e2:lG R fs=[]:=by
     have e3:=List.length_eq_zero_iff.1 (show (lG R (kZ l F fs vs log)).length=0 by rw[e1]at hlen ⊢; omega)
     rwa [e1]at e3
   refine⟨e1,e2,?_⟩
   rw[iO,e1,e2]; rfl
 · exact ahJ fun f hf v hv=>ahH.2 (.inr ⟨f,hf,hv⟩)
 · have h1:=Q8 (log:=log) hl h.vok
   have h2:=h.log
   rw[List.length_append]; omega
theorem ai2{s:List Int}{l:List Method}{R:List Rule}{F:List Fact}(hl:f_ s l=true)(hR:∀r∈R,iP s r=true)(h4:R.length<=4)(hF:GF s F)(r2:Reached)(m:Nat){ls:List Line}{fs:List Fact}{vs:List Int}{log:List Access}(h:UI s fs vs log)(hi:LI ls fs):∃ls',AP l R F r2 (m+1) ls fs vs log=(if (iO l R F fs vs log).length=fs.length then some ls' else AP l R F r2 m ls' (iO l R F fs vs log) ((iO l R F fs vs log).foldl qd vs) (log++gQ vs log l 0))/\LI ls' (iO l R F fs vs log):=by
 obtain⟨hA,hB,u1,u2,u3,u4⟩:=Tx hl hR hF h
 have ho:=Q8 (log:=log) hl h.vok
 have hfl:=nE h.gf
 have VA:=h.log
 have e1:E8 l ({Facts:=fs,Values:=vs,Log:=log,Rounds:=r2.Rounds}:Reached)=some (gQ vs log l 0):=agN l _ hl (Nz h.vok)
 obtain⟨l1,e2,hi1⟩:=ak1 hF (gQ vs log l 0) 0 ls fs log (fun a ha=>ahA hl h.vok.2 ha) h.gf hi (by omega)
 have e3:=(WL hR h4 hA).1
 have pU:=Qv hR hA
 have hAl:=nE hA
 have gX:=nE pU.1
 have aIJ:l1.length=(kZ l F fs vs log).length:=hi1.1
 obtain⟨l2,e4,h5,h6⟩:=ak2 hR hA.1 (lG R (kZ l F fs vs log)) 0 l1 (by omega)
 have e5:Ee (lG R (kZ l F fs vs log)) 0 (kZ l F fs vs log)=some (iO l R F fs vs log):=WT (L:=Ee) (s:=s) (fun _ _=>rfl) (fun y r k c h1 h2=>by rw[Ee,PP h1 h2,Option.bind_some]) _ _ _ pU.1.1 hA
 have e6:=ak4 (s:=s) (iO l R F fs vs log) 0 vs hB.1 h.vok
 have hV:si ((iO l R F fs vs log).foldl qd vs):=abe h.vok fun f hf=>(sw (hB.1 f hf)).2.2.2
 have e7:E8 l ({Facts:=iO l R F fs vs log,Values:=(iO l R F fs vs log).foldl qd vs,Log:=log++gQ vs log l 0,Rounds:=r2.Rounds}:Reached)=some (gQ ((iO l R F fs vs log).foldl qd vs) (log++gQ vs log l 0) l 0):=agN l _ hl (Nz hV)
 have hi2:LI l2 (iO l R F fs vs log):=⟨by omega,by rw[h6,List.foldl_append,hi1.2]; rfl⟩
 refine⟨l2,?_,hi2⟩
 have e2':AJ l F (gQ vs log l 0) 0 ls fs log=some (l1,kZ l F fs vs log,log++gQ vs log l 0):=e2
 rw[AP,e1,Option.bind_some,e2',Option.bind_some]
 dsimp only
 rw[e3,Option.bind_some,e4,Option.bind_some]
 rw[e5,Option.bind_some]
 try dsimp only
 rw[e6,Option.bind_some]
 have hL:=hi2.1
 have hL0:=hi.1
 by_cases hc:(iO l R F fs vs log).length=fs.length
 · have k1:(((l2.length:Int))==(ls.length:Int))=true:=by rw[beq_iff_eq]; omega
   have k2:gQ ((iO l R F fs vs log).foldl qd vs) (log++gQ vs log l 0) l 0=[]:=by
     rw[(u3 hc).2.2,h.fv]; exact abl
   rw[k1,cond_true,e7,k2,if_pos hc]; rfl
 · have k1:(((l2.length:Int))==(ls.length:Int))=false:=by rw[beq_eq_false_iff_ne]; omega
   rw[k1,cond_false,if_neg hc]; rfl
theorem aqV{s:List Int}{l:List Method}{R:List Rule}{F:List Fact}(hl:f_ s l=true)(hR:∀r∈R,iP s r=true)(h4:R.length<=4)(hF:GF s F)(r2:Reached):∀(n m:Nat)(ls:List Line)(fs:List Fact)(vs:List Int)(log:List Access),UI s fs vs log->LI ls fs->3000<=fs.length+n->n<m-> ∃ls',AP l R F r2 m ls fs vs log=some ls'/\LI ls' (Jv l R F n fs vs log)/\GF s (Jv l R F n fs vs log):=by
 intro n
 induction n with
 |zero=>
   intro m ls fs vs log h hi hn hm
   obtain⟨m,rfl⟩:∃k,m=k+1:=⟨m-1,by omega⟩
   obtain⟨l1,e,h1⟩:=ai2 hl hR h4 hF r2 m h hi
   obtain⟨hA,hB,u1,u2,u3,u4⟩:=Tx hl hR hF h
   have:=nE hB
   have hc:(iO l R F fs vs log).length=fs.length:=by omega
   rw[(u3 hc).2.2]at h1
   exact⟨l1,by rw[e,if_pos hc],h1,h.gf⟩
 |succ n ih=>
   intro m ls fs vs log h hi hn hm
   obtain⟨m,rfl⟩:∃k,m=k+1:=⟨m-1,by omega⟩
   obtain⟨l1,e,h1⟩:=ai2 hl hR h4 hF r2 m h hi
   obtain⟨hA,hB,u1,u2,u3,u4⟩:=Tx hl hR hF h
   rw[e,Jv]
   by_cases hc:(iO l R F fs vs log).length=fs.length
   · rw[if_pos hc,if_pos hc]
     rw[(u3 hc).2.2]at h1
     exact⟨l1,rfl,h1,h.gf⟩
   · rw[if_neg hc,if_neg hc]
     exact ih m _ _ _ _ (u4 (by omega)) h1 (by omega) (by omega)
theorem ajI{s:List Int}(l:List Method)(R:List Rule)(F:List Fact)(vs:List Int)(log:List Access)(rr:Int)(x:Line){ls:List Line}{fs:List Fact}(hg:GF s fs)(hi:LI ls fs)(hx:iI s x.Fact=true):∃ls',ME ({l:=l,rules:=R,facts:=F,r:=({Facts:=fs,Values:=vs,Log:=log,Rounds:=rr}:Reached),lines:=ls}:under) x=some ({l:=l,rules:=R,facts:=F,r:=({Facts:=eZ fs x.Fact,Values:=vs,Log:=log,Rounds:=rr}:Reached),lines:=ls'}:under)/\LI ls' (eZ fs x.Fact):=by
 have h1:=nE hg
 have h2:=hi.1
 rw[ME,aaK,Option.bind_some]
 cases hh:rM fs x.Fact
 · refine⟨ls++[x],?_,ajG hi (ajH hh)⟩
   rw[if_pos (show (!false)=true from rfl),ag' hg hx,Option.bind_some,app1 (by dsimp only; omega),Option.bind_some]
 · exact⟨ls,by rw[if_neg (by simp),abF hh],by rw[abF hh]; exact hi⟩
theorem ak5{s:List Int}{l:List Method}{R:List Rule}{F:List Fact}{vs:List Int}{log:List Access}{rr:Int}(z:Access)(hz:z.Values.length<=3):∀(g:List Fact)(k:Nat)(ls:List Line)(fs:List Fact),(∀y∈g,iI s y=true)->GF s fs->LI ls fs-> ∃ls',Hw z g k l R F fs vs log rr ls=some (l,R,F,g.foldl eZ fs,vs,log,rr,ls')/\LI ls' (g.foldl eZ fs)
 |[],k,ls,fs,_,_,h=>⟨ls,rfl,h⟩
 |x::g,k,ls,fs,hg,hf,h=>by
   have hx:=hg x (by simp)
   have e0:MC z=some z:=aol z (ui _ (by omega))
   obtain⟨l1,e1,h1⟩:=ajI l R F vs log rr ({Rule:=(-1),Access:=z,Fact:=x}:Line) hf h hx
   obtain⟨l2,e2,h2⟩:=ak5 (l:=l) (R:=R) (F:=F) (vs:=vs) (log:=log) (rr:=rr) z hz g (k+1) l1 (eZ fs x) (fun y hy=>hg y (by simp[hy])) (Fu hf hx) h1
   refine⟨l2,?_,h2⟩
   rw[Hw,e0,Option.bind_some,e1,Option.bind_some]
   exact e2
theorem amB{s:List Int}{l:List Method}{R:List Rule}{F:List Fact}{vs:List Int}{rr:Int}(hF:GF s F)(u:under)(r1:List Access):∀(o:List Access)(k:Nat)(ls:List Line)(fs:List Fact)(log:List Access),(∀a∈o,xX s l a=true)->GF s fs->LI ls fs->log.length+o.length<4294967296-> ∃(ls':List Line)(k':Nat),zk u r1 o k l R F fs vs log rr ls=zk u r1 [] k' l R F (o.foldl (sF l F) fs) vs (log++o) rr ls'/\LI ls' (o.foldl (sF l F) fs)
 |[],k,ls,fs,log,_,_,h,_=>⟨ls,k,by simp,h⟩
 |a::o,k,ls,fs,log,ho,hf,h,hl=>by
   have ha:=ho a (by simp)
   simp only[List.length_cons]at hl
   have e2:Na l F a=some (Dg l F a):=apZ s l F a ha hF.1 (zT hF)
   obtain⟨l1,e3,h3⟩:=ak5 (l:=l) (R:=R) (F:=F) (vs:=vs) (log:=log++[a]) (rr:=rr) a (ai1 ha) (Dg l F a) 0 ls fs (Q7 hF.1 a) hf h
   obtain⟨l2,k2,e4,h4⟩:=amB (R:=R) (vs:=vs) (rr:=rr) hF u r1 o (k+1) l1 (sF l F fs a) (log++[a]) (fun x hx=>ho x (by simp[hx])) (Jr hf (Q7 hF.1 a)) h3 (by rw[List.length_append]; simp only[List.length_cons,List.length_nil]; omega)
   refine⟨l2,k2,?_,h4⟩
   conv=>lhs; rw[zk]
   rw[app1 (by omega),Option.bind_some,e2,Option.bind_some,e3,Option.bind_some]
   dsimp only
   rw[show (Dg l F a).foldl eZ fs=sF l F fs a from rfl,e4,List.append_assoc]; rfl
theorem ars{s:List Int}(u:under)(hR:∀r∈u.rules,iP s r=true)(hg:∀x∈u.r.Facts,iI s x=true)(f:Fact):∃k,Pb u f=some (k,u):=by
 have h2:∀(r:Rule),iP s r=true-> ∀(fs:List Fact)(k:Nat),(∀x∈fs,iI s x=true)-> ∃z,G6 r f fs k=some z:=by
   intro r hr fs
   induction fs with
   |nil=>intro k _; exact⟨_,rfl⟩
   |cons x fs ih=>
     intro k hf
     have hx:=hf x (by simp)
     obtain⟨z,hz⟩:=ih (k+1) fun y hy=>hf y (by simp[hy])
     have e0:∃b,OZ x r f=some b:=by
       rw[OZ,Io]
       by_cases he:x.Rel=r.From
       · have h3:=(Nv hr)
         have h4:=(sw hx).2.2.1
         rw[if_neg (by simp[he]),aag r x r.Map 0 [] (fun i hi=>by rw[h4,he]; exact h3.2 i hi) (by simp only[List.length_nil]; omega),Option.bind_some]
         dsimp only
         rw[cond_true,aam,Option.bind_some,Option.bind_some]
         exact⟨_,rfl⟩
       · rw[if_pos (by simpa using he)]
         exact⟨_,rfl⟩
     obtain⟨b,eb⟩:=e0
     rw[G6,eb,Option.bind_some]
     split
     · exact⟨_,rfl⟩
     · exact⟨z,hz⟩
 have h1:∀(rs:List Rule)(k:Nat),(∀r∈rs,iP s r=true)-> ∃z,G7 u f rs k=some z:=by
   intro rs
   induction rs with
   |nil=>intro k _; exact⟨_,rfl⟩
   |cons r rs ih=>
     intro k hr
     obtain⟨z,hz⟩:=h2 r (hr r (by simp)) u.r.Facts 0 hg
     obtain⟨y,hy⟩:=ih (k+1) fun x hx=>hr x (by simp[hx])
     rw[G7,VZ,VC,VF,hz,Option.bind_some,Option.bind_some,Option.bind_some]
     split
     · exact⟨_,rfl⟩
     · exact⟨y,hy⟩
 obtain⟨z,hz⟩:=h1 u.rules 0 hR
 exact⟨z,by rw[Pb,VG,hz,Option.bind_some]⟩
theorem ak6{s:List Int}{l:List Method}{R:List Rule}{F fs:List Fact}{vs:List Int}{log:List Access}{rr:Int}{ls:List Line}(hR:∀r∈R,iP s r=true)(hg:GF s fs)(u:under)(r1:List Access):∀(m:List Fact)(k:Nat)(w:List Line),w.length+m.length<4294967296-> ∃w',Hu u r1 m k l R F fs vs log rr ls w=xJ u r1 w' 0 l R F fs vs log rr ls/\w'.map (·.Fact)=w.map (·.Fact)++m
 |[],k,w,_=>⟨w,rfl,by simp⟩
 |x::m,k,w,h=>by
   simp only[List.length_cons]at h
   obtain⟨z,hz⟩:=ars (s:=s) ({l:=l,rules:=R,facts:=F,r:=({Facts:=fs,Values:=vs,Log:=log,Rounds:=rr}:Reached),lines:=ls}:under) hR hg.1 x
   obtain⟨w1,e1,h1⟩:=ak6 (F:=F) (vs:=vs) (log:=log) (rr:=rr) (ls:=ls) hR hg u r1 m (k+1) (w++[({Rule:=z,Access:=({Method:=0,Values:=[]}:Access),Fact:=x}:Line)]) (by rw[List.length_append]; simp only[List.length_cons,List.length_nil]; omega)
   refine⟨w1,?_,by rw[h1]; simp⟩
   rw[Hu,hz,Option.bind_some,app1 (by omega),Option.bind_some]
   exact e1
theorem ak7{s:List Int}{l:List Method}{R:List Rule}{F:List Fact}{vs:List Int}{log:List Access}{rr:Int}(u:under)(r1:List Access):∀(w:List Line)(k:Nat)(ls:List Line)(fs:List Fact),(∀y∈w,iI s y.Fact=true)->GF s fs->LI ls fs-> ∃(ls':List Line)(k':Nat),xJ u r1 w k l R F fs vs log rr ls=xJ u r1 [] k' l R F ((w.map (·.Fact)).foldl eZ fs) vs log rr ls'/\LI ls' ((w.map (·.Fact)).foldl eZ fs)
 |[],k,ls,fs,_,_,h=>⟨ls,k,rfl,h⟩
 |x::w,k,ls,fs,hw,hf,h=>by
   have hx:=hw x (by simp)
   obtain⟨l1,e1,h1⟩:=ajI l R F vs log rr x hf h hx
   obtain⟨l2,k2,e2,h2⟩:=ak7 (l:=l) (R:=R) (F:=F) (vs:=vs) (log:=log) (rr:=rr) u r1 w (k+1) l1 (eZ fs x.Fact) (fun y hy=>hw y (by simp[hy])) (Fu hf hx) h1
   refine⟨l2,k2,?_,h2⟩
   conv=>lhs; rw[xJ]
   rw[e1,Option.bind_some]
   exact e2
theorem ak8{s:List Int}(u:under)(r1:List Access)(l:List Method)(R:List Rule)(F fs:List Fact)(hg:GF s fs)(log:List Access)(rr:Int)(ls:List Line):∀(m i:Nat)(vs:List Int),si vs->i<=fs.length->fs.length-i<m->Ht u r1 l R F fs log rr ls m fs vs (i:Int)=some ((decide ((0:Int)<(r1.length:Int))||decide ((u.lines.length:Int)<(ls.length:Int))),({l:=l,rules:=R,facts:=F,r:=({Facts:=fs,Values:=(fs.drop i).foldl qd vs,Log:=log,Rounds:=rr}:Reached),lines:=ls}:under))
 |0,i,vs,_,_,h=>by omega
 |m+1,i,vs,hv,hi,h=>by
   have h3:=nE hg
   unfold Ht
   by_cases hlt:i<fs.length
   · have hw:IntKind.i64.wrap ((i:Int)+1)=((i+1:Nat):Int):=by rw[fo (by omega) (by omega)]; rfl
     have h1:=sw (hg.1 _ (List.getElem_mem hlt))
     rw[if_pos (by simpa using hlt),jB,List.getElem?_eq_getElem hlt,Option.bind_some,an5 hv h1.2.2.2 (by omega),Option.bind_some,hw,show List.foldl jh vs fs[i].Values=qd vs fs[i]from rfl,ak8 u r1 l R F fs hg log rr ls m (i+1) _ (Xr (f:=fs[i]) hv h1.2.2.2) hlt (by omega),List.drop_eq_getElem_cons hlt]; rfl
   · rw[if_neg (by simpa using hlt),List.drop_eq_nil_of_le (by omega)]; rfl
theorem ab4{s:List Int}{l:List Method}{R:List Rule}{F:List Fact}(hl:f_ s l=true)(hR:∀r∈R,iP s r=true)(h4:R.length<=4)(hF:GF s F)(rr:Int){ls:List Line}{fs:List Fact}{vs:List Int}{log:List Access}(hv:si vs)(hg:GF s fs)(hA:GF s (kZ l F fs vs log))(hB:GF s (iO l R F fs vs log))(VA:log.length<=20000000)(hi:LI ls fs):∃ls',Pq ({l:=l,rules:=R,facts:=F,r:=({Facts:=fs,Values:=vs,Log:=log,Rounds:=rr}:Reached),lines:=ls}:under)=some ((decide ((0:Int)<((gQ vs log l 0).length:Int))||decide ((ls.length:Int)<(ls'.length:Int))),({l:=l,rules:=R,facts:=F,r:=({Facts:=iO l R F fs vs log,Values:=(iO l R F fs vs log).foldl qd vs,Log:=log++gQ vs log l 0,Rounds:=rr}:Reached),lines:=ls'}:under))/\LI ls' (iO l R F fs vs log):=by
 have ho:=Q8 (log:=log) hl hv
 have e1:Mh ({Facts:=fs,Values:=vs,Log:=log,Rounds:=rr}:Reached) l=some (gQ vs log l 0):=anS l _ hl (Nz hv)
 have pU:=Qv hR hA
 have gX:=nE pU.1
 obtain⟨l1,k1,e2,h2⟩:=amB (R:=R) (vs:=vs) (rr:=rr) hF ({l:=l,rules:=R,facts:=F,r:=({Facts:=fs,Values:=vs,Log:=log,Rounds:=rr}:Reached),lines:=ls}:under) (gQ vs log l 0) (gQ vs log l 0) 0 ls fs log (fun a ha=>ahA hl hv.2 ha) hg hi (by omega)
 have e3:=(WL hR h4 hA).2
 obtain⟨w,e4,h5⟩:=ak6 (F:=F) (vs:=vs) (log:=log++gQ vs log l 0) (rr:=rr) (ls:=l1) hR hA ({l:=l,rules:=R,facts:=F,r:=({Facts:=fs,Values:=vs,Log:=log,Rounds:=rr}:Reached),lines:=ls}:under) (gQ vs log l 0) (lG R (kZ l F fs vs log)) 0 [] (by simp only[List.length_nil]; omega)
 have h5:w.map (·.Fact)=lG R (kZ l F fs vs log):=h5
 obtain⟨l2,k2,e6,h6⟩:=ak7 (s:=s) (l:=l) (R:=R) (F:=F) (vs:=vs) (log:=log++gQ vs log l 0) (rr:=rr) ({l:=l,rules:=R,facts:=F,r:=({Facts:=fs,Values:=vs,Log:=log,Rounds:=rr}:Reached),lines:=ls}:under) (gQ vs log l 0) w 0 l1 (kZ l F fs vs log) (fun y hy=>pU.1.1 _ (by rw[←h5]; exact List.mem_map.2 ⟨y,hy,rfl⟩)) hA h2
 rw[h5]at e6 h6
 refine⟨l2,?_,h6⟩
 have e2':_=zk _ _ [] k1 l R F (kZ l F fs vs log) vs _ rr l1:=e2
 have e6':_=xJ _ _ [] k2 l R F (iO l R F fs vs log) vs _ rr l2:=e6
 rw[Pq,e1,Option.bind_some]
 refine Eq.trans e2' ?_
 rw[zk,e3,Option.bind_some,e4]
 refine Eq.trans e6' ?_
 rw[xJ]
 have:=ak8 ({l:=l,rules:=R,facts:=F,r:=({Facts:=fs,Values:=vs,Log:=log,Rounds:=rr}:Reached),lines:=ls}:under) (gQ vs log l 0) l R F (iO l R F fs vs log) hB (log++gQ vs log l 0) rr l2 ((((iO l R F fs vs log).length:Int)-0).toNat+2) 0 vs hv (by omega) (by omega)
 exact this
theorem ajJ{s:List Int}{l:List Method}{R:List Rule}{F:List Fact}(hl:f_ s l=true)(hR:∀r∈R,iP s r=true)(h4:R.length<=4)(hF:GF s F)(rr:Int)(m:Nat){ls:List Line}{fs:List Fact}{vs:List Int}{log:List Access}(hv:si vs)(hg:GF s fs)(VA:log.length<=20000000)(hi:LI ls fs)(ho:gQ vs log l 0=[])(hm:lG R fs=[]):∃vs' aeR ls',xK (m+1) l R F fs vs log rr ls=some (l,R,F,fs,vs',aeR,rr,ls'):=by
 have eA:kZ l F fs vs log=fs:=by rw[kZ,ho]; rfl
 have eB:iO l R F fs vs log=fs:=by rw[iO,eA,hm]; rfl
 obtain⟨l1,e1,h1⟩:=ab4 hl hR h4 hF rr hv hg (by rw[eA]; exact hg) (by rw[eB]; exact hg) VA hi
 rw[eB]at e1 h1
 have h2:=h1.1
 have h3:=hi.1
 rw[xK,e1,Option.bind_some]
 dsimp only
 rw[ho,if_neg (by simp only[List.length_nil,Bool.or_eq_true,decide_eq_true_eq]; omega)]
 exact⟨_,_,_,rfl⟩
theorem aqW{s:List Int}{l:List Method}{R:List Rule}{F:List Fact}(hl:f_ s l=true)(hR:∀r∈R,iP s r=true)(h4:R.length<=4)(hF:GF s F)(rr:Int):∀(n m:Nat)(ls:List Line)(fs:List Fact)(vs:List Int)(log:List Access),UI s fs vs log->LI ls fs->3000<=fs.length+n->n+1<m-> ∃vs' aeR ls',xK m l R F fs vs log rr ls=some (l,R,F,Jv l R F n fs vs log,vs',aeR,rr,ls'):=by
 intro n
 induction n with
 |zero=>
   intro m ls fs vs log h hi hn hm
   obtain⟨m,rfl⟩:∃k,m=k+2:=⟨m-2,by omega⟩
   obtain⟨hA,hB,u1,u2,u3,u4⟩:=Tx hl hR hF h
   have VA:=h.log
   have hfl:=nE h.gf
   have hbl:=nE hB
   have hc:(iO l R F fs vs log).length=fs.length:=by omega
   obtain⟨c1,c2,c3⟩:=u3 hc
   obtain⟨l1,e1,h1⟩:=ab4 hl hR h4 hF rr h.vok h.gf hA hB (by omega) hi
   rw[xK,e1,Option.bind_some]
   dsimp only
   rw[c3]at h1 ⊢
   rw[h.fv]
   split
   · have ho:=Q8 (log:=log) hl h.vok
     exact ajJ hl hR h4 hF rr m h.vok h.gf (by rw[List.length_append]; omega) h1 abl c2
   · exact⟨_,_,_,rfl⟩
 |succ n ih=>
   intro m ls fs vs log h hi hn hm
   obtain⟨m,rfl⟩:∃k,m=k+2:=⟨m-2,by omega⟩
   obtain⟨hA,hB,u1,u2,u3,u4⟩:=Tx hl hR hF h
   have VA:=h.log
   have hfl:=nE h.gf
   obtain⟨l1,e1,h1⟩:=ab4 hl hR h4 hF rr h.vok h.gf hA hB (by omega) hi
   rw[xK,e1,Option.bind_some,Jv]
   dsimp only
   by_cases hc:(iO l R F fs vs log).length=fs.length
   · obtain⟨c1,c2,c3⟩:=u3 hc
     rw[if_pos hc]
     rw[c3]at h1 ⊢
     rw[h.fv]
     split
     · have ho:=Q8 (log:=log) hl h.vok
       exact ajJ hl hR h4 hF rr m h.vok h.gf (by rw[List.length_append]; omega) h1 abl c2
     · exact⟨_,_,_,rfl⟩
   · have h2:=h1.1
     have h3:=hi.1
     rw[if_neg hc,if_pos (by simp only[Bool.or_eq_true,decide_eq_true_eq]; omega)]
     exact ih (m+1) _ _ _ _ (u4 (by omega)) h1 (by omega) (by omega)
def Rj(l:List Method)(R:List Rule)(f:List Fact)(jg:List Int):List Fact:=Jv l R (uw R 3000 f) 3000 [] (x9 jg).Values []
theorem aih{s:List Int}(jg:List Int):UI s [] (x9 jg).Values []:=
 ⟨⟨by simp,List.Pairwise.nil⟩,Xr (f:={Rel:=0,Values:=jg.filter (aZ 0 9)}) ⟨List.Pairwise.nil,by simp⟩ (fun v hv=>by
   have:=(List.mem_filter.1 hv).2
   simpa only[aZ,Bool.and_eq_true,decide_eq_true_eq]using this),rfl,by simp⟩
theorem Qw{s:List Int}{l:List Method}{R:List Rule}{f:List Fact}(hl:f_ s l=true)(hR:∀r∈R,iP s r=true)(h4:R.length<=4)(hF:GF s f)(jg:List Int)(h:jg.length<4294967295):∃ls,M4 l R (uw R 3000 f) jg=some ls/\LI ls (Rj l R f jg)/\GF s (Rj l R f jg):=by
 have hC:=(Jl hR h4 3000 3001 f hF (by omega) (by omega)).2
 obtain⟨ls,e,h1,h2⟩:=aqV hl hR h4 hC (x9 jg) 3000 4096 [] [] (x9 jg).Values [] (aih jg) ⟨rfl,rfl⟩ (by simp) (by omega)
 exact⟨ls,by rw[M4,aop jg h,Option.bind_some]; exact e,h1,h2⟩
theorem aha{s:List Int}{l:List Method}{R:List Rule}{f:List Fact}(hl:f_ s l=true)(hR:∀r∈R,iP s r=true)(h4:R.length<=4)(hF:GF s f)(jg:List Int)(h:jg.length<4294967295):∃u,MF l R (uw R 3000 f) jg=some u/\u.r.Facts=Rj l R f jg:=by
 have hC:=(Jl hR h4 3000 3001 f hF (by omega) (by omega)).2
 obtain⟨vs,log,ls,e⟩:=aqW hl hR h4 hC 0 3000 4096 [] [] (x9 jg).Values [] (aih jg) ⟨rfl,rfl⟩ (by simp) (by omega)
 have e':xK 4096 l R (uw R 3000 f) (x9 jg).Facts (x9 jg).Values (x9 jg).Log (x9 jg).Rounds []=_:=e
 refine⟨_,by rw[MF,aoq jg h,Option.bind_some,e',Option.bind_some],rfl⟩
theorem aii{s:List Int}{ls:List Line}{fs:List Fact}(h:LI ls fs)(hg:GF s fs):∀y∈ls,iI s y.Fact=true:=fun y hy=>hg.1 _ (by rw[←h.2,QH]; exact .inr (List.mem_map.2 ⟨y,hy,rfl⟩))
theorem Xj(s:List Int)(l:List Method)(R:List Rule)(hs:s.length<4294967296)(gX:fA lc l):ER s l R=some (f_ s l&&kN s R):=by
 rw[ER,afH s l hs gX,Option.bind_some]
 cases f_ s l
 · rfl
 · rw[cond_true,apl s R hs]; rfl
theorem Wq(s:List Int)(l:List Method)(R:List Rule)(hs:s.length<4294967296)(gX:fA lc l):EM s l R=some (f_ s l&&kN s R):=by
 rw[EM,afI s l hs gX,Option.bind_some]
 cases f_ s l
 · rfl
 · rw[cond_true,apm s R hs]; rfl
theorem EZ{s:List Int}{R:List Rule}(h:kN s R=true):(∀r∈R,iP s r=true)/\R.length<=4:=by
 simp only[kN,Bool.and_eq_true,List.all_eq_true,decide_eq_true_eq]at h
 exact⟨h.2.2,by omega⟩
theorem ai3{s:List Int}(q:aV)(r:List Fact×aS×Bool):∀(ls:List Line)(k:Nat)(c:List Fact),(∀y∈ls,iI s y.Fact=true)->GF s c->Av q r ls k c=Av q r [] k ((ls.map (·.Fact)).foldl eZ c)
 |[],k,c,_,_=>rfl
 |y::ls,k,c,h,hc=>by
   have hy:=h y (by simp)
   conv=>lhs; rw[Av]
   rw[PP hc hy,Option.bind_some]
   exact ai3 q r ls (k+1) _ (fun z hz=>h z (by simp[hz])) (Fu hc hy)
theorem ai4{s:List Int}(A:List Fact)(T:List Int):∀(ls:List Line)(k:Nat)(c:List Fact),(∀y∈ls,iI s y.Fact=true)->GF s c->Hg A T ls k c=some (({All:=A,Some:=(ls.map (·.Fact)).foldl eZ c,Tuple:=T}:sj),true)
 |[],k,c,_,_=>rfl
 |y::ls,k,c,h,hc=>by
   have hy:=h y (by simp)
   rw[Hg,PP hc hy,Option.bind_some]
   exact ai4 A T ls (k+1) _ (fun z hz=>h z (by simp[hz])) (Fu hc hy)
def atp(l:List Method)(R:List Rule)(q:aV):Option (List Fact×aS)->Bool
 |none=>false
 |some (f,b)=>zS q (Rj l R f (fu (aZ 0 9) q.Atoms)) (ko q b)
def Ck(s:List Int)(l:List Method)(R:List Rule)(q:aV):Bool:=(f_ s l&&kN s R)&&(gM s q&&atp l R q (pq (fu (aZ 0 9) q.Atoms) q))
structure amC(s:List Int)(q:aV)(f:List Fact)(b:aS):Prop where
 gf:GF s f
 bv:b.Vars.length<=90
 be:b.Vars.length=b.Values.length
 tl:eT q.Atoms<=12
 vs:b.Vars=fu (aZ 10 17) q.Atoms
 vl:∀x∈b.Values,0<=x/\x<=9
theorem UT{s:List Int}{q:aV}{f:List Fact}{b:aS}(hq:gM s q=true)(hf:pq (fu (aZ 0 9) q.Atoms) q=some (f,b)):amC s q f b:=by
 obtain⟨h1,h2,h3⟩:=mi hq
 obtain⟨f1,f2,f3,f4,-⟩:=Xg hf
 have f5:=WB (p:=aZ 10 17) h2 (by omega)
 have h:=ag1.1 (arV hq hf)
 have ht:=uq h2
 exact⟨⟨h.1,h.2.1⟩,by rw[f2]; exact f5,f3,by omega,f2,f4⟩
theorem ae7(s:List Int)(l:List Method)(R:List Rule)(q:aV)(hs:s.length<4294967296)(gX:fA lc l)(ht:eT q.Atoms<4294967295):Hq 20 s l R q=some (Ck s l R q):=by
 rw[Hq,Xj s l R hs gX,Option.bind_some,Ck]
 cases hc:f_ s l&&kN s R
 · rfl
 obtain⟨hl,hRR⟩:f_ s l=true/\kN s R=true:=by simpa using hc
 obtain⟨hR,h4⟩:=EZ hRR
 rw[Bool.not_true,cond_false,IY s q hs ht,Option.bind_some]
 cases hq:gM s q
 · rfl
 obtain⟨h1,h2,h3⟩:=mi hq
 simp only[Bool.not_true,Option.bind_some,Bool.false_eq_true,if_false,Bool.true_and]
 rw[aau q h2 (by omega),Option.bind_some]
 rcases hf:pq (fu (aZ 0 9) q.Atoms) q with _|⟨f,b⟩
 · rfl
 · have hI:=UT hq hf
   have htl:=hI.tl
   have hbv:=hI.bv
   have hsl:=MU (p:=aZ 0 9) (l:=q.Atoms)
   obtain⟨ls,e1,g1,g2⟩:=Qw hl hR h4 hI.gf (fu (aZ 0 9) q.Atoms) (by omega)
   obtain⟨b',hm⟩:=anU (q:=q) (ko q b) hq g2
   have e2:EK R f=some (uw R 3000 f):=by
     rw[EK,agM f (zT hI.gf),Option.bind_some]
     exact (Jl hR h4 3000 4096 f hI.gf (by omega) (by omega)).1.1
   simp only[sP,Bool.not_true,Bool.false_eq_true,if_false]
   rw[e2,Option.bind_some,V6 q ht,Option.bind_some,e1,Option.bind_some,ai3 (s:=s) _ _ ls 0 [] (aii g1 g2) ⟨by simp,List.Pairwise.nil⟩,g1.2,Av,PO q b (by omega) h3,Option.bind_some,hm]; rfl
theorem ae8(s:List Int)(l:List Method)(R:List Rule)(q:aV)(hs:s.length<4294967296)(gX:fA lc l)(ht:eT q.Atoms<4294967295):Me 20 s l R q=some (Ck s l R q):=by
 rw[Me,Wq s l R hs gX,Option.bind_some,Ck]
 cases hc:f_ s l&&kN s R
 · rfl
 obtain⟨hl,hRR⟩:f_ s l=true/\kN s R=true:=by simpa using hc
 obtain⟨hR,h4⟩:=EZ hRR
 rw[Bool.not_true,cond_false,PM s q hs ht,Option.bind_some]
 cases hq:gM s q
 · rfl
 obtain⟨h1,h2,h3⟩:=mi hq
 simp only[Bool.not_true,Option.bind_some,Bool.false_eq_true,if_false,Bool.true_and]
 rw[afy q h2 (by omega),Option.bind_some]
 rcases hf:pq (fu (aZ 0 9) q.Atoms) q with _|⟨f,b⟩
 · rfl
 · have hI:=UT hq hf
   have htl:=hI.tl
   have hsl:=MU (p:=aZ 0 9) (l:=q.Atoms)
   obtain⟨u,e1,g1⟩:=aha hl hR h4 hI.gf (fu (aZ 0 9) q.Atoms) (by omega)
   obtain⟨ls,-,-,g2⟩:=Qw hl hR h4 hI.gf (fu (aZ 0 9) q.Atoms) (by omega)
   obtain⟨b',hm⟩:=anV (q:=q) (ko q b) hq g2
   have e2:E_ R f=some (uw R 3000 f):=by
     rw[E_,Wd f (zT hI.gf),Option.bind_some]
     exact (Jl hR h4 3000 4096 f hI.gf (by omega) (by omega)).1.2
   simp only[sP,Bool.not_true,Bool.false_eq_true,if_false]
   rw[e2,Option.bind_some,O8 q ht,Option.bind_some,e1,Option.bind_some,PN q b hI.be h3,Option.bind_some,g1,hm]; rfl
def atq(l:List Method)(R:List Rule)(q:aV):Option (List Fact×aS)->sj×Bool
 |none=>({All:=[],Some:=[],Tuple:=[]},false)
 |some (f,b)=>({All:=uw R 3000 f,Some:=Rj l R f (fu (aZ 0 9) q.Atoms),Tuple:=ko q b},true)
def qC(s:List Int)(l:List Method)(R:List Rule)(q:aV):sj×Bool:=if (f_ s l&&kN s R)&&(gM s q&&!Ck s l R q)then atq l R q (pq (fu (aZ 0 9) q.Atoms) q)else ({All:=[],Some:=[],Tuple:=[]},false)
theorem ant(s:List Int)(l:List Method)(R:List Rule)(q:aV)(hs:s.length<4294967296)(gX:fA lc l)(ht:eT q.Atoms<4294967295):O0 20 s l R q=some (qC s l R q):=by
 rw[O0,Xj s l R hs gX,Option.bind_some,qC]
 cases hc:f_ s l&&kN s R
 · rfl
 obtain⟨hl,hRR⟩:f_ s l=true/\kN s R=true:=by simpa using hc
 obtain⟨hR,h4⟩:=EZ hRR
 rw[Bool.not_true,cond_false,IY s q hs ht,Option.bind_some]
 cases hq:gM s q
 · rfl
 rw[Bool.not_true,cond_false,ae7 s l R q hs gX ht,Option.bind_some,Option.bind_some]
 cases Ck s l R q
 rotate_left
 · rfl
 obtain⟨h1,h2,h3⟩:=mi hq
 simp only[Bool.false_eq_true,if_false,Bool.not_false,Bool.and_self,if_true]
 rw[aau q h2 (by omega),Option.bind_some]
 rcases hf:pq (fu (aZ 0 9) q.Atoms) q with _|⟨f,b⟩
 · rfl
 · have hI:=UT hq hf
   have htl:=hI.tl
   have hbv:=hI.bv
   have hsl:=MU (p:=aZ 0 9) (l:=q.Atoms)
   obtain⟨ls,e1,g1,g2⟩:=Qw hl hR h4 hI.gf (fu (aZ 0 9) q.Atoms) (by omega)
   have e2:EK R f=some (uw R 3000 f):=by
     rw[EK,agM f (zT hI.gf),Option.bind_some]
     exact (Jl hR h4 3000 4096 f hI.gf (by omega) (by omega)).1.1
   simp only[sP,Bool.not_true,Bool.false_eq_true,if_false]
   rw[e2,Option.bind_some,V6 q ht,Option.bind_some,e1,Option.bind_some,PO q b (by omega) h3,Option.bind_some,ai4 (s:=s) _ _ ls 0 [] (aii g1 g2) ⟨by simp,List.Pairwise.nil⟩,g1.2]; rfl
theorem anu(s:List Int)(l:List Method)(R:List Rule)(q:aV)(hs:s.length<4294967296)(gX:fA lc l)(ht:eT q.Atoms<4294967295):O1 20 s l R q=some (qC s l R q):=by
 rw[O1,Wq s l R hs gX,Option.bind_some,qC]
 cases hc:f_ s l&&kN s R
 · rfl
 obtain⟨hl,hRR⟩:f_ s l=true/\kN s R=true:=by simpa using hc
 obtain⟨hR,h4⟩:=EZ hRR
 rw[Bool.not_true,cond_false,PM s q hs ht,Option.bind_some]
 cases hq:gM s q
 · rfl
 rw[Bool.not_true,cond_false,ae8 s l R q hs gX ht,Option.bind_some,Option.bind_some]
 cases Ck s l R q
 rotate_left
 · rfl
 obtain⟨h1,h2,h3⟩:=mi hq
 simp only[Bool.false_eq_true,if_false,Bool.not_false,Bool.and_self,if_true]
 rw[afy q h2 (by omega),Option.bind_some]
 rcases hf:pq (fu (aZ 0 9) q.Atoms) q with _|⟨f,b⟩
 · rfl
 · have hI:=UT hq hf
   have htl:=hI.tl
   have hsl:=MU (p:=aZ 0 9) (l:=q.Atoms)
   obtain⟨u,e1,g1⟩:=aha hl hR h4 hI.gf (fu (aZ 0 9) q.Atoms) (by omega)
   obtain⟨ls,-,-,g2⟩:=Qw hl hR h4 hI.gf (fu (aZ 0 9) q.Atoms) (by omega)
   have e2:E_ R f=some (uw R 3000 f):=by
     rw[E_,Wd f (zT hI.gf),Option.bind_some]
     exact (Jl hR h4 3000 4096 f hI.gf (by omega) (by omega)).1.2
   simp only[sP,Bool.not_true,Bool.false_eq_true,if_false]
   rw[e2,Option.bind_some,O8 q ht,Option.bind_some,e1,Option.bind_some,g1,Wd _ (zT g2),Option.bind_some,PN q b hI.be h3,Option.bind_some]; rfl
def zh(R:List Rule)(x:List Int):List Rule:=x.map fun i=>(ix R i).getD {From:=0,To:=0,Map:=[]}
theorem arX:∀n:Nat,n<=4->ji 0 n 0=[]:=by decide
theorem agU{R:List Rule}(h4:R.length<=4)(hR:∀r∈R,r.Map.length<=3)(j:Nat):Po R (j:Int)=some (zh R (ji (j:Int) R.length 0)):=by
 rw[Po]
 rcases Nat.eq_zero_or_pos j with rfl|hj
 · rw[show (((R.length:Int)-0).toNat+2)=(((R.length:Int)-0).toNat+1)+1 from rfl,Eb,show ((0:Nat):Int)=0 from rfl,arX _ h4]
   simp[zh]
 · have key:∀(m i:Nat)(c:List Rule),i<=R.length->R.length-i<m->c.length<=i->Eb R (j:Int) m c (i:Int)=some (c++zh R (ji (j:Int) (R.length-i) i)):=by
     intro m
     induction m with
     |zero=>intro i c _ h; omega
     |succ m ih=>
       intro i c hi hm hc
       unfold Eb
       by_cases hlt:i<R.length
       · have hw:IntKind.i64.wrap ((i:Int)+1)=((i+1:Nat):Int):=by rw[fo (by omega) (by omega)]; rfl
         have e1:ix R (i:Int)=some R[i]:=by rw[jB,List.getElem?_eq_getElem hlt]
         have e2:=hR _ (List.getElem_mem hlt)
         rw[if_pos (by simp only[Bool.and_eq_true,decide_eq_true_eq]; omega),ab1,Option.bind_some,e1,Option.bind_some,Option.bind_some,Option.bind_some,nD (by omega),Option.bind_some,app1 (by omega),hw,show R.length-i=(R.length-(i+1))+1 by omega,ji,pB]
         cases (CG .i64 ((j:Int).fdiv (2 ^ min (i:Int).toNat (IntKind.bits .i64))) 1)==1
         · simp only[Bool.false_eq_true,if_false,Option.bind_some,List.nil_append]
           exact ih (i+1) c (by omega) (by omega) (by omega)
         · simp only[if_true,Option.bind_some]
           rw[ih (i+1) _ (by omega) (by omega) (by simp; omega),List.append_assoc,show zh R ([(i:Int)]++ji (j:Int) (R.length-(i+1)) (i+1))=[R[i]]++zh R (ji (j:Int) (R.length-(i+1)) (i+1))from by rw[zh,List.map_append,List.map_cons,e1]; rfl]
       · rw[if_neg (by simp only[Bool.and_eq_true,decide_eq_true_eq]; omega),show R.length-i=0 by omega,ji,zh,List.map_nil,List.append_nil]
   have:=key (((R.length:Int)-0).toNat+2) 0 [] (by omega) (by omega) (by simp)
   simpa using this
def qj(s:List Int)(l:List Method)(R:List Rule)(q:aV)(x:List Int):Bool:=Ck s l (zh R x) q
theorem ap8{s:List Int}{l:List Method}{R:List Rule}{q:aV}{N:Nat}(hs:s.length<4294967296)(gX:fA lc l)(ht:eT q.Atoms<4294967295)(h4:R.length<=4)(hR:∀r∈R,r.Map.length<=3)(e1:Ka .i64 1 (R.length:Int)=some (N:Int))(e2:N<=256):∀(m i:Nat)(b:Option (List Int)),i<=N->N-i<m->(∀y,b=some y->y.length<=8)->
   Hr s l R q 20 m (b.getD []) b.isSome (i:Int)=some ((wH (qj s l R q) R.length (N-i) i b).getD [],(wH (qj s l R q) R.length (N-i) i b).isSome):=by
 intro m
 induction m with
 |zero=>intro i b _ h; omega
 |succ m ih=>
   intro i b hi hm hy
   unfold Hr
   rw[e1,Option.bind_some]
   have hl:=abA (i:Int) R.length 0
   by_cases hlt:i<N
   · have hw:IntKind.i64.wrap ((i:Int)+1)=((i+1:Nat):Int):=by rw[fo (by omega) (by omega)]; rfl
     have hn:=ih (i+1) (KR (qj s l R q) R.length b (i:Int)) (by omega) (by omega) (fun y e=>by
       unfold KR at e
       rcases b with _|z<;>simp only at e<;>split at e<;>cases e
       · omega
       · omega
       · exact hy _ rfl)
     have hc:Hq 20 s l (zh R (ji (i:Int) R.length 0)) q=some (qj s l R q (ji (i:Int) R.length 0)):=ae7 s l _ q hs gX ht
     rw[if_pos (by simpa using hlt),aqU _ _ (by omega),Option.bind_some,hw,show N-i=(N-(i+1))+1 by omega,wH]
     rcases b with _|y
     · simp only[Option.isSome_none,cond_false,Option.bind_some,Bool.false_eq_true,if_false,Option.getD_none]
       rw[agU h4 hR,Option.bind_some,hc,Option.bind_some]
       simp only[KR]at hn ⊢
       cases hk:qj s l R q (ji (i:Int) R.length 0)
       · rw[hk]at hn; exact hn
       · rw[hk]at hn; exact hn
     · simp only[Option.isSome_some,cond_true,Option.getD_some]
       rw[ap7 _ _ (by omega),Option.bind_some,Option.bind_some]
       dsimp only
       rw[agU h4 hR,Option.bind_some,hc,Option.bind_some]
       simp only[KR]at hn ⊢
       cases hL:NF (ji (i:Int) R.length 0) y
       · rw[hL]at hn
         exact hn
       · cases hk:qj s l R q (ji (i:Int) R.length 0)
         · rw[hL,hk]at hn; exact hn
         · rw[hL,hk]at hn; exact hn
   · rw[if_neg (by simpa using hlt),show N-i=0 by omega,wH]
theorem aqX{s:List Int}{l:List Method}{R:List Rule}{q:aV}(hs:s.length<4294967296)(gX:fA lc l)(ht:eT q.Atoms<4294967295)(x:List Int)(hx:∀i∈x,0<=i/\i<(R.length:Int))(hl:x.length<=8):HY 20 x R s l q=some (qj s l R q x):=by
 have key:∀(r:List Int)(k:Nat)(c:List Rule),(∀i∈r,0<=i/\i<(R.length:Int))->c.length+r.length<=8->D5 R s l q 20 r k c=some (Ck s l (c++zh R r) q):=by
   intro r
   induction r with
   |nil=>intro k c _ _; rw[D5,ae8 s l _ q hs gX ht,zh,List.map_nil,List.append_nil]; rfl
   |cons i r ih=>
     intro k c hr hc
     simp only[List.length_cons]at hc
     have hi:=hr i (by simp)
     have e:ix R i=some ((ix R i).getD {From:=0,To:=0,Map:=[]}):=by
       unfold ix
       rw[if_pos hi.1,List.getElem?_eq_getElem (by omega)]; rfl
     rw[D5,e,Option.bind_some,app1 (by omega),Option.bind_some,ih (k+1) _ (fun y hy=>hr y (by simp[hy])) (by simp; omega),List.append_assoc]; rfl
 rw[HY,key x 0 [] hx (by simpa using hl)]; rfl
theorem asx{s:List Int}{l:List Method}{R:List Rule}{q:aV}(hs:s.length<4294967296)(gX:fA lc l)(ht:eT q.Atoms<4294967295)(h4:R.length<=4)(b:Option (List Int))(Au:Int):∀(m i:Nat)(c:List Int),i<=R.length->R.length-i<m->c.length<=i->(∀y∈c,0<=y/\y<(R.length:Int))->
   DN (R.length:Int) R s l q (b.getD []) b.isNone Au 20 m c false (i:Int)=some ((ZQ (qj s l R q) (c++ji Au (R.length-i) i) b).getD [],(ZQ (qj s l R q) (c++ji Au (R.length-i) i) b).isNone):=by
 intro m
 induction m with
 |zero=>intro i c _ h; omega
 |succ m ih=>
   intro i c hi hm hc hcy
   unfold DN
   by_cases hlt:i<R.length
   · have hw:IntKind.i64.wrap ((i:Int)+1)=((i+1:Nat):Int):=by rw[fo (by omega) (by omega)]; rfl
     rw[if_pos (by simpa using hlt),ab1,Option.bind_some,app1 (by omega),hw,show R.length-i=(R.length-(i+1))+1 by omega,ji,pB]
     cases (CG .i64 (Au.fdiv (2 ^ min (i:Int).toNat (IntKind.bits .i64))) 1)==1
     · simp only[Bool.false_eq_true,if_false,Option.bind_some,List.nil_append]
       exact ih (i+1) c (by omega) (by omega) (by omega) hcy
     · simp only[if_true,Option.bind_some]
       rw[ih (i+1) _ (by omega) (by omega) (by simp; omega) (fun y hy=>by
         rcases List.mem_append.1 hy with hy|hy
         · exact hcy y hy
         · obtain rfl:=List.mem_singleton.1 hy; omega),List.append_assoc]
   · rw[if_neg (by simpa using hlt),show R.length-i=0 by omega,ji,List.append_nil]
     have hr:=aqX hs gX ht c hcy (by omega)
     rcases b with _|y
     · simp only[Option.isNone_none,cond_true,hr,Option.bind_some,ZQ]
       cases qj s l R q c<;>rfl
     · simp only[Option.isNone_some,cond_false,Option.getD_some,hr,Option.bind_some,ZQ,NF,ae9]
       by_cases h1:c.length=y.length
       · have h2:((c.length:Int)!=(y.length:Int))=false:=by simp[h1]
         have h3:decide ((c.length:Int)<(y.length:Int))=false:=by simp[h1]
         have h4:((c.length:Int)==(y.length:Int))=true:=by simp[h1]
         simp only[h2,h3,h4,cond_true,cond_false,Bool.false_eq_true,if_false]
         cases decide (cmpL c y<0)
         · rfl
         · cases qj s l R q c<;>rfl
       · have h2:((c.length:Int)!=(y.length:Int))=true:=by simp; omega
         have h4:((c.length:Int)==(y.length:Int))=false:=by simp; omega
         simp only[h2,h4,cond_false,if_true]
         cases decide ((c.length:Int)<(y.length:Int))
         · rfl
         · cases qj s l R q c<;>rfl
theorem asy{s:List Int}{l:List Method}{R:List Rule}{q:aV}{N:Nat}(hs:s.length<4294967296)(gX:fA lc l)(ht:eT q.Atoms<4294967295)(h4:R.length<=4)(e1:Ka .i64 1 (R.length:Int)=some (N:Int))(e2:N<=256):OX 20 (R.length:Int) R s l q=some ((wH (qj s l R q) R.length N 0 none).getD [],(wH (qj s l R q) R.length N 0 none).isSome):=by
 have key:∀(m i:Nat)(b:Option (List Int)),i<=N->N-i<m->G8 (R.length:Int) R s l q (N:Int) 20 m (b.getD []) b.isNone (i:Int)=some ((wH (qj s l R q) R.length (N-i) i b).getD [],(wH (qj s l R q) R.length (N-i) i b).isSome):=by
   intro m
   induction m with
   |zero=>intro i b _ h; omega
   |succ m ih=>
     intro i b hi hm
     unfold G8
     by_cases hlt:i<N
     · have hw:IntKind.i64.wrap ((i:Int)+1)=((i+1:Nat):Int):=by rw[fo (by omega) (by omega)]; rfl
       have h0:=asx hs gX ht h4 b (i:Int) (((R.length:Int)-0).toNat+2) 0 [] (by omega) (by omega) (by simp) (by simp)
       have h0':DN (R.length:Int) R s l q (b.getD []) b.isNone (i:Int) 20 (((R.length:Int)-0).toNat+2) [] false 0=_:=h0
       rw[if_pos (by simpa using hlt),h0',Option.bind_some,hw,show N-i=(N-(i+1))+1 by omega,wH]
       exact ih (i+1) (KR (qj s l R q) R.length b (i:Int)) (by omega) (by omega)
     · rw[if_neg (by simpa using hlt),show N-i=0 by omega,wH]
       rcases b with _|y<;>rfl
 rw[OX,e1,Option.bind_some]
 exact key (((N:Int)-0).toNat+2) 0 none (by omega) (by omega)
def yu(s:List Int)(l:List Method)(R:List Rule)(q:aV):Option (List Int):=if f_ s l&&kN s R then wH (qj s l R q) R.length (2 ^ R.length) 0 none else none
theorem ajK{n:Nat}(h:n<=4):Ka .i64 1 (n:Int)=some (((2 ^ n:Nat):Int))/\(2 ^ n:Nat)<=16:=by
 have:n=0\/n=1\/n=2\/n=3\/n=4:=by omega
 rcases this with rfl|rfl|rfl|rfl|rfl<;>exact⟨rfl,by decide⟩
theorem anW{s:List Int}{l:List Method}{R:List Rule}{q:aV}(hs:s.length<4294967296)(gX:fA lc l)(ht:eT q.Atoms<4294967295):Pi 20 s l R q=some ((yu s l R q).getD [],(yu s l R q).isSome):=by
 rw[Pi,Xj s l R hs gX,Option.bind_some,yu]
 cases hc:f_ s l&&kN s R
 · rfl
 · obtain⟨-,hRR⟩:f_ s l=true/\kN s R=true:=by simpa using hc
   obtain⟨hR,h4⟩:=EZ hRR
   obtain⟨e1,e2⟩:=ajK h4
   rw[if_neg (by simp),if_pos rfl]
   generalize 2 ^ R.length=N at e1 e2 ⊢
   exact ap8 hs gX ht h4 (fun r hr=>(Nv (hR r hr)).1) e1 (by omega) 20 0 none (by omega) (by omega) (by simp)
theorem anX{s:List Int}{l:List Method}{R:List Rule}{q:aV}(hs:s.length<4294967296)(gX:fA lc l)(ht:eT q.Atoms<4294967295):Pk 20 s l R q=some ((yu s l R q).getD [],(yu s l R q).isSome):=by
 rw[Pk,Wq s l R hs gX,Option.bind_some,yu]
 cases hc:f_ s l&&kN s R
 · rfl
 · obtain⟨-,hRR⟩:f_ s l=true/\kN s R=true:=by simpa using hc
   obtain⟨hR,h4⟩:=EZ hRR
   obtain⟨e1,e2⟩:=ajK h4
   generalize 2 ^ R.length=N at e1 e2 ⊢
   rw[if_neg (by simp),if_pos rfl,asy hs gX ht h4 e1 (by omega)]; rfl
theorem ajL{is:List Int->Bool}{n:Nat}:∀(k i:Nat)(b:Option (List Int)),(∀y,b=some y->y.length<=n/\ ∀x∈y,0<=x/\x<(n:Int))-> ∀y,wH is n k i b=some y->y.length<=n/\ ∀x∈y,0<=x/\x<(n:Int)
 |0,_,_,h=>h
 |k+1,i,b,h=>ajL k (i+1) _ fun y e=>by
   have h1:(ji (i:Int) n 0).length<=n/\ ∀x∈ji (i:Int) n 0,0<=x/\x<(n:Int):=⟨abA _ _ _,fun x hx=>by have:=aiX _ _ _ x hx; omega⟩
   unfold KR at e
   rcases b with _|z<;>simp only at e<;>split at e<;>cases e
   · exact h1
   · exact h1
   · exact h _ rfl
theorem aij{s:List Int}{l:List Method}{R:List Rule}{q:aV}{y:List Int}(h:yu s l R q=some y):y.length<=4/\DL y:=by
 unfold yu at h
 split at h
 · rename_i hc
   obtain⟨-,hRR⟩:f_ s l=true/\kN s R=true:=by simpa using hc
   have h4:=(EZ hRR).2
   have:=ajL _ _ _ (by simp) y h
   exact⟨by omega,fun x hx=>by have:=this.2 x hx; omega⟩
 · cases h
theorem avq{s:List Int}{q:aV}{f:List Fact}{b:aS}(hq:gM s q=true)(h:amC s q f b):(ko q b).length<=3/\DL (ko q b):=by
 have h3:=(mi hq).2.2
 refine⟨by rw[ko,List.length_map]; exact h3,fun x hx=>?_⟩
 obtain⟨t,ht,rfl⟩:=List.mem_map.1 hx
 simp only[gM,Bool.and_eq_true,List.all_eq_true,decide_eq_true_eq]at hq
 have hm:=hq.2.1 t ht
 have hv:=(Jd.1 hm).2
 rw[←h.vs]at hm
 obtain⟨y,hy,e⟩:=Xh h.be hm
 rw[lm,if_pos hv,e,Option.getD_some]
 have:=h.vl y hy
 omega
def ado(c:sj×Bool):List UInt8:=if c.2 then [105,110,102,101,97,115,105,98,108,101,58,32,40]++Lib.join (oV c.1.Tuple) [44]++[41,32,105,110,32]++Fs c.1.All++[32,110,111,116,32,105,110,32]++Fs c.1.Some else [117,110,107,110,111,119,110]
def Ty(s:List Int)(l:List Method)(R:List Rule)(q:aV):Option (List Int)->List UInt8
 |some y=>[102,101,97,115,105,98,108,101,32,98,121,32,114,117,108,101,115,32]++Lib.join (oV y) [44]
 |none=>ado (qC s l R q)
def Xw(s:List Int)(l:List Method)(R:List Rule)(q:aV):List UInt8:=if (f_ s l&&kN s R)&&gM s q then (if J4 s l q then [102,101,97,115,105,98,108,101]else Ty s l R q (yu s l R q))else []
theorem aik{s:List Int}{l:List Method}{R:List Rule}{q:aV}(h:(qC s l R q).2=true):((qC s l R q).1.Tuple.length<=3/\DL (qC s l R q).1.Tuple)/\GF s (qC s l R q).1.All/\GF s (qC s l R q).1.Some:=by
 unfold qC at h ⊢
 split at h
 · rename_i hc
   rw[if_pos hc]
   simp only[Bool.and_eq_true]at hc
   obtain⟨⟨hl,hRR⟩,hq,-⟩:=hc
   obtain⟨hR,h4⟩:=EZ hRR
   rcases hf:pq (fu (aZ 0 9) q.Atoms) q with _|⟨f,b⟩
   · rw[hf]at h; cases h
   · have hI:=UT hq hf
     have htl:=hI.tl
     have hsl:=MU (p:=aZ 0 9) (l:=q.Atoms)
     obtain⟨ls,e1,g1,g2⟩:=Qw hl hR h4 hI.gf (fu (aZ 0 9) q.Atoms) (by omega)
     exact⟨avq hq hI,(Jl hR h4 3000 3001 f hI.gf (by omega) (by omega)).2,g2⟩
 · cases h
theorem ap9{s:List Int}{l:List Method}{R:List Rule}{q:aV}(hs:s.length<4294967296)(gX:fA lc l)(ht:eT q.Atoms<4294967295):QA 20 s l R q=some (Xw s l R q):=by
 rw[QA,Xj s l R hs gX,Option.bind_some,Xw]
 cases f_ s l&&kN s R
 · rfl
 rw[Bool.not_true,cond_false,IY s q hs ht,Option.bind_some]
 cases gM s q
 · rfl
 simp only[Bool.not_true,Option.bind_some,Bool.false_eq_true,if_false,Bool.and_self,if_true]
 rw[aow s l q hs gX ht,Option.bind_some]
 cases J4 s l q
 rotate_left
 · rfl
 rw[if_neg (by simp),if_neg (by simp),anW hs gX ht,Option.bind_some]
 rcases hy:yu s l R q with _|y
 · simp only[Option.isSome_none,Bool.false_eq_true,if_false,Ty]
   rw[ant s l R q hs gX ht,Option.bind_some,ado]
   cases hc:(qC s l R q).2
   · rfl
   · obtain⟨⟨t1,t2⟩,g1,g2⟩:=aik hc
     have j1:=WR _ t2
     have f1:=WI (qC s l R q).1.All
     have f2:=WI (qC s l R q).1.Some
     have n1:=nE g1
     have n2:=nE g2
     simp only[Bool.not_true,Bool.false_eq_true,if_false,if_true]
     rw[agl _ t2 (by omega),Option.bind_some,mW (by simp; omega),Option.bind_some,mW (by simp; omega),Option.bind_some,age (by omega) _ (by omega),Option.bind_some,mW (by simp; omega),Option.bind_some,mW (by simp; omega),Option.bind_some,age (by omega) _ (by omega),Option.bind_some,mW (by simp; omega),Option.bind_some]
 · obtain⟨y1,y2⟩:=aij hy
   have j1:=WR y y2
   simp only[Option.isSome_some,if_true,Option.getD_some,Ty]
   rw[agl y y2 (by omega),Option.bind_some,mW (by simp; omega),Option.bind_some]
theorem ap_{s:List Int}{l:List Method}{R:List Rule}{q:aV}(hs:s.length<4294967296)(gX:fA lc l)(ht:eT q.Atoms<4294967295):QD 20 s l R q=some (Xw s l R q):=by
 rw[QD,Wq s l R hs gX,Option.bind_some,Xw]
 cases f_ s l&&kN s R
 · rfl
 rw[Bool.not_true,cond_false,PM s q hs ht,Option.bind_some]
 cases gM s q
 · rfl
 simp only[Bool.not_true,Option.bind_some,Bool.false_eq_true,if_false,Bool.and_self,if_true]
 rw[aox s l q hs gX ht,Option.bind_some]
 cases J4 s l q
 rotate_left
 · rfl
 rw[if_neg (by simp),if_neg (by simp),anX hs gX ht,Option.bind_some]
 rcases hy:yu s l R q with _|y
 · simp only[Option.isSome_none,Bool.false_eq_true,if_false,Ty]
   rw[anu s l R q hs gX ht,Option.bind_some,ado]
   cases hc:(qC s l R q).2
   · rfl
   · obtain⟨⟨t1,t2⟩,g1,g2⟩:=aik hc
     have j1:=WR _ t2
     have f1:=WI (qC s l R q).1.All
     have f2:=WI (qC s l R q).1.Some
     have n1:=nE g1
     have n2:=nE g2
     simp only[Bool.not_true,Bool.false_eq_true,if_false,if_true]
     rw[agm _ t2 (by omega),Option.bind_some,mW (by simp; omega),Option.bind_some,mW (by simp; omega),Option.bind_some,af1 _ (by omega),Option.bind_some,mW (by simp; omega),Option.bind_some,mW (by simp; omega),Option.bind_some,af1 _ (by omega),Option.bind_some,mW (by simp; omega),Option.bind_some]
 · obtain⟨y1,y2⟩:=aij hy
   have j1:=WR y y2
   simp only[Option.isSome_some,if_true,Option.getD_some,Ty]
   rw[agm y y2 (by omega),Option.bind_some,mW (by simp; omega),Option.bind_some]
theorem asz(a:List Rule)(h:xc Q4 a<4294967296):fA abU a:=ab9 (f:=Q4) (fun x hx=>ui _ hx) _ h
theorem anL{s:List Int}{l:List Method}{R:List Rule}{q:aV}(ws:qK sH s)(wl:qK Y3 l)(wr:qK Y4 R)(wq:ady q):∃fuel,V5 fuel s l R q=some true:=by
 refine⟨20,?_⟩
 unfold V5
 by_cases h:(1048576:Int)<(s.length:Int)
 · rw[if_pos (by simpa using h)]
 rw[if_neg (by simpa using h)]
 obtain⟨n1,e1,h1⟩:=ard l wl 1048576 (by omega) (by omega)
 rw[e1,Option.bind_some]
 try dsimp only at h1
 rcases h1 with⟨rfl,p1⟩|p1
 rotate_left
 · rw[if_pos (by simpa using p1)]
 rw[if_neg (by simp only[decide_eq_true_eq]; omega)]
 obtain⟨n2,e2,h2⟩:=asi R wr _ p1 (by omega)
 rw[e2,Option.bind_some]
 try dsimp only at h2
 rcases h2 with⟨rfl,p2⟩|p2
 rotate_left
 · rw[if_pos (by simpa using p2)]
 rw[if_neg (by simp only[decide_eq_true_eq]; omega)]
 obtain⟨n3,e3,h3⟩:=asl q wq _ p2 (by omega)
 rw[e3,Option.bind_some]
 try dsimp only at h3
 rcases h3 with⟨rfl,p3⟩|p3
 rotate_left
 · rw[if_pos (by simpa using p3)]
 rw[if_neg (by simp only[decide_eq_true_eq]; omega)]
 have b0:fA vH s:=ui s (by omega)
 have b1:=arf l (by omega)
 have b2:=asz R (by omega)
 have b3:=arP q (by omega)
 have ht:eT q.Atoms<4294967295:=by
   have:=aic q.Atoms
   unfold QF at p3; omega
 simp[Re s b0,WP l b1,abu R b2,aso q b3,ap9 (s:=s) (l:=l) (R:=R) (q:=q) (by omega) b1 ht,ap_ (s:=s) (l:=l) (R:=R) (q:=q) (by omega) b1 ht,Rh,WQ,abv,asr]
end Go.Proofs.YtdmapdjncfkhhaaGreatDoor
/-
 The row FnExactWhyLine.
-/
set_option maxRecDepth 100000
namespace Go.Proofs.YtdmapdjncfkhhaaGreatDoor.fnExactWhyLine
open Go Go.Fw Go.ChangeShapes Go.WideShapes Go.ChangeAt Go.RowKit
theorem own:ownKnob Tryz.prog.godebug=none:=by kernel_rfl
theorem asA(os:Os)(args:Array Value):laidMetH Tryz.prog Rows.fnExactWhyLineRow.laid ((World.doorLaid Tryz.prog 400 os).forCall (fun _ _=>0) ⟨#[],args,[]⟩).memory:=
 laidMetH_of_parts3 (fuel:=8) (laidMet_of_run' 8 (by kernel_rfl) (by kernel_rfl)) (by kernel_rfl) (by kernel_rfl)
theorem aB4:Tryz.prog.globalNamed "internal/strconv.uint64pow10" =some 1:=by kernel_rfl
theorem azn:(Tryz.prog.globals[1]?).map (·.type)=some 329:=by kernel_rfl
theorem laidOut:laidOutB Tryz.prog=true:=by kernel_rfl
set_option maxRecDepth 100000 in
theorem lifted(os:Os)(started:os.Started)(H:Type)(enc:TypeId×Value->H):
   ReturnsInHanded {} Tryz.checked os 3 .any (fun w args=>(Rows.fnExactWhyLineSpec.pre enc Tryz.prog Tryz.f3 [] false w args/\laidMetH Tryz.prog Rows.fnExactWhyLineRow.laid w)/\sizedMet enc Tryz.prog Tryz.f3 (OpenSpec.ofChange Rows.fnExactWhyLineSpec) false w args) (Rows.fnExactWhyLineSpec.post enc Tryz.prog Tryz.f3 false true false false):=by
 refine returnsInHanded_of_change_and (C:=Tryz.checked) (X:=fun w _=>laidMetH Tryz.prog Rows.fnExactWhyLineRow.laid w) (fun _ _ _ hh h=>h.of_heap hh) own started (by kernel_rfl) Tryz.func3
   (ChangeSpec.witness_shaped (enc:=enc) (C:=Tryz.checked) (os:=os) (X:=fun w _=>laidMetH Tryz.prog Rows.fnExactWhyLineRow.laid w) false (World.doorLaid Tryz.prog 400 os) #[.slice none 0 0,.slice none 0 0,.slice none 0 0,.agg #[.slice none 0 0,.slice none 0 0]] 16 rfl (World.shaped_of_RefB (by kernel_rfl) (by kernel_rfl)) (by kernel_rfl) (by kernel_rfl) (by kernel_rfl) (asA os _)) ?_
 intro W base args ds gs before hval hW _ hwt hL _
 rw[MakeChecks.laidMetH_plain _ _ _ (by kernel_rfl)]at hL
 have htab:Lib.TabIs Tryz.prog W "internal/strconv.uint64pow10" .u64 Lib.pow10Tab:=Lib.tabIs_of_head aB4 azn (show Tryz.prog.underlying 329=some (.array 20 312) by kernel_rfl) (show Tryz.prog.underlying 312=some (.int .u64) by kernel_rfl) (by kernel_rfl) (by kernel_rfl) (laidMet.tail (laidMet.tail hL))
 have hW':=hW
 obtain⟨p,q,hA0,hV,rfl,hfz,hnd⟩:=hW
 obtain⟨rfl,rfl⟩:=trodVars_none hV
 have hA:DataW.TrodAll enc Tryz.prog W 0 (fun _=>true) true [22,23,24,27] args.toList ds p:=hA0
 have hw:∀n∈DataW.weightsEach Tryz.prog [22,23,24,27] ds,n<=reachBytes:=fun n hn=>by
   have:=List.all_eq_true.1 hwt n (by rw[List.append_nil]; exact hn)
   simpa using this
 obtain⟨v0,vs0,d0,ds0,p0,ρ0,H0,KW,a0,e0,rfl,hA0,hw0,r0,f0,u0,i0,rv0,q0,w0⟩:=Xy hA hw (iQ.slice (s:=1) (by kernel_rfl) (by kernel_rfl) (by decide) (Nat.lt_of_lt_of_le (by decide) (Nat.le_of_eq (show 8=_ from by kernel_rfl))) (iQ.int (by kernel_rfl))) (fun H v a h=>by obtain⟨_,_,rfl⟩:=aI.len h; kernel_rfl) (r:=.any) (base:=base) (fun v h=>hval 0 22 v rfl (XP h)) (Rel.nil _ W htab) qm.nil
 obtain⟨v1,vs1,d1,ds1,p1,ρ1,H1,UW,a1,e1,rfl,hA1,hw1,r1,f1,u1,i1,rv1,q1,w1⟩:=Xy hA0 hw0 (iQ.slice (s:=5) (by kernel_rfl) (by kernel_rfl) (by decide) (Nat.lt_of_lt_of_le (by decide) (Nat.le_of_eq (show 56=_ from by kernel_rfl))) az_) (fun H v a h=>by obtain⟨_,_,rfl⟩:=aI.len h; kernel_rfl) (r:=.any) (base:=base) (fun v h=>hval 1 23 v rfl (XP (by rw[e0]; exact h))) r0 f0
 obtain⟨v2,vs2,d2,ds2,p2,ρ2,H2,av2,a2,e2,rfl,hA2,hw2,r2,f2,u2,i2,rv2,q2,w2⟩:=Xy hA1 hw1 (iQ.slice (s:=3) (by kernel_rfl) (by kernel_rfl) (by decide) (Nat.lt_of_lt_of_le (by decide) (Nat.le_of_eq (show 40=_ from by kernel_rfl))) az') (fun H v a h=>by obtain⟨_,_,rfl⟩:=aI.len h; kernel_rfl) (r:=.any) (base:=base) (fun v h=>hval 2 24 v rfl (XP (by rw[e0,e1]; exact h))) r1 f1
 obtain⟨v3,vs3,d3,ds3,p3,ρ3,H3,av3,a3,e3,rfl,hA3,hw3,r3,f3,u3,i3,rv3,q3,w3⟩:=Xy hA2 hw2 aAb aAa (r:=.any) (base:=base) (fun v h=>hval 3 27 v rfl (XP (by rw[e0,e1,e2]; exact h))) r2 f2
 obtain⟨en,rfl⟩:=ar5 hA3
 subst en
 obtain⟨UZ,U0,rfl⟩:=aI.len q0
 obtain⟨sa1,yO,rfl⟩:=aI.len q1
 obtain⟨UX,UY,rfl⟩:=aI.len q2
 obtain⟨ajM,ajN,rfl,avr,avs⟩:=q3
 have hargs:bP ρ3 [(.slice UZ a0.length U0),(.slice sa1 a1.length yO),(.slice UX a2.length UY),(.agg [ajM.v,ajN.v].toArray)] args.toList:=by
   rw[e0,e1,e2,e3]
   exact (.cons _ _ _ _ (rv0.up ((u1.trans u2).trans u3)) (.cons _ _ _ _ (rv1.up (u2.trans u3)) (.cons _ _ _ _ (rv2.up u3) (.cons _ _ _ _ rv3 .nil))))
 obtain⟨fuel,aB5⟩:=anL w0 w1 w2 w3
 refine ((@anD fuel a0 ⟨UZ,_,U0⟩ a1 ⟨sa1,_,yO⟩ a2 ⟨UX,_,UY⟩ a3 ajM ajN true aB5) H3 [] (Ctx.dup (Ctx.dup (Ctx.dup (Ctx.dup (Ctx.dup (Ctx.start _) avs rfl) avr rfl) (dC.up q2 i3) rfl) (dC.up q1 (i2.trans i3)) rfl) (dC.up q0 ((i1.trans i2).trans i3)) rfl) ρ3 W args r3 hargs).mono ?_
 rintro e w' ⟨v,r,ρ',H',rfl,h1,h2,h3,x,h5,-⟩
 have h6:r= .bool true:=h5
 subst h6
 refine⟨_,rfl,?_⟩
 rw[h1.bool_inv]
 refine ar2 hW' rfl laidOut (by kernel_rfl) rfl (by kernel_rfl) (fun d=>?_) (h3.below f3)
 by_cases hd:d=[d0,d1,d2,d3]
 · subst hd; exact .inl ⟨rfl,rfl,rfl⟩
 · exact .inr (by simpa using hd)
theorem named:Tryz.pinned.checked.prog.funcNamed Rows.fnExactWhyLineRow.func=some 3:=by kernel_rfl
set_option maxHeartbeats 10000000 in
theorem closed:joinedFacts Tryz.pinned.checked.prog 3 Tryz.f3 Rows.fnExactWhyLineSpec Rows.fnExactWhyLineRow=true:=by
 simp only[joinedFacts,Bool.and_eq_true]
 repeat' refine And.intro ?_ ?_
 all_goals (as_aux_lemma=>kernel_rfl)
theorem over:Rows.fnExactWhyLineRow.holds Tryz.pinned (OpenSpec.ofChange Rows.fnExactWhyLineSpec):=
 OpenClaim.holds_of_wide 3 Tryz.f3 rfl rfl rfl rfl rfl rfl rfl ⟨rfl,rfl,rfl,rfl,rfl⟩ rfl rfl rfl rfl rfl named Tryz.func3 closed
   (of_decide_eq_true (by kernel_rfl)) (by unfold Func.isWrapper; first|(rw[if_pos (by decide+kernel)]; kernel_rfl)|(rw[if_neg (by decide+kernel)]; exact⟨rfl,rfl⟩))
   (fun os started H enc _=>lifted os started H enc)
theorem proved:Rows.FnExactWhyLineCardSaid:=
 Claim7.holds_tied_plain_at .later [] [.data,.data,.data] true (true,"ef03683b5bbbe8c6a7054127f501ddc939323f22523163ef625262f2913f691b") false
   over (fun _ h=>by cases h) (by as_aux_lemma=>kernel_rfl) (fun _ h=>by cases h) fnExactWhyLine_row_tie rfl ⟨rfl,rfl⟩ (by as_aux_lemma=>kernel_rfl) rfl
   (fun f fn hf hfn=>by
     obtain rfl:f=3:=Option.some.inj ((show Tryz.prog.funcNamed "loop.example/g01989/laws.FnExactWhyLine" =some 3 by as_aux_lemma=>kernel_rfl).symm.trans hf) |>.symm
     obtain rfl:fn=Tryz.f3:=(Option.some.inj (Tryz.func3.symm.trans hfn)).symm
     exact⟨by as_aux_lemma=>kernel_rfl,fun j t ht=>by
       have hm:t∈[22,23,24,27]:=by simpa using (Array.mem_of_getElem? ht:t∈(#[22,23,24,27]:Array TypeId))
       have hall:([22,23,24,27].all fun u=>!Tryz.prog.wantsStandIn u)=true:=by as_aux_lemma=>kernel_rfl
       exact (show Tryz.prog.wantsStandIn t=false by simpa using List.all_eq_true.1 hall t hm)⟩)
   (by as_aux_lemma=>kernel_rfl)
end Go.Proofs.YtdmapdjncfkhhaaGreatDoor.fnExactWhyLine
