/-
  FnExactAskQuery: the plain law and the row: for all arguments.
-/
import Derived.Test.YtlnefhbbbikmgabGreatAskQueryGZ0
import Derived.Test.YtlnefhbbbikmgabGreatFc
import Derived.Test.YtlnefhbbbikmgabGreatRows
import Derived.WalkKit
import Derived.KernelRfl
/-
 Plain laws of the helpers. Written by a program.
-/
set_option maxRecDepth 100000
set_option maxHeartbeats 4000000
set_option linter.unusedVariables false
namespace Go.Proofs.YtlnefhbbbikmgabGreat
open Go Go.Fw
def fV(a:aj):Prop:=(aZ gz) a.Values
def rV(a:ag):Prop:=(aZ gz) a.Values
theorem Co:Sz w_ (fun a:List Int=>a.length) (jN l5):=ax0 (fun _ _=>rfl)
def EW(a:Method):Nat:=a.bg.length
theorem awH:Sz Re EW aav:=by
 intro a ⟨apH,axs,aLE,aMD,aLF⟩ left hl hm
 unfold Re
 have ht:EW a=a.bg.length:=rfl
 obtain⟨n1,e1,h1⟩:=Co a.bg axs _ hl hm
 rw[e1,acs]
 try dsimp only at h1
 rcases h1 with⟨rfl,p1⟩|p1
 rotate_left
 · rw[atV (by simpa using p1)]; exact⟨-1,rfl,.inr (by omega)⟩
 rw[aqA (by simp only[ag3]; omega)]
 exact⟨_,rfl,.inl ⟨by rw[ht]<;>omega,p1⟩⟩
theorem avV:Sz Y3 (jh EW) (jN aav):=Fp awH (fun _ _=>rfl) (fun _ _ _ _=>rfl) (fun _ _=>rfl)
def Fu(a:bO):Nat:=a.Map.length
theorem ayT:Sz Sm Fu aaw:=by
 intro a ⟨aME,aQN,aE8⟩ left hl hm
 unfold Sm
 have ht:Fu a=a.Map.length:=rfl
 obtain⟨n1,e1,h1⟩:=Co a.Map aE8 _ hl hm
 rw[e1,acs]
 try dsimp only at h1
 rcases h1 with⟨rfl,p1⟩|p1
 rotate_left
 · rw[atV (by simpa using p1)]; exact⟨-1,rfl,.inr (by omega)⟩
 rw[aqA (by simp only[ag3]; omega)]
 exact⟨_,rfl,.inl ⟨by rw[ht]<;>omega,p1⟩⟩
theorem axt:Sz ZB (jh Fu) (jN aaw):=Fp ayT (fun _ _=>rfl) (fun _ _ _ _=>rfl) (fun _ _=>rfl)
def yw(a:aj):Nat:=a.Values.length
theorem ayU:Sz Sn yw TK:=by
 intro a ⟨apH,ad9⟩ left hl hm
 unfold Sn
 have ht:yw a=a.Values.length:=rfl
 obtain⟨n1,e1,h1⟩:=Co a.Values ad9 _ hl hm
 rw[e1,acs]
 try dsimp only at h1
 rcases h1 with⟨rfl,p1⟩|p1
 rotate_left
 · rw[atV (by simpa using p1)]; exact⟨-1,rfl,.inr (by omega)⟩
 rw[aqA (by simp only[ag3]; omega)]
 exact⟨_,rfl,.inl ⟨by rw[ht]<;>omega,p1⟩⟩
theorem amc:Sz RP (jh yw) (jN TK):=Fp ayU (fun _ _=>rfl) (fun _ _ _ _=>rfl) (fun _ _=>rfl)
def MJ(a:Source):Nat:=(jh yw) a.Facts
theorem awI:Sz Rh MJ agZ:=by
 intro a ⟨aey,aKP⟩ left hl hm
 unfold Rh
 have ht:MJ a=(jh yw) a.Facts:=rfl
 obtain⟨n1,e1,h1⟩:=amc a.Facts aey _ hl hm
 rw[e1,acs]
 try dsimp only at h1
 rcases h1 with⟨rfl,p1⟩|p1
 rotate_left
 · rw[atV (by simpa using p1)]; exact⟨-1,rfl,.inr (by omega)⟩
 rw[aqA (by simp only[ag3]; omega)]
 exact⟨_,rfl,.inl ⟨by rw[ht]<;>omega,p1⟩⟩
def ym(a:ag):Nat:=a.Values.length
theorem alB:Sz Mq ym TL:=by
 intro a ⟨aKS,ad9⟩ left hl hm
 unfold Mq
 have ht:ym a=a.Values.length:=rfl
 obtain⟨n1,e1,h1⟩:=Co a.Values ad9 _ hl hm
 rw[e1,acs]
 try dsimp only at h1
 rcases h1 with⟨rfl,p1⟩|p1
 rotate_left
 · rw[atV (by simpa using p1)]; exact⟨-1,rfl,.inr (by omega)⟩
 rw[aqA (by simp only[ag3]; omega)]
 exact⟨_,rfl,.inl ⟨by rw[ht]<;>omega,p1⟩⟩
def zN(a:aS):Nat:=ym a.ag+(jh yw) a.Facts
theorem awJ:Sz Ri zN aax:=by
 intro a ⟨axu,aey,aQO⟩ left hl hm
 unfold Ri
 have ht:zN a=ym a.ag+(jh yw) a.Facts:=rfl
 obtain⟨n1,e1,h1⟩:=alB a.ag axu _ hl hm
 rw[e1,acs]
 try dsimp only at h1
 rcases h1 with⟨rfl,p1⟩|p1
 rotate_left
 · rw[atV (by simpa using p1)]; exact⟨-1,rfl,.inr (by omega)⟩
 rw[aqA (by simp only[ag3]; omega)]
 obtain⟨n2,e2,h2⟩:=amc a.Facts aey _ p1 (by omega)
 rw[e2,acs]
 try dsimp only at h2
 rcases h2 with⟨rfl,p2⟩|p2
 rotate_left
 · rw[atV (by simpa using p2)]; exact⟨-1,rfl,.inr (by omega)⟩
 rw[aqA (by simp only[ag3]; omega)]
 exact⟨_,rfl,.inl ⟨by rw[ht]<;>omega,p2⟩⟩
theorem avW:Sz Y4 (jh zN) (jN aax):=Fp awJ (fun _ _=>rfl) (fun _ _ _ _=>rfl) (fun _ _=>rfl)
def M0(a:Cache):Nat:=(jh zN) a.Entries
theorem axv:Sz RQ M0 ag1:=by
 intro a ⟨awK,aOt⟩ left hl hm
 unfold RQ
 have ht:M0 a=(jh zN) a.Entries:=rfl
 obtain⟨n1,e1,h1⟩:=avW a.Entries awK _ hl hm
 rw[e1,acs]
 try dsimp only at h1
 rcases h1 with⟨rfl,p1⟩|p1
 rotate_left
 · rw[atV (by simpa using p1)]; exact⟨-1,rfl,.inr (by omega)⟩
 rw[aqA (by simp only[ag3]; omega)]
 exact⟨_,rfl,.inl ⟨by rw[ht]<;>omega,p1⟩⟩
theorem avX:Sz Y5 (jh ym) (jN TL):=Fp alB (fun _ _=>rfl) (fun _ _ _ _=>rfl) (fun _ _=>rfl)
theorem axw:Sz ZC (jh (fun a:List Int=>a.length)) (jN (jN l5)):=Fp Co (fun _ _=>rfl) (fun _ _ _ _=>rfl) (fun _ _=>rfl)
theorem awL:Sz Zo (jh (jh (fun a:List Int=>a.length))) (jN (jN (jN l5))):=Fp axw (fun _ _=>rfl) (fun _ _ _ _=>rfl) (fun _ _=>rfl)
def LX(a:bU):Nat:=a.bA.length+(jh EW) a.Methods+(jh Fu) a.bV+MJ a.Source+M0 a.Cache+(jh ym) a.bD+a.dh.length+(jh (jh (fun a:List Int=>a.length))) a.bX
theorem avq:Sz Qn LX ag2:=by
 intro a ⟨axx,awM,ayV,axy,ayW,aOu,aE9,ayX,aLG,awN⟩ left hl hm
 unfold Qn
 have ht:LX a=a.bA.length+(jh EW) a.Methods+(jh Fu) a.bV+MJ a.Source+M0 a.Cache+(jh ym) a.bD+a.dh.length+(jh (jh (fun a:List Int=>a.length))) a.bX:=rfl
 obtain⟨n1,e1,h1⟩:=Co a.bA axx _ hl hm
 rw[e1,acs]
 try dsimp only at h1
 rcases h1 with⟨rfl,p1⟩|p1
 rotate_left
 · rw[atV (by simpa using p1)]; exact⟨-1,rfl,.inr (by omega)⟩
 rw[aqA (by simp only[ag3]; omega)]
 obtain⟨n2,e2,h2⟩:=avV a.Methods awM _ p1 (by omega)
 rw[e2,acs]
 try dsimp only at h2
 rcases h2 with⟨rfl,p2⟩|p2
 rotate_left
 · rw[atV (by simpa using p2)]; exact⟨-1,rfl,.inr (by omega)⟩
 rw[aqA (by simp only[ag3]; omega)]
 obtain⟨n3,e3,h3⟩:=axt a.bV ayV _ p2 (by omega)
 rw[e3,acs]
 try dsimp only at h3
 rcases h3 with⟨rfl,p3⟩|p3
 rotate_left
 · rw[atV (by simpa using p3)]; exact⟨-1,rfl,.inr (by omega)⟩
 rw[aqA (by simp only[ag3]; omega)]
 obtain⟨n4,e4,h4⟩:=awI a.Source axy _ p3 (by omega)
 rw[e4,acs]
 try dsimp only at h4
 rcases h4 with⟨rfl,p4⟩|p4
 rotate_left
 · rw[atV (by simpa using p4)]; exact⟨-1,rfl,.inr (by omega)⟩
 rw[aqA (by simp only[ag3]; omega)]
 obtain⟨n5,e5,h5⟩:=axv a.Cache ayW _ p4 (by omega)
 rw[e5,acs]
 try dsimp only at h5
 rcases h5 with⟨rfl,p5⟩|p5
 rotate_left
 · rw[atV (by simpa using p5)]; exact⟨-1,rfl,.inr (by omega)⟩
 rw[aqA (by simp only[ag3]; omega)]
 obtain⟨n6,e6,h6⟩:=avX a.bD aE9 _ p5 (by omega)
 rw[e6,acs]
 try dsimp only at h6
 rcases h6 with⟨rfl,p6⟩|p6
 rotate_left
 · rw[atV (by simpa using p6)]; exact⟨-1,rfl,.inr (by omega)⟩
 rw[aqA (by simp only[ag3]; omega)]
 obtain⟨n7,e7,h7⟩:=Co a.dh ayX _ p6 (by omega)
 rw[e7,acs]
 try dsimp only at h7
 rcases h7 with⟨rfl,p7⟩|p7
 rotate_left
 · rw[atV (by simpa using p7)]; exact⟨-1,rfl,.inr (by omega)⟩
 rw[aqA (by simp only[ag3]; omega)]
 obtain⟨n8,e8,h8⟩:=awL a.bX awN _ p7 (by omega)
 rw[e8,acs]
 try dsimp only at h8
 rcases h8 with⟨rfl,p8⟩|p8
 rotate_left
 · rw[atV (by simpa using p8)]; exact⟨-1,rfl,.inr (by omega)⟩
 rw[aqA (by simp only[ag3]; omega)]
 exact⟨_,rfl,.inl ⟨by rw[ht]<;>omega,p8⟩⟩
def zT(a:aJ):Nat:=a.Terms.length
theorem ayY:Sz Sq zT aay:=by
 intro a ⟨apH,ayZ⟩ left hl hm
 unfold Sq
 have ht:zT a=a.Terms.length:=rfl
 obtain⟨n1,e1,h1⟩:=Co a.Terms ayZ _ hl hm
 rw[e1,acs]
 try dsimp only at h1
 rcases h1 with⟨rfl,p1⟩|p1
 rotate_left
 · rw[atV (by simpa using p1)]; exact⟨-1,rfl,.inr (by omega)⟩
 rw[aqA (by simp only[ag3]; omega)]
 exact⟨_,rfl,.inl ⟨by rw[ht]<;>omega,p1⟩⟩
theorem axz:Sz ZE (jh zT) (jN aay):=Fp ayY (fun _ _=>rfl) (fun _ _ _ _=>rfl) (fun _ _=>rfl)
def IJ(a:Query):Nat:=a.a_.length+(jh zT) a.aL
theorem axA:Sz RS IJ ag5:=by
 intro a ⟨aBl,ay0⟩ left hl hm
 unfold RS
 have ht:IJ a=a.a_.length+(jh zT) a.aL:=rfl
 obtain⟨n1,e1,h1⟩:=Co a.a_ aBl _ hl hm
 rw[e1,acs]
 try dsimp only at h1
 rcases h1 with⟨rfl,p1⟩|p1
 rotate_left
 · rw[atV (by simpa using p1)]; exact⟨-1,rfl,.inr (by omega)⟩
 rw[aqA (by simp only[ag3]; omega)]
 obtain⟨n2,e2,h2⟩:=axz a.aL ay0 _ p1 (by omega)
 rw[e2,acs]
 try dsimp only at h2
 rcases h2 with⟨rfl,p2⟩|p2
 rotate_left
 · rw[atV (by simpa using p2)]; exact⟨-1,rfl,.inr (by omega)⟩
 rw[aqA (by simp only[ag3]; omega)]
 exact⟨_,rfl,.inl ⟨by rw[ht]<;>omega,p2⟩⟩
theorem yx:∀(a:List Int),(aZ gz) a->xc a=some a:=
 BF (fun _=>rfl) (fun _ _=>rfl) (fun x r k c hx hk=>by
   rw[Y6]
   simp[j5,hk])
def kT(a:Method):Prop:=(aZ gz) a.bg
theorem zR(a:Method)(h:kT a):Rj a=some a:=by
 have aKO:(aZ gz) a.bg:=h
 simp (disch:=assumption) only[Rj,yx,acs]
theorem Bz:∀(a:List Method),(aZ kT) a->Y7 a=some a:=
 BF (fun _=>rfl) (fun _ _=>rfl) (fun x r k c hx hk=>by
   rw[Yb]
   rw[zR _ hx]
   simp[j5,hk])
def Cq(a:bO):Prop:=(aZ gz) a.Map
theorem Cr(a:bO)(h:Cq a):Sr a=some a:=by
 have aLH:(aZ gz) a.Map:=h
 simp (disch:=assumption) only[Sr,yx,acs]
theorem Fx:∀(a:List bO),(aZ Cq) a->ZF a=some a:=
 BF (fun _=>rfl) (fun _ _=>rfl) (fun x r k c hx hk=>by
   rw[YI]
   rw[Cr _ hx]
   simp[j5,hk])
theorem FB(a:aj)(h:fV a):Su a=some a:=by
 have avY:(aZ gz) a.Values:=h
 simp (disch:=assumption) only[Su,yx,acs]
theorem IX:∀(a:List aj),(aZ fV) a->RU a=some a:=
 BF (fun _=>rfl) (fun _ _=>rfl) (fun x r k c hx hk=>by
   rw[YJ]
   rw[FB _ hx]
   simp[j5,hk])
def BC(a:Source):Prop:=(aZ fV) a.Facts
theorem M3(a:Source)(h:BC a):Rk a=some a:=by
 have ZN:(aZ fV) a.Facts:=h
 simp (disch:=assumption) only[Rk,IX,acs]
theorem M4(a:ag)(h:rV a):Mr a=some a:=by
 have avY:(aZ gz) a.Values:=h
 simp (disch:=assumption) only[Mr,yx,acs]
def nW(a:aS):Prop:=rV a.ag/\(aZ fV) a.Facts
theorem Sd(a:aS)(h:nW a):Rl a=some a:=by
 have avZ:rV a.ag:=h.1
 have aIB:(aZ gz) a.ag.Values:=avZ
 have ZN:(aZ fV) a.Facts:=h.2
 simp (disch:=assumption) only[Rl,M4,IX,acs]
theorem Zu:∀(a:List aS),(aZ nW) a->Y8 a=some a:=
 BF (fun _=>rfl) (fun _ _=>rfl) (fun x r k c hx hk=>by
   rw[Yc]
   rw[Sd _ hx]
   simp[j5,hk])
def uj(a:Cache):Prop:=(aZ nW) a.Entries
theorem ad_(a:Cache)(h:uj a):RV a=some a:=by
 have adn:(aZ nW) a.Entries:=h
 simp (disch:=assumption) only[RV,Zu,acs]
theorem adF:∀(a:List ag),(aZ rV) a->Y9 a=some a:=
 BF (fun _=>rfl) (fun _ _=>rfl) (fun x r k c hx hk=>by
   rw[Yd]
   rw[M4 _ hx]
   simp[j5,hk])
theorem ZU:∀(a:List (List Int)),(aZ (aZ gz)) a->ZG a=some a:=
 BF (fun _=>rfl) (fun _ _=>rfl) (fun x r k c hx hk=>by
   rw[YK]
   rw[yx _ hx]
   simp[j5,hk])
theorem adP:∀(a:List (List (List Int))),(aZ (aZ (aZ gz))) a->Zp a=some a:=
 BF (fun _=>rfl) (fun _ _=>rfl) (fun x r k c hx hk=>by
   rw[Yo]
   rw[ZU _ hx]
   simp[j5,hk])
def uX(a:bU):Prop:=(aZ gz) a.bA/\(aZ kT) a.Methods/\(aZ Cq) a.bV/\BC a.Source/\uj a.Cache/\(aZ rV) a.bD/\(aZ gz) a.dh/\(aZ (aZ (aZ gz))) a.bX
theorem ado(a:bU)(h:uX a):EJ a=some a:=by
 have adG:(aZ gz) a.bA:=h.1
 have adp:(aZ kT) a.Methods:=h.2.1
 have adQ:(aZ Cq) a.bV:=h.2.2.1
 have MK:BC a.Source:=h.2.2.2.1
 have aje:(aZ fV) a.Source.Facts:=MK
 have M5:uj a.Cache:=h.2.2.2.2.1
 have ai9:(aZ nW) a.Cache.Entries:=M5
 have aez:(aZ rV) a.bD:=h.2.2.2.2.2.1
 have adR:(aZ gz) a.dh:=h.2.2.2.2.2.2.1
 have adq:(aZ (aZ (aZ gz))) a.bX:=h.2.2.2.2.2.2.2
 simp (disch:=assumption) only[EJ,adF,ad_,yx,adP,Bz,Fx,M3,acs]
def Ny(a:aJ):Prop:=(aZ gz) a.Terms
theorem am'(a:aJ)(h:Ny a):Sw a=some a:=by
 have aKQ:(aZ gz) a.Terms:=h
 simp (disch:=assumption) only[Sw,yx,acs]
theorem axB:∀(a:List aJ),(aZ Ny) a->ZH a=some a:=
 BF (fun _=>rfl) (fun _ _=>rfl) (fun x r k c hx hk=>by
   rw[YL]
   rw[am' _ hx]
   simp[j5,hk])
def ad'(a:Query):Prop:=(aZ gz) a.a_/\(aZ Ny) a.aL
theorem axC(a:Query)(h:ad' a):E8 a=some a:=by
 have axD:(aZ gz) a.a_:=h.1
 have awO:(aZ Ny) a.aL:=h.2
 simp (disch:=assumption) only[E8,axB,yx,acs]
theorem yz:∀(a:List Int),xe a a=some true:=
 BG (fun _ _=>rfl) (fun _ _=>rfl) (fun b x r k h=>by
   rw[Y_,gG,h]
   simp)
theorem zS(a:Method):Rm a a=some true:=by simp[Rm,yz]
theorem BA:∀(a:List Method),Za a a=some true:=
 BG (fun _ _=>rfl) (fun _ _=>rfl) (fun b x r k h=>by
   rw[Ye,gG,h]
   simp[zS])
theorem Cs(a:bO):Sy a a=some true:=by simp[Sy,yz]
theorem Fy:∀(a:List bO),ZI a a=some true:=
 BG (fun _ _=>rfl) (fun _ _=>rfl) (fun b x r k h=>by
   rw[YN,gG,h]
   simp[Cs])
theorem FC(a:aj):SA a a=some true:=by simp[SA,yz]
theorem IY:∀(a:List aj),RX a a=some true:=
 BG (fun _ _=>rfl) (fun _ _=>rfl) (fun b x r k h=>by
   rw[YO,gG,h]
   simp[FC])
theorem M6(a:Source):Rn a a=some true:=by simp[Rn,IY]
theorem M7(a:ag):Ms a a=some true:=by simp[Ms,yz]
theorem Sg(a:aS):Rp a a=some true:=by simp[Rp,M7,IY]
theorem Zv:∀(a:List aS),Zb a a=some true:=
 BG (fun _ _=>rfl) (fun _ _=>rfl) (fun b x r k h=>by
   rw[Yf,gG,h]
   simp[Sg])
theorem aea(a:Cache):RY a a=some true:=by simp[RY,Zv]
theorem adH:∀(a:List ag),Zc a a=some true:=
 BG (fun _ _=>rfl) (fun _ _=>rfl) (fun b x r k h=>by
   rw[Yg,gG,h]
   simp[M7])
theorem ZV:∀(a:List (List Int)),ZJ a a=some true:=
 BG (fun _ _=>rfl) (fun _ _=>rfl) (fun b x r k h=>by
   rw[YP,gG,h]
   simp[yz])
theorem adS:∀(a:List (List (List Int))),Zq a a=some true:=
 BG (fun _ _=>rfl) (fun _ _=>rfl) (fun b x r k h=>by
   rw[Yp,gG,h]
   simp[ZV])
theorem adr(a:bU):EK a a=some true:=by simp[EK,adH,aea,yz,adS,BA,Fy,M6]
theorem ana(a:aJ):SB a a=some true:=by simp[SB,yz]
theorem axE:∀(a:List aJ),ZK a a=some true:=
 BG (fun _ _=>rfl) (fun _ _=>rfl) (fun b x r k h=>by
   rw[YQ,gG,h]
   simp[ana])
theorem axF(a:Query):RZ a a=some true:=by simp[RZ,axE,yz]
theorem wW:∀(a:List Int)(k:Int),(aZ gz) a->0<=k->k+(bq (fun _=>1) a:Int)<4611686018427387904->vT a k=some (k+bq (fun _=>1) a,gH (fun _ k=>k) (fun _=>1) k a):=
 Bt (fun _ _=>rfl) (fun m c k j h=>by rw[P8,aqA (by simp; omega)]) (fun m c k j x e hl hj hp hk hm=>by
   rw[P8,atV (by simp; omega)]
   simp (disch:=first|omega|assumption|(simp only[aRK]; omega)) only[al4 (show (decide (0<=(j:Int))&&decide ((j:Int)<(c.length:Int)))=true by simp; omega),di,aRc,acs,aQU,av2])
def mY(a:Method):Nat:=1+bq (fun _=>1) a.bg+1+1+1
def RI(a:Method)(k:Int):Method:={aD:=k,bg:=gH (fun _ k=>k) (fun _=>1) (k+1) a.bg,Limit:=k+1+bq (fun _=>1) a.bg,bK:=k+1+bq (fun _=>1) a.bg+1,gW:=k+1+bq (fun _=>1) a.bg+1+1}
theorem yg:∀(a:List Method)(k:Int),(aZ kT) a->0<=k->k+(bq mY a:Int)<4611686018427387904->Yq a k=some (k+bq mY a,gH RI mY k a):=
 Bt (fun _ _=>rfl) (fun m c k j h=>by rw[Pi,aqA (by simp; omega)]) (fun m c k j x e hl hj hp hk hm=>by
   have e':ix c (j:Int)=some x:=by rw[gG,e]
   have av_:(aZ gz) x.bg:=hp
   simp only[mY,aQU,av2]at hm ⊢
   rw[Pi,atV (by simp; omega)]
   simp (disch:=first|omega|assumption|(simp only[aRK]; omega)) only[e',wW,RI,CS,aSf,di,aRc,acs,aRn])
def nL(a:bO):Nat:=1+1+bq (fun _=>1) a.Map
def SQ(a:bO)(k:Int):bO:={From:=k,To:=k+1,Map:=gH (fun _ k=>k) (fun _=>1) (k+1+1) a.Map}
theorem zO:∀(a:List bO)(k:Int),(aZ Cq) a->0<=k->k+(bq nL a:Int)<4611686018427387904->Zd a k=some (k+bq nL a,gH SQ nL k a):=
 Bt (fun _ _=>rfl) (fun m c k j h=>by rw[PK,aqA (by simp; omega)]) (fun m c k j x e hl hj hp hk hm=>by
   have e':ix c (j:Int)=some x:=by rw[gG,e]
   have ay1:(aZ gz) x.Map:=hp
   simp only[nL,aQU,av2]at hm ⊢
   rw[PK,atV (by simp; omega)]
   simp (disch:=first|omega|assumption|(simp only[aRK]; omega)) only[e',wW,SQ,CS,aSf,di,aRc,acs,aRn])
def nM(a:aj):Nat:=1+bq (fun _=>1) a.Values
def Nt(a:aj)(k:Int):aj:={aD:=k,Values:=gH (fun _ k=>k) (fun _=>1) (k+1) a.Values}
theorem BB:∀(a:List aj)(k:Int),(aZ fV) a->0<=k->k+(bq nM a:Int)<4611686018427387904->QN a k=some (k+bq nM a,gH Nt nM k a):=
 Bt (fun _ _=>rfl) (fun m c k j h=>by rw[PL,aqA (by simp; omega)]) (fun m c k j x e hl hj hp hk hm=>by
   have e':ix c (j:Int)=some x:=by rw[gG,e]
   have adI:(aZ gz) x.Values:=hp
   simp only[nM,aQU,av2]at hm ⊢
   rw[PL,atV (by simp; omega)]
   simp (disch:=first|omega|assumption|(simp only[aRK]; omega)) only[e',wW,Nt,CS,aSf,di,aRc,acs,aRn])
def oD(a:Source):Nat:=bq nM a.Facts
def EX(a:Source)(k:Int):Source:={Facts:=gH Nt nM (k) a.Facts,Version:=a.Version}
theorem ER(a:Source)(k:Int)(h:BC a)(hk:0<=k)(hm:k+(oD a:Int)<4611686018427387904):Qo a k=some (k+oD a,EX a k):=by
 have ZN:(aZ fV) a.Facts:=h
 simp only[oD]at hm ⊢
 simp (disch:=first|omega|assumption|(simp only[oD,aQU,av2]; omega)) only[Qo,EX,BB,acs]
def kG(a:ag):Nat:=1+bq (fun _=>1) a.Values
def EY(a:ag)(k:Int):ag:={Method:=k,Values:=gH (fun _ k=>k) (fun _=>1) (k+1) a.Values}
def qg(a:aS):Nat:=kG a.ag+bq nM a.Facts+1
def RJ(a:aS)(k:Int):aS:={ag:=EY a.ag (k),Facts:=gH Nt nM (k+kG a.ag) a.Facts,At:=k+kG a.ag+bq nM a.Facts}
theorem Ib:∀(a:List aS)(k:Int),(aZ nW) a->0<=k->k+(bq qg a:Int)<4611686018427387904->Yr a k=some (k+bq qg a,gH RJ qg k a):=
 Bt (fun _ _=>rfl) (fun m c k j h=>by rw[Pj,aqA (by simp; omega)]) (fun m c k j x e hl hj hp hk hm=>by
   have e':ix c (j:Int)=some x:=by rw[gG,e]
   have adJ:rV x.ag:=hp.1
   have asg:(aZ gz) x.ag.Values:=adJ
   have awP:(aZ fV) x.Facts:=hp.2
   simp only[kG,qg,aQU,av2]at hm ⊢
   rw[Pj,atV (by simp; omega)]
   simp (disch:=first|omega|assumption|(simp only[aRK]; omega)) only[e',BB,wW,EY,RJ,kG,CS,aSf,di,aRc,acs,aQU,av2,aRn])
def nX(a:Cache):Nat:=bq qg a.Entries
def Fe(a:Cache)(k:Int):Cache:={Entries:=gH RJ qg (k) a.Entries,Age:=a.Age}
theorem ML(a:Cache)(k:Int)(h:uj a)(hk:0<=k)(hm:k+(nX a:Int)<4611686018427387904):QO a k=some (k+nX a,Fe a k):=by
 have adn:(aZ nW) a.Entries:=h
 simp only[nX]at hm ⊢
 simp (disch:=first|omega|assumption|(simp only[nX,aQU,av2]; omega)) only[QO,Fe,Ib,acs]
theorem QI:∀(a:List ag)(k:Int),(aZ rV) a->0<=k->k+(bq kG a:Int)<4611686018427387904->Yt a k=some (k+bq kG a,gH EY kG k a):=
 Bt (fun _ _=>rfl) (fun m c k j h=>by rw[Pk,aqA (by simp; omega)]) (fun m c k j x e hl hj hp hk hm=>by
   have e':ix c (j:Int)=some x:=by rw[gG,e]
   have adI:(aZ gz) x.Values:=hp
   simp only[kG,aQU,av2]at hm ⊢
   rw[Pk,atV (by simp; omega)]
   simp (disch:=first|omega|assumption|(simp only[aRK]; omega)) only[e',wW,EY,CS,aSf,di,aRc,acs,aRn])
theorem Zw:∀(a:List (List Int))(k:Int),(aZ (aZ gz)) a->0<=k->k+(bq (bq (fun _=>1)) a:Int)<4611686018427387904->Ze a k=some (k+bq (bq (fun _=>1)) a,gH (fun l k=>gH (fun _ k=>k) (fun _=>1) k l) (bq (fun _=>1)) k a):=
 Bt (fun _ _=>rfl) (fun m c k j h=>by rw[PM,aqA (by simp; omega)]) (fun m c k j x e hl hj hp hk hm=>by
   have e':ix c (j:Int)=some x:=by rw[gG,e]
   rw[PM,atV (by simp; omega)]
   simp (disch:=first|omega|assumption|(simp only[aRK]; omega)) only[e',wW,di,aRc,acs,aQU,av2])
theorem ads:∀(a:List (List (List Int)))(k:Int),(aZ (aZ (aZ gz))) a->0<=k->k+(bq (bq (bq (fun _=>1))) a:Int)<4611686018427387904->YR a k=some (k+bq (bq (bq (fun _=>1))) a,gH (fun l k=>gH (fun l k=>gH (fun _ k=>k) (fun _=>1) k l) (bq (fun _=>1)) k l) (bq (bq (fun _=>1))) k a):=
 Bt (fun _ _=>rfl) (fun m c k j h=>by rw[Pw,aqA (by simp; omega)]) (fun m c k j x e hl hj hp hk hm=>by
   have e':ix c (j:Int)=some x:=by rw[gG,e]
   rw[Pw,atV (by simp; omega)]
   simp (disch:=first|omega|assumption|(simp only[aRK]; omega)) only[e',Zw,di,aRc,acs,aQU,av2])
def rU(a:bU):Nat:=bq (fun _=>1) a.bA+bq mY a.Methods+bq nL a.bV+oD a.Source+nX a.Cache+bq kG a.bD+bq (fun _=>1) a.dh+bq (bq (bq (fun _=>1))) a.bX
def wV(a:bU)(k:Int):bU:={bA:=gH (fun _ k=>k) (fun _=>1) (k) a.bA,Methods:=gH RI mY (k+bq (fun _=>1) a.bA) a.Methods,bV:=gH SQ nL (k+bq (fun _=>1) a.bA+bq mY a.Methods) a.bV,Source:=EX a.Source (k+bq (fun _=>1) a.bA+bq mY a.Methods+bq nL a.bV),Cache:=Fe a.Cache (k+bq (fun _=>1) a.bA+bq mY a.Methods+bq nL a.bV+oD a.Source),Now:=a.Now,bD:=gH EY kG (k+bq (fun _=>1) a.bA+bq mY a.Methods+bq nL a.bV+oD a.Source+nX a.Cache) a.bD,dh:=gH (fun _ k=>k) (fun _=>1) (k+bq (fun _=>1) a.bA+bq mY a.Methods+bq nL a.bV+oD a.Source+nX a.Cache+bq kG a.bD) a.dh,bI:=a.bI,bX:=gH (fun l k=>gH (fun l k=>gH (fun _ k=>k) (fun _=>1) k l) (bq (fun _=>1)) k l) (bq (bq (fun _=>1))) (k+bq (fun _=>1) a.bA+bq mY a.Methods+bq nL a.bV+oD a.Source+nX a.Cache+bq kG a.bD+bq (fun _=>1) a.dh) a.bX}
theorem YD(a:bU)(k:Int)(h:uX a)(hk:0<=k)(hm:k+(rU a:Int)<4611686018427387904):Lj a k=some (k+rU a,wV a k):=by
 have adG:(aZ gz) a.bA:=h.1
 have adp:(aZ kT) a.Methods:=h.2.1
 have adQ:(aZ Cq) a.bV:=h.2.2.1
 have MK:BC a.Source:=h.2.2.2.1
 have aje:(aZ fV) a.Source.Facts:=MK
 have M5:uj a.Cache:=h.2.2.2.2.1
 have ai9:(aZ nW) a.Cache.Entries:=M5
 have aez:(aZ rV) a.bD:=h.2.2.2.2.2.1
 have adR:(aZ gz) a.dh:=h.2.2.2.2.2.2.1
 have adq:(aZ (aZ (aZ gz))) a.bX:=h.2.2.2.2.2.2.2
 simp only[nX,rU,oD,aQU]at hm ⊢
 simp (disch:=first|omega|assumption|(simp only[nX,rU,oD,aQU,av2]; omega)) only[Lj,Fe,wV,EX,nX,oD,QI,ML,wW,ads,yg,zO,ER,acs,aRn]
def BR(a:aJ):Nat:=1+bq (fun _=>1) a.Terms
def aeb(a:aJ)(k:Int):aJ:={aD:=k,Terms:=gH (fun _ k=>k) (fun _=>1) (k+1) a.Terms}
theorem av':∀(a:List aJ)(k:Int),(aZ Ny) a->0<=k->k+(bq BR a:Int)<4611686018427387904->Zf a k=some (k+bq BR a,gH aeb BR k a):=
 Bt (fun _ _=>rfl) (fun m c k j h=>by rw[PN,aqA (by simp; omega)]) (fun m c k j x e hl hj hp hk hm=>by
   have e':ix c (j:Int)=some x:=by rw[gG,e]
   have aKR:(aZ gz) x.Terms:=hp
   simp only[BR,aQU,av2]at hm ⊢
   rw[PN,atV (by simp; omega)]
   simp (disch:=first|omega|assumption|(simp only[aRK]; omega)) only[e',wW,aeb,CS,aSf,di,aRc,acs,aRn])
def Ff(a:Query):Nat:=bq (fun _=>1) a.a_+bq BR a.aL
def alC(a:Query)(k:Int):Query:={a_:=gH (fun _ k=>k) (fun _=>1) (k) a.a_,aL:=gH aeb BR (k+bq (fun _=>1) a.a_) a.aL}
theorem awc(a:Query)(k:Int)(h:ad' a)(hk:0<=k)(hm:k+(Ff a:Int)<4611686018427387904):QP a k=some (k+Ff a,alC a k):=by
 have axD:(aZ gz) a.a_:=h.1
 have awO:(aZ Ny) a.aL:=h.2
 simp only[Ff,aQU]at hm ⊢
 simp (disch:=first|omega|assumption|(simp only[Ff,aQU,av2]; omega)) only[QP,alC,av',wW,acs,aRn]
theorem BD:∀(a:List Int)(k:Int),(aZ gz) a->0<=k->k+(bq (fun _=>1) a:Int)<4611686018427387904->yj (gH (fun _ k=>k) (fun _=>1) k a) k=some (k+bq (fun _=>1) a):=
 ES (fun _ _=>rfl) (fun _ _=>rfl) (fun x r n k hp hk hm=>by
   simp (disch:=first|omega|assumption) only[Yu,di,aRH,av0,aQ9,av2])
theorem Ic:∀(a:List Method)(k:Int),(aZ kT) a->0<=k->k+(bq mY a:Int)<4611686018427387904->Yv (gH RI mY k a) k=some (k+bq mY a):=
 ES (fun _ _=>rfl) (fun _ _=>rfl) (fun x r n k hp hk hm=>by
   have av_:(aZ gz) x.bg:=hp
   simp only[mY,aQU,av2]at hm ⊢
   simp (disch:=first|omega|assumption) only[XX,RI,BD,di,aRH,av0,aQ9,qU,acs,aRn])
theorem MM:∀(a:List bO)(k:Int),(aZ Cq) a->0<=k->k+(bq nL a:Int)<4611686018427387904->Zg (gH SQ nL k a) k=some (k+bq nL a):=
 ES (fun _ _=>rfl) (fun _ _=>rfl) (fun x r n k hp hk hm=>by
   have ay1:(aZ gz) x.Map:=hp
   simp only[nL,aQU,av2]at hm ⊢
   simp (disch:=first|omega|assumption) only[Yh,SQ,BD,di,aRH,av0,aQ9,qU,acs,aRn])
theorem RL:∀(a:List aj)(k:Int),(aZ fV) a->0<=k->k+(bq nM a:Int)<4611686018427387904->QQ (gH Nt nM k a) k=some (k+bq nM a):=
 ES (fun _ _=>rfl) (fun _ _=>rfl) (fun x r n k hp hk hm=>by
   have adI:(aZ gz) x.Values:=hp
   simp only[nM,aQU,av2]at hm ⊢
   simp (disch:=first|omega|assumption) only[Yi,Nt,BD,di,aRH,av0,aQ9,qU,acs,aRn])
theorem Ra(a:Source)(k:Int)(h:BC a)(hk:0<=k)(hm:k+(oD a:Int)<4611686018427387904):Qp (EX a k) k=some (k+oD a):=by
 have ZN:(aZ fV) a.Facts:=h
 simp only[oD]at hm ⊢
 simp only[Qp,EX]
 rw[RL a.Facts (k) ZN (by omega) (by omega),acs,qU (by omega)]
 try simp only[aRn]
theorem Y0:∀(a:List aS)(k:Int),(aZ nW) a->0<=k->k+(bq qg a:Int)<4611686018427387904->Yw (gH RJ qg k a) k=some (k+bq qg a):=
 ES (fun _ _=>rfl) (fun _ _=>rfl) (fun x r n k hp hk hm=>by
   have adJ:rV x.ag:=hp.1
   have asg:(aZ gz) x.ag.Values:=adJ
   have awP:(aZ fV) x.Facts:=hp.2
   simp only[kG,qg,aQU,av2]at hm ⊢
   simp (disch:=first|omega|assumption) only[XY,EY,RJ,kG,RL,BD,di,aRH,av0,aQ9,qU,acs,aQU,av2,aRn])
theorem Zx(a:Cache)(k:Int)(h:uj a)(hk:0<=k)(hm:k+(nX a:Int)<4611686018427387904):QR (Fe a k) k=some (k+nX a):=by
 have adn:(aZ nW) a.Entries:=h
 simp only[nX]at hm ⊢
 simp only[QR,Fe]
 rw[Y0 a.Entries (k) adn (by omega) (by omega),acs,qU (by omega)]
 try simp only[aRn]
theorem adc:∀(a:List ag)(k:Int),(aZ rV) a->0<=k->k+(bq kG a:Int)<4611686018427387904->Yx (gH EY kG k a) k=some (k+bq kG a):=
 ES (fun _ _=>rfl) (fun _ _=>rfl) (fun x r n k hp hk hm=>by
   have adI:(aZ gz) x.Values:=hp
   simp only[kG,aQU,av2]at hm ⊢
   simp (disch:=first|omega|assumption) only[XZ,EY,BD,di,aRH,av0,aQ9,qU,acs,aRn])
theorem awd:∀(a:List (List Int))(k:Int),(aZ (aZ gz)) a->0<=k->k+(bq (bq (fun _=>1)) a:Int)<4611686018427387904->Zh (gH (fun l k=>gH (fun _ k=>k) (fun _=>1) k l) (bq (fun _=>1)) k a) k=some (k+bq (bq (fun _=>1)) a):=
 ES (fun _ _=>rfl) (fun _ _=>rfl) (fun x r n k hp hk hm=>by
   simp (disch:=first|omega|assumption) only[Yj,BD,qU,acs])
theorem avr:∀(a:List (List (List Int)))(k:Int),(aZ (aZ (aZ gz))) a->0<=k->k+(bq (bq (bq (fun _=>1))) a:Int)<4611686018427387904->YS (gH (fun l k=>gH (fun l k=>gH (fun _ k=>k) (fun _=>1) k l) (bq (fun _=>1)) k l) (bq (bq (fun _=>1))) k a) k=some (k+bq (bq (bq (fun _=>1))) a):=
 ES (fun _ _=>rfl) (fun _ _=>rfl) (fun x r n k hp hk hm=>by
   simp (disch:=first|omega|assumption) only[X6,awd,qU,acs])
theorem at1(a:bU)(k:Int)(h:uX a)(hk:0<=k)(hm:k+(rU a:Int)<4611686018427387904):Hf (wV a k) k=some (k+rU a):=by
 have adG:(aZ gz) a.bA:=h.1
 have adp:(aZ kT) a.Methods:=h.2.1
 have adQ:(aZ Cq) a.bV:=h.2.2.1
 have MK:BC a.Source:=h.2.2.2.1
 have aje:(aZ fV) a.Source.Facts:=MK
 have M5:uj a.Cache:=h.2.2.2.2.1
 have ai9:(aZ nW) a.Cache.Entries:=M5
 have aez:(aZ rV) a.bD:=h.2.2.2.2.2.1
 have adR:(aZ gz) a.dh:=h.2.2.2.2.2.2.1
 have adq:(aZ (aZ (aZ gz))) a.bX:=h.2.2.2.2.2.2.2
 simp only[nX,rU,oD,aQU]at hm ⊢
 simp only[Hf,Fe,wV,EX,nX,oD]
 rw[BD a.bA (k) adG (by omega) (by omega),acs,qU (by omega)]
 rw[Ic a.Methods (k+bq (fun _=>1) a.bA) adp (by omega) (by omega),acs,qU (by omega)]
 rw[MM a.bV (k+bq (fun _=>1) a.bA+bq mY a.Methods) adQ (by omega) (by omega),acs,qU (by omega)]
 have alD:=Ra a.Source (k+bq (fun _=>1) a.bA+bq mY a.Methods+bq nL a.bV) MK (by omega) (by simp only[oD]; omega)
 simp only[EX,oD]at alD
 rw[alD,acs,qU (by omega)]
 have amd:=Zx a.Cache (k+bq (fun _=>1) a.bA+bq mY a.Methods+bq nL a.bV+bq nM a.Source.Facts) M5 (by omega) (by simp only[nX]; omega)
 simp only[Fe,nX]at amd
 rw[amd,acs,qU (by omega)]
 rw[adc a.bD (k+bq (fun _=>1) a.bA+bq mY a.Methods+bq nL a.bV+bq nM a.Source.Facts+bq qg a.Cache.Entries) aez (by omega) (by omega),acs,qU (by omega)]
 rw[BD a.dh (k+bq (fun _=>1) a.bA+bq mY a.Methods+bq nL a.bV+bq nM a.Source.Facts+bq qg a.Cache.Entries+bq kG a.bD) adR (by omega) (by omega),acs,qU (by omega)]
 rw[avr a.bX (k+bq (fun _=>1) a.bA+bq mY a.Methods+bq nL a.bV+bq nM a.Source.Facts+bq qg a.Cache.Entries+bq kG a.bD+bq (fun _=>1) a.dh) adq (by omega) (by omega),acs,qU (by omega)]
 try simp only[aRn]
end Go.Proofs.YtlnefhbbbikmgabGreat
/-
 Plain laws.
-/
set_option maxRecDepth 100000
set_option linter.unusedVariables false
namespace Go.Proofs.YtlnefhbbbikmgabGreat
open Go Go.Fw
theorem adt(a b:List Int):Nn a b=some (uM (fun x y=>x==y) a b):=
 amM (L:=Q3) (f:=fun x y=>some (x==y)) (fun _ _=>rfl) (fun _ _=>rfl) (fun b x r k y h=>by rw[Q3,gG,h]; rfl) a b (fun _ _ _ _=>rfl)
theorem acn(a b:List Int):KT a b=some (uM (fun x y=>x==y) a b):=
 amM (L:=O5) (f:=fun x y=>some (x==y)) (fun _ _=>rfl) (fun _ _=>rfl) (fun b x r k y h=>by rw[O5,gG,h]; rfl) a b (fun _ _ _ _=>rfl)
def ql:List Int->List Int->Bool:=uM (fun x y=>x==y)
theorem acp(x y:Int):G6 x y=some (kw x y):=by
 simp only[G6,ED,acs,kw,aRH,av0,aQ9,ag3]
 split
 · rfl
 · split<;>rfl
theorem aiS(s1 b:List Int):∀(l:List Int)(k:Nat),s1.drop k=l->k<=s1.length->KP s1 b l k=some (cmpL l (b.drop k))
 |[],k,hd,hk=>by
   have h1:s1.length<=k:=List.drop_eq_nil_iff.1 hd
   rw[KP]
   cases hb:b.drop k with
   |nil=>
     have h2:b.length<=k:=List.drop_eq_nil_iff.1 hb
     rw[aqA (by simp; omega)]; rfl
   |cons y t=>
     have h2:k<b.length:=(kH hb).1
     rw[atV (by simp; omega)]; rfl
 |x::r,k,hd,hk=>by
   have h1:k<s1.length:=(kH hd).1
   rw[KP]
   cases hb:b.drop k with
   |nil=>
     have h2:b.length<=k:=List.drop_eq_nil_iff.1 hb
     rw[atV (by simp; omega)]; rfl
   |cons y t=>
     have h2:k<b.length:=(kH hb).1
     obtain⟨e1,e2⟩:=M9 hb
     rw[aqA (by simp; omega),gG,e1,acs,acp,acs,cmpL]
     split
     · rfl
     · rw[aiS s1 b r (k+1) (M9 hd).2 h1,e2]
theorem acv(a b:List Int):GV a b=some (cmpL a b):=by
 have:=aiS a b a 0 rfl (by omega)
 simpa[GV]using this
theorem akg(x y:Int):LU [x,y]=some (if x !=0 then x else y):=by
 simp only[LU,X8]
 split
 · rfl
 · split
   · rfl
   · rename_i h; simp at h; rw[h]
def kg(a b:aj):Int:=if kw a.aD b.aD !=0 then kw a.aD b.aD else cmpL a.Values b.Values
theorem acy(a b:aj):Hm a b=some (kg a b):=by
 simp only[Hm,acp,acv,acs,akg,kg]
theorem aiV(a b:aj)(ha:a.Values.length<4294967296):∀(m k:Nat),k<=a.Values.length->k<=b.Values.length->a.Values.length<k+m->K5 a b m k=some (cmpL (a.Values.drop k) (b.Values.drop k))
 |0,k,h1,_,h2=>by omega
 |m+1,k,h1,h1',h2=>by
   rw[K5]
   by_cases h:k<a.Values.length/\k<b.Values.length
   · rw[atV (by simp[h.1,h.2])]
     simp only[gG,apA h.1,apA h.2,acs]
     rw[aQV h.1,aQV h.2,cmpL,kw]
     by_cases e1:a.Values[k]<b.Values[k]
     · simp[e1]
     · rw[aqA (by simpa using e1)]
       by_cases e2:b.Values[k]<a.Values[k]
       · simp[e1,e2]
       · rw[aqA (by simpa using e2),aqA e1,aqA e2,show ((k:Int)+1)=((k+1:Nat):Int)from rfl,ZR (by omega),aiV a b ha m (k+1) h.1 h.2 (by omega)]
         simp
   · rw[aqA (by simp only[age,ag3]; omega)]
     by_cases h3:k<b.Values.length
     · have:k=a.Values.length:=by omega
       subst this
       rw[atV (by simp; omega),aRj (aQT _),aQV h3]; rfl
     · rw[aRj (show b.Values.length<=k by omega),aqA (by simp; omega)]
       by_cases h4:k<a.Values.length
       · rw[atV (by simp; omega),aQV h4]; rfl
       · rw[aqA (by simp; omega),aRj (by omega)]; rfl
theorem acz(a b:aj)(ha:a.Values.length<4294967296):Hg a b=some (kg a b):=by
 unfold Hg kg kw
 by_cases h:a.aD=b.aD
 · rw[aqA (by simp[h])]
   have:=aiV a b ha (((a.Values.length:Int)-0).toNat+2) 0 (by omega) (by omega) (by omega)
   rw[show K5 a b (((a.Values.length:Int)-0).toNat+2) 0=_ from this]
   simp[h]
 · rw[atV (by simpa using h)]
   by_cases h2:a.aD<b.aD
   · simp[h2]
   · have:b.aD<a.aD:=by omega
     simp[h2,this]
def lU(a b:ag):Bool:=a.Method==b.Method&&ql a.Values b.Values
theorem akI(a b:ag):Nq a b=some (lU a b):=by
 simp only[Nq,adt,lU,ql,acs]
 generalize (a.Method==b.Method)=b1
 cases b1<;>rfl
theorem acM(a b:ag):Ia a b=some (lU a b):=by
 simp only[Ia,acn,lU,ql,acs]
 generalize (a.Method==b.Method)=b1
 cases b1<;>rfl
theorem uW(a:List Int)(h:a.length<4294967296):rT a=some a:=by simp[rT,kK h]
theorem acN(a:ag)(h:rV a):Bo a=some a:=by simp[Bo,uW _ h.1]
theorem ash(l:List ag)(h:aZ rV l):Yk l=some l:=
 IP (L:=Pb) (fun _ _=>rfl) (fun x r k c hx hc=>by rw[Pb,acN x hx,acs,app1 hc,acs]) l h
theorem YE(m:Int)(v:List Int)(h:v.length<4294967296):ET m v=some {Method:=m,Values:=v}:=by simp[ET,kK h]
def zt(n:Int):Bool:=decide (1<=n)&&decide (n<=3)
def jV(s:List Int):Bool:=zt (s.length:Int)&&s.all zt
theorem Bl(s:List Int):vU s=some (jV s):=by
 unfold vU
 rw[BH (L:=P9 s) (f:=fun n=>iR n 1 3) (p:=zt) (e:=zt (s.length:Int)) (fun k=>by simp[P9,iR,zt]) (fun x r k=>rfl) s 0 (fun x _=>rfl),jV,Bool.and_comm]
theorem arI(l:List Int):OY l=some (l.any fun x=>!zt x):=by
 unfold OY XI
 rw[pM (L:=Xv) (f:=fun x=>YW x) (p:=fun x=>!zt x) (fun k=>rfl) (fun x r k=>rfl) l 0 (fun x hx=>rfl),acs,rW]
theorem Qm(s:List Int):Bv s=some (jV s):=by
 unfold Bv
 rw[arI]
 simp only[mG,acs,jV,zt]
 cases hh:(decide (1<=(s.length:Int))&&decide ((s.length:Int)<=3))
 · simp
 · simp[aRs,zt]
theorem akJ{s:List Int}(h:jV s=true):s.length<=3/\ ∀x∈s,1<=x/\x<=3:=by
 simp[jV,zt]at h
 exact⟨by omega,h.2⟩
theorem lV(x lo hi:Int):iR x lo hi=some (aQ lo hi x):=rfl
theorem tu(x lo hi:Int):mG x lo hi=some (aQ lo hi x):=rfl
def jW(s:List Int)(rel:Int):Bool:=jV s&&aQ 0 ((s.length:Int)-1) rel
theorem Zk(s:List Int)(rel:Int)(hs:s.length<4294967296):BN s rel=some (jW s rel):=by
 simp only[BN,Qm,tu,acs,jW]
 rw[di (by omega) (by omega)]
 cases jV s<;>rfl
theorem awe{s:List Int}{rel:Int}(h:jW s rel=true):∃x,ix s rel=some x/\1<=x/\x<=3:=by
 simp only[jW,age]at h
 obtain⟨x,h1,h2⟩:=Te h.2
 exact⟨x,h1,(akJ h.1).2 x (aRh h2)⟩
def lG(s:List Int)(rel:Int):Int:=(ix s rel).getD 0
theorem vB{s:List Int}{rel:Int}(h:jW s rel=true):ix s rel=some (lG s rel)/\1<=lG s rel/\lG s rel<=3:=by
 obtain⟨x,h1,h2⟩:=awe h
 unfold lG
 rw[h1]; exact⟨rfl,h2⟩
def vo(s:List Int)(m:Method):Bool:=jW s m.aD&&(aQ 0 9 m.Limit&&(aQ 0 99 m.bK&&(aQ 1 99 m.gW&&(gJ (fun _=>true) (fun y x=>decide (x<=y)) none m.bg&&m.bg.all (aQ 0 (lG s m.aD-1))))))
theorem at5(s:List Int)(m:Method)(hs:s.length<4294967296)(hm:m.bg.length<4294967296):Mv s m=some (vo s m):=by
 simp only[Mv,Bl,lV,acs]
 rw[di (by omega) (by omega)]
 have hL:jW s m.aD=true->Hr s m m.bg 0=some (gJ (aQ 0 (lG s m.aD-1)) (fun y x=>decide (x<=y)) none m.bg):=fun h=>by
   obtain⟨e1,e2,e3⟩:=vB h
   have:=IQ (L:=Hr s m) (P:=fun _=>True) (p:=aQ 0 (lG s m.aD-1)) (q:=fun y x=>decide (x<=y)) (e:=true) m.bg (fun _ _=>aSq) hm (fun _=>rfl) (fun x r _=>by
     rw[Hr]
     simp only[e1,acs,lV,M_]
     rw[di (by omega) (by omega)]
     cases aQ 0 (lG s m.aD-1) x<;>rfl) (fun x r k y _ _ hy hk=>by
     rw[Hr]
     simp only[e1,acs,lV,Fq,I6 _ k hk,hy]
     rw[di (by omega) (by omega)]
     cases aQ 0 (lG s m.aD-1) x<;>cases decide (x<=y)<;>rfl)
   simpa using this
 unfold vo
 cases hh:jW s m.aD
 · simp only[jW]at hh
   cases h1:jV s
   · rfl
   · rw[h1,aQ5]at hh
     simp[hh]
 · rw[hL hh,Sl]
   simp only[jW,age]at hh
   rw[hh.1,hh.2]
   cases aQ 0 9 m.Limit
   · rfl
   cases aQ 0 99 m.bK
   · rfl
   cases aQ 1 99 m.gW<;>rfl
theorem atq(l:List Int)(hl:l.length<4294967296):Q5 l=some (gJ (fun _=>true) (fun y x=>decide (x<=y)) none l):=by
 have:=IQ (L:=PU l) (P:=fun _=>True) (p:=fun _=>true) (q:=fun y x=>decide (x<=y)) (e:=true) l (fun _ _=>aSq) hl (fun _=>rfl) (fun x r _=>rfl) (fun x r k y _ _ hy hk=>by
     rw[PU]
     simp only[acs,Fq,I6 _ k hk,hy,aRk]
     cases decide (x<=y)<;>rfl)
 simpa[Q5]using this
theorem arF(l:List Int)(a1:Int)(h1:-1000<=a1/\a1<=1000):OW l a1=some (l.any fun x=>!aQ 0 (a1-1) x):=by
 unfold OW XB
 rw[pM (L:=Xp a1) (f:=fun x=>PE x a1) (p:=fun x=>!aQ 0 (a1-1) x) (fun k=>rfl) (fun x r k=>rfl) l 0 (fun x hx=>by rw[PE,tu,di (by omega) (by omega)]; rfl),acs,rW]
theorem akK(n:Int):SF n=some (aQ 0 99 n):=rfl
theorem at6(s:List Int)(m:Method)(hs:s.length<4294967296)(hm:m.bg.length<4294967296):Rz s m=some (vo s m):=by
 simp only[Rz,Zk _ _ hs,acs,vo]
 cases hh:jW s m.aD
 · rfl
 obtain⟨e1,e2,e3⟩:=vB hh
 simp only[e1,acs,YA,atq _ hm,arF _ _ (show -1000<=lG s m.aD/\lG s m.aD<=1000 by omega),tu,akK,aRk,aQ5]
 have e4:(m.bg.any fun x=>!aQ 0 (lG s m.aD-1) x)=!(m.bg.all (aQ 0 (lG s m.aD-1))):=by simp[aRs]
 rw[e4]
 cases gJ (fun _=>true) (fun y x=>decide (x<=y)) none m.bg<;>cases m.bg.all (aQ 0 (lG s m.aD-1))<;>cases aQ 0 9 m.Limit<;>cases aQ 0 99 m.bK<;>cases aQ 1 99 m.gW<;>rfl
def iw(s:List Int)(l:List Method):Bool:=jV s&&(decide ((l.length:Int)<=5)&&l.all (vo s))
theorem X9(s:List Int)(l:List Method)(hs:s.length<4294967296)(hl:aZ kT l):EO s l=some (iw s l):=by
 unfold EO
 rw[BH (L:=Px s l) (f:=fun m=>Mv s m) (p:=vo s) (e:=jV s&&decide ((l.length:Int)<=5)) (fun k=>by
   rw[Px,Bl]
   cases jV s<;>rfl) (fun x r k=>rfl) l 0 (fun x hx=>at5 s x hs (hl.2 x hx).1),iw]
 cases jV s<;>cases decide ((l.length:Int)<=5)<;>cases l.all (vo s)<;>rfl
theorem ary(l:List Method)(s:List Int)(hs:s.length<4294967296)(hl:aZ kT l):OI l s=some (l.any fun x=>!vo s x):=by
 unfold OI WZ
 rw[pM (L:=WW s) (f:=fun x=>PV x s) (p:=fun x=>!vo s x) (fun k=>rfl) (fun x r k=>rfl) l 0 (fun x hx=>by rw[PV,at6 s x hs (hl.2 x hx).1]; rfl),acs,rW]
theorem X_(s:List Int)(l:List Method)(hs:s.length<4294967296)(hl:aZ kT l):EP s l=some (iw s l):=by
 simp only[EP,Qm,acs,ary l s hs hl,iw,aRs]
 cases jV s<;>cases decide ((l.length:Int)<=5)<;>rfl
def Dn(s:List Int)(r:bO):Bool:=jW s r.From&&(jW s r.To&&(((r.Map.length:Int)==lG s r.To)&&r.Map.all (aQ 0 (lG s r.From-1))))
theorem avs(s:List Int)(r:bO)(hs:s.length<4294967296):Nb s r=some (Dn s r):=by
 simp only[Nb,Bl,lV,acs]
 rw[di (by omega) (by omega)]
 have hL:jW s r.From=true->L9 s r r.Map 0=some (r.Map.all (aQ 0 (lG s r.From-1))):=fun h=>by
   obtain⟨e1,e2,e3⟩:=vB h
   have:=BH (L:=L9 s r) (f:=fun x=>some (aQ 0 (lG s r.From-1) x)) (p:=aQ 0 (lG s r.From-1)) (e:=true) (fun _=>rfl) (fun x r' k=>by
     rw[L9]
     simp only[e1,acs,lV]
     rw[di (by omega) (by omega)]) r.Map 0 (fun _ _=>rfl)
   simpa using this
 unfold Dn
 cases hF:jW s r.From
 · simp only[jW]at hF
   cases h1:jV s
   · rfl
   · rw[h1,aQ5]at hF
     simp[hF]
 · cases hT:jW s r.To
   · simp only[jW]at hT hF
     simp only[age]at hF
     rw[hF.1,aQ5]at hT
     simp[hF,hT]
   · obtain⟨e1,-⟩:=vB hT
     rw[hL hF,e1]
     simp only[jW,age]at hF hT
     simp only[hF,hT,aQX,aQ3,acs,bne]
     cases ((r.Map.length:Int)==lG s r.To)<;>rfl
theorem arE(l:List Int)(a1:Int)(h1:-1000<=a1/\a1<=1000):OV l a1=some (l.any fun x=>!aQ 0 (a1-1) x):=by
 unfold OV Xt
 rw[pM (L:=Xo a1) (f:=fun x=>Ps x a1) (p:=fun x=>!aQ 0 (a1-1) x) (fun k=>rfl) (fun x r k=>rfl) l 0 (fun x hx=>by rw[Ps,tu,di (by omega) (by omega)]; rfl),acs,rW]
theorem avt(s:List Int)(r:bO)(hs:s.length<4294967296):SG s r=some (Dn s r):=by
 simp only[SG,Zk _ _ hs,acs,Dn]
 cases hF:jW s r.From
 · rfl
 cases hT:jW s r.To
 · rfl
 obtain⟨e1,e2,e3⟩:=vB hF
 obtain⟨e4,-⟩:=vB hT
 simp only[e1,e4,acs,Yl,arE _ _ (show -1000<=lG s r.From/\lG s r.From<=1000 by omega),aRk,aQ5,aRs]
 cases ((r.Map.length:Int)==lG s r.To)<;>rfl
def Jh(s:List Int)(l:List bO):Bool:=jV s&&(decide ((l.length:Int)<=4)&&l.all (Dn s))
theorem at7(s:List Int)(l:List bO)(hs:s.length<4294967296):Rs s l=some (Jh s l):=by
 unfold Rs
 rw[BH (L:=P_ s l) (f:=fun m=>Nb s m) (p:=Dn s) (e:=jV s&&decide ((l.length:Int)<=4)) (fun k=>by
   rw[P_,Bl]
   cases jV s<;>rfl) (fun x r k=>rfl) l 0 (fun x hx=>avs s x hs),Jh]
 cases jV s<;>cases decide ((l.length:Int)<=4)<;>cases l.all (Dn s)<;>rfl
theorem arB(l:List bO)(s:List Int)(hs:s.length<4294967296):OP l s=some (l.any fun x=>!Dn s x):=by
 unfold OP Xh
 rw[pM (L:=Xc s) (f:=fun x=>QA x s) (p:=fun x=>!Dn s x) (fun k=>rfl) (fun x r k=>rfl) l 0 (fun x hx=>by rw[QA,avt s x hs]; rfl),acs,rW]
theorem aua(s:List Int)(l:List bO)(hs:s.length<4294967296):RA s l=some (Jh s l):=by
 simp only[RA,Qm,acs,arB l s hs,Jh,aRs]
 cases jV s<;>cases decide ((l.length:Int)<=4)<;>rfl
theorem arG(l:List Int):OX l=some (l.any fun x=>!aQ 0 9 x):=by
 unfold OX XG
 rw[pM (L:=Xu) (f:=fun x=>YB x) (p:=fun x=>!aQ 0 9 x) (fun k=>rfl) (fun x r k=>rfl) l 0 (fun x hx=>rfl),acs,rW]
theorem ajP(l:List Int):Mf l=some (l.all (aQ 0 9)):=by
 simp only[Mf,arG,acs,aRs]
def jL(s:List Int)(f:aj):Bool:=jW s f.aD&&(((f.Values.length:Int)==lG s f.aD)&&f.Values.all (aQ 0 9))
theorem akL(s:List Int)(f:aj)(hs:s.length<4294967296):SC s f=some (jL s f):=by
 simp only[SC,Bl,lV,acs]
 rw[di (by omega) (by omega)]
 have hL:QV f.Values 0=some (f.Values.all (aQ 0 9)):=by
   have:=BH (L:=QV) (f:=fun x=>some (aQ 0 9 x)) (p:=aQ 0 9) (e:=true) (fun _=>rfl) (fun x r' k=>rfl) f.Values 0 (fun _ _=>rfl)
   simpa using this
 unfold jL
 cases hF:jW s f.aD
 · simp only[jW]at hF
   cases h1:jV s
   · rfl
   · rw[h1,aQ5]at hF
     simp[hF]
 · obtain⟨e1,-⟩:=vB hF
   rw[hL,e1]
   simp only[jW,age]at hF
   simp only[hF,aQX,aQ3,acs,bne]
   cases ((f.Values.length:Int)==lG s f.aD)<;>rfl
theorem akM(s:List Int)(f:aj)(hs:s.length<4294967296):SH s f=some (jL s f):=by
 simp only[SH,Zk _ _ hs,acs,jL]
 cases hF:jW s f.aD
 · rfl
 obtain⟨e1,-⟩:=vB hF
 simp only[e1,acs,ajP,aRk,aQ5]
 cases ((f.Values.length:Int)==lG s f.aD)<;>rfl
def lY(s:List Int)(l:List aj):Bool:=gJ (jL s) (fun y x=>decide (0<=kg y x)) none l&&(jV s&&decide ((l.length:Int)<=24))
theorem YF(s:List Int)(l:List aj)(hs:s.length<4294967296)(hl:aZ fV l):Mw s l=some (lY s l):=
 IQ (L:=Ht s l) (P:=fV) (p:=jL s) (q:=fun y x=>decide (0<=kg y x)) l hl.2 hl.1 (fun _=>by
   rw[Ht,Bl]
   cases jV s<;>rfl) (fun x r _=>by
   rw[Ht,akL s x hs]
   simp only[acs,M_]
   cases jL s x<;>rfl) (fun x r k y _ hy hy2 hk=>by
   rw[Ht,akL s x hs]
   simp only[acs,Fq,I6 _ k hk,hy2,acz y x hy.1]
   cases jL s x<;>cases decide (0<=kg y x)<;>rfl)
theorem ac3(s:List Int)(l:List aj)(hs:s.length<4294967296)(hl:aZ fV l):ME s l=some (lY s l):=
 IQ (L:=Hy s l) (P:=fV) (p:=jL s) (q:=fun y x=>decide (0<=kg y x)) l hl.2 hl.1 (fun _=>by
   rw[Hy,Qm]
   cases jV s<;>rfl) (fun x r _=>by
   rw[Hy,akM s x hs]
   simp only[acs,M_]
   cases jL s x<;>rfl) (fun x r k y _ hy hy2 hk=>by
   rw[Hy,akM s x hs]
   simp only[acs,Fq,I6 _ k hk,hy2,acy y x]
   cases jL s x<;>cases decide (0<=kg y x)<;>rfl)
def I_(s:List Int)(x:Source):Bool:=lY s x.Facts&&aQ 0 1000 x.Version
theorem aub(s:List Int)(x:Source)(hs:s.length<4294967296)(hl:aZ fV x.Facts):Rt s x=some (I_ s x):=by
 simp only[Rt,YF s _ hs hl,lV,acs,I_]
 cases lY s x.Facts<;>rfl
theorem auc(s:List Int)(x:Source)(hs:s.length<4294967296)(hl:aZ fV x.Facts):RB s x=some (I_ s x):=by
 simp only[RB,ac3 s _ hs hl,tu,acs,I_]
 cases lY s x.Facts<;>rfl
def bN(l:List Method)(m:Int):Method:=(ix l m).getD ⟨0,[],0,0,0⟩
theorem oV{l:List Method}{m:Int}(h:aQ 0 ((l.length:Int)-1) m=true):ix l m=some (bN l m)/\bN l m∈l:=by
 obtain⟨x,h1,h2⟩:=Te h
 unfold bN
 rw[h1]; exact⟨rfl,aRh h2⟩
def iP(s:List Int)(l:List Method)(a:ag):Bool:=iw s l&&(aQ 0 ((l.length:Int)-1) a.Method&&(((a.Values.length:Int)==((bN l a.Method).bg.length:Int))&&a.Values.all (aQ 0 9)))
theorem YG(s:List Int)(l:List Method)(a:ag)(hs:s.length<4294967296)(hl:aZ kT l):EU s l a=some (iP s l a):=by
 have h1:=hl.1
 have hL:Qa a.Values 0=some (a.Values.all (aQ 0 9)):=by
   have:=BH (L:=Qa) (f:=fun x=>some (aQ 0 9 x)) (p:=aQ 0 9) (e:=true) (fun _=>rfl) (fun x r' k=>rfl) a.Values 0 (fun _ _=>rfl)
   simpa using this
 simp only[EU,X9 s l hs hl,lV,acs,iP,hL]
 rw[di (by omega) (by omega)]
 cases iw s l
 · rfl
 cases hm:aQ 0 ((l.length:Int)-1) a.Method
 · rfl
 rw[(oV hm).1]
 simp only[acs,aQX,aQ3,bne]
 cases ((a.Values.length:Int)==((bN l a.Method).bg.length:Int))<;>rfl
theorem aj4(s:List Int)(l:List Method)(a:ag)(hs:s.length<4294967296)(hl:aZ kT l):MF s l a=some (iP s l a):=by
 have h1:=hl.1
 simp only[MF,X_ s l hs hl,tu,acs,iP,ajP]
 rw[di (by omega) (by omega)]
 cases iw s l
 · rfl
 cases hm:aQ 0 ((l.length:Int)-1) a.Method
 · rfl
 rw[(oV hm).1]
 simp only[acs,aRk]
 cases ((a.Values.length:Int)==((bN l a.Method).bg.length:Int))<;>rfl
def ko(a b:ag):Int:=if kw a.Method b.Method !=0 then kw a.Method b.Method else cmpL a.Values b.Values
theorem aiT(a b:ag):K9 a b=some (ko a b):=by
 simp only[K9,acp,acv,acs,akg,ko]
theorem aj5(a b:List Int)(ha:a.length<4294967296):∀(m k:Nat),k<=a.length->k<=b.length->a.length<k+m->QW a b m k=some (decide (cmpL (a.drop k) (b.drop k)<0))
 |0,k,h1,_,h2=>by omega
 |m+1,k,h1,h1',h2=>by
   rw[QW]
   by_cases h:k<a.length/\k<b.length
   · rw[atV (by simp[h.1,h.2])]
     simp only[gG,apA h.1,apA h.2,acs]
     rw[aQV h.1,aQV h.2,cmpL,kw]
     by_cases e:a[k]=b[k]
     · rw[aqA (by simp[e]),show ((k:Int)+1)=((k+1:Nat):Int)from rfl,ZR (by omega),aj5 a b ha m (k+1) h.1 h.2 (by omega)]
       simp[e]
     · rw[atV (by simpa using e)]
       by_cases e1:a[k]<b[k]
       · simp[e1]
       · have e2:b[k]<a[k]:=by omega
         simp[e1,e2]
   · rw[aqA (by simp only[age,ag3]; omega)]
     by_cases h3:k<b.length
     · have:k=a.length:=by omega
       subst this
       rw[aRj (aQT _),aQV h3]
       simp[cmpL,h3]
     · rw[aRj (show b.length<=k by omega)]
       by_cases h4:k<a.length
       · rw[aQV h4]
         simp[cmpL]; omega
       · rw[aRj (by omega)]
         simp[cmpL]; omega
theorem akN(a b:List Int)(ha:a.length<4294967296):Nc a b=some (decide (cmpL a b<0)):=by
 have:=aj5 a b ha (((a.length:Int)-0).toNat+2) 0 (by omega) (by omega) (by omega)
 simpa[Nc]using this
theorem akh(a b:ag)(ha:a.Values.length<4294967296):MR a b=some (decide (ko a b<0)):=by
 unfold MR ko kw
 by_cases h:a.Method=b.Method
 · rw[aqA (by simp[h]),akN _ _ ha]
   simp[h]
 · rw[atV (by simpa using h)]
   by_cases h2:a.Method<b.Method
   · simp[h2]
   · have:b.Method<a.Method:=by omega
     simp[h2,this]
def Aj(f:aj)(vals:List Int):List Int->Nat->Bool
 |[],_=>true
 |x::r,k=>(f.Values[x.toNat]?.getD 0==vals[k]?.getD 0)&&Aj f vals r (k+1)
def mI(m:Method)(vals:List Int)(f:aj):Bool:=f.aD==m.aD&&Aj f vals m.bg 0
theorem Ja(l:List Int)(x:Int)(h:0<=x/\x<(l.length:Int)):ix l x=some (l[x.toNat]?.getD 0):=by
 have hlt:x.toNat<l.length:=by omega
 unfold ix
 rw[atV h.1,apA hlt]; rfl
theorem aj6(vals:List Int)(f:aj):∀(l:List Int)(k:Nat),(∀x∈l,0<=x/\x<(f.Values.length:Int))->k+l.length<=vals.length->QX vals f l k=some (Aj f vals l k)
 |[],_,_,_=>rfl
 |x::r,k,h,hl=>by
   simp only[agr]at hl
   rw[QX,Ja _ _ (h x (by simp)),Ja _ _ ⟨by omega,by omega⟩,acs,acs,Aj,aRc]
   by_cases e:f.Values[x.toNat]?.getD 0=vals[k]?.getD 0
   · rw[aqA (by simp[e]),aj6 vals f r (k+1) (fun y hy=>h y (by simp[hy])) (by omega)]; simp[e]
   · rw[atV (by simpa using e)]; simp[e]
theorem ajQ(f:aj)(a:ag):∀(l:List Int)(k:Nat),(∀x∈l,0<=x/\x<(f.Values.length:Int))->k+l.length<=a.Values.length->PW f a l k=some (!Aj f a.Values l k)
 |[],_,_,_=>rfl
 |x::r,k,h,hl=>by
   simp only[agr]at hl
   rw[PW,Ja _ _ (h x (by simp)),Ja _ _ ⟨by omega,by omega⟩,acs,acs,Aj,aRc]
   by_cases e:f.Values[x.toNat]?.getD 0=a.Values[k]?.getD 0
   · rw[aqA (by simp[e]),ajQ f a r (k+1) (fun y hy=>h y (by simp[hy])) (by omega)]; simp[e]
   · rw[atV (by simpa using e)]; simp[e]
def FJ(m:Method)(vals:List Int)(f:aj):Prop:=(f.aD=m.aD-> ∀x∈m.bg,0<=x/\x<(f.Values.length:Int))/\m.bg.length<=vals.length
theorem akO(m:Method)(vals:List Int)(f:aj)(h:FJ m vals f):Nf m vals f=some (mI m vals f):=by
 unfold Nf mI
 by_cases e:f.aD=m.aD
 · rw[aqA (by simp[e]),aj6 vals f m.bg 0 (h.1 e) (by have:=h.2; omega)]; simp[e]
 · rw[atV (by simpa using e)]; simp[e]
theorem atr(f:aj)(m:Method)(a:ag)(h:FJ m a.Values f):yh f m a=some (!mI m a.Values f):=by
 unfold yh mI
 by_cases e:f.aD=m.aD
 · rw[aqA (by simp[e]),ajQ f a m.bg 0 (h.1 e) (by have:=h.2; omega)]; simp[e]
 · rw[atV (by simpa using e)]; simp[e]
theorem Si{s:List Int}{l:List Method}{a:ag}{f:aj}(h1:iP s l a=true)(h2:jL s f=true):FJ (bN l a.Method) a.Values f:=by
 simp only[iP,iw,age,aRN]at h1
 obtain⟨⟨-,-,hm⟩,hi,hv,-⟩:=h1
 have hmm:=hm _ (oV hi).2
 simp only[vo,age,aRN]at hmm
 obtain⟨-,-,-,-,-,hin⟩:=hmm
 simp only[jL,age]at h2
 obtain⟨-,hf,-⟩:=h2
 refine⟨fun e x hx=>?_,by simp at hv; omega⟩
 have:=hin x hx
 simp[aQ]at this hf
 rw[hf,e]
 omega
theorem ak2{s:List Int}{l:List aj}(h:lY s l=true):∀f∈l,jL s f=true:=by
 unfold lY at h
 rw[Sl]at h
 simp only[age,aRN]at h
 exact h.1.2
theorem ac4(a:aj)(h:fV a):Bu a=some a:=by simp[Bu,uW _ h.1]
theorem Yn(l:List aj)(h:aZ fV l):Br l=some l:=
 IP (L:=PT) (fun _ _=>rfl) (fun x r k c hx hc=>by rw[PT,ac4 x hx,acs,app1 hc,acs]) l h
theorem aki(s:List Int)(l:List Method)(facts:List aj)(a:ag)(h1:iP s l a=true)(h2:∀f∈facts,jL s f=true)(hb:aZ fV facts):II l facts a=some (facts.filter (mI (bN l a.Method) a.Values)):=by
 have hi:aQ 0 ((l.length:Int)-1) a.Method=true:=by
   simp only[iP,age]at h1
   exact h1.2.1
 rw[II,(oV hi).1,acs,Yn facts hb,acs,Xi,
   amN (p:=fun f=>!mI (bN l a.Method) a.Values f) (fun f hf=>atr f _ a (Si h1 (h2 f hf)))]
 simp
theorem adu(n:Int):IU n=some (aQ 0 10000 n):=rfl
def rX(s:List Int)(l:List Method)(x:aS):Bool:=iP s l x.ag&&(lY s x.Facts&&(x.Facts.all (mI (bN l x.ag.Method) x.ag.Values)&&aQ 0 10000 x.At))
theorem aj7(s:List Int)(l:List Method)(x:aS)(hs:s.length<4294967296)(hl:aZ kT l)(hx:nW x):RD s l x=some (rX s l x):=by
 simp only[RD,aj4 s l _ hs hl,ac3 s _ hs hx.2,acs,rX]
 cases h1:iP s l x.ag
 · rfl
 cases h2:lY s x.Facts
 · rfl
 rw[aki s l x.Facts x.ag h1 (ak2 h2) hx.2]
 simp only[acs,aRk,aQ5,adu]
 have e:(((x.Facts.filter (mI (bN l x.ag.Method) x.ag.Values)).length:Int)==(x.Facts.length:Int))=x.Facts.all (mI (bN l x.ag.Method) x.ag.Values):=by
   rw[aSY]
   simp only[aRZ,aRN,Int.natCast_inj]
   exact List.length_filter_eq_length_iff
 rw[e]
 cases x.Facts.all (mI (bN l x.ag.Method) x.ag.Values)<;>rfl
def lq(s:List Int)(l:List Method)(c:Cache):Bool:=gJ (rX s l) (fun y x=>decide (0<=ko y.ag x.ag)) none c.Entries&&(iw s l&&(aQ 0 100 c.Age&&decide ((c.Entries.length:Int)<=100)))
theorem akj(s:List Int)(l:List Method)(c:Cache)(hs:s.length<4294967296)(hl:aZ kT l)(hc:uj c):R8 s l c=some (lq s l c):=
 IQ (L:=H_ s l c) (P:=nW) (p:=rX s l) (q:=fun y x=>decide (0<=ko y.ag x.ag)) c.Entries hc.2 hc.1 (fun _=>by
   rw[H_,X_ s l hs hl]
   simp only[acs,tu]
   cases iw s l<;>cases aQ 0 100 c.Age<;>rfl) (fun x r hx=>by
   rw[H_,aj7 s l x hs hl hx]
   simp only[acs,M_]
   cases rX s l x<;>rfl) (fun x r k y hx hy hy2 hk=>by
   rw[H_,aj7 s l x hs hl hx]
   simp only[acs,Fq,I6 _ k hk,hy2,aiT]
   cases rX s l x<;>cases decide (0<=ko y.ag x.ag)<;>rfl)
theorem ajv(l:List Method)(x:aS)(hi:aQ 0 ((l.length:Int)-1) x.ag.Method=true):∀(fs:List aj)(k:Nat),(∀f∈fs,FJ (bN l x.ag.Method) x.ag.Values f)->
   LJ l x fs k=some (if fs.all (mI (bN l x.ag.Method) x.ag.Values)then .inr ()else .inl false)
 |[],_,_=>rfl
 |f::r,k,h=>by
   rw[LJ,(oV hi).1,acs,akO _ _ _ (h f (by simp)),acs,aRS]
   cases mI (bN l x.ag.Method) x.ag.Values f
   · rfl
   · simp[ajv l x hi r (k+1) fun g hg=>h g (by simp[hg])]
theorem ade(s:List Int)(l:List Method)(c:Cache)(hs:s.length<4294967296)(hl:aZ kT l)(hc:uj c):IE s l c=some (lq s l c):=by
 have hL:HY s l c c.Entries 0=some (gJ (rX s l) (fun y x=>decide (0<=ko y.ag x.ag)) none c.Entries):=by
   have key:∀x:aS,iP s l x.ag=true->lY s x.Facts=true->LJ l x x.Facts 0=some (if x.Facts.all (mI (bN l x.ag.Method) x.ag.Values)then .inr ()else .inl false):=fun x h1 h2=>by
     have hi:aQ 0 ((l.length:Int)-1) x.ag.Method=true:=by
       simp only[iP,age]at h1
       exact h1.2.1
     exact ajv l x hi x.Facts 0 fun f hf=>Si h1 (ak2 h2 f hf)
   have:=IQ (L:=HY s l c) (P:=nW) (p:=rX s l) (q:=fun y x=>decide (0<=ko y.ag x.ag)) (e:=true) c.Entries hc.2 hc.1 (fun _=>rfl) (fun x r hx=>by
     rw[HY,YG s l _ hs hl,YF s _ hs hx.2]
     simp only[acs,M_,lV,rX]
     rcases aRM (iP s l x.ag)with h1|h1
     rotate_left
     · simp only[h1]; rfl
     rcases aRM (lY s x.Facts)with h2|h2
     rotate_left
     · simp only[h1,h2]; rfl
     simp only[key x h1 h2,h1,h2]
     cases aQ 0 10000 x.At<;>cases x.Facts.all (mI (bN l x.ag.Method) x.ag.Values)<;>rfl) (fun x r k y hx hy hy2 hk=>by
     rw[HY,YG s l _ hs hl,YF s _ hs hx.2]
     simp only[acs,Fq,I6 _ k hk,hy2,lV,rX,akh _ _ hy.1.1]
     have e:decide (0<=ko y.ag x.ag)=!decide (ko y.ag x.ag<0):=by
       rw[aSY]; simp
     rw[e]
     rcases aRM (iP s l x.ag)with h1|h1
     rotate_left
     · simp only[h1]; rfl
     rcases aRM (lY s x.Facts)with h2|h2
     rotate_left
     · simp only[h1,h2]; rfl
     simp only[key x h1 h2,h1,h2]
     cases aQ 0 10000 x.At<;>cases x.Facts.all (mI (bN l x.ag.Method) x.ag.Values)<;>cases decide (ko y.ag x.ag<0)<;>rfl)
   simpa using this
 simp only[IE,X9 s l hs hl,lV,acs,lq,hL]
 have e:decide ((c.Entries.length:Int)<=100)=!decide ((100:Int)<(c.Entries.length:Int)):=by
   rw[aSY]; simp
 rw[e]
 cases iw s l
 · simp
 cases aQ 0 100 c.Age
 · simp
 cases decide ((100:Int)<(c.Entries.length:Int))<;>simp
def FK(l:List Int):Bool:=gJ (fun _=>true) (fun y x=>decide (x<y)) none l&&l.all (aQ 0 10000)
theorem aud(l:List Int)(hl:l.length<4294967296):Ru l=some (FK l&&decide ((l.length:Int)<=1000)):=by
 have:=IQ (L:=Ls l) (P:=fun _=>True) (p:=aQ 0 10000) (q:=fun y x=>decide (x<y)) (e:=decide ((l.length:Int)<=1000)) l (fun _ _=>aSq) hl (fun _=>rfl) (fun x r _=>by
     rw[Ls]
     simp only[acs,lV,M_]
     cases aQ 0 10000 x<;>rfl) (fun x r k y _ _ hy hk=>by
     rw[Ls]
     simp only[acs,lV,Fq,I6 _ k hk,hy]
     cases aQ 0 10000 x<;>cases decide (x<y)<;>rfl)
 rw[Ru,this,Sl,FK]
theorem adT{α:Type}(p:α->Bool)(q:α->α->Bool)(x y:α):∀(l:List α)(o:Option α),(l.getLast?=some y\/l=[]/\o=some y)->gJ p q o (l++[x])=(gJ p q o l&&(p x&&!q y x))
 |[],o,h=>by
   rcases h with h|⟨-,rfl⟩
   · simp at h
   · simp[gJ]
 |[z],none,h=>by
   obtain rfl:z=y:=by simpa using h
   simp[gJ]
 |[z],some w,h=>by
   obtain rfl:z=y:=by simpa using h
   simp[gJ]
 |z::z2::r,none,h=>by
   have h':(z2::r).getLast?=some y:=by simpa using h
   rw[aSt,gJ,gJ,adT p q x y (z2::r) (some z) (.inl h'),Bool.and_assoc]
 |z::z2::r,some w,h=>by
   have h':(z2::r).getLast?=some y:=by simpa using h
   rw[aSt,gJ,gJ,adT p q x y (z2::r) (some z) (.inl h')]
   simp only[Bool.and_assoc]
theorem asi(x y:Int):PY x y=some (decide (x<y)):=by
 simp[PY,ED]
theorem aiP(l:List Int)(hl:l.length<4294967296):∀(k m:Nat),k<l.length->k<m->KO l m k=some (gJ (fun _=>true) (fun y x=>decide (x<y)) none (l.take (k+1)))
 |0,m+1,h,_=>by
   rw[KO,aqA (by simp)]
   cases l with
   |nil=>simp at h
   |cons x r=>rfl
 |k+1,m+1,h,hm=>by
   rw[KO,atV (Fq k)]
   rw[gG,apA h,acs,show (((k+1:Nat):Int))-1=(k:Int) by omega,ZR (by omega),gG,apA (by omega:k<l.length),acs,asi,acs,
     aiP l hl k m (by omega) (by omega),show l.take (k+1+1)=l.take (k+1)++[l[k+1]]from aRC h,adT _ _ _ l[k] (l.take (k+1)) none (.inl (by rw[List.getLast?_take]; simp[apA (show k<l.length by omega)]))]
   cases decide (l[k+1]<l[k])<;>simp
theorem ar0(l:List Int)(hl:l.length<4294967296):O4 l=some (gJ (fun _=>true) (fun y x=>decide (x<y)) none l):=by
 unfold O4
 rw[di (by omega) (by omega)]
 by_cases h:l.length=0
 · have:l=[]:=List.length_eq_zero_iff.1 h
   subst this; rfl
 · rw[show ((l.length:Int)-1)=((l.length-1:Nat):Int) by omega,aiP l hl (l.length-1) _ (by omega) (by omega),show l.length-1+1=l.length by omega,aR7]
theorem arJ(l:List Int):OZ l=some (l.any fun x=>!aQ 0 10000 x):=by
 unfold OZ XJ
 rw[pM (L:=Xw) (f:=fun x=>YX x) (p:=fun x=>!aQ 0 10000 x) (fun k=>rfl) (fun x r k=>rfl) l 0 (fun x hx=>rfl),acs,rW]
theorem aue(l:List Int)(hl:l.length<4294967296):RG l=some (FK l):=by
 simp only[RG,ar0 l hl,arJ,acs,FK,aRs]
 cases gJ (fun _=>true) (fun y x=>decide (x<y)) none l<;>rfl
theorem arz(l:List ag)(m:bU)(hm:uX m):OJ l m=some (l.any fun x=>!iP m.bA m.Methods x):=by
 unfold OJ W9
 rw[pM (L:=WX m) (f:=fun x=>PX x m) (p:=fun x=>!iP m.bA m.Methods x) (fun k=>rfl) (fun x r k=>rfl) l 0 (fun x hx=>by rw[PX,aj4 _ _ x hm.1.1 hm.2.1]; rfl),acs,rW]
def wI(m:bU):Bool:=iw m.bA m.Methods&&(Jh m.bA m.bV&&(I_ m.bA m.Source&&(lq m.bA m.Methods m.Cache&&(aQ 0 10000 m.Now&&(decide ((m.bD.length:Int)<=1000)&&(m.bD.all (iP m.bA m.Methods)&&
 (((m.dh.length:Int)==(m.bD.length:Int))&&(FK m.dh&&(aQ 0 1000000 m.bI&&decide ((m.bX.length:Int)<=100))))))))))
theorem asT(m:bU)(hm:uX m):QB m=some (wI m):=by
 obtain⟨h1,h2,h3,h4,h5,h6,h7,h8⟩:=id hm
 simp only[QB,X_ _ _ h1.1 h2,aua _ _ h1.1,auc _ _ h1.1 (show aZ fV m.Source.Facts from h4),akj _ _ _ h1.1 h2 h5,adu,arz _ m hm,aue _ h7.1,tu,acs,wI,aRs (p:=iP m.bA m.Methods)]
 cases iw m.bA m.Methods
 · rfl
 cases Jh m.bA m.bV
 · rfl
 cases I_ m.bA m.Source
 · rfl
 cases lq m.bA m.Methods m.Cache
 · rfl
 cases aQ 0 10000 m.Now
 · rfl
 cases decide ((m.bD.length:Int)<=1000)
 · rfl
 cases m.bD.any fun a=>!iP m.bA m.Methods a
 rotate_left
 · rfl
 cases ((m.dh.length:Int)==(m.bD.length:Int))
 · rfl
 cases FK m.dh
 · rfl
 cases aQ 0 1000000 m.bI<;>rfl
theorem asU(m:bU)(hm:uX m):Qr m=some (wI m):=by
 obtain⟨h1,h2,h3,h4,h5,h6,h7,h8⟩:=id hm
 have hL:Li m m.bD 0=some (m.bD.all (iP m.bA m.Methods)&&(aQ 0 10000 m.Now&&(decide ((m.bD.length:Int)<=1000)&&(((m.dh.length:Int)==(m.bD.length:Int))&&(FK m.dh&&(aQ 0 1000000 m.bI&&decide ((m.bX.length:Int)<=100))))))):=by
   refine BH (L:=Li m) (f:=fun a=>EU m.bA m.Methods a) (p:=iP m.bA m.Methods) (fun k=>?_) (fun x r k=>rfl) m.bD 0 (fun x _=>YG _ _ x h1.1 h2)
   rw[Li]
   simp only[lV,aud _ h7.1,acs]
   cases aQ 0 10000 m.Now
   · rfl
   by_cases hl:(m.bD.length:Int)<=1000
   · by_cases ht:(m.dh.length:Int)=(m.bD.length:Int)
     · simp only[hl,ht,aSp,beq_self_eq_true,aRk,aTp,aQ5]
       cases FK m.dh<;>cases aQ 0 1000000 m.bI<;>rfl
     · have e:((m.dh.length:Int)==(m.bD.length:Int))=false:=beq_false_of_ne ht
       simp only[hl,e,aSp,aRk,aQ3,aQ5,aSr,acs]
   · simp[hl]
 simp only[Qr,Bl,X9 _ _ h1.1 h2,at7 _ _ h1.1,aub _ _ h1.1 (show aZ fV m.Source.Facts from h4),ade _ _ _ h1.1 h2 h5,acs,wI,hL]
 cases hS:jV m.bA
 · simp[iw,hS]
 cases iw m.bA m.Methods
 · rfl
 cases Jh m.bA m.bV
 · rfl
 cases I_ m.bA m.Source
 · rfl
 cases lq m.bA m.Methods m.Cache
 · rfl
 cases aQ 0 10000 m.Now<;>cases decide ((m.bD.length:Int)<=1000)<;>cases m.bD.all (iP m.bA m.Methods)<;>rfl
theorem aBm(a:bU)(h:LX a<4294967296):uX a:=by
 unfold LX MJ M0 at h
 have hF:∀l:List aj,jh yw l<4294967296->aZ fV l:=FH fun x hx=>oG _ hx
 have hA:∀x:ag,ym x<4294967296->rV x:=fun x hx=>oG _ hx
 exact⟨oG _ (by omega),FH (f:=EW) (fun x hx=>oG _ hx) _ (by omega),FH (f:=Fu) (fun x hx=>oG _ hx) _ (by omega),hF _ (by omega),
   FH (f:=zN) (fun x hx=>⟨hA _ (by unfold zN at hx; omega),hF _ (by unfold zN at hx; omega)⟩) _ (by omega),FH hA _ (by omega),oG _ (by omega),
   FH (f:=jh fun a:List Int=>a.length) (fun x hx=>FH (f:=fun a:List Int=>a.length) (fun y hy=>oG y hy) x hx) _ (by omega)⟩
theorem arA(l:List ag)(a:ag):OM l a=some (l.any fun x=>lU x a):=by
 unfold OM Xa
 rw[pM (L:=WY a) (f:=fun x=>Ql x a) (p:=fun x=>lU x a) (fun k=>rfl) (fun x r k=>rfl) l 0 (fun x hx=>by rw[Ql,acM]; rfl),acs,rW]
theorem att(log:List ag)(a:ag):Ml log a=some (log.any fun x=>lU x a):=by
 rw[Ml,arA]; rfl
def Dp(l:List Method)(a:ag):Int:=if aQ 0 ((l.length:Int)-1) a.Method&&aQ 0 99 (bN l a.Method).bK then (bN l a.Method).bK else 0
theorem adv(l:List Method)(a:ag):0<=Dp l a/\Dp l a<=99:=by
 unfold Dp
 split
 · rename_i h; simp[aQ]at h; omega
 · omega
def uk(l:List Method):List ag->Int->Int
 |[],c=>c
 |x::r,c=>uk l r (c+Dp l x)
theorem avu(l:List Method)(a:ag)(hl:l.length<4294967296):SN l a.Method=some (Dp l a):=by
 simp only[SN,tu,acs,Dp]
 rw[di (by omega) (by omega)]
 cases h:aQ 0 ((l.length:Int)-1) a.Method
 · rfl
 · simp only[(oV h).1,acs,akK]
   cases aQ 0 99 (bN l a.Method).bK<;>rfl
theorem ajR(l:List Method)(hl:l.length<4294967296):∀(log:List ag)(k:Nat)(c:Int),0<=c->c+99*(log.length:Int)<4611686018427387904->QG l log k c=some (uk l log c)
 |[],_,_,_,_=>rfl
 |x::r,k,c,h0,h1=>by
   simp only[agr]at h1
   have:=adv l x
   rw[QG,avu l x hl,acs,di (by omega) (by omega),ajR l hl r (k+1) _ (by omega) (by omega),uk]
theorem ajS(l:List Method)(hl:l.length<4294967296):∀(log:List ag)(k:Nat)(c:Int),0<=c->c+99*(log.length:Int)<4611686018427387904->Qy l log k c=some (uk l log c)
 |[],_,_,_,_=>rfl
 |x::r,k,c,h0,h1=>by
   simp only[agr]at h1
   have hr:=adv l x
   have ih:=ajS l hl r (k+1) (c+Dp l x) (by omega) (by omega)
   rw[Qy,uk,←ih]
   simp only[lV,acs]
   rw[di (by omega) (by omega)]
   unfold Dp at ih ⊢ hr
   cases h:aQ 0 ((l.length:Int)-1) x.Method
   · simp
   · rw[h]at hr
     simp only[(oV h).1,acs,aRk,aQ5]at hr ⊢
     cases h2:aQ 0 99 (bN l x.Method).bK
     · simp
     · rw[h2,atV rfl]at hr
       simp only[aRr,acs]
       rw[di (by omega) (by omega)]
theorem akk(l:List Method)(log:List ag)(hl:l.length<4294967296)(hg:log.length<4294967296):MZ l log=some (uk l log 0):=ajR l hl log 0 0 (by omega) (by omega)
theorem auS(l:List Method)(log:List ag)(hl:l.length<4294967296)(hg:log.length<4294967296):R7 l log=some (uk l log 0):=ajS l hl log 0 0 (by omega) (by omega)
theorem Iz(r:Int)(v:List Int)(h:v.length<4294967296):xk r v=some {aD:=r,Values:=v}:=by simp[xk,kK h]
theorem atu(m:Method)(vals:List Int)(facts:List aj)(hf:∀f∈facts,FJ m vals f)(hb:aZ fV facts):Md m vals facts=some (facts.filter (mI m vals)):=by
 have:=akB (L:=PS m vals) (P:=fun f=>FJ m vals f/\fV f) (p:=mI m vals) (fun _ _=>rfl) (fun x r k c hx hc=>by
   rw[PS,akO _ _ _ hx.1,acs]
   cases mI m vals x<;>simp[Iz _ _ hx.2.1,app1 hc]) facts 0 [] (fun x hx=>⟨hf x hx,hb.2 x hx⟩) (by simpa using hb.1)
 simpa[Md]using this
theorem avv(m:bU):rU m<=4*LX m:=by
 have h1:=Cz (ms:=mY) (tot:=EW) 4 (fun x=>by simp only[mY,tJ,EW]; omega) m.Methods
 have h2:=Cz (ms:=nL) (tot:=Fu) 2 (fun x=>by simp only[nL,tJ,Fu]; omega) m.bV
 have h3:∀l,bq nM l<=1*jh yw l:=Cz (ms:=nM) (tot:=yw) 1 (fun x=>by simp only[nM,tJ,yw]; omega)
 have h4:=Cz (ms:=qg) (tot:=zN) 2 (fun x=>by have:=h3 x.Facts; simp only[qg,kG,tJ,zN,ym]; omega) m.Cache.Entries
 have h5:=Cz (ms:=kG) (tot:=ym) 1 (fun x=>by simp only[kG,tJ,ym]; omega) m.bD
 have h6:=Cz (ms:=bq (bq (fun _:Int=>1))) (tot:=jh (fun a:List Int=>a.length)) 1 (fun x=>by have:=Cz (ms:=bq (fun _:Int=>1)) (tot:=fun a:List Int=>a.length) 1 (fun y=>by rw[tJ]; omega) x; omega) m.bX
 have h7:=h3 m.Source.Facts
 unfold rU LX oD nX MJ M0
 rw[tJ,tJ]
 omega
theorem ajT(l:List (List Int))(h:aZ (aZ gz) l):QT l=some l:=
 IP (L:=PO) (fun _ _=>rfl) (fun x r k c hx hc=>by rw[PO,kK hx.1,acs,app1 hc,acs]) l h
theorem asV(l:List (List Int))(h:aZ (aZ gz) l):YV l=some l:=
 IP (L:=PD) (fun _ _=>rfl) (fun x r k c hx hc=>by rw[PD,uW _ hx.1,acs,app1 hc,acs]) l h
theorem adw(l:List aj)(h:aZ fV l):Na l=some l:=
 IP (L:=QS) (fun _ _=>rfl) (fun x r k c hx hc=>by rw[QS,Iz _ _ hx.1,acs,app1 hc,acs]) l h
theorem auT(x:Source)(h:BC x):R3 x=some x:=by simp[R3,adw _ h]
theorem aj8(x:aS)(h:nW x):Mt x=some x:=by simp[Mt,YE _ _ h.1.1,adw _ h.2]
theorem akl(c:Cache)(h:uj c):R4 c=some c:=
 Jl (L:=Qq c) (fun e=>some {Entries:=e,Age:=c.Age}) (fun _ _=>rfl) (fun x r k d hx hc=>by rw[Qq,aj8 x hx,acs,app1 hc,acs]) c.Entries h
theorem awf(l:List ag)(h:aZ rV l):Z5 l=some l:=
 IP (L:=Rq) (fun _ _=>rfl) (fun x r k c hx hc=>by rw[Rq,YE _ _ hx.1,acs,app1 hc,acs]) l h
theorem atv(x:Method)(h:kT x):QU x=some x:=by simp[QU,kK h.1]
theorem auU(m:bU)(h:uX m):MQ m=some m:=by
 obtain⟨h1,h2,h3,h4,h5,h6,h7,h8⟩:=h
 simp only[MQ,kK h1.1,auT _ h4,akl _ h5,awf _ h6,kK h7.1,acs]
 refine (Jl (L:=HV m m.bA m.Source m.Cache m.bD m.dh) (fun c=>EM m m.bA m.Source m.Cache m.bD m.dh c m.bV 0 []) (fun _ _=>rfl) (fun x r k d hx hc=>by rw[HV,atv x hx,acs,app1 hc,acs]) m.Methods h2).trans ?_
 refine (Jl (L:=EM m m.bA m.Source m.Cache m.bD m.dh m.Methods) (fun c=>EL m m.bA m.Source m.Cache m.bD m.dh m.Methods c m.bX 0 []) (fun _ _=>rfl) (fun x r k d hx hc=>by rw[EM,kK hx.1,acs,app1 hc,acs]) m.bV h3).trans ?_
 exact Jl (L:=EL m m.bA m.Source m.Cache m.bD m.dh m.Methods m.bV) (fun c=>some {m with bX:=c}) (fun _ _=>rfl) (fun x r k d hx hc=>by rw[EL,ajT x hx,acs,app1 hc,acs]) m.bX h8
theorem asy(l:List Method)(h:aZ kT l):Yy l=some l:=
 IP (L:=Pq) (fun _ _=>rfl) (fun x r k c hx hc=>by rw[Pq,uW _ hx.1,acs,app1 hc,acs]) l h
theorem asW(x:Source)(h:BC x):Qz x=some x:=by simp[Qz,Yn _ h]
theorem ajw(x:aS)(h:nW x):LQ x=some x:=by simp[LQ,acN _ h.1,Yn _ h.2]
theorem ajU(c:Cache)(h:uj c):Me c=some c:=by
 have:=Jl (L:=O3 c) (fun e=>some {Entries:=e,Age:=c.Age}) (fun _ _=>rfl) (fun x r k d hx hc=>by
   rw[O3,Yz,acs,atV rfl,ajw x hx,acs,app1 hc]; rfl) c.Entries h
 rw[Me,XT,this]; rfl
theorem auf(x:bO)(h:Cq x):Ry x=some x:=by simp[Ry,uW _ h.1]
theorem asj(m:bU)(h:uX m):Lm m=some m:=by
 obtain⟨h1,h2,h3,h4,h5,h6,h7,h8⟩:=h
 simp only[Lm,uW _ h1.1,asy _ h2,asW _ h4,ajU _ h5,ash _ h6,uW _ h7.1,acs]
 refine (Jl (L:=G5 m m.bA m.Methods m.Source m.Cache m.bD m.dh) (fun c=>EB m m.bA m.Methods m.Source m.Cache m.bD m.dh c m.bX 0 []) (fun _ _=>rfl) (fun x r k d hx hc=>by rw[G5,auf x hx,acs,app1 hc,acs]) m.bV h3).trans ?_
 exact Jl (L:=EB m m.bA m.Methods m.Source m.Cache m.bD m.dh m.bV) (fun c=>some {m with bX:=c}) (fun _ _=>rfl) (fun x r k d hx hc=>by rw[EB,asV x hx,acs,app1 hc,acs]) m.bX h8
theorem axG{α:Type}{P:α->Prop}{l:List α}{x:α}(h:aZ P l)(hl:l.length+1<4294967296)(hx:P x):aZ P (l++[x]):=
 ⟨by simpa using hl,fun y hy=>by rcases List.mem_append.1 hy with h1|h1; exact h.2 y h1; exact (List.mem_singleton.1 h1) ▸ hx⟩
theorem axH{α:Type}(f:α->Nat)(l:List α)(x:α):bq f (l++[x])=bq f l+f x:=by simp[bq]
theorem alE(x y:Int):kw y x= -kw x y:=by
 unfold kw
 repeat' split
 all_goals omega
theorem alF:∀(a b:List Int),cmpL b a= -cmpL a b
 |[],[]=>rfl
 |[],_::_=>rfl
 |_::_,[]=>rfl
 |x::a,y::b=>by
   simp only[cmpL,alE x y,alF a b]
   by_cases h:kw x y=0
   · simp[h]
   · rw[atV (by simp only[aTa]; omega),atV (by simpa using h)]
theorem aug(a b:aj):kg b a= -kg a b:=by
 unfold kg
 rw[alE a.aD b.aD,alF a.Values b.Values]
 by_cases h:kw a.aD b.aD=0
 · simp[h]
 · rw[atV (by simp only[aTa]; omega),atV (by simpa using h)]
def Dr(l:List aj)(f:aj):Bool:=l.any fun x=>kg x f==0
theorem auV(l:List aj)(f:aj)(h:aZ fV l):R5 l f=some (Dr l f):=by
 have hx:∀x∈l,x.Values.length<4294967296:=fun x hx=>(h.2 x hx).1
 clear h
 unfold R5
 generalize 0=k
 induction l generalizing k with
 |nil=>rfl
 |cons x l ih=>
   unfold YT
   rw[acz x f (hx x (by simp)),acs]
   by_cases h:kg x f=0
   · rw[atV (by simpa using h)]; simp[Dr,h]
   · rw[aqA (by simpa using h),ih (fun y hy=>hx y (by simp[hy]))]; simp[Dr,h]
theorem arC(l:List aj)(f:aj):OT l f=some (Dr l f):=by
 unfold OT Xl
 rw[pM (L:=Xf f) (f:=fun x=>Q9 x f) (p:=fun x=>kg x f==0) (fun k=>rfl) (fun x r k=>rfl) l 0 (fun x hx=>by rw[Q9,acy]; rfl),acs,rW]
 rfl
theorem auW(l:List aj)(f:aj):R9 l f=some (Dr l f):=by
 rw[R9,arC]; rfl
def qC(f:aj):List aj->List aj
 |[]=>[f]
 |x::l=>if 0<kg x f then f::x::l else x::qC f l
theorem alG(f:aj):∀l:List aj,(qC f l).length=l.length+1
 |[]=>rfl
 |x::l=>by
   unfold qC
   split
   · rfl
   · simp[alG f l]
theorem alH{f y:aj}:∀{l:List aj},y∈qC f l->y=f\/y∈l
 |[],h=>by simp[qC]at h; exact .inl h
 |x::l,h=>by
   unfold qC at h
   split at h
   · simp at h; simp[h]
   · rcases List.mem_cons.1 h with h|h
     · simp[h]
     · rcases alH h with h|h<;>simp[h]
theorem ame(f:aj):∀(l:List aj)(k:Nat),(iM (fun x=>decide (0<kg x f)) l k= -1/\qC f l=l++[f])\/ ∃j:Nat,j<l.length/\iM (fun x=>decide (0<kg x f)) l k=((k+j:Nat):Int)/\qC f l=l.take j++f::l.drop j
 |[],k=>.inl ⟨rfl,rfl⟩
 |x::l,k=>by
   unfold iM qC
   by_cases h:0<kg x f
   · rw[atV h,atV (by simpa using h)]
     exact .inr ⟨0,by simp,by simp,by simp⟩
   · rw[aqA h,aqA (by simpa using h)]
     rcases ame f l (k+1)with⟨h1,h2⟩|⟨j,h1,h2,h3⟩
     · exact .inl ⟨h1,by rw[h2]; rfl⟩
     · exact .inr ⟨j+1,by simp; omega,by rw[h2]; congr 1; omega,by rw[h3]; rfl⟩
def jg(l:List aj)(f:aj):List aj:=if Dr l f then l else qC f l
theorem ZO(l:List aj)(f:aj):(jg l f).length<=l.length+1:=by
 unfold jg
 split
 · omega
 · rw[alG]; exact aQT _
theorem awQ{l:List aj}{f y:aj}(h:y∈jg l f):y=f\/y∈l:=by
 unfold jg at h
 split at h
 · exact .inr h
 · exact alH h
theorem ak3(l:List aj)(f:aj)(hl:l.length+1<4294967296)(hf:fV f):I9 l f=some (jg l f):=by
 unfold I9 jg
 rw[auW,acs]
 cases hh:Dr l f
 · rw[aqA (by simp),aqA (by simp)]
   have hix:Xn l f=some (iM (fun x=>decide (0<kg x f)) l 0):=
     pM (L:=Xj f) (f:=fun x=>R_ x f) (p:=fun x=>decide (0<kg x f)) (fun k=>rfl) (fun x r k=>rfl) l 0 (fun x hx=>by rw[R_,acy]; rfl)
   rw[hix,acs]
   rcases ame f l 0 with⟨h1,h2⟩|⟨j,h1,h2,h3⟩
   · rw[h1,atV (by decide),ac4 f hf,acs,KM,h2]
     rw[atV ⟨by omega,by omega,hl⟩,acs,aRc,aR7,aSj]
   · rw[h2,aqA (by simp only[ag3]; omega),ac4 f hf,acs,KM,h3]
     rw[atV ⟨by omega,by omega,hl⟩,acs,aRc,aRf]
 · rw[atV rfl,atV rfl]
theorem acA(f:aj):∀(l:List aj)(k:Nat)(c:List aj),(∀x∈l,fV x)->c.length+l.length<4294967296->Bn f l k c true=some (c++l)
 |[],k,c,_,_=>by simp[Bn]
 |x::l,k,c,hx,h=>by
   simp only[agr]at h
   unfold Bn
   rw[aQX,aQ3,acs]
   dsimp only
   rw[aqA (by simp),Iz _ _ (hx x (by simp)).1,acs,nZ (by simp; omega),acs,acs]
   dsimp only
   rw[acA f l _ _ (fun y hy=>hx y (by simp[hy])) (by simp; omega)]
   simp
theorem ajx(f:aj)(hf:fV f):∀(l:List aj)(k:Nat)(c:List aj)(b:Bool),(∀x∈l,fV x)->c.length+l.length+1<4294967296->Bn f l k c b=some (if b then c++l else c++qC f l)
 |[],k,c,b,_,h=>by
   unfold Bn
   cases b
   · rw[atV (show (!false)=true from rfl),Iz _ _ hf.1,acs,nZ (by simp at h ⊢; omega),aqA (by simp)]; rfl
   · simp
 |x::l,k,c,b,hx,h=>by
   simp only[agr]at h
   have hx1:=hx x (by simp)
   have hx2:∀y∈l,fV y:=fun y hy=>hx y (by simp[hy])
   unfold Bn
   cases b
   · rw[aRF,aRk,acz f x hf.1,acs,acs]
     dsimp only
     have ha:=aug f x
     by_cases hc:0<kg x f
     · rw[atV (by simp only[ag3]; omega),Iz _ _ hf.1,acs,nZ (by simp; omega),acs,Iz _ _ hx1.1,acs,nZ (by simp; omega),acs,acs]
       dsimp only
       rw[acA f l _ _ hx2 (by simp; omega),aqA (by simp)]
       simp[qC,hc]
     · rw[aqA (by simp only[ag3]; omega),Iz _ _ hx1.1,acs,nZ (by simp; omega),acs,acs]
       dsimp only
       rw[ajx f hf l _ _ _ hx2 (by simp; omega),aqA (by simp),aqA (by simp)]
       simp[qC,hc]
   · rw[atV rfl]
     exact acA f (x::l) k c hx (by simp; omega)
theorem akm(l:List aj)(f:aj)(hb:aZ fV l)(hl:l.length+1<4294967296)(hf:fV f):zQ l f=some (jg l f):=by
 unfold zQ jg
 rw[auV l f hb,acs,ajx f hf l 0 [] _ hb.2 (by simpa using hl),aRa,aRa]
theorem auh{zs:List Int}(h:zs.Pairwise (· <= ·)):∀m,m<=zs.length->
   (Lib.compactUpTo zs.toArray m).Pairwise (· < ·)/\(∀x,x∈Lib.compactUpTo zs.toArray m↔x∈zs.take m)/\(∀x∈Lib.compactUpTo zs.toArray m,∀y,zs[m]?=some y->x<=y):=by
 intro m
 induction m with
 |zero=>intro _; simp[Lib.compactUpTo]
 |succ m ih=>
   intro hm
   obtain⟨i1,i2,i3⟩:=ih (by omega)
   have hlt:m<zs.length:=by omega
   have hg:zs.toArray[m]! =zs[m]:=by simp[hlt]
   have hnext:∀x,x∈zs.take (m+1)-> ∀y,zs[m+1]?=some y->x<=y:=by
     intro x hx y hy
     obtain⟨j,hj,rfl⟩:=List.mem_iff_getElem.1 hx
     obtain⟨hy1,rfl⟩:=List.getElem?_eq_some_iff.1 hy
     rw[aS9]
     simp only[aRi]at hj
     exact List.pairwise_iff_getElem.1 h j (m+1) (by omega) hy1 (by omega)
   rw[Lib.compactUpTo_succ,hg]
   have htake:zs.take (m+1)=zs.take m++[zs[m]]:=by rw[aRC hlt]
   by_cases hk:Lib.keeps zs.toArray m=true
   · rw[atV hk]
     have hlow:∀x∈Lib.compactUpTo zs.toArray m,x<zs[m]:=by
       intro x hx
       have hm0:m≠0:=by
         intro e; subst e; simp[Lib.compactUpTo]at hx
       have hpl:m-1<zs.length:=by omega
       have hpm:zs.toArray[m-1]! =zs[m-1]:=by simp[hpl]
       have hne:zs[m]≠zs[m-1]:=by
         simp only[Lib.keeps,ag3,hg,hpm]at hk
         rcases hk with h0|h0
         · exact absurd h0 hm0
         · exact h0
       have hx1:=(i2 x).1 hx
       obtain⟨j,hj,rfl⟩:=List.mem_iff_getElem.1 hx1
       rw[aS9]at*
       simp only[aRi]at hj
       have a1:zs[j]<=zs[m-1]:=by
         rcases aQ7 j (m-1)with h1|h1
         · exact List.pairwise_iff_getElem.1 h j (m-1) (by omega) hpl h1
         · have:j=m-1:=by omega
           subst this; exact aTk _
       have a2:zs[m-1]<=zs[m]:=List.pairwise_iff_getElem.1 h (m-1) m hpl hlt (by omega)
       omega
     refine⟨?_,?_,?_⟩
     · rw[List.pairwise_append]
       exact⟨i1,by simp,fun a ha b hb=>by simp at hb; subst hb; exact hlow a ha⟩
     · intro x; rw[htake,aQZ,aQZ,i2]
     · intro x hx y hy
       apply hnext x _ y hy
       rw[htake,aQZ,←i2,←aQZ]; exact hx
   · rw[aqA hk,aQ_]
     have hm0:m≠0:=fun e=>hk (by simp[Lib.keeps,e])
     have hpl:m-1<zs.length:=by omega
     have hpm:zs.toArray[m-1]! =zs[m-1]:=by simp[hpl]
     have he:zs[m]=zs[m-1]:=by
       simp only[Lib.keeps,ag3,hg,hpm]at hk
       exact Classical.byContradiction fun hc=>hk (.inr hc)
     have hin:zs[m]∈zs.take m:=by
       rw[he]
       exact List.mem_iff_getElem.2 ⟨m-1,by simp; omega,by rw[aS9]⟩
     have hiff:∀x,x∈zs.take (m+1)↔x∈zs.take m:=by
       intro x; rw[htake,aQZ,List.mem_singleton]
       exact⟨fun h=>h.elim id fun h=>h ▸ hin,.inl⟩
     refine⟨i1,fun x=>by rw[i2,hiff],fun x hx y hy=>hnext x ((hiff x).2 ((i2 x).1 hx)) y hy⟩
theorem auX{zs:List Int}(h:zs.Pairwise (· <= ·)):(Lib.compact zs).Pairwise (· < ·)/\ ∀x,x∈Lib.compact zs↔x∈zs:=by
 obtain⟨h1,h2,-⟩:=auh h zs.length (aQT _)
 exact⟨h1,fun x=>by rw[Lib.compact,h2,aR7]⟩
theorem anR:∀{a b:List Int},a.Pairwise (· < ·)->b.Pairwise (· < ·)->(∀x,x∈a↔x∈b)->a=b
 |[],[],_,_,_=>rfl
 |[],y::b,_,_,h=>absurd ((h y).2 (by simp)) (by simp)
 |x::a,[],_,_,h=>absurd ((h x).1 (by simp)) (by simp)
 |x::a,y::b,ha,hb,h=>by
   rw[aRb]at ha hb
   have e:x=y:=by
     have h1:=(h x).1 (by simp)
     have h2:=(h y).2 (by simp)
     rw[aQ1]at h1 h2
     rcases h1 with h1|h1
     · exact h1
     · rcases h2 with h2|h2
       · exact h2.symm
       · have:=hb.1 x h1; have:=ha.1 y h2; omega
   subst e
   rw[anR ha.2 hb.2 fun z=>?_]
   constructor
   · intro hz
     have h1:=(h z).1 (by simp[hz])
     have:=ha.1 z hz
     rcases List.mem_cons.1 h1 with h1|h1
     · omega
     · exact h1
   · intro hz
     have h1:=(h z).2 (by simp[hz])
     have:=hb.1 z hz
     rcases List.mem_cons.1 h1 with h1|h1
     · omega
     · exact h1
def wJ(x:Int):List Int->List Int
 |[]=>[x]
 |y::l=>if x<y then x::y::l else y::wJ x l
theorem aec{x:Int}:∀{l:List Int}{y:Int},y∈wJ x l↔y=x\/y∈l
 |[],y=>by simp[wJ]
 |z::l,y=>by
   unfold wJ
   split
   · simp
   · rw[aQ1,aec,aQ1]
     constructor<;>rintro (h|h|h)<;>simp[h]
theorem anb{x:Int}:∀{l:List Int},l.Pairwise (· < ·)->x∉l->(wJ x l).Pairwise (· < ·)
 |[],_,_=>by simp[wJ]
 |z::l,h,hn=>by
   unfold wJ
   rw[aQ1,aS4]at hn
   rw[aRb]at h
   split
   · rename_i hx
     rw[aRb,aRb]
     refine⟨fun a ha=>?_,h⟩
     rcases List.mem_cons.1 ha with rfl|ha
     · exact hx
     · have:=h.1 a ha; omega
   · rename_i hx
     rw[aRb]
     refine⟨fun a ha=>?_,anb h.2 hn.2⟩
     rcases aec.1 ha with rfl|ha
     · omega
     · exact h.1 a ha
theorem amf{x:Int}:∀{l:List Int},(wJ x l).length=l.length+1
 |[]=>rfl
 |z::l=>by
   unfold wJ
   split
   · rfl
   · simp[amf]
def oo(l:List Int)(x:Int):List Int:=if x∈l then l else wJ x l
theorem axI{l:List Int}{x y:Int}:y∈oo l x↔y=x\/y∈l:=by
 unfold oo
 split
 · rename_i h; exact⟨.inr,fun h'=>h'.elim (fun e=>e ▸ h) id⟩
 · exact aec
theorem ay2{l:List Int}{x:Int}(h:l.Pairwise (· < ·)):(oo l x).Pairwise (· < ·):=by
 unfold oo
 split
 · exact h
 · exact anb h (by assumption)
theorem ZW{l:List Int}{x:Int}:(oo l x).length<=l.length+1:=by
 unfold oo
 split
 · omega
 · rw[amf]; exact aQT _
theorem ZX{y:Int}:∀{v l:List Int},y∈v.foldl oo l↔y∈l\/y∈v
 |[],l=>by simp
 |x::v,l=>by
   rw[aRv,ZX,axI,aQ1]
   constructor
   · rintro ((h|h)|h)<;>simp[h]
   · rintro (h|h|h)<;>simp[h]
theorem aeA:∀{v l:List Int},l.Pairwise (· < ·)->(v.foldl oo l).Pairwise (· < ·)
 |[],_,h=>h
 |x::v,l,h=>aeA (v:=v) (ay2 h)
theorem aed:∀{v l:List Int},(v.foldl oo l).length<=l.length+v.length
 |[],_=>aQT _
 |x::v,l=>by
   have h1:=aed (v:=v) (l:=oo l x)
   have h2:=ZW (l:=l) (x:=x)
   simp only[aRv,agr]; omega
theorem alI(v:List Int):v.foldl oo []=Lib.compact (v.mergeSort fun x y=>decide (x<=y)):=by
 have hs:(v.mergeSort fun x y=>decide (x<=y)).Pairwise (· <= ·):=by
   have:=List.pairwise_mergeSort (le:=fun x y:Int=>decide (x<=y)) (fun a b c h1 h2=>by simp only[ag3]at*; omega) (fun a b=>by simp only[aR4,ag3]; omega) v
   exact this.imp fun h=>by simpa using h
 obtain⟨c1,c2⟩:=auX hs
 exact anR (aeA (by simp)) c1 fun x=>by rw[ZX,c2,List.mem_mergeSort]; simp
theorem RN(x:Int)(l:List Int):Ca l x=some (decide (x∈l)):=by
 unfold Ca
 generalize 0=k
 induction l generalizing k with
 |nil=>rfl
 |cons y l ih=>
   unfold Zr
   by_cases h:y=x
   · subst h; simp
   · rw[aqA (by simpa using h),ih]
     congr 1
     simp only[aQ1,aTd]
     exact⟨.inr,fun h'=>h'.elim (fun e=>absurd e.symm h) id⟩
theorem YH(l:List Int)(x:Int)(hl:l.length<4294967296):∀(m i:Nat)(c:List Int)(b:Bool),i<=l.length->l.length-i<m->c.length+(l.length-i)+(bif b then 0 else 1)<4294967296->Rv l x m c b (i:Int)=some (if b then c++l.drop i else c++wJ x (l.drop i))
 |0,_,_,_,_,hm,_=>by omega
 |m+1,i,c,b,hi,hm,h=>by
   unfold Rv
   by_cases hlt:i<l.length
   · obtain⟨y,t,hg,hd,ht⟩:∃y t,ix l (i:Int)=some y/\l.drop i=y::t/\l.drop (i+1)=t:=⟨_,_,by rw[gG,apA hlt],aQV hlt,rfl⟩
     have hw:IntKind.i64.wrap ((i:Int)+1)=((i+1:Nat):Int):=by rw[di (by omega) (by omega)]; rfl
     rw[atV (by simp only[ag3]; omega)]
     simp only[hg,acs,hw]
     cases b
     · simp only[aQ3]at h
       by_cases hx:x<y
       · simp only[aRF,aRk,hx,aSp,aRr,acs]
         rw[nZ (by simp; omega),acs,nZ (by simp; omega),acs,acs]
         dsimp only
         rw[YH l x hl m (i+1) _ _ hlt (by omega) (by simp; omega),ht,hd]
         simp[wJ,hx]
       · simp only[aRF,aRk,hx,aSN,av0,aQ9,acs]
         rw[nZ (by simp; omega),acs,acs]
         dsimp only
         rw[YH l x hl m (i+1) _ _ hlt (by omega) (by simp; omega),ht,hd]
         simp[wJ,hx]
     · simp only[aRk]at h
       simp only[aQX,aQ3,av0,aQ9,acs]
       rw[nZ (by simp; omega),acs,acs]
       dsimp only
       rw[YH l x hl m (i+1) _ _ hlt (by omega) (by simp; omega),ht,hd]
       simp
   · have hd:l.drop i=[]:=aRD (by omega)
     rw[aqA (by simp only[ag3]; omega),hd]
     cases b
     · simp only[aQ3]at h
       rw[atV (show (!false)=true from rfl),nZ (by simp; omega),aqA (by simp)]; rfl
     · simp
theorem adK(l:List Int)(x:Int)(h:l.length+1<4294967296):I8 l x=some (oo l x):=by
 unfold I8 oo
 rw[RN,acs]
 by_cases hx:x∈l
 · rw[atV (by simpa using hx),atV hx]
 · rw[aqA (by simpa using hx),aqA hx]
   have:=YH l x (by omega) (((l.length:Int)-0).toNat+2) 0 [] false (by omega) (by omega) (by simpa using h)
   rw[show ((0:Nat):Int)=0 from rfl]at this
   rw[this]
   simp
theorem SY{x y:Int}:kw x y<0↔x<y:=by unfold kw; split<;>(try split)<;>omega
theorem ay3{x y:Int}:0<kw x y↔y<x:=by unfold kw; split<;>(try split)<;>omega
theorem yt{x y:Int}:kw x y=0↔x=y:=by unfold kw; split<;>(try split)<;>omega
theorem adU:∀{a b:List Int},cmpL a b=0↔a=b
 |[],[]=>by simp[cmpL]
 |[],_::_=>by simp[cmpL]
 |_::_,[]=>by simp[cmpL]
 |x::a,y::b=>by
   unfold cmpL
   by_cases h:kw x y=0
   · rw[aqA (by simpa using h),adU,yt.1 h]; simp
   · rw[atV (by simpa using h)]
     constructor
     · intro h'; exact absurd h' h
     · intro h'; exact absurd (yt.2 (List.cons.inj h').1) h
theorem Sj:∀{a b:List Int},0<cmpL a b↔cmpL b a<0
 |[],[]=>by simp[cmpL]
 |[],_::_=>by simp[cmpL]
 |_::_,[]=>by simp[cmpL]
 |x::a,y::b=>by
   unfold cmpL
   by_cases h:kw x y=0
   · have h2:=yt.1 h
     subst h2
     rw[aqA (by simpa using h),aqA (by simpa using h)]; exact Sj
   · rw[atV (by simpa using h),atV (by have:¬ kw y x=0:=fun e=>h (by rw[yt]at*; exact e.symm); simpa using this),ay3,SY]
theorem adL:∀{a b c:List Int},cmpL a b<0->cmpL b c<0->cmpL a c<0
 |[],_,[],h1,h2=>by
   rename_i b
   cases b<;>simp[cmpL]at h1 h2
 |[],_,_::_,_,_=>by simp[cmpL]
 |_::_,[],_,h1,_=>by simp[cmpL]at h1
 |_::_,_::_,[],_,h2=>by simp[cmpL]at h2
 |x::a,y::b,z::c,h1,h2=>by
   unfold cmpL at*
   by_cases e1:kw x y=0
   · have:=yt.1 e1
     subst this
     rw[aqA (by simpa using e1)]at h1
     by_cases e2:kw x z=0
     · have:=yt.1 e2
       subst this
       rw[aqA (by simpa using e1)]at h2 ⊢
       exact adL h1 h2
     · rw[atV (by simpa using e2)]at h2 ⊢
       exact h2
   · rw[atV (by simpa using e1)]at h1
     by_cases e2:kw y z=0
     · have:=yt.1 e2
       subst this
       rw[atV (by simpa using e1)]; exact h1
     · rw[atV (by simpa using e2)]at h2
       rw[SY]at h1 h2
       have:kw x z<0:=SY.2 (by omega)
       rw[atV (by simp; omega)]; exact this
theorem IA(a b:aj):kg a b=cmpL (a.aD::a.Values) (b.aD::b.Values):=rfl
theorem ac5{a b:aj}:kg a b=0↔a=b:=by
 rw[IA,adU]
 constructor
 · intro h; cases a; cases b; simp at h; simp[h]
 · rintro rfl; rfl
theorem aui{a b:aj}:0<kg a b↔kg b a<0:=by rw[IA,IA,Sj]
theorem acY{a b c:aj}:kg a b<0->kg b c<0->kg a c<0:=by
 rw[IA,IA,IA]; exact adL
def tq(a b:aj):Prop:=kg a b<0
theorem alJ{l:List aj}{f:aj}:Dr l f=true↔f∈l:=by
 simp only[Dr,List.any_eq_true,aRZ,ac5]
 constructor
 · rintro⟨x,h,rfl⟩; exact h
 · intro h; exact⟨f,h,rfl⟩
theorem adV{f y:aj}:∀{l:List aj},y∈qC f l↔y=f\/y∈l
 |[]=>by simp[qC]
 |x::l=>by
   unfold qC
   split
   · simp
   · rw[aQ1,adV,aQ1]
     constructor<;>rintro (h|h|h)<;>simp[h]
theorem amg{f:aj}:∀{l:List aj},l.Pairwise tq->f∉l->(qC f l).Pairwise tq
 |[],_,_=>by simp[qC]
 |x::l,h,hn=>by
   unfold qC
   rw[aQ1,aS4]at hn
   rw[aRb]at h
   split
   · rename_i hx
     have hx':=aui.1 hx
     rw[aRb,aRb]
     refine⟨fun a ha=>?_,h⟩
     rcases List.mem_cons.1 ha with rfl|ha
     · exact hx'
     · exact acY hx' (h.1 a ha)
   · rename_i hx
     rw[aRb]
     refine⟨fun a ha=>?_,amg h.2 hn.2⟩
     rcases adV.1 ha with rfl|ha
     · have:kg x a≠0:=fun e=>hn.1 (ac5.1 e).symm
       show kg x a<0
       omega
     · exact h.1 a ha
theorem alK{l:List aj}{f y:aj}:y∈jg l f↔y=f\/y∈l:=by
 unfold jg
 split
 · rename_i h
   rw[alJ]at h
   exact⟨.inr,fun h'=>h'.elim (fun e=>e ▸ h) id⟩
 · exact adV
theorem amh{l:List aj}{f:aj}(h:l.Pairwise tq):(jg l f).Pairwise tq:=by
 unfold jg
 split
 · exact h
 · rename_i hn
   exact amg h fun hm=>hn (alJ.2 hm)
theorem afb{p:aj->Bool}:∀(o:Option aj)(l:List aj),gJ p (fun y x=>decide (0<=kg y x)) o l=true↔(∀x∈l,p x=true)/\(∀y,o=some y-> ∀x∈l,tq y x)/\l.Pairwise tq
 |o,[]=>by cases o<;>simp[gJ]
 |none,x::l=>by
   rw[gJ,age,afb (some x) l,aRb]
   simp only[aQ1,aR8,reduceCtorEq,aS7,aTe,aTo,aR2,aTb]
   exact⟨fun ⟨a,b,c,d⟩=>⟨⟨a,b⟩,c,d⟩,fun ⟨⟨a,b⟩,c,d⟩=>⟨a,b,c,d⟩⟩
 |some y,x::l=>by
   rw[gJ,age,age,afb (some x) l,aRb]
   simp only[aQ1,aR8,aR2,aTb,aR1,aRw,Int.not_le]
   constructor
   · rintro⟨⟨a,b⟩,c,d,e⟩
     exact⟨⟨a,c⟩,⟨b,fun z hz=>acY b (d z hz)⟩,d,e⟩
   · rintro⟨⟨a,c⟩,⟨b,_⟩,d,e⟩
     exact⟨⟨a,b⟩,c,d,e⟩
theorem MN{s:List Int}{l:List aj}:lY s l=true↔(∀f∈l,jL s f=true)/\l.Pairwise tq/\jV s=true/\l.length<=24:=by
 rw[lY,age,afb,age,ag3]
 simp only[reduceCtorEq,aS7,aTe,aTo]
 constructor
 · rintro⟨⟨a,b⟩,c,d⟩; exact⟨a,b,c,by omega⟩
 · rintro⟨a,b,c,d⟩; exact⟨⟨a,b⟩,c,by omega⟩
theorem aeB{v:List Int}(h:v.Pairwise (· < ·))(lo:Int)(n:Nat)(hb:∀x∈v,lo<=x/\x<lo+n):v.length<=n:=by
 induction v generalizing lo n with
 |nil=>simp
 |cons x v ih=>
   rw[aRb]at h
   have hx:=hb x (by simp)
   have:=ih h.2 (x+1) (n-(x+1-lo).toNat) (fun y hy=>by
     have a:=h.1 y hy
     have b:=hb y (by simp[hy])
     omega)
   simp only[agr]; omega
theorem Z6:∀(o:Option Int)(l:List Int),gJ (fun _=>true) (fun y x=>decide (x<=y)) o l=true↔(∀y,o=some y-> ∀x∈l,y<x)/\l.Pairwise (· < ·)
 |o,[]=>by cases o<;>simp[gJ]
 |none,x::l=>by
   rw[gJ,aQ5,Z6 (some x) l,aRb]
   simp
 |some y,x::l=>by
   rw[gJ,age,age,Z6 (some x) l,aRb]
   simp only[aQ1,aR8,aR2,aTb,aR1,aRw,Int.not_le,aTo]
   constructor
   · rintro⟨b,d,e⟩
     exact⟨⟨b,fun z hz=>Int.lt_trans b (d z hz)⟩,d,e⟩
   · rintro⟨⟨b,_⟩,d,e⟩
     exact⟨b,d,e⟩
theorem avw{s:List Int}{m:Method}(h:vo s m=true):m.bg.length<=3:=by
 simp only[vo,age,aRN]at h
 obtain⟨h1,-,-,-,h2,h3⟩:=h
 have h4:=((Z6 none _).1 h2).2
 have h5:=vB h1
 refine aeB h4 0 3 fun x hx=>?_
 have:=h3 x hx
 simp only[aQ,age,ag3]at this
 omega
def nS(l:List Method)(facts:List aj)(a:ag):List aj:=facts.filter (mI (bN l a.Method) a.Values)
theorem ak4{s:List Int}{f:aj}(h:jL s f=true):f.Values.length<=3/\ ∀v∈f.Values,0<=v/\v<=9:=by
 simp only[jL,age,aRZ]at h
 obtain⟨h1,h2,h3⟩:=h
 have:=vB h1
 refine⟨by omega,fun v hv=>?_⟩
 have:=List.all_eq_true.1 h3 v hv
 simp only[aQ,age,ag3]at this
 omega
theorem adf(n:Int):IG n=some (aQ 0 9 n):=rfl
theorem auY{s:List Int}{l:List Method}(hl:iw s l=true):l.length<=5/\ ∀m∈l,m.bg.length<=3:=by
 simp only[iw,age,ag3]at hl
 exact⟨by omega,fun m hm=>avw (List.all_eq_true.1 hl.2.2 m hm)⟩
theorem aiW(a b:List Int)(h:a.length+b.length<4294967296):EA [a,b]=some (a++b):=by
 unfold EA Ex
 rw[di (by omega) (by omega),aqA (by simp only[ag3]; omega),acs]
 dsimp only
 unfold Ex
 rw[di (by omega) (by omega),aqA (by simp only[ag3]; omega),acs]
 dsimp only
 unfold Ex XR
 rw[atV (by omega),acs]
 unfold GR
 rw[kK (by omega),acs]
 unfold GR
 rw[nZ (by omega),acs]
 rfl
theorem adW:∀{g fs:List aj},(g.foldl jg fs).length<=fs.length+g.length
 |[],_=>by simp
 |x::g,fs=>by
   rw[aRv]
   have h1:=adW (g:=g) (fs:=jg fs x)
   have h2:=ZO fs x
   simp only[agr]; omega
theorem MO(t:Int):B_ t=some (aQ 10 17 t):=rfl
theorem RO(t:Int):Fz t=some (aQ 10 17 t):=rfl
def rf(t:Int):Bool:=aQ 0 9 t||aQ 10 17 t
theorem avx(t:Int):Nh t=some (rf t):=by
 rw[Nh,lV,acs,MO,rf]
 cases aQ 0 9 t<;>rfl
theorem avy(t:Int):SI t=some (rf t):=by
 rw[SI,adf,acs,RO,rf]
 cases aQ 0 9 t<;>rfl
theorem auj(l:List Int):RH l=some (l.all rf):=by
 unfold RH Xy XK
 rw[pM (L:=Xx) (f:=QC) (p:=fun x=>!rf x) (fun k=>rfl) (fun x r k=>rfl) l 0 (fun x _=>by rw[QC,avy]; rfl),acs,rW,acs]
 simp[aRs]
def tY(s:List Int)(a:aJ):Bool:=jW s a.aD&&(((a.Terms.length:Int)==lG s a.aD)&&a.Terms.all rf)
theorem avz(s:List Int)(a:aJ)(hs:s.length<4294967296):SE s a=some (tY s a):=by
 have hL:QZ a.Terms 0=some (a.Terms.all rf):=by
   have:=BH (L:=QZ) (f:=Nh) (p:=rf) (e:=true) (fun k=>rfl) (fun x r k=>rfl) a.Terms 0 (fun x _=>avx x)
   rw[this]; simp
 unfold SE tY
 rw[Bl,acs]
 cases h1:jV s
 · simp[jW,h1]
 rw[lV,acs,di (by omega) (by omega)]
 cases h2:aQ 0 ((s.length:Int)-1) a.aD
 · simp[jW,h1,h2]
 have hh:jW s a.aD=true:=by simp[jW,h1,h2]
 rw[(vB hh).1,hL,hh]
 by_cases e:(a.Terms.length:Int)=lG s a.aD
 · simp[e]
 · simp[e]
theorem avA(s:List Int)(a:aJ)(hs:s.length<4294967296):SK s a=some (tY s a):=by
 unfold SK tY
 rw[Zk _ _ hs,acs]
 cases hh:jW s a.aD
 · rfl
 rw[(vB hh).1,auj]
 cases e:((a.Terms.length:Int)==lG s a.aD)<;>simp[e]
def iI(p:Int->Bool)(l:List aJ):List Int:=((l.flatMap (·.Terms)).filter p).foldl oo []
def ic(l:List aJ):Nat:=(l.flatMap (·.Terms)).length
theorem adX{p:Int->Bool}{v l:List Int}:((v.filter p).foldl oo l).length<=l.length+v.length:=by
 have h1:=aed (v:=v.filter p) (l:=l)
 have h2:=aRA p v
 omega
theorem atw(x:aJ)(hx:x.Terms.length<4294967296):∀(m i:Nat)(c:List Int),i<=x.Terms.length->x.Terms.length-i<m->c.length+(x.Terms.length-i)<4294967295->L_ x m c (i:Int)=some (((x.Terms.drop i).filter (aQ 10 17)).foldl oo c):=by
 intro m
 induction m with
 |zero=>intro i c _ h _; omega
 |succ m ih=>
   intro i c hi hm hc
   unfold L_
   by_cases hlt:i<x.Terms.length
   · rw[atV (by simpa using hlt),gG,apA hlt,acs,MO,acs,aQV hlt,aRu]
     cases hp:(aQ 10 17) x.Terms[i]
     · rw[aqA (by simp),acs,aqA (by simp)]
       dsimp only
       rw[show IntKind.i64.wrap ((i:Int)+1)=((i+1:Nat):Int)from by rw[di (by omega) (by omega)]; rfl,ih (i+1) _ (by omega) (by omega) (by omega)]
     · have:=ZW (l:=c) (x:=x.Terms[i])
       rw[atV rfl,acs,adK _ _ (by omega),acs,acs,atV rfl]
       dsimp only
       rw[show IntKind.i64.wrap ((i:Int)+1)=((i+1:Nat):Int)from by rw[di (by omega) (by omega)]; rfl,ih (i+1) _ (by omega) (by omega) (by omega),aRv]
   · rw[aqA (by simpa using hlt),aRD (by omega)]; rfl
theorem ajV:∀(l:List aJ)(k:Nat)(c:List Int),c.length+ic l<4294967295->QY l k c=some (((l.flatMap (·.Terms)).filter (aQ 10 17)).foldl oo c)
 |[],k,c,_=>rfl
 |a::l,k,c,h=>by
   simp only[ic,av1,aQW]at h
   have:=adX (p:=(aQ 10 17)) (v:=a.Terms) (l:=c)
   unfold QY
   have e:L_ a (a.Terms.length+2) c 0=some (((a.Terms.drop 0).filter (aQ 10 17)).foldl oo c):=atw a (by omega) _ 0 c (by omega) (by omega) (by omega)
   rw[show ((a.Terms.length:Int)-0).toNat+2=a.Terms.length+2 by omega,e,acs]
   dsimp only
   rw[aRl,ajV l _ _ (by simp only[ic]; omega),av1,aSl,aS_]
theorem akP(q:Query)(h:ic q.aL<4294967295):Ng q=some (iI (aQ 10 17) q.aL):=by
 rw[Ng,ajV _ _ _ (by simpa using h)]; rfl
theorem ar3(x:aJ)(hx:x.Terms.length<4294967296):∀(m i:Nat)(c:List Int),i<=x.Terms.length->x.Terms.length-i<m->c.length+(x.Terms.length-i)<4294967295->Lc x m c (i:Int)=some (((x.Terms.drop i).filter (aQ 0 9)).foldl oo c):=by
 intro m
 induction m with
 |zero=>intro i c _ h _; omega
 |succ m ih=>
   intro i c hi hm hc
   unfold Lc
   by_cases hlt:i<x.Terms.length
   · rw[atV (by simpa using hlt),gG,apA hlt,acs,lV,acs,aQV hlt,aRu]
     cases hp:(aQ 0 9) x.Terms[i]
     · rw[aqA (by simp),acs,aqA (by simp)]
       dsimp only
       rw[show IntKind.i64.wrap ((i:Int)+1)=((i+1:Nat):Int)from by rw[di (by omega) (by omega)]; rfl,ih (i+1) _ (by omega) (by omega) (by omega)]
     · have:=ZW (l:=c) (x:=x.Terms[i])
       rw[atV rfl,acs,adK _ _ (by omega),acs,acs,atV rfl]
       dsimp only
       rw[show IntKind.i64.wrap ((i:Int)+1)=((i+1:Nat):Int)from by rw[di (by omega) (by omega)]; rfl,ih (i+1) _ (by omega) (by omega) (by omega),aRv]
   · rw[aqA (by simpa using hlt),aRD (by omega)]; rfl
theorem aiX:∀(l:List aJ)(k:Nat)(c:List Int),c.length+ic l<4294967295->Pm l k c=some (((l.flatMap (·.Terms)).filter (aQ 0 9)).foldl oo c)
 |[],k,c,_=>rfl
 |a::l,k,c,h=>by
   simp only[ic,av1,aQW]at h
   have:=adX (p:=(aQ 0 9)) (v:=a.Terms) (l:=c)
   unfold Pm
   have e:Lc a (a.Terms.length+2) c 0=some (((a.Terms.drop 0).filter (aQ 0 9)).foldl oo c):=ar3 a (by omega) _ 0 c (by omega) (by omega) (by omega)
   rw[show ((a.Terms.length:Int)-0).toNat+2=a.Terms.length+2 by omega,e,acs]
   dsimp only
   rw[aRl,aiX l _ _ (by simp only[ic]; omega),av1,aSl,aS_]
theorem ajf(q:Query)(h:ic q.aL<4294967295):Lt q=some (iI (aQ 0 9) q.aL):=by
 rw[Lt,aiX _ _ _ (by simpa using h)]; rfl
theorem arU(l:List Int)(c:List Int)(h:c.length+l.length<4294967296):K3 l 0 c=some (c++l.filter (aQ 10 17)):=by
 have:=aer (L:=K3) (P:=fun _=>True) (p:=(aQ 10 17)) (g:=fun x:Int=>x) (fun _ _=>rfl) (fun x r k c _ hc=>by
   rw[K3,RO,acs]
   cases (aQ 10 17) x
   · rw[aqA (by simp),aqA (by simp)]; rfl
   · rw[atV rfl,app1 hc,atV rfl]; rfl) l 0 c (fun _ _=>aSq) h
 rw[this,List.map_id']
theorem aiQ:∀(l:List aJ)(k:Nat)(c:List Int),c.length+ic l<4294967296->K4 l k c=some (Lib.compact ((c++(l.flatMap (·.Terms)).filter (aQ 10 17)).mergeSort fun x y=>decide (x<=y)))
 |[],k,c,_=>by simp[K4,O8,KR]
 |a::l,k,c,h=>by
   simp only[ic,av1,aQW]at h
   have:=aRA (aQ 10 17) a.Terms
   unfold K4
   rw[arU a.Terms c (by omega),acs]
   dsimp only
   rw[aiQ l _ _ (by simp only[ic,aQW]; omega),av1,aSl,aQY]
theorem akQ(q:Query)(h:ic q.aL<4294967295):Nr q=some (iI (aQ 10 17) q.aL):=by
 rw[Nr,X3,aiQ _ _ _ (by simp; omega),acs,aRa,iI,alI]
theorem arT(l:List Int)(c:List Int)(h:c.length+l.length<4294967296):KU l 0 c=some (c++l.filter (aQ 0 9)):=by
 have:=aer (L:=KU) (P:=fun _=>True) (p:=(aQ 0 9)) (g:=fun x:Int=>x) (fun _ _=>rfl) (fun x r k c _ hc=>by
   rw[KU,adf,acs]
   cases (aQ 0 9) x
   · rw[aqA (by simp),aqA (by simp)]; rfl
   · rw[atV rfl,app1 hc,atV rfl]; rfl) l 0 c (fun _ _=>aSq) h
 rw[this,List.map_id']
theorem aiO:∀(l:List aJ)(k:Nat)(c:List Int),c.length+ic l<4294967296->KV l k c=some (Lib.compact ((c++(l.flatMap (·.Terms)).filter (aQ 0 9)).mergeSort fun x y=>decide (x<=y)))
 |[],k,c,_=>by simp[KV,O8,KR]
 |a::l,k,c,h=>by
   simp only[ic,av1,aQW]at h
   have:=aRA (aQ 0 9) a.Terms
   unfold KV
   rw[arT a.Terms c (by omega),acs]
   dsimp only
   rw[aiO l _ _ (by simp only[ic,aQW]; omega),av1,aSl,aQY]
theorem ajg(q:Query)(h:ic q.aL<4294967295):Hz q=some (iI (aQ 0 9) q.aL):=by
 rw[Hz,XV,aiO _ _ _ (by simp; omega),acs,aRa,iI,alI]
theorem aco(l:List Int)(v:Int):GX l v=some (iM (fun x=>v==x) l 0):=by
 rw[GX]
 exact pM (L:=XQ v) (f:=fun x=>some (v==x)) (p:=fun x=>v==x) (fun _=>rfl) (fun _ _ _=>rfl) l 0 (fun _ _=>rfl)
theorem ack(l:List Int)(v:Int):GU l v=some (decide (v∈l)):=by
 rw[GU,aco,acs,rW]
 congr 1
 rw[aSY]
 simp
def fe(s:List Int)(q:Query):Bool:=q.aL.all (tY s)&&(q.a_.all (fun t=>decide (t∈iI (aQ 10 17) q.aL))&&(jV s&&(aQ 1 4 (q.aL.length:Int)&&decide ((q.a_.length:Int)<=3))))
theorem asX(s:List Int)(q:Query)(v:List Int):∀(l:List Int)(k:Nat),LK s q v l k=some (l.all (fun t=>decide (t∈v))&&(jV s&&(aQ 1 4 (q.aL.length:Int)&&decide ((q.a_.length:Int)<=3)))):=by
 intro l
 induction l with
 |nil=>
   intro k
   rw[LK,Bl,acs,lV]
   cases jV s<;>cases aQ 1 4 (q.aL.length:Int)<;>rfl
 |cons x l ih=>
   intro k
   rw[LK,RN,acs,ih,aRS]
   cases decide (x∈v)<;>rfl
theorem LY(s:List Int)(q:Query)(hs:s.length<4294967296)(h:ic q.aL<4294967295):zP s q=some (fe s q):=by
 have key:∀(l:List aJ)(k:Nat),LM s q l k=some (l.all (tY s)&&(q.a_.all (fun t=>decide (t∈iI (aQ 10 17) q.aL))&&(jV s&&(aQ 1 4 (q.aL.length:Int)&&decide ((q.a_.length:Int)<=3))))):=by
   intro l
   induction l with
   |nil=>
     intro k
     rw[LM,akP q h,acs,asX]
     simp
   |cons x l ih=>
     intro k
     rw[LM,avz s x hs,acs,ih,aRS]
     cases tY s x<;>rfl
 rw[zP,key]; rfl
theorem Y1(s:List Int)(q:Query)(hs:s.length<4294967296)(h:ic q.aL<4294967295):E9 s q=some (fe s q):=by
 have h1:OQ q.aL s=some (q.aL.any fun a=>!tY s a):=by
   unfold OQ Xk
   rw[pM (L:=Xe s) (f:=fun a=>Q6 a s) (p:=fun a=>!tY s a) (fun k=>rfl) (fun x r k=>rfl) q.aL 0 (fun x _=>by rw[Q6,avA s x hs]; rfl),acs,rW]
 have h2:O0 q.a_ (iI (aQ 10 17) q.aL)=some (q.a_.any fun t=>!decide (t∈iI (aQ 10 17) q.aL)):=by
   unfold O0 XM
   rw[pM (L:=XD _) (f:=fun t=>Q7 t (iI (aQ 10 17) q.aL)) (p:=fun t=>!decide (t∈iI (aQ 10 17) q.aL)) (fun k=>rfl) (fun x r k=>rfl) q.a_ 0 (fun x _=>by rw[Q7,ack]; rfl),acs,rW]
 unfold E9 fe
 rw[Qm,acs,tu,acs,h1,acs,ZM,akQ q h,acs,h2]
 have e1:(q.aL.any fun a=>!tY s a)=!(q.aL.all (tY s)):=by simp[aRs]
 have e2:(q.a_.any fun t=>!decide (t∈iI (aQ 10 17) q.aL))=!(q.a_.all fun t=>decide (t∈iI (aQ 10 17) q.aL)):=by simp[aRs]
 rw[e1,e2]
 cases jV s<;>cases aQ 1 4 (q.aL.length:Int)<;>cases q.aL.all (tY s)<;>cases decide ((q.a_.length:Int)<=3)<;>cases (q.a_.all fun t=>decide (t∈iI (aQ 10 17) q.aL))<;>rfl
theorem akR(s:List Int)(l:List Method)(q:Query)(hs:s.length<4294967296)(hl:aZ kT l)(h:ic q.aL<4294967295):Ni s l q=some (iw s l&&fe s q):=by
 rw[Ni,X9 s l hs hl,acs,LY s q hs h]
 cases iw s l<;>rfl
theorem aj9(s:List Int)(l:List Method)(q:Query)(hs:s.length<4294967296)(hl:aZ kT l)(h:ic q.aL<4294967295):MG s l q=some (iw s l&&fe s q):=by
 rw[MG,X_ s l hs hl,acs,Y1 s q hs h]
 cases iw s l<;>rfl
def kv:List Int->List Int->Int->Option Int
 |v::vs,x::xs,t=>if v=t then some x else kv vs xs t
 |_,_,_=>none
theorem alL(vs:List Int)(t:Int):kv vs [] t=none:=by cases vs<;>rfl
theorem asY(b:aN)(t:Int)(hv:b.Vars.length<4294967296):∀(m i:Nat),i<=b.Vars.length->b.Vars.length-i<m->Qs b t m (i:Int)=some ((kv (b.Vars.drop i) (b.Values.drop i) t).getD (-1)):=by
 intro m
 induction m with
 |zero=>intro i _ h; omega
 |succ m ih=>
   intro i hi hm
   unfold Qs
   by_cases h1:i<b.Vars.length
   · by_cases h2:i<b.Values.length
     · rw[atV (by simp; omega),gG,apA h1,acs,gG,apA h2,acs,aQV h1,aQV h2,kv]
       by_cases e:b.Vars[i]=t
       · rw[atV (by simpa using e),atV e]; rfl
       · rw[aqA (by simpa using e),aqA e,show IntKind.i64.wrap ((i:Int)+1)=((i+1:Nat):Int)from by rw[di (by omega) (by omega)]; rfl,ih (i+1) (by omega) (by omega)]
     · rw[aqA (by simp; omega),aRD (show b.Values.length<=i by omega),alL]; rfl
   · rw[aqA (by simp; omega),aRD (by omega)]; rfl
theorem asZ(b:aN)(t:Int)(hv:b.Vars.length<4294967296):∀(m i:Nat),i<=b.Vars.length->b.Vars.length-i<m->Qt b t m (i:Int)=some (kv (b.Vars.drop i) (b.Values.drop i) t).isSome:=by
 intro m
 induction m with
 |zero=>intro i _ h; omega
 |succ m ih=>
   intro i hi hm
   unfold Qt
   by_cases h1:i<b.Vars.length
   · by_cases h2:i<b.Values.length
     · rw[atV (by simp; omega),gG,apA h1,acs,aQV h1,aQV h2,kv]
       by_cases e:b.Vars[i]=t
       · rw[atV (by simpa using e),atV e]; rfl
       · rw[aqA (by simpa using e),aqA e,show IntKind.i64.wrap ((i:Int)+1)=((i+1:Nat):Int)from by rw[di (by omega) (by omega)]; rfl,ih (i+1) (by omega) (by omega)]
     · rw[aqA (by simp; omega),aRD (show b.Values.length<=i by omega),alL]; rfl
   · rw[aqA (by simp; omega),aRD (by omega)]; rfl
def mO(vs xs:List Int)(t:Int):Int:=if aQ 10 17 t then (kv vs xs t).getD (-1)else t
theorem QJ(b:aN)(t:Int)(hv:b.Vars.length<4294967296):yn b t=some (mO b.Vars b.Values t):=by
 unfold yn mO
 rw[MO,acs]
 cases aQ 10 17 t
 · simp
 · rw[aqA (by simp),atV rfl,show ((b.Vars.length:Int)-0).toNat+2=b.Vars.length+2 by omega,show (0:Int)=((0:Nat):Int)from rfl,asY b t hv _ 0 (by omega) (by omega)]
   rfl
theorem auZ(b:aN)(t:Int)(hv:b.Vars.length<4294967296):MV b t=some (kv b.Vars b.Values t).isSome:=by
 unfold MV
 rw[show ((b.Vars.length:Int)-0).toNat+2=b.Vars.length+2 by omega,show (0:Int)=((0:Nat):Int)from rfl,asZ b t hv _ 0 (by omega) (by omega)]
 rfl
theorem ZY(t:Int):∀(vs xs:List Int)(k:Nat),vs.length=xs.length->(iM (fun x=>t==x) vs k= -1/\kv vs xs t=none)\/ ∃j:Nat,j<vs.length/\iM (fun x=>t==x) vs k=((k+j:Nat):Int)/\ ∃y,xs[j]?=some y/\kv vs xs t=some y
 |[],xs,k,_=>.inl ⟨rfl,rfl⟩
 |v::vs,[],k,h=>by simp at h
 |v::vs,x::xs,k,h=>by
   unfold iM kv
   by_cases e:v=t
   · subst e
     rw[atV (by simp),atV rfl]
     exact .inr ⟨0,by simp,by simp,x,rfl,rfl⟩
   · rw[aqA (by simp; exact fun h=>e h.symm),aqA e]
     rcases ZY t vs xs (k+1) (by simpa using h)with⟨h1,h2⟩|⟨j,h1,h2,y,h3,h4⟩
     · exact .inl ⟨h1,h2⟩
     · exact .inr ⟨j+1,by simp; omega,by rw[h2]; congr 1; omega,y,by simpa using h3,h4⟩
theorem ak5(b:aN)(t:Int)(h:b.Vars.length=b.Values.length):He b t=some (iM (fun x=>t==x) b.Vars 0):=by
 unfold He
 rw[aqA (by omega),j5,atV (by simp),acs,aco,acs]
 congr 2
 rw[show ((b.Vars.length:Int)).toNat=b.Vars.length by omega,aR7]
theorem QK(b:aN)(t:Int)(h:b.Vars.length=b.Values.length):yo b t=some (mO b.Vars b.Values t):=by
 unfold yo mO
 rw[RO,acs]
 cases aQ 10 17 t
 · simp
 · rw[aqA (by simp),atV rfl,ak5 b t h,acs]
   rcases ZY t b.Vars b.Values 0 h with⟨h1,h2⟩|⟨j,h1,h2,y,h3,h4⟩
   · rw[h1,h2,atV (by decide)]; rfl
   · rw[h2,h4,aqA (by simp),aRf,gG,h3]; rfl
theorem alM{t x:Int}:∀{vs xs:List Int},vs.length=xs.length->kv vs xs t=none->kv (vs++[t]) (xs++[x]) t=some x
 |[],[],_,_=>by simp[kv]
 |v::vs,[],h,_=>by simp at h
 |[],x::xs,h,_=>by simp at h
 |v::vs,y::xs,h,hn=>by
   unfold kv at hn
   split at hn
   · simp at hn
   · rename_i e
     rw[aSt,aSt,kv,aqA e]
     exact alM (by simpa using h) hn
def vY(fv:List Int):List Int->Nat->List Int->List Int->Option (List Int×List Int)
 |[],_,vs,xs=>some (vs,xs)
 |t::r,k,vs,xs=>
   if aQ 10 17 t&&!(kv vs xs t).isSome then vY fv r (k+1) (vs++[t]) (xs++[fv[k]?.getD 0])
   else if mO vs xs t !=fv[k]?.getD 0 then none else vY fv r (k+1) vs xs
def GD:Option (List Int×List Int)->aN×Bool
 |some p=>({Vars:=p.1,Values:=p.2},true)
 |none=>({Vars:=[],Values:=[]},false)
theorem acB(f:aj):∀(l:List Int)(k:Nat)(vs xs:List Int),k+l.length<=f.Values.length->vs.length=xs.length->vs.length+l.length<4294967295->PP f l k vs xs=some (GD (vY f.Values l k vs xs))
 |[],k,vs,xs,_,_,_=>rfl
 |t::l,k,vs,xs,hk,he,hb=>by
   simp only[agr]at hk hb
   have hlt:k<f.Values.length:=by omega
   have e1:yn {Vars:=vs,Values:=xs} t=some (mO vs xs t):=QJ _ _ (by show vs.length<_; omega)
   have e2:MV {Vars:=vs,Values:=xs} t=some (kv vs xs t).isSome:=auZ _ _ (by show vs.length<_; omega)
   have e3:Fs {Vars:=vs,Values:=xs} t f.Values[k]=some {Vars:=vs++[t],Values:=xs++[f.Values[k]]}:=by
     simp only[Fs]
     rw[kK (by omega),acs,nZ (by simp; omega),acs,kK (by omega),acs,nZ (by simp; omega),acs]
   have ih1:=acB f l (k+1) vs xs (by omega) he (by omega)
   have ih2:=acB f l (k+1) (vs++[t]) (xs++[f.Values[k]]) (by omega) (by simp[he]) (by simp; omega)
   unfold PP vY
   rw[e1,acs,MO,acs,e2,gG,apA hlt]
   rcases aRM (aQ 10 17 t)with h1|h1<;>rcases aRM (kv vs xs t).isSome with h3|h3<;>by_cases h2:mO vs xs t=f.Values[k]<;>simp[h1,h2,h3,e3,ih1,ih2]<;>rfl
theorem acC(f:aj):∀(l:List Int)(k:Nat)(vs xs:List Int),k+l.length<=f.Values.length->vs.length=xs.length->vs.length+l.length<4294967295->Ho f l k vs xs=some (GD (vY f.Values l k vs xs))
 |[],k,vs,xs,_,_,_=>rfl
 |t::l,k,vs,xs,hk,he,hb=>by
   simp only[agr]at hk hb
   have hlt:k<f.Values.length:=by omega
   have hd:(decide (iM (fun x=>t==x) vs 0<0))=!(kv vs xs t).isSome:=by
     rcases ZY t vs xs 0 he with⟨h1,h2⟩|⟨j,h1,h2,y,h3,h4⟩
     · rw[h1,h2]; rfl
     · rw[h2,h4]; simp
   have e1:yo {Vars:=vs,Values:=xs} t=some (mO vs xs t):=QK _ t he
   have e2:He {Vars:=vs,Values:=xs} t=some (iM (fun x=>t==x) vs 0):=ak5 _ t he
   have e4:app vs [t]=some (vs++[t]):=nZ (by simp; omega)
   have e5:app xs [f.Values[k]]=some (xs++[f.Values[k]]):=nZ (by simp; omega)
   have e6:yo {Vars:=vs++[t],Values:=xs++[f.Values[k]]} t=some (mO (vs++[t]) (xs++[f.Values[k]]) t):=QK _ t (by simp[he])
   have ih1:=acC f l (k+1) vs xs (by omega) he (by omega)
   have ih2:=acC f l (k+1) (vs++[t]) (xs++[f.Values[k]]) (by omega) (by simp[he]) (by simp; omega)
   unfold Ho vY
   rw[RO,acs,e2,gG,apA hlt]
   by_cases h3:(kv vs xs t).isSome=true
   · rcases aRM (aQ 10 17 t)with h1|h1<;>by_cases h2:mO vs xs t=f.Values[k]<;>simp[h1,h2,h3,hd,e1,ih1]<;>rfl
   · have hn:kv vs xs t=none:=by simpa using h3
     by_cases h1:aQ 10 17 t=true
     · have hv:mO (vs++[t]) (xs++[f.Values[k]]) t=f.Values[k]:=by rw[mO,h1,atV rfl,alM he hn]; rfl
       simp[h1,hn,hd,e4,e5,e6,hv,ih2]
     · rw[Bool.not_eq_true]at h1
       by_cases h2:mO vs xs t=f.Values[k]<;>simp[h1,h2,hn,hd,e1,ih1]<;>rfl
def CO(b:aN)(a:aJ)(f:aj):Option (List Int×List Int):=
 if (a.aD !=f.aD)||(((a.Terms.length:Int)!=(f.Values.length:Int))||((b.Vars.length:Int)!=(b.Values.length:Int)))then none else vY f.Values a.Terms 0 b.Vars b.Values
def mF(n:Nat)(b:aN):Prop:=b.Vars.length=b.Values.length/\b.Vars.length<=n
theorem atx(b:aN)(a:aJ)(f:aj){n:Nat}(hb:mF n b)(hn:n+a.Terms.length<4294967295):Q0 b a f=some (GD (CO b a f)):=by
 unfold Q0 CO
 rw[Nl,kK (by have:=hb.2; omega),acs,kK (by have:=hb.1; have:=hb.2; omega),acs,acs]
 dsimp only
 split
 · rfl
 · rename_i h
   simp only[aR4,aTa,ne_eq,aS4,aS']at h
   exact acB f a.Terms 0 _ _ (by omega) hb.1 (by have:=hb.2; show b.Vars.length+_<_; omega)
theorem aty(b:aN)(a:aJ)(f:aj){n:Nat}(hb:mF n b)(hn:n+a.Terms.length<4294967295):Mh b a f=some (GD (CO b a f)):=by
 unfold Mh CO
 split
 · rfl
 · rename_i h
   simp only[aR4,aTa,ne_eq,aS4,aS']at h
   rw[YC,uW _ (by have:=hb.2; omega),acs,uW _ (by have:=hb.1; have:=hb.2; omega),acs,acs]
   exact acC f a.Terms 0 _ _ (by omega) hb.1 (by have:=hb.2; show b.Vars.length+_<_; omega)
def kz(a:aJ)(facts:List aj)(b:aN):List aN:=facts.filterMap fun f=>(CO b a f).map fun p=>({Vars:=p.1,Values:=p.2}:aN)
theorem BS(a:aJ)(facts:List aj)(b:aN):(kz a facts b).length<=facts.length:=List.length_filterMap_le ..
theorem acF(a:aJ)(b:aN){n:Nat}(hb:mF n b)(hn:n+a.Terms.length<4294967295):∀(l:List aj)(k:Nat)(c:List aN),c.length+l.length<4294967296->Lv a b l k c=some (c++kz a l b)
 |[],k,c,_=>by simp[Lv,kz]
 |f::l,k,c,h=>by
   simp only[agr]at h
   unfold Lv
   rw[atx b a f hb hn,acs,kz,List.filterMap_cons]
   cases hp:CO b a f with
   |none=>
     simp only[GD,av0,aQ9,acs,Option.map_none]
     rw[acF a b hb hn l _ _ (by omega)]; rfl
   |some p=>
     simp only[GD,eq_self,aRr,aSG]
     rw[app1 (by omega),acs,acs]
     rw[acF a b hb hn l _ _ (by simp; omega),aQY]; rfl
theorem acG(a:aJ)(facts:List aj){n:Nat}(hn:n+a.Terms.length<4294967295):∀(l:List aN)(k:Nat)(c:List aN),(∀b∈l,mF n b)->c.length+l.length*facts.length<4294967296->Lx a facts l k c=some (c++l.flatMap (kz a facts))
 |[],k,c,_,_=>by simp[Lx]
 |b::l,k,c,hb,h=>by
   simp only[agr,aRW]at h
   have:=BS a facts b
   unfold Lx
   rw[acF a b (hb b (by simp)) hn facts 0 c (by omega),acs]
   dsimp only
   rw[acG a facts hn l _ _ (fun x hx=>hb x (by simp[hx])) (by simp; omega),av1,aQY]
theorem acH(a:aJ)(b:aN){n:Nat}(hb:mF n b)(hn:n+a.Terms.length<4294967295):∀(l:List aj)(k:Nat)(c:List aN),c.length+l.length<4294967296->LF a b l k c=some (c++kz a l b)
 |[],k,c,_=>by simp[LF,kz]
 |f::l,k,c,h=>by
   simp only[agr]at h
   unfold LF
   rw[aty b a f hb hn,acs,kz,List.filterMap_cons]
   cases hp:CO b a f with
   |none=>
     simp only[GD,av0,aQ9,acs,Option.map_none]
     rw[acH a b hb hn l _ _ (by omega)]; rfl
   |some p=>
     simp only[GD,eq_self,aRr,aSG]
     rw[app1 (by omega),acs,acs]
     rw[acH a b hb hn l _ _ (by simp; omega),aQY]; rfl
theorem acI(a:aJ)(facts:List aj){n:Nat}(hn:n+a.Terms.length<4294967295):∀(l:List aN)(k:Nat)(c:List aN),(∀b∈l,mF n b)->c.length+l.length*facts.length<4294967296->LG a facts l k c=some (c++l.flatMap (kz a facts))
 |[],k,c,_,_=>by simp[LG]
 |b::l,k,c,hb,h=>by
   simp only[agr,aRW]at h
   have:=BS a facts b
   unfold LG
   rw[acH a b (hb b (by simp)) hn facts 0 c (by omega),acs]
   dsimp only
   rw[acI a facts hn l _ _ (fun x hx=>hb x (by simp[hx])) (by simp; omega),av1,aQY]
theorem Zl{fv:List Int}:∀{l:List Int}{k:Nat}{vs xs:List Int}{p:List Int×List Int},vY fv l k vs xs=some p->vs.length=xs.length->p.1.length=p.2.length/\p.1.length<=vs.length+l.length
 |[],k,vs,xs,p,h,he=>by
   simp only[vY,aR2]at h
   subst h; exact⟨he,by simp⟩
 |t::l,k,vs,xs,p,h,he=>by
   unfold vY at h
   split at h
   · have:=Zl h (by simp[he])
     simp only[aQW,agr,aQ']at this ⊢
     exact⟨this.1,by omega⟩
   · split at h
     · simp at h
     · have:=Zl h he
       simp only[agr]
       exact⟨this.1,by omega⟩
theorem Z7{a:aJ}{facts:List aj}{b x:aN}{n:Nat}(hb:mF n b)(h:x∈kz a facts b):mF (n+a.Terms.length) x:=by
 simp only[kz,List.mem_filterMap,Option.map_eq_some_iff]at h
 obtain⟨f,-,p,hp,rfl⟩:=h
 unfold CO at hp
 split at hp
 · simp at hp
 · have:=Zl hp hb.1
   exact⟨this.1,by show p.1.length<=_; have:=hb.2; omega⟩
def Ji(facts:List aj):List aJ->List aN->List aN
 |[],l=>l
 |a::r,l=>Ji facts r (l.flatMap (kz a facts))
theorem aeC{α β:Type}(f:α->List β)(c:Nat)(hf:∀x,(f x).length<=c):∀l:List α,(l.flatMap f).length<=l.length*c
 |[]=>by simp
 |x::l=>by
   have h1:=hf x
   have h2:=aeC f c hf l
   rw[av1,aQW,agr,aRW]; omega
theorem ai1(facts:List aj)(hf:facts.length<=24):∀(l:List aJ)(k n:Nat)(c:List aN),l.length<=4->(∀a∈l,a.Terms.length<=3)->(∀b∈c,mF n b)->n+3*l.length<=1000->c.length*24 ^ l.length<=24 ^ 4->Py facts l k c=some (Ji facts l c)
 |[],k,n,c,_,_,_,_,_=>rfl
 |a::l,k,n,c,hl,ha,hb,hn,hc=>by
   have KJ:=ha a (by simp)
   rw[agr,Nat.pow_succ,aSX (24 ^ l.length) 24,←aTq]at hc
   have hp:0<24 ^ l.length:=Nat.pow_pos (by omega)
   have h1:c.length*24<=24 ^ 4:=aQ6 (aTh _ hp) hc
   have h2:c.length*facts.length<=c.length*24:=aSF _ hf
   have h3:=aeC (kz a facts) 24 (fun b=>aQ6 (BS a facts b) hf) c
   unfold Py Ji
   rw[uY,acG a facts (n:=n) (by simp at hn; omega) c 0 [] hb (by simp; omega),acs,aRa]
   exact ai1 facts hf l (k+1) (n+a.Terms.length) _ (by simp at hl; omega) (fun x hx=>ha x (by simp[hx])) (fun x hx=>by
     obtain⟨b,hb1,hb2⟩:=List.mem_flatMap.1 hx
     exact Z7 (hb b hb1) hb2) (by simp at hn; omega) (aQ6 (aQ4 _ h3) hc)
theorem ai2(facts:List aj)(hf:facts.length<=24):∀(l:List aJ)(k n:Nat)(c:List aN),l.length<=4->(∀a∈l,a.Terms.length<=3)->(∀b∈c,mF n b)->n+3*l.length<=1000->c.length*24 ^ l.length<=24 ^ 4->PG facts l k c=some (Ji facts l c)
 |[],k,n,c,_,_,_,_,_=>rfl
 |a::l,k,n,c,hl,ha,hb,hn,hc=>by
   have KJ:=ha a (by simp)
   rw[agr,Nat.pow_succ,aSX (24 ^ l.length) 24,←aTq]at hc
   have hp:0<24 ^ l.length:=Nat.pow_pos (by omega)
   have h1:c.length*24<=24 ^ 4:=aQ6 (aTh _ hp) hc
   have h2:c.length*facts.length<=c.length*24:=aSF _ hf
   have h3:=aeC (kz a facts) 24 (fun b=>aQ6 (BS a facts b) hf) c
   unfold PG Ji
   rw[yl,acI a facts (n:=n) (by simp at hn; omega) c 0 [] hb (by simp; omega),acs,aRa]
   exact ai2 facts hf l (k+1) (n+a.Terms.length) _ (by simp at hl; omega) (fun x hx=>ha x (by simp[hx])) (fun x hx=>by
     obtain⟨b,hb1,hb2⟩:=List.mem_flatMap.1 hx
     exact Z7 (hb b hb1) hb2) (by simp at hn; omega) (aQ6 (aQ4 _ h3) hc)
theorem mX{s:List Int}{q:Query}(h:fe s q=true):q.aL.length<=4/\(∀a∈q.aL,a.Terms.length<=3)/\q.a_.length<=3:=by
 simp only[fe,age,aRN,ag3]at h
 obtain⟨h1,-,-,h2,h3⟩:=h
 simp only[aQ,age,ag3]at h2
 refine⟨by omega,fun a ha=>?_,by omega⟩
 have:=h1 a ha
 simp only[tY,age,aRZ]at this
 have h4:=vB this.1
 omega
def Nu(q:Query)(facts:List aj):List aN:=Ji facts q.aL [{Vars:=[],Values:=[]}]
theorem as0{s:List Int}{q:Query}{facts:List aj}(hq:fe s q=true)(hf:facts.length<=24):Qu q facts=some (Nu q facts):=by
 obtain⟨h1,h2,-⟩:=mX hq
 rw[Qu,ai1 facts hf q.aL 0 0 _ h1 h2 (fun b hb=>by simp at hb; subst hb; exact⟨rfl,by simp⟩) (by omega) (by
   simp only[agr,aQ',aRf,aSC]
   exact aSg (by omega) h1)]
 rfl
theorem as1{s:List Int}{q:Query}{facts:List aj}(hq:fe s q=true)(hf:facts.length<=24):QD q facts=some (Nu q facts):=by
 obtain⟨h1,h2,-⟩:=mX hq
 rw[QD,ai2 facts hf q.aL 0 0 _ h1 h2 (fun b hb=>by simp at hb; subst hb; exact⟨rfl,by simp⟩) (by omega) (by
   simp only[agr,aQ',aRf,aSC]
   exact aSg (by omega) h1)]
 rfl
theorem alN{facts:List aj}:∀{l:List aJ}{n:Nat}{c:List aN},(∀b∈c,mF n b)-> ∀b∈Ji facts l c,mF (n+ic l) b
 |[],n,c,h,b,hb=>by simpa[ic]using h b hb
 |a::l,n,c,h,b,hb=>by
   have:=alN (l:=l) (n:=n+a.Terms.length) (c:=c.flatMap (kz a facts)) (fun x hx=>by
     obtain⟨b,hb1,hb2⟩:=List.mem_flatMap.1 hx
     exact Z7 (h b hb1) hb2) b hb
   have e:n+ic (a::l)=n+a.Terms.length+ic l:=by simp only[ic,av1,aQW]; omega
   rw[e]; exact this
theorem vw:∀{l:List aJ},(∀a∈l,a.Terms.length<=3)->ic l<=3*l.length
 |[],_=>by simp[ic]
 |a::l,h=>by
   have h1:=h a (by simp)
   have h2:=vw (l:=l) fun x hx=>h x (by simp[hx])
   simp only[ic,av1,aQW,agr]at*; omega
theorem akS{s:List Int}{q:Query}{facts:List aj}(hq:fe s q=true):∀b∈Nu q facts,mF 12 b:=fun b hb=>by
 obtain⟨h1,h2,-⟩:=mX hq
 have h3:=vw h2
 have:=alN (n:=0) (fun b hb=>by simp at hb; subst hb; exact⟨rfl,by simp⟩) b hb
 exact⟨this.1,by have:=this.2; omega⟩
def lu(q:Query)(b:aN):List Int:=q.a_.map (mO b.Vars b.Values)
def abb(l:List (List Int))(t:List Int):Bool:=l.any fun x=>ql x t
def wC(t:List Int):List (List Int)->List (List Int)
 |[]=>[t]
 |x::l=>if 0<cmpL x t then t::x::l else x::wC t l
theorem alO(t:List Int):∀l:List (List Int),(wC t l).length=l.length+1
 |[]=>rfl
 |x::l=>by
   unfold wC
   split
   · rfl
   · simp[alO t l]
theorem alP{t y:List Int}:∀{l:List (List Int)},y∈wC t l->y=t\/y∈l
 |[],h=>by simp[wC]at h; exact .inl h
 |x::l,h=>by
   unfold wC at h
   split at h
   · simp at h; simp[h]
   · rcases List.mem_cons.1 h with h|h
     · simp[h]
     · rcases alP h with h|h<;>simp[h]
theorem ami(t:List Int):∀(l:List (List Int))(k:Nat),(iM (fun x=>decide (0<cmpL x t)) l k= -1/\wC t l=l++[t])\/ ∃j:Nat,j<l.length/\iM (fun x=>decide (0<cmpL x t)) l k=((k+j:Nat):Int)/\wC t l=l.take j++t::l.drop j
 |[],k=>.inl ⟨rfl,rfl⟩
 |x::l,k=>by
   unfold iM wC
   by_cases h:0<cmpL x t
   · rw[atV h,atV (by simpa using h)]
     exact .inr ⟨0,by simp,by simp,by simp⟩
   · rw[aqA h,aqA (by simpa using h)]
     rcases ami t l (k+1)with⟨h1,h2⟩|⟨j,h1,h2,h3⟩
     · exact .inl ⟨h1,by rw[h2]; rfl⟩
     · exact .inr ⟨j+1,by simp; omega,by rw[h2]; congr 1; omega,by rw[h3]; rfl⟩
def vI(l:List (List Int))(t:List Int):List (List Int):=if abb l t then l else wC t l
theorem adY(l:List (List Int))(t:List Int):(vI l t).length<=l.length+1:=by
 unfold vI
 split
 · omega
 · rw[alO]; exact aQT _
theorem alQ{l:List (List Int)}{t y:List Int}(h:y∈vI l t):y=t\/y∈l:=by
 unfold vI at h
 split at h
 · exact .inr h
 · exact alP h
theorem auk(l:List (List Int))(t:List Int):MH l t=some (abb l t):=by
 unfold MH XA XL
 rw[pM (L:=Xz t) (f:=fun x=>QF x t) (p:=fun x=>ql x t) (fun k=>rfl) (fun x r k=>rfl) l 0 (fun x _=>by rw[QF,acn]; rfl),acs,rW]
 rfl
theorem as2(l:List (List Int))(t:List Int)(hl:l.length+1<4294967296)(ht:t.length<4294967296):LW l t=some (vI l t):=by
 unfold LW vI
 rw[auk,acs]
 cases hh:abb l t
 · rw[aqA (by simp),aqA (by simp)]
   have hix:XF l t=some (iM (fun x=>decide (0<cmpL x t)) l 0):=
     pM (L:=Xq t) (f:=fun x=>P5 x t) (p:=fun x=>decide (0<cmpL x t)) (fun k=>rfl) (fun x r k=>rfl) l 0 (fun x hx=>by rw[P5,acv]; rfl)
   rw[hix,acs]
   rcases ami t l 0 with⟨h1,h2⟩|⟨j,h1,h2,h3⟩
   · rw[h1,atV (by decide),uW t ht,acs,KS,h2]
     try dsimp only
     rw[atV ⟨by omega,by omega,hl⟩,acs,aRc,aR7,aSj]
   · rw[h2,aqA (by simp only[ag3]; omega),uW t ht,acs,KS,h3]
     try dsimp only
     rw[atV ⟨by omega,by omega,hl⟩,acs,aRc,aRf]
 · rw[atV rfl,atV rfl]
theorem acw(t:List Int):∀(l:List (List Int))(k:Nat)(c:List (List Int)),(∀x∈l,x.length<4294967296)->c.length+l.length<4294967296->zM t l k c true=some (c++l)
 |[],k,c,_,_=>by simp[zM]
 |x::l,k,c,hx,h=>by
   simp only[agr]at h
   unfold zM
   simp only[aQX,aQ3,acs]
   rw[aqA (by simp),kK (hx x (by simp)),acs,app1 (by omega),acs,acs]
   try dsimp only
   rw[acw t l _ _ (fun y hy=>hx y (by simp[hy])) (by simp; omega)]
   simp
theorem ajh(t:List Int)(ht:t.length<4294967296):∀(l:List (List Int))(k:Nat)(c:List (List Int))(b:Bool),(∀x∈l,x.length<4294967296)->c.length+l.length+1<4294967296->zM t l k c b=some (if b then c++l else c++wC t l)
 |[],k,c,b,_,h=>by
   unfold zM
   cases b
   · rw[atV (by rfl),kK ht,acs,app1 (by simp at h; omega),acs,aqA (by simp)]; rfl
   · simp
 |x::l,k,c,b,hx,h=>by
   simp only[agr]at h
   have hx1:=hx x (by simp)
   cases b
   · unfold zM
     simp only[aRF,aRk]
     rw[akN _ _ ht,acs,acs]
     try dsimp only
     by_cases hlt:cmpL t x<0
     · rw[atV (by simpa using hlt),kK ht,acs,app1 (by omega),acs,kK hx1,acs,app1 (by simp; omega),acs,acs]
       try dsimp only
       rw[acw t l _ _ (fun y hy=>hx y (by simp[hy])) (by simp; omega),aqA (by simp),wC,atV (Sj.2 hlt)]
       simp
     · rw[aqA (by simpa using hlt),kK hx1,acs,app1 (by omega),acs,acs]
       try dsimp only
       rw[ajh t ht l _ _ _ (fun y hy=>hx y (by simp[hy])) (by simp; omega),aqA (by simp),aqA (by simp),wC,aqA (fun h=>hlt (Sj.1 h))]
       simp
   · rw[acw t (x::l) k c hx (by simp; omega),atV rfl]
theorem aul(l:List (List Int))(t:List Int)(hx:∀x∈l,x.length<4294967296)(hl:l.length+1<4294967296)(ht:t.length<4294967296):Ip l t=some (vI l t):=by
 have key:∀(r:List (List Int))(k:Nat)(b:Bool),LB l t r k b=zM t l 0 [] (b||r.any fun x=>ql x t):=by
   intro r
   induction r with
   |nil=>intro k b; rw[LB]; simp
   |cons x r ih=>
     intro k b
     rw[LB,adt,acs]
     cases b
     · simp only[aQ3,acs,aR',aR_]
       rw[ih]; rfl
     · simp only[aRk,acs,aTf]
       rw[ih]; simp
 rw[Ip,key,aR',ajh t ht l 0 [] _ hx (by simpa using hl),vI,abb]
 split<;>simp
def Nz(q:Query)(l:List aN):List (List Int):=l.foldl (fun c b=>vI c (lu q b)) []
theorem aji(c0:List (List Int))(b:aN)(hb:b.Vars.length<4294967296):∀(l:List Int)(k:Nat)(c:List Int),c.length+l.length<4294967296->LC c0 b l k c=Ip c0 (c++l.map (mO b.Vars b.Values))
 |[],k,c,_=>by
   rw[LC,List.map_nil,aQ_]
   cases Ip c0 c<;>rfl
 |t::l,k,c,h=>by
   simp only[agr]at h
   rw[LC,QJ b t hb,acs,app1 (by omega),acs,aji c0 b hb l _ _ (by simp; omega),aRG,aQY]
   rfl
theorem ajj(q:Query)(hq:q.a_.length<=3):∀(l:List aN)(k:Nat)(c:List (List Int)),(∀b∈l,mF 12 b)->(∀x∈c,x.length<=3)->c.length+l.length<4294967295->Qf q l k c=some (l.foldl (fun c b=>vI c (lu q b)) c)
 |[],k,c,_,_,_=>rfl
 |b::l,k,c,hb,hc,h=>by
   simp only[agr]at h
   have h1:=hb b (by simp)
   have h2:(lu q b).length<=3:=by simpa[lu]using hq
   have h3:=adY c (lu q b)
   unfold Qf
   rw[aji c b (by have:=h1.2; omega) q.a_ 0 [] (by simp; omega),aRa,show q.a_.map (mO b.Vars b.Values)=lu q b from rfl,aul c _ (fun x hx=>by have:=hc x hx; omega) (by omega) (by omega),acs]
   dsimp only
   rw[ajj q hq l _ _ (fun x hx=>hb x (by simp[hx])) (fun x hx=>(alQ hx).elim (fun e=>e ▸ h2) (hc x)) (by omega),aRv]
theorem ajy(b:aN)(hb:b.Vars.length=b.Values.length):∀(l:List Int)(k:Nat)(c:List Int),c.length+l.length<4294967296->LV b l k c=some (c++l.map (mO b.Vars b.Values))
 |[],k,c,_=>by simp[LV]
 |t::l,k,c,h=>by
   simp only[agr]at h
   rw[LV,QK b t hb,acs,app1 (by omega),acs,ajy b hb l _ _ (by simp; omega),aRG,aQY]
   rfl
theorem adg(q:Query)(b:aN)(hb:b.Vars.length=b.Values.length)(hq:q.a_.length<=3):E_ q b=some (lu q b):=by
 rw[E_,ajy b hb _ _ _ (by simp; omega),aRa]; rfl
theorem ajk(q:Query)(hq:q.a_.length<=3):∀(l:List aN)(k:Nat)(c:List (List Int)),(∀b∈l,mF 12 b)->c.length+l.length<4294967295->Qi q l k c=some (l.foldl (fun c b=>vI c (lu q b)) c)
 |[],k,c,_,_=>rfl
 |b::l,k,c,hb,h=>by
   simp only[agr]at h
   have h1:=hb b (by simp)
   have h2:(lu q b).length<=3:=by simpa[lu]using hq
   have h3:=adY c (lu q b)
   unfold Qi
   rw[adg q b h1.1 hq,acs,as2 c _ (by omega) (by omega),acs,
     ajk q hq l _ _ (fun x hx=>hb x (by simp[hx])) (by omega),aRv]
theorem akn{q:Query}(hq:q.a_.length<=3):∀{l:List aN}{c:List (List Int)},(∀x∈c,x.length<=3)->(l.foldl (fun c b=>vI c (lu q b)) c).length<=c.length+l.length/\ ∀x∈l.foldl (fun c b=>vI c (lu q b)) c,x.length<=3
 |[],c,h=>⟨by simp,h⟩
 |b::l,c,h=>by
   have h2:(lu q b).length<=3:=by simpa[lu]using hq
   have h3:=adY c (lu q b)
   have:=akn hq (l:=l) (c:=vI c (lu q b)) fun x hx=>(alQ hx).elim (fun e=>e ▸ h2) (h x)
   rw[aRv]
   exact⟨by simp only[agr]; omega,this.2⟩
theorem amj:∀l:List aJ,ic l<=jh zT l
 |[]=>by simp[ic]
 |a::l=>by
   have:=amj l
   simp only[ic,av1,aQW,jh,aRG,aS6,agr,zT]at*; omega
theorem awR(q:Query)(h:IJ q<4294967296):ad' q:=by
 unfold IJ at h
 exact⟨oG _ (by omega),FH (f:=zT) (fun x hx=>oG _ hx) _ (by omega)⟩
theorem awS(q:Query):Ff q<=2*IJ q:=by
 have h1:bq BR q.aL<=2*jh zT q.aL:=Cz 2 (fun x=>by simp only[BR,tJ,zT]; omega) q.aL
 unfold Ff IJ
 rw[tJ]; omega
theorem avB{p:Int->Bool}{l:List aJ}:(iI p l).length<=ic l:=by
 have:=adX (p:=p) (v:=l.flatMap (·.Terms)) (l:=[])
 simpa[iI,ic]using this
theorem aeD{a:aj}:¬ tq a a:=by
 unfold tq; rw[ac5.2 rfl]; decide
theorem ay4{a b:aj}(h1:tq a b)(h2:tq b a):False:=aeD (acY h1 h2)
theorem anS:∀{a b:List aj},a.Pairwise tq->b.Pairwise tq->(∀x,x∈a↔x∈b)->a=b
 |[],[],_,_,_=>rfl
 |[],y::b,_,_,h=>absurd ((h y).2 (by simp)) (by simp)
 |x::a,[],_,_,h=>absurd ((h x).1 (by simp)) (by simp)
 |x::a,y::b,ha,hb,h=>by
   rw[aRb]at ha hb
   have e:x=y:=by
     have h1:=(h x).1 (by simp)
     have h2:=(h y).2 (by simp)
     rw[aQ1]at h1 h2
     rcases h1 with h1|h1
     · exact h1
     · rcases h2 with h2|h2
       · exact h2.symm
       · exact (ay4 (hb.1 x h1) (ha.1 y h2)).elim
   subst e
   rw[anS ha.2 hb.2 fun z=>?_]
   constructor
   · intro hz
     have h1:=(h z).1 (by simp[hz])
     rcases List.mem_cons.1 h1 with rfl|h1
     · exact (aeD (ha.1 z hz)).elim
     · exact h1
   · intro hz
     have h1:=(h z).2 (by simp[hz])
     rcases List.mem_cons.1 h1 with rfl|h1
     · exact (aeD (hb.1 z hz)).elim
     · exact h1
theorem adZ{y:aj}:∀{l c:List aj},y∈l.foldl jg c↔y∈c\/y∈l
 |[],c=>by simp
 |x::l,c=>by
   rw[aRv,adZ,alK,aQ1]
   constructor
   · rintro ((h|h)|h)
     · exact .inr (.inl h)
     · exact .inl h
     · exact .inr (.inr h)
   · rintro (h|h|h)
     · exact .inl (.inr h)
     · exact .inl (.inl h)
     · exact .inr h
theorem aee:∀{l c:List aj},c.Pairwise tq->(l.foldl jg c).Pairwise tq
 |[],_,h=>h
 |x::l,c,h=>by rw[aRv]; exact aee (amh h)
theorem UK{α:Type}{ms:α->Nat}{c:Nat}:∀l:List α,(∀x∈l,ms x<=c)->bq ms l<=c*l.length
 |[],_=>by simp[bq]
 |x::l,h=>by
   have h1:=h x (by simp)
   have h2:=UK l fun y hy=>h y (by simp[hy])
   rw[IM,agr,Nat.mul_succ]; omega
def uU(a:aJ)(i:Int):Int:=(ix a.Terms i).getD 0
def uz(a:aJ)(b:List Int)(i:Int):Bool:=aQ 0 ((a.Terms.length:Int)-1) i&&!(aQ 10 17 (uU a i)&&!decide (uU a i∈b))
def oM(m:Method)(a:aJ)(b:List Int):Bool:=m.aD==a.aD&&m.bg.all (uz a b)
theorem ak6{m:Method}{a:aJ}{b b':List Int}(h:∀v,aQ 10 17 v=true->(v∈b↔v∈b')):oM m a b=oM m a b':=by
 have e:uz a b=uz a b':=by
   funext i
   unfold uz
   cases hv:aQ 10 17 (uU a i)
   · rfl
   · rw[decide_eq_decide.2 (h _ hv)]
 rw[oM,oM,e]
theorem acO(a:aJ)(b:List Int)(ha:a.Terms.length<4294967296):∀(l:List Int)(k:Nat),Qv a b l k=some (l.all (uz a b))
 |[],k=>rfl
 |x::l,k=>by
   rw[Qv,lV,di (by omega) (by omega),acs,aRS,uz]
   cases h:aQ 0 ((a.Terms.length:Int)-1) x
   · simp
   · obtain⟨y,e1,-⟩:=Te h
     have e2:uU a x=y:=by rw[uU,e1]; rfl
     rw[aqA (by simp),e1,acs,MO,acs,e2]
     cases aQ 10 17 y
     · simpa using acO a b ha l (k+1)
     · rw[RN]
       by_cases hm:y∈b
       · simpa[hm]using acO a b ha l (k+1)
       · simp[hm]
theorem ako(m:Method)(a:aJ)(b:List Int)(ha:a.Terms.length<4294967296):MW m a b=some (oM m a b):=by
 rw[MW,acO a b ha,oM]
 by_cases h:m.aD=a.aD
 · simp[h]
 · simp[h]
theorem atz(a:aJ)(b:List Int)(ha:a.Terms.length<4294967296)(i:Int):Mj i a b=some (!uz a b i):=by
 rw[Mj,tu,di (by omega) (by omega),acs,uz]
 cases h:aQ 0 ((a.Terms.length:Int)-1) i
 · rfl
 · obtain⟨y,e1,-⟩:=Te h
   have e2:uU a i=y:=by rw[uU,e1]; rfl
   simp only[aQX,aQ3,e1,acs,RO,e2]
   cases aQ 10 17 y
   · rfl
   · rw[ack]
     cases decide (y∈b)<;>rfl
theorem akp(m:Method)(a:aJ)(b:List Int)(ha:a.Terms.length<4294967296):MX m a b=some (oM m a b):=by
 have h1:O1 m.bg a b=some (m.bg.any fun i=>!uz a b i):=by
   unfold O1 XN
   rw[pM (L:=XE a b) (f:=fun i=>Mj i a b) (p:=fun i=>!uz a b i) (fun k=>rfl) (fun x r k=>rfl) m.bg 0 (fun x _=>atz a b ha x),acs,rW]
 rw[MX,h1,oM]
 have e2:(m.bg.any fun i=>!uz a b i)=!(m.bg.all (uz a b)):=by simp[aRs]
 rw[e2]
 cases m.aD==a.aD<;>cases m.bg.all (uz a b)<;>rfl
def lH(m:Method):Method:=if (m.Limit:Int)!=0 then {m with aD:=-1}else m
theorem aum(l:List Method)(h:l.length<4294967296):Mx l=some (l.map lH):=by
 have:=ad7 (L:=Qe) (P:=fun _=>True) (g:=lH) (fun _ _=>rfl) (fun x r k c _ hc=>by
   rw[Qe,app1 hc,app1 hc,lH]
   split<;>rfl) l 0 [] (fun _ _=>aSq) (by simpa using h)
 simpa[Mx]using this
theorem asl(l:List Method)(hl:l.length<4294967296):∀(m i:Nat),i<=l.length->l.length-i<m->PZ l m ((l.take i).map lH++l.drop i) (i:Int)=some (l.map lH):=by
 intro m
 induction m with
 |zero=>intro i _ h; omega
 |succ m ih=>
   intro i hi hm
   unfold PZ
   by_cases hlt:i<l.length
   · have hx:((l.take i).map lH++l.drop i)[i]?=some l[i]:=by
       rw[aRq (by simp; omega)]
       simp[hlt,aR9 hi]
     have ht:l.take (i+1)=l.take i++[l[i]]:=(aTg hlt).symm
     have hs:∀y:Method,y=lH l[i]->((l.take i).map lH++l.drop i).set i y=(l.take (i+1)).map lH++l.drop (i+1):=by
       rintro y rfl
       rw[List.set_append,aqA (by simp; omega)]
       simp only[aRB,aRi,aR9 hi,Nat.sub_self]
       rw[aQV hlt,List.set_cons_zero,ht,aSI,aQY]
       rfl
     rw[atV (by simpa using hlt),gG,hx,acs,acs]
     have hw:IntKind.i64.wrap ((i:Int)+1)=((i+1:Nat):Int):=by rw[di (by omega) (by omega)]; rfl
     rw[hw]
     have hn:=ih (i+1) (by omega) (by omega)
     by_cases h0:(l[i].Limit:Int)!=0
     · rw[atV h0]
       simp only[acs,aRc]
       rw[hs _ (by rw[lH,atV h0])]
       exact hn
     · rw[aqA h0]
       simp only[acs]
       have e:(l.take i).map lH++l.drop i=(l.take (i+1)).map lH++l.drop (i+1):=by
         rw[aQV hlt,ht,aSI,aQY,aRG,lH,aqA h0]
         rfl
       rw[e]
       exact hn
   · rw[aqA (by simpa using hlt),aRD (by omega),aRt (by omega),aQ_]
theorem atA(l:List Method)(hl:l.length<4294967296):Q8 l=some (l.map lH):=by
 rw[Q8,XH,kK hl]
 simp only[acs]
 rw[show ((l.length:Int)-0).toNat+2=l.length+2 by omega]
 exact asl l hl (l.length+2) 0 (by omega) (by omega)
def o_(b:List Int)(a:aJ):List Int:=(a.Terms.filter (aQ 10 17)).foldl oo b
theorem akT(b:List Int)(a:aJ)(h:b.length+a.Terms.length<4294967295):Np b a=some (o_ b a):=by
 have key:∀(l:List Int)(k:Nat)(c:List Int),c.length+l.length<4294967295->Q4 l k c=some ((l.filter (aQ 10 17)).foldl oo c):=by
   intro l
   induction l with
   |nil=>intro k c _; rfl
   |cons x l ih=>
     intro k c hc
     simp only[agr]at hc
     have:=ZW (l:=c) (x:=x)
     rw[Q4,MO,acs,aRu]
     cases aQ 10 17 x
     · simpa using ih (k+1) c (by omega)
     · rw[atV rfl,adK c x (by omega),acs,atV rfl]
       exact ih (k+1) _ (by omega)
 rw[Np,kK (by omega),acs,key _ _ _ (by omega)]; rfl
theorem alR(b:List Int)(a:aJ):(o_ b a).length<=b.length+a.Terms.length:=by
 have h1:=aed (v:=a.Terms.filter (aQ 10 17)) (l:=b)
 have h2:=aRA (aQ 10 17) a.Terms
 unfold o_; omega
theorem alS{b:List Int}{a:aJ}{v:Int}:v∈o_ b a↔v∈b\/(v∈a.Terms/\aQ 10 17 v=true):=by
 rw[o_,ZX,aSw]
theorem akU(r:Int)(t:List Int)(h:t.length<4294967296):Nj r t=some {aD:=r,Terms:=t}:=by
 rw[Nj,kK h]; rfl
def oh(W:List Int):Nat->Int->Int
 |0,c=>c
 |n+1,c=>if c∈W then oh W n (c+1)else c
theorem akV{W W':List Int}(h:∀v,v∈W↔v∈W'):∀(n:Nat)(c:Int),oh W n c=oh W' n c
 |0,_=>rfl
 |n+1,c=>by
   rw[oh,oh,akV h n]
   by_cases hc:c∈W
   · rw[atV hc,atV ((h c).1 hc)]
   · rw[aqA hc,aqA fun h'=>hc ((h c).2 h')]
theorem ZZ{W:List Int}:∀(n:Nat)(c:Int),c<=oh W n c
 |0,c=>aTk _
 |n+1,c=>by
   rw[oh]; split
   · have:=ZZ (W:=W) n (c+1); omega
   · exact aTk _
theorem aef{W:List Int}(hW:∀v∈W,v<=9):∀(n:Nat)(c:Int),c<=10->oh W n c<=10
 |0,c,h=>h
 |n+1,c,h=>by
   rw[oh]; split
   · rename_i hc; have:=hW c hc; exact aef hW n (c+1) (by omega)
   · exact h
theorem aiY{W:List Int}(hW:∀v∈W,v<=9):∀(n:Nat)(c:Int),0<=c->c<=10->10<c+n->Po W n c=some (oh W n c)
 |0,c,_,h1,h2=>by omega
 |n+1,c,h0,h1,h2=>by
   rw[Po,RN,acs,oh]
   by_cases hc:c∈W
   · have:=hW c hc
     simp only[hc,aSp,aRr]
     rw[di (by omega) (by omega)]
     exact aiY hW n (c+1) (by omega) (by omega) (by omega)
   · simp[hc]
theorem ajW{W:List Int}(hW:∀v∈W,v<=9):∀(n:Nat)(c:Int),0<=c->c<=10->10<c+n->Ii W n c=some (oh W n c)
 |0,c,_,h1,h2=>by omega
 |n+1,c,h0,h1,h2=>by
   rw[Ii,ack,acs,oh]
   by_cases hc:c∈W
   · have:=hW c hc
     simp only[hc,aSp,aRr]
     rw[di (by omega) (by omega)]
     exact ajW hW n (c+1) (by omega) (by omega) (by omega)
   · simp[hc]
def wK(W:List Int):List Int->Int->List Int->List Int->Option (List Int×List Int)
 |[],_,vs,xs=>some (vs,xs)
 |t::r,c,vs,xs=>if 9<oh W 20 c then none else wK W r (oh W 20 c+1) (vs++[t]) (xs++[oh W 20 c])
theorem ak7{W W':List Int}(h:∀v,v∈W↔v∈W'):∀(l:List Int)(c:Int)(vs xs:List Int),wK W l c vs xs=wK W' l c vs xs
 |[],_,_,_=>rfl
 |t::r,c,vs,xs=>by rw[wK,wK,akV h,ak7 h r]
theorem alT{W:List Int}:∀{l:List Int}{c:Int}{vs xs:List Int}{p:List Int×List Int},0<=c->vs.length=xs.length->(∀x∈xs,0<=x/\x<=9)->wK W l c vs xs=some p->p.1=vs++l/\p.1.length=p.2.length/\ ∀x∈p.2,0<=x/\x<=9
 |[],c,vs,xs,p,_,h1,h2,h=>by
   obtain rfl:=aQ0 h
   exact⟨by simp,h1,h2⟩
 |t::r,c,vs,xs,p,h0,h1,h2,h=>by
   rw[wK]at h
   split at h
   · cases h
   · rename_i h9
     have hg:=ZZ (W:=W) 20 c
     obtain⟨e1,e2,e3⟩:=alT (by omega) (by simp[h1]) (fun x hx=>by
       rcases List.mem_append.1 hx with hx|hx
       · exact h2 x hx
       · obtain rfl:=List.mem_singleton.1 hx; omega) h
     exact⟨by rw[e1,aQY]; rfl,e2,e3⟩
def pE(vs xs:List Int)(a:aJ):aj:={aD:=a.aD,Values:=a.Terms.map (mO vs xs)}
def D9(W:List Int)(q:Query):Option (List aj×aN):=(wK W (iI (aQ 10 17) q.aL) 0 [] []).map fun p=>((q.aL.map (pE p.1 p.2)).foldl jg [],({Vars:=p.1,Values:=p.2}:aN))
def Ak:Option (List aj×aN)->List aj×aN×Bool
 |none=>([],{Vars:=[],Values:=[]},false)
 |some (f,b)=>(f,b,true)
theorem ar4(vs xs:List Int)(c:List aj)(a:aJ)(hv:vs.length<100)(ha:a.Terms.length<=3)(hc:c.length<=1000)(hb:aZ fV c):∀(m i:Nat),i<=a.Terms.length->a.Terms.length-i<m->Le vs xs c a m ((a.Terms.take i).map (mO vs xs)) (i:Int)=some (jg c (pE vs xs a)):=by
 intro m
 induction m with
 |zero=>intro i _ h; omega
 |succ m ih=>
   intro i hi hm
   unfold Le
   by_cases hlt:i<a.Terms.length
   · have hw:IntKind.i64.wrap ((i:Int)+1)=((i+1:Nat):Int):=by rw[di (by omega) (by omega)]; rfl
     have e:yn ({Vars:=vs,Values:=xs}:aN) a.Terms[i]=some (mO vs xs a.Terms[i]):=QJ _ _ (by show vs.length<_; omega)
     have ht:a.Terms.take (i+1)=a.Terms.take i++[a.Terms[i]]:=(aTg hlt).symm
     have ih':=ih (i+1) (by omega) (by omega)
     rw[ht,aSI,aRG,List.map_nil]at ih'
     rw[atV (by simpa using hlt),gG,apA hlt,acs,e,acs,app1 (by simp; omega),acs,hw,ih']
   · rw[aqA (by simpa using hlt),aRt (by omega),show ({aD:=a.aD,Values:=a.Terms.map (mO vs xs)}:aj)=pE vs xs a from rfl,
       akm c _ hb (by omega) (oG _ (by simp[pE]; omega))]
     rfl
theorem anc{vs xs:List Int}{a:aJ}(ha:a.Terms.length<=3):fV (pE vs xs a):=oG _ (by simp[pE]; omega)
theorem axJ{c:List aj}{f:aj}(hc:c.length<=1000)(hb:aZ fV c)(hf:fV f):aZ fV (jg c f):=⟨by have:=ZO c f; omega,fun x hx=>by
 rcases awQ hx with rfl|hx
 · exact hf
 · exact hb.2 x hx⟩
theorem aiZ(vs xs:List Int)(hv:vs.length<100):∀(l:List aJ)(k:Nat)(c:List aj),(∀a∈l,a.Terms.length<=3)->c.length+l.length<=1000->aZ fV c->Pn vs xs l k c=some ((l.map (pE vs xs)).foldl jg c,({Vars:=vs,Values:=xs}:aN),true)
 |[],k,c,_,_,_=>rfl
 |a::l,k,c,ha,hc,hb=>by
   simp only[agr]at hc
   have h0:=ha a (by simp)
   have h1:Le vs xs c a (((a.Terms.length:Int)-0).toNat+2) [] 0=some (jg c (pE vs xs a)):=ar4 vs xs c a hv h0 (by omega) hb (((a.Terms.length:Int)-0).toNat+2) 0 (by omega) (by omega)
   rw[Pn,h1,acs]
   have h2:=ZO c (pE vs xs a)
   exact aiZ vs xs hv l (k+1) _ (fun x hx=>ha x (by simp[hx])) (by omega) (axJ (by omega) hb (anc h0))
theorem ai0(q:Query)(W:List Int)(hW:∀v∈W,v<=9)(ha:∀a∈q.aL,a.Terms.length<=3)(h4:q.aL.length<=500):∀(l:List Int)(k:Nat)(vs xs:List Int)(c:Int),0<=c->c<=10->vs.length+l.length<100->vs.length=xs.length->Lf q W 20 l k vs xs c=some (Ak ((wK W l c vs xs).map fun p=>((q.aL.map (pE p.1 p.2)).foldl jg [],({Vars:=p.1,Values:=p.2}:aN))))
 |[],k,vs,xs,c,_,_,hv,_=>by
   rw[Lf,aiZ vs xs (by simpa using hv) q.aL 0 [] ha (by simp; omega) ax1]; rfl
 |t::l,k,vs,xs,c,h0,h1,hv,he=>by
   simp only[agr]at hv
   have hg:=ZZ (W:=W) 20 c
   have hl:=aef hW 20 c h1
   rw[Lf,aiY hW 20 c h0 h1 (by omega),acs,wK]
   dsimp only
   by_cases h9:9<oh W 20 c
   · rw[atV (by simpa using h9),atV h9]; rfl
   · have e:Fs ({Vars:=vs,Values:=xs}:aN) t (oh W 20 c)=some ({Vars:=vs++[t],Values:=xs++[oh W 20 c]}:aN):=by
       rw[Fs,kK (by show vs.length<_; omega),acs,app1 (by show vs.length+1<_; omega),acs,kK (by show xs.length<_; omega),acs,app1 (by show xs.length+1<_; omega)]; rfl
     rw[aqA (by simpa using h9),aqA h9,e,acs,acs,di (by omega) (by omega)]
     exact ai0 q W hW ha h4 l (k+1) (vs++[t]) (xs++[oh W 20 c]) _ (by omega) (by omega) (by simp; omega) (by simp[he])
theorem Rb{p:Int->Bool}{l:List aJ}{v:Int}:v∈iI p l↔v∈l.flatMap (·.Terms)/\p v=true:=by
 rw[iI,ZX,aSw]; simp
theorem adM{l:List aJ}:∀v∈iI (aQ 0 9) l,v<=9:=fun v hv=>by
 have:=(Rb.1 hv).2
 simp only[aQ,age,ag3]at this
 exact this.2
theorem adh{p:Int->Bool}{l:List aJ}(ha:∀a∈l,a.Terms.length<=3)(h:l.length<=30):(iI p l).length<=90:=by
 have h1:=avB (p:=p) (l:=l)
 have h2:=vw ha
 omega
theorem asz(q:Query)(ha:∀a∈q.aL,a.Terms.length<=3)(h4:q.aL.length<=30):Qb 20 q=some (Ak (D9 (iI (aQ 0 9) q.aL) q)):=by
 have h2:=vw ha
 have h3:=adh (p:=aQ 10 17) ha h4
 rw[Qb,ajf q (by omega),acs,akP q (by omega),acs,
   ai0 q _ adM ha (by omega) _ 0 [] [] 0 (by omega) (by omega) (by simp; omega) rfl]
 rfl
theorem avC(a:aJ)(b:aN)(hb:b.Vars.length=b.Values.length)(ha:a.Terms.length<=3):Ns a b=some (pE b.Vars b.Values a):=by
 have key:∀(l:List Int)(k:Nat)(c:List Int),c.length+l.length<100->Mg a b l k c=some {aD:=a.aD,Values:=c++l.map (mO b.Vars b.Values)}:=by
   intro l
   induction l with
   |nil=>intro k c _; simp[Mg]
   |cons x r ih=>
     intro k c hc
     simp only[agr]at hc
     rw[Mg,QK b x hb,acs,app1 (by omega),acs,ih _ _ (by simp; omega),aQY]; rfl
 rw[Ns,key _ _ _ (by simp; omega)]; rfl
theorem ajX(vs xs:List Int)(he:vs.length=xs.length):∀(l:List aJ)(k:Nat)(c:List aj),(∀a∈l,a.Terms.length<=3)->c.length+l.length<=1000->Ij vs xs l k c=some ((l.map (pE vs xs)).foldl jg c,({Vars:=vs,Values:=xs}:aN),true)
 |[],k,c,_,_=>rfl
 |a::l,k,c,ha,hc=>by
   simp only[agr]at hc
   have h0:=ha a (by simp)
   have h1:Ns a ({Vars:=vs,Values:=xs}:aN)=some (pE vs xs a):=avC a _ he h0
   have h2:=ZO c (pE vs xs a)
   rw[Ij,h1,acs,ak3 c _ (by omega) (anc h0),acs]
   exact ajX vs xs he l (k+1) _ (fun x hx=>ha x (by simp[hx])) (by omega)
theorem atB(q:Query)(W R:List Int)(hW:∀v∈W,v<=9)(ha:∀a∈q.aL,a.Terms.length<=3)(h4:q.aL.length<=500)(hR:R.length<100):∀(m i:Nat)(vs xs:List Int)(c:Int),i<=R.length->R.length-i<m->0<=c->c<=10->vs.length<=i->vs.length=xs.length->Ik q W R 20 m vs xs c (i:Int)=some (Ak ((wK W (R.drop i) c vs xs).map fun p=>((q.aL.map (pE p.1 p.2)).foldl jg [],({Vars:=p.1,Values:=p.2}:aN)))):=by
 intro m
 induction m with
 |zero=>intro i _ _ _ _ h; omega
 |succ m ih=>
   intro i vs xs c hi hm h0 h1 hv he
   have hg:=ZZ (W:=W) 20 c
   have hl:=aef hW 20 c h1
   unfold Ik
   by_cases hlt:i<R.length
   · have hw:IntKind.i64.wrap ((i:Int)+1)=((i+1:Nat):Int):=by rw[di (by omega) (by omega)]; rfl
     rw[atV (by simpa using hlt),gG,apA hlt,acs,ajW hW 20 c h0 h1 (by omega),acs]
     dsimp only
     rw[adf,acs,aQV hlt,wK]
     by_cases h9:9<oh W 20 c
     · have e:aQ 0 9 (oh W 20 c)=false:=by
         simp only[aQ,Bool.and_eq_false_iff,aRw]; omega
       rw[e,atV h9]; rfl
     · have e:aQ 0 9 (oh W 20 c)=true:=by
         simp only[aQ,age,ag3]; omega
       rw[e,aqA h9,aqA (by simp),app1 (by omega),acs,app1 (by omega),acs,acs,di (by omega) (by omega),hw]
       exact ih (i+1) _ _ _ (by omega) (by omega) (by omega) (by omega) (by simp; omega) (by simp[he])
   · rw[aqA (by simpa using hlt),ajX vs xs he q.aL 0 [] ha (by simp; omega),aRD (by omega)]; rfl
theorem avD(q:Query)(W:List Int)(hW:∀v∈W,v<=9)(ha:∀a∈q.aL,a.Terms.length<=3)(h4:q.aL.length<=30):IV 20 q W=some (Ak (D9 W q)):=by
 have h2:=vw ha
 have h3:=adh (p:=aQ 10 17) ha h4
 rw[IV,akQ q (by omega),acs]
 exact atB q W _ hW ha (by omega) (by omega) _ 0 [] [] 0 (by omega) (by omega) (by omega) (by omega) (by simp) rfl
theorem au0{A B:List aj}(hA:∀f∈A,f.aD<3)(hB:∀f∈B,f.aD=3):((A++B).foldl jg []).filter (fun f=>decide ((f.aD:Int)<3))=A.foldl jg []:=by
 refine anS ((aee List.Pairwise.nil).filter _) (aee List.Pairwise.nil) fun x=>?_
 rw[aSw,adZ,adZ,aQZ]
 simp only[aRd,false_or,ag3]
 constructor
 · rintro⟨h|h,h2⟩
   · exact h
   · have:=hB x h; omega
 · exact fun h=>⟨.inl h,hA x h⟩
theorem akW(q:Query)(ha:∀a∈q.aL,a.Terms.length<=3)(h4:q.aL.length<=30)(hh:q.a_.length<=3):Nk q=some q:=by
 have key:∀(l:List aJ)(k:Nat)(c:List aJ),(∀a∈l,a.Terms.length<=3)->c.length+l.length<=100->Ma q.a_ l k c=some {a_:=q.a_,aL:=c++l}:=by
   intro l
   induction l with
   |nil=>intro k c _ _; simp[Ma]
   |cons x l ih=>
     intro k c hx hc
     simp only[agr]at hc
     have h0:=hx x (by simp)
     rw[Ma,akU _ _ (by omega),acs,app1 (by omega),acs,ih _ _ (fun a h=>hx a (by simp[h])) (by simp; omega),aQY]; rfl
 rw[Nk,kK (by omega),acs,key _ _ _ ha (by simp; omega)]; rfl
def vJ(C:List Int):List aJ:=C.map fun c=>({aD:=3,Terms:=[c]}:aJ)
theorem ajl(p:Query):∀(l:List Int)(k:Nat)(c:List aJ),c.length+l.length<=100->Hu p 20 l k c=Hu p 20 [] 0 (c++vJ l)
 |[],k,c,_=>by rw[vJ,List.map_nil,aQ_]; rfl
 |x::l,k,c,h=>by
   simp only[agr]at h
   conv=>lhs; rw[Hu,app1 (by omega),acs,ajl p l _ _ (by simp; omega),aQY]
   rfl
theorem ak8(A:List aJ)(C:List Int):(A++vJ C).flatMap (·.Terms)=A.flatMap (·.Terms)++C:=by
 rw[aRO]
 congr 1
 induction C with
 |nil=>rfl
 |cons x C ih=>rw[vJ,aRG,av1]; rw[vJ]at ih; rw[ih]; rfl
theorem awT{A:List aJ}{C:List Int}(hC:∀c∈C,0<=c/\c<=9):iI (aQ 10 17) (A++vJ C)=iI (aQ 10 17) A:=by
 rw[iI,ak8,aSl,(List.filter_eq_nil_iff (l:=C)).2 (fun c hc=>by
   have:=hC c hc
   simp only[aQ,age,ag3]; omega),aQ_]; rfl
theorem ak9{l:List aJ}:∀v∈iI (aQ 0 9) l,0<=v/\v<=9:=fun v hv=>by
 have:=(Rb.1 hv).2
 simpa only[aQ,age,ag3]using this
theorem adx{l:List aJ}:(iI (aQ 0 9) l).length<=10:=aeB (aeA List.Pairwise.nil) 0 10 fun x hx=>by have:=ak9 x hx; omega
def pW(p q:Query):List Int:=iI (aQ 0 9) p.aL++iI (aQ 0 9) q.aL
theorem awg{s:List Int}{q:Query}(h:fe s q=true):∀a∈q.aL,a.aD<3:=fun a ha=>by
 have hs:jV s=true/\tY s a=true:=by
   simp only[fe,age]at h
   exact⟨h.2.2.1,List.all_eq_true.1 h.1 a ha⟩
 have h1:=(akJ hs.1).1
 have h2:=hs.2
 simp only[tY,jW,aQ,age,ag3]at h2
 omega
theorem aun{s:List Int}{p q:Query}(hp:fe s p=true)(hq:fe s q=true):Rw 20 p q=some (Ak (D9 (pW p q) p)):=by
 obtain⟨h1,h2,h3⟩:=mX hp
 obtain⟨g1,g2,g3⟩:=mX hq
 have e1:=vw g2
 have hC:=ak9 (l:=q.aL)
 have hl:=adx (l:=q.aL)
 have hx:∀a∈p.aL++vJ (iI (aQ 0 9) q.aL),a.Terms.length<=3:=fun a ha=>by
   rcases List.mem_append.1 ha with ha|ha
   · exact h2 a ha
   · obtain⟨c,-,rfl⟩:=List.mem_map.1 ha; simp
 have hn:(p.aL++vJ (iI (aQ 0 9) q.aL)).length<=30:=by
   simp only[aQW,vJ,aRB]; omega
 have hF:=asz {a_:=p.a_,aL:=p.aL++vJ (iI (aQ 0 9) q.aL)} hx hn
 have hw:∀v,v∈iI (aQ 0 9) (p.aL++vJ (iI (aQ 0 9) q.aL))↔v∈pW p q:=fun v=>by
   rw[Rb,ak8,pW,aQZ,aQZ,Rb,Rb]
   constructor
   · rintro⟨h|h,hv⟩
     · exact .inl ⟨h,hv⟩
     · exact .inr h
   · rintro (⟨h,hv⟩|h)
     · exact⟨.inl h,hv⟩
     · exact⟨.inr h,h.2⟩
 rw[Rw,akW p h2 (by omega) h3,acs,ajf q (by omega),acs,ajl p _ _ _ (by omega),Hu,hF,acs]
 rw[D9,D9]
 dsimp only
 rw[awT hC,ak7 hw]
 rcases wK (pW p q) (iI (aQ 10 17) p.aL) 0 [] []with _|⟨vs,xs⟩
 · rfl
 · simp only[aSG,Ak]
   have hA:∀f∈p.aL.map (pE vs xs),f.aD<3:=fun f hf=>by
     obtain⟨a,ha,rfl⟩:=List.mem_map.1 hf
     exact awg hp a ha
   have hB:∀f∈(vJ (iI (aQ 0 9) q.aL)).map (pE vs xs),f.aD=3:=fun f hf=>by
     obtain⟨a,ha,rfl⟩:=List.mem_map.1 hf
     obtain⟨c,-,rfl⟩:=List.mem_map.1 ha
     rfl
   have hlen:(((p.aL++vJ (iI (aQ 0 9) q.aL)).map (pE vs xs)).foldl jg []).length<=30:=by
     have:=adW (g:=(p.aL++vJ (iI (aQ 0 9) q.aL)).map (pE vs xs)) (fs:=[])
     simp only[aRB,aQ']at this; omega
   have key:∀(r:List aj×aN×Bool)(l:List aj)(k:Nat)(c:List aj),c.length+l.length<=100->Lu r l k c=some (c++l.filter (fun f=>decide ((f.aD:Int)<3)),r.2.1,r.2.2):=by
     intro r l
     induction l with
     |nil=>intro k c _; simp[Lu]
     |cons x l ih=>
       intro k c hc
       simp only[agr]at hc
       rw[Lu,app1 (by omega),acs,aRu]
       cases decide ((x.aD:Int)<3)
       · simp only[av0,aQ9,acs]
         exact ih _ _ (by omega)
       · simp only[aRr,acs]
         rw[ih _ _ (by simp; omega),aQY]; rfl
   rw[key _ _ _ _ (by simp only[aQ']; omega),aRa,aSI,au0 hA hB]
theorem akq(q:Query)(b:aN)(hb:b.Vars.length<4294967296)(hq:q.a_.length<=3):MU q b=some (lu q b):=by
 have key:∀(l:List Int)(k:Nat)(c:List Int),c.length+l.length<1000->LP b l k c=some (c++l.map (mO b.Vars b.Values)):=by
   intro l
   induction l with
   |nil=>intro k c _; simp[LP]
   |cons x l ih=>
     intro k c hc
     simp only[agr]at hc
     rw[LP,QJ b x hb,acs,app1 (by omega),acs,ih _ _ (by simp; omega),aQY]; rfl
 rw[MU,key _ _ _ (by simp; omega)]; rfl
def UL(q:Query)(f:List aj)(h:List Int):Bool:=(Nu q f).any fun x=>ql (lu q x) h
theorem asA{s:List Int}{q:Query}{f:List aj}(h:List Int)(hq:fe s q=true)(hf:f.length<=24):∃b,Qd q f h=some (b,UL q f h):=by
 have hok:=akS (facts:=f) hq
 rw[Qd,as0 hq hf,acs,UL]
 generalize Nu q f=L at hok
 have key:∀(l:List aN)(k:Nat),(∀b∈l,mF 12 b)-> ∃b,Pp q h l k=some (b,l.any fun x=>ql (lu q x) h):=by
   intro l
   induction l with
   |nil=>intro k _; exact⟨_,rfl⟩
   |cons x l ih=>
     intro k hk
     obtain⟨e1,e2⟩:=hk x (by simp)
     rw[Pp,akq q x (by omega) (mX hq).2.2,acs,adt,acs,aR_,show uM (fun x y=>x==y) (lu q x) h=ql (lu q x) h from rfl]
     cases ql (lu q x) h
     · simpa using ih (k+1) fun b hb=>hk b (by simp[hb])
     · rw[atV rfl,Nl,kK (by omega),acs,kK (by omega)]; exact⟨_,rfl⟩
 exact key L 0 hok
theorem asB{s:List Int}{q:Query}{f:List aj}(h:List Int)(hq:fe s q=true)(hf:f.length<=24):∃b,LH q f h=some (b,UL q f h):=by
 have hok:=akS (facts:=f) hq
 rw[LH,as1 hq hf,acs,UL]
 generalize Nu q f=L at hok
 have key:∀(l:List aN)(k:Nat),(∀b∈l,mF 12 b)-> ∃b,Pt q h l k=some (b,l.any fun x=>ql (lu q x) h):=by
   intro l
   induction l with
   |nil=>intro k _; exact⟨_,rfl⟩
   |cons x l ih=>
     intro k hk
     obtain⟨e1,e2⟩:=hk x (by simp)
     rw[Pt,adg q x e1 (mX hq).2.2,acs,acn,acs,aR_,show uM (fun x y=>x==y) (lu q x) h=ql (lu q x) h from rfl]
     cases ql (lu q x) h
     · simpa using ih (k+1) fun b hb=>hk b (by simp[hb])
     · exact⟨_,rfl⟩
 exact key L 0 hok
def Tq(p q:Query):Option (List aj×aN)->Bool
 |none=>false
 |some (f,b)=>UL q f (lu p b)
def NS(p q:Query):Bool:=(p.a_.length==q.a_.length)&&Tq p q (D9 (pW p q) p)
theorem alU{W:List Int}{q:Query}{f:List aj}{b:aN}(h:D9 W q=some (f,b)):f.length<=q.aL.length/\b.Vars=iI (aQ 10 17) q.aL/\b.Vars.length=b.Values.length/\(∀x∈b.Values,0<=x/\x<=9)/\f=(q.aL.map (pE b.Vars b.Values)).foldl jg []:=by
 obtain⟨p,h1,h2⟩:=Option.map_eq_some_iff.1 h
 obtain⟨e1,e2,e3⟩:=alT (by omega) rfl (by simp) h1
 cases h2
 have:=adW (g:=q.aL.map (pE p.1 p.2)) (fs:=[])
 simp only[aRB,aQ']at this
 exact⟨by omega,by simpa using e1,e2,e3,rfl⟩
theorem asC{s:List Int}{p q:Query}(hs:s.length<4294967296)(hp:fe s p=true)(hq:fe s q=true):LA 20 s p q=some (NS p q):=by
 obtain⟨h1,h2,h3⟩:=mX hp
 obtain⟨g1,g2,g3⟩:=mX hq
 have e1:=vw g2
 have e2:=vw h2
 rw[LA,LY s p hs (by omega),hp,acs,LY s q hs (by omega),hq,NS]
 by_cases hh:p.a_.length=q.a_.length
 · have hh':((p.a_.length:Int)!=(q.a_.length:Int))=false:=by simp[hh]
   simp only[aQX,aQ3,acs,hh',av0,aQ9]
   rw[aun hp hq,acs]
   rcases hf:D9 (pW p q) p with _|⟨f,b⟩
   · simp[Ak,Tq]
   · obtain⟨f1,f2,f3,f4,-⟩:=alU hf
     have f5:=adh (p:=aQ 10 17) h2 (by omega)
     have hb:b.Vars.length<=90:=by rw[f2]; exact f5
     obtain⟨b',hm⟩:=asA (q:=q) (f:=f) (lu p b) hq (by omega)
     simp only[Ak,aQX,av0,aQ9]
     rw[akq p b (by omega) h3,acs,hm,acs]
     simp[Tq,hh]
 · have hh':((p.a_.length:Int)!=(q.a_.length:Int))=true:=by simp; omega
   simp[hh',hh]
theorem atC{s:List Int}{p q:Query}(hp:fe s p=true)(hq:fe s q=true):Mi 20 p q=some (NS p q):=by
 obtain⟨h1,h2,h3⟩:=mX hp
 obtain⟨g1,g2,g3⟩:=mX hq
 have e1:=vw g2
 have e2:=vw h2
 have l1:=adx (l:=p.aL)
 have l2:=adx (l:=q.aL)
 have hW:∀v∈pW p q,v<=9:=fun v hv=>by
   rcases List.mem_append.1 hv with hv|hv
   · exact adM v hv
   · exact adM v hv
 rw[Mi,NS]
 by_cases hh:p.a_.length=q.a_.length
 · have hh':((p.a_.length:Int)!=(q.a_.length:Int))=false:=by simp[hh]
   rw[aqA (by rw[hh']; simp),ajg p (by omega),acs,ajg q (by omega),acs,aiW _ _ (by omega),acs,show iI (aQ 0 9) p.aL++iI (aQ 0 9) q.aL=pW p q from rfl,avD p _ hW h2 (by omega),acs]
   rcases hf:D9 (pW p q) p with _|⟨f,b⟩
   · simp[Ak,Tq]
   · obtain⟨f1,f2,f3,f4,-⟩:=alU hf
     obtain⟨b',hm⟩:=asB (q:=q) (f:=f) (lu p b) hq (by omega)
     simp only[Ak,aQX,av0,aQ9]
     rw[adg p b f3 h3,acs,hm,acs]
     simp[Tq,hh]
 · have hh':((p.a_.length:Int)!=(q.a_.length:Int))=true:=by simp; omega
   rw[atV hh']
   simp[hh]
theorem ad1{t:Int}:∀{vs xs:List Int},vs.length=xs.length->t∈vs-> ∃y∈xs,kv vs xs t=some y
 |[],xs,_,h=>by simp at h
 |v::vs,[],h,_=>by simp at h
 |v::vs,x::xs,h,ht=>by
   by_cases e:v=t
   · exact⟨x,by simp,by rw[kv,atV e]⟩
   · obtain⟨y,h1,h2⟩:=ad1 (xs:=xs) (by simpa using h) (by
       rcases List.mem_cons.1 ht with ht|ht
       · exact (e ht.symm).elim
       · exact ht)
     exact⟨y,by simp[h1],by rw[kv,aqA e,h2]⟩
theorem ak_:∀{a b:List Int},ql a b=true↔a=b
 |[],[]=>by simp[ql,uM]
 |[],_::_=>by simp[ql,uM]
 |_::_,[]=>by simp[ql,uM]
 |x::a,y::b=>by
   have h:=ak_ (a:=a) (b:=b)
   simp only[ql]at h
   simp[ql,uM,h]
theorem atD{a b:ag}:lU a b=true↔a=b:=by
 cases a; cases b; simp[lU,ak_]
def pB(m i:Int):Bool:=(UR .i64 (m.fdiv (2 ^ min i.toNat (IntKind.bits .i64))) 1)==1
theorem ane(m:Int)(i:Nat):NW .i64 m (i:Int)=some (m.fdiv (2 ^ min (i:Int).toNat (IntKind.bits .i64))):=by
 unfold NW; rw[if_neg (by omega)]
theorem Z8{n:Nat}(hn:n<=8):UQ .i64 1 (n:Int)=some (((2 ^ n:Nat):Int))/\(2 ^ n:Nat)<=256/\1<=(2 ^ n:Nat):=by
 have:n=0\/n=1\/n=2\/n=3\/n=4\/n=5\/n=6\/n=7\/n=8:=by omega
 rcases this with rfl|rfl|rfl|rfl|rfl|rfl|rfl|rfl|rfl<;>exact⟨rfl,by decide,by decide⟩
theorem aeg{α:Type}{P:α->Prop}{l:List α}{x:α}(h:∀y∈l,P y)(hx:P x):∀y∈l++[x],P y:=fun y hy=>by
 rcases List.mem_append.1 hy with hy|hy
 · exact h y hy
 · rw[List.mem_singleton]at hy; exact hy ▸ hx
theorem aeE{m:bU}(h:wI m=true):m.bD.length<=1000/\m.dh.length=m.bD.length/\m.bX.length<=100:=by
 simp only[wI,age,ag3,aRZ]at h
 obtain⟨-,-,-,-,-,h1,-,h2,-,-,h3⟩:=h
 omega
theorem awh{a b:ag}:ko a b<0↔a.Method<b.Method\/(a.Method=b.Method/\cmpL a.Values b.Values<0):=by
 unfold ko
 by_cases h:a.Method=b.Method
 · rw[aqA (by simp[yt.2 h])]
   simp[h]
 · rw[atV (by simp only[aTa,ne_eq,yt]; exact h),SY]
   simp[h]
theorem aj_{a b c:ag}(h1:ko a b<0)(h2:ko b c<0):ko a c<0:=by
 rw[awh]at*
 rcases h1 with h1|⟨h1,h1'⟩<;>rcases h2 with h2|⟨h2,h2'⟩
 · exact .inl (by omega)
 · exact .inl (by omega)
 · exact .inl (by omega)
 · exact .inr ⟨by omega,adL h1' h2'⟩
def uA(st:List Step)(i:Nat):Bool:=st.any fun x=>(x.aJ:Int)==(i:Int)
def uI(L:List Method)(c:Int)(x:Step):Int:=if aQ 0 ((L.length:Int)-1) x.Method&&aQ 0 99 (bN L x.Method).bK then c+(bN L x.Method).bK else c
def jG(L:List Method)(st:List Step):Int:=st.foldl (uI L) 0
theorem anf{L:List Method}{c:Int}{x:Step}(h:0<=c):0<=uI L c x/\uI L c x<=c+99:=by
 unfold uI
 split
 · rename_i h2
   simp only[aQ,age,ag3]at h2
   omega
 · omega
theorem ai_{L:List Method}(hl:L.length<4294967296):∀(st:List Step)(k:Nat)(c:Int),0<=c->c+99*st.length<=1000000->PQ L st k c=some (st.foldl (uI L) c)
 |[],_,_,_,_=>rfl
 |x::st,k,c,h0,h1=>by
   simp only[agr]at h1
   have hb:=anf (L:=L) (x:=x) h0
   have ih:=ai_ hl st (k+1) (uI L c x) hb.1 (by omega)
   unfold PQ
   rw[lV,acs,di (by omega) (by omega),aRv]
   unfold uI at ih hb ⊢
   cases h:aQ 0 ((L.length:Int)-1) x.Method
   · simp only[h,aSr,av0,aQ9]at ih ⊢
     exact ih
   · simp only[h,aQ5]at ih hb ⊢
     simp only[aRk,(oV h).1,acs,lV]
     cases h2:aQ 0 99 (bN L x.Method).bK
     · simp only[h2,av0,aQ9]at ih ⊢
       exact ih
     · simp only[h2,aRr]at ih hb ⊢
       rw[acs,di (by omega) (by omega)]
       exact ih
theorem acZ{L:List Method}(hl:L.length<4294967296){st:List Step}(h:st.length<=1000):Mc L st=some (jG L st):=
 ai_ hl st 0 0 (by omega) (by omega)
theorem ang{L:List Method}:∀(st:List Step)(c:Int),0<=c->0<=st.foldl (uI L) c/\st.foldl (uI L) c<=c+99*st.length
 |[],_,_=>by simp; omega
 |x::st,c,h=>by
   have hb:=anf (L:=L) (x:=x) h
   have:=ang (L:=L) st (uI L c x) hb.1
   simp only[aRv,agr]
   omega
theorem awU{L:List Method}{j:Nat}{m:Method}(h:L[j]?=some m):bN L (j:Int)=m/\aQ 0 ((L.length:Int)-1) (j:Int)=true:=by
 have hj:j<L.length:=(List.getElem?_eq_some_iff.1 h).1
 have h2:aQ 0 ((L.length:Int)-1) (j:Int)=true:=by simp only[aQ,age,ag3]; omega
 have h3:=(oV h2).1
 rw[gG,h]at h3
 exact⟨(aQ0 h3).symm,h2⟩
theorem awV{L:List Method}{st:List Step}{a:Int}{j:Nat}{m:Method}(h:L[j]?=some m)(hc:aQ 0 99 m.bK=true):jG L (st++[{aJ:=a,Method:=(j:Int)}])=jG L st+m.bK:=by
 obtain⟨h1,h2⟩:=awU h
 rw[jG,jG,aS_]
 simp only[aRv,List.foldl_nil,uI,h1,h2,hc,Bool.and_self,aRr]
theorem anh{L:List Method}{st:List Step}:jG (L.map lH) st=jG L st:=by
 have:∀(st:List Step)(c:Int),st.foldl (uI (L.map lH)) c=st.foldl (uI L) c:=by
   intro st
   induction st with
   |nil=>intro c; rfl
   |cons x st ih=>
     intro c
     rw[aRv,aRv,ih]
     congr 1
     unfold uI
     rw[aRB]
     cases h:aQ 0 ((L.length:Int)-1) x.Method
     · rfl
     · have h1:=(oV h).1
       have h2:=(oV (l:=L.map lH) (by rw[aRB]; exact h)).1
       have e:bN (L.map lH) x.Method=lH (bN L x.Method):=by
         have h3:0<=x.Method:=by simp only[aQ,age,ag3]at h; exact h.1
         obtain⟨n,hn⟩:∃n:Nat,x.Method=(n:Int):=⟨x.Method.toNat,by omega⟩
         rw[hn]at h1 h2 ⊢
         rw[gG]at h1 h2
         rw[aSx,h1]at h2
         exact (aQ0 h2).symm
       have e2:(bN (L.map lH) x.Method).bK=(bN L x.Method).bK:=by
         rw[e,lH]
         split<;>rfl
       rw[e2]
 exact this st 0
def xR(ff:List Step->List Int->List Step->List Step)(st:List Step)(bd:List Int)(i:Nat)(a:aJ):List Method->Nat->List Step->List Step
 |[],_,b=>b
 |m::r,j,b=>xR ff st bd i a r (j+1) (if oM m a bd then ff (st++[{aJ:=(i:Int),Method:=(j:Int)}]) (o_ bd a) b else b)
def zu(L:List Method)(ff:List Step->List Int->List Step->List Step)(st:List Step)(bd:List Int):List aJ->Nat->List Step->List Step
 |[],_,b=>b
 |a::r,i,b=>zu L ff st bd r (i+1) (if uA st i then b else xR ff st bd i a L 0 b)
def yc(L:List Method)(A:List aJ):Nat->List Step->List Int->List Step->List Step
 |0,_,_,b=>b
 |n+1,st,bd,b=>if st.length=A.length then (if b.isEmpty||decide (jG L st<jG L b)then st else b)else zu L (yc L A n) st bd A 0 b
section
variable{l:List Method}{q:Query}{ff:(List Method)->Query->(List Step)->(List Int)->(List Step)->Option ((List Step))}{pf:List Step->List Int->List Step->List Step}{st:List Step}{bd:List Int}
theorem acJ(hl:l.length<4294967296)(hst:st.length<=100)(hbd:bd.length<=1000)(hf:∀(x:Step)(a:aJ)(b:List Step),a∈q.aL->b.length<=4->ff l q (st++[x]) (o_ bd a) b=some (pf (st++[x]) (o_ bd a) b)/\(pf (st++[x]) (o_ bd a) b).length<=4){kx:Nat}{x:aJ}(hx:x∈q.aL)(hx3:x.Terms.length<=3):∀(m:Nat)(b:List Step)(i:Nat),b.length<=4->i<=l.length->l.length-i<m->
   yf l q st bd ff kx x false m b (i:Int)=some (xR pf st bd kx x (l.drop i) i b)/\(xR pf st bd kx x (l.drop i) i b).length<=4
 |0,_,_,_,_,hm=>by omega
 |m+1,b,i,hb,hi,hm=>by
   unfold yf
   by_cases hlt:i<l.length
   · rw[aSb (by omega),aQ5,atV (show (!false)=true from rfl),aQV hlt,xR,gG,apA hlt,acs,ako _ _ _ (by omega),acs]
     cases hc:oM l[i] x bd
     · simp only[av0,aQ9,acs]
       rw[di (by omega) (by omega),show (i:Int)+1=((i+1:Nat):Int) by omega]
       exact acJ hl hst hbd hf hx hx3 m b (i+1) hb hlt (by omega)
     · simp only[aRr]
       obtain⟨f1,f2⟩:=hf {aJ:=(kx:Int),Method:=(i:Int)} x b hx hb
       rw[kK (by omega),acs,app1 (by omega),acs,akT _ _ (by omega),acs,f1,acs,acs]
       rw[di (by omega) (by omega),show (i:Int)+1=((i+1:Nat):Int) by omega]
       exact acJ hl hst hbd hf hx hx3 m _ (i+1) f2 hlt (by omega)
   · rw[decide_eq_false (by omega),List.drop_eq_nil_iff.2 (by omega)]
     exact⟨rfl,hb⟩
theorem ajm{kx:Nat}{x:aJ}(b:List Step):∀(ss:List Step)(k:Nat)(u:Bool),EF l q st bd ff b kx x ss k u=yf l q st bd ff kx x (u||ss.any fun y=>(y.aJ:Int)==(kx:Int)) (((l.length:Int)-0).toNat+2) b 0
 |[],k,u=>by
   unfold EF
   simp
 |y::ss,k,u=>by
   unfold EF
   rw[ajm b ss,aR_,Bool.or_assoc]
theorem acK(hl:l.length<4294967296)(hst:st.length<=100)(hbd:bd.length<=1000)(hf:∀(x:Step)(a:aJ)(b:List Step),a∈q.aL->b.length<=4->ff l q (st++[x]) (o_ bd a) b=some (pf (st++[x]) (o_ bd a) b)/\(pf (st++[x]) (o_ bd a) b).length<=4)(h3:∀a∈q.aL,a.Terms.length<=3):∀(ats:List aJ)(k:Nat)(b:List Step),(∀a∈ats,a∈q.aL)->b.length<=4->
   Hw l q st bd ff ats k b=some (zu l pf st bd ats k b)/\(zu l pf st bd ats k b).length<=4
 |[],_,_,_,hb=>⟨rfl,hb⟩
 |a::ats,k,b,ha,hb=>by
   unfold Hw zu
   rw[ajm,aR']
   cases hu:uA st k
   · rw[show (st.any fun y=>(y.aJ:Int)==(k:Int))=false from hu]
     obtain⟨e1,e2⟩:=acJ hl hst hbd hf (ha a (by simp)) (h3 a (ha a (by simp))) (kx:=k) (((l.length:Int)-0).toNat+2) b 0 hb (by omega) (by omega)
     rw[aRl]at e1 e2
     have e1':yf l q st bd ff k a false (((l.length:Int)-0).toNat+2) b 0=some (xR pf st bd k a l 0 b):=e1
     rw[e1',acs]
     exact acK hl hst hbd hf h3 ats (k+1) _ (fun y hy=>ha y (by simp[hy])) e2
   · rw[show (st.any fun y=>(y.aJ:Int)==(k:Int))=true from hu]
     have e1:yf l q st bd ff k a true (((l.length:Int)-0).toNat+2) b 0=some b:=by
       unfold yf
       rw[aqA (by simp)]
     rw[e1,acs]
     exact acK hl hst hbd hf h3 ats (k+1) _ (fun y hy=>ha y (by simp[hy])) hb
end
theorem ajz(fuel:Nat)(l:List Method)(q:Query)(hl:l.length<4294967296)(h3:∀a∈q.aL,a.Terms.length<=3)(h4:q.aL.length<=4):∀(n:Nat)(st:List Step)(bd:List Int)(b:List Step),st.length<=q.aL.length->q.aL.length-st.length<n->bd.length<=3*st.length->b.length<=4->
   HZ fuel n l q st bd b=some (yc l q.aL n st bd b)/\(yc l q.aL n st bd b).length<=4
 |0,_,_,_,_,hn,_,_=>by omega
 |n+1,st,bd,b,hs,hn,hb,hbl=>by
   unfold HZ adb yc
   by_cases he:st.length=q.aL.length
   · rw[atV (by simp[he]),atV he]
     have e0:((b.length:Int)==0)=b.isEmpty:=by
       cases b with
       |nil=>rfl
       |cons _ _=>simp; omega
     rw[e0]
     cases hbe:b.isEmpty
     · rw[acZ hl (by omega),acZ hl (by omega)]
       simp only[aQ3,acs,aR']
       split
       · rw[kK (by omega)]
         exact⟨rfl,by omega⟩
       · exact⟨rfl,hbl⟩
     · simp only[aRk,acs,aTf,aRr]
       rw[kK (by omega)]
       exact⟨rfl,by omega⟩
   · rw[aqA (by simp; omega),aqA he]
     exact acK hl (by omega) (by omega) (fun x a b' ha hb'=>ajz fuel l q hl h3 h4 n _ _ b' (by simp; omega) (by simp; omega) (by
       have:=alR bd a
       have:=h3 a ha
       simp; omega) hb') h3 _ _ _ (fun _ h=>h) hbl
def GQ(b c:List Int):Prop:=∀v,aQ 10 17 v=true->(v∈b↔v∈c)
theorem GQ.bind{b c:List Int}(h:GQ b c)(a:aJ):GQ (o_ b a) (c++a.Terms):=by
 intro v hv
 rw[alS,aQZ,h v hv]
 constructor
 · rintro (h|h)
   · exact .inl h
   · exact .inr h.1
 · rintro (h|h)
   · exact .inl h
   · exact .inr ⟨h,hv⟩
def nJ(n:Nat)(st:List Step):List Bool:=(List.range n).map (uA st)
theorem FE{n k:Nat}{st:List Step}(h:k<n):(nJ n st)[k]?=some (uA st k):=by
 unfold nJ
 rw[aSx,List.getElem?_range h]
 rfl
theorem Ct{n:Nat}{st:List Step}:(nJ n st).length=n:=by simp[nJ]
theorem aeF{n k:Nat}{st:List Step}(j:Int):(nJ n st).set k true=nJ n (st++[{aJ:=(k:Int),Method:=j}]):=by
 apply aR0
 intro i
 rw[aS8,Ct]
 by_cases hi:i<n
 · rw[FE hi,FE hi]
   by_cases e:k=i
   · subst e
     rw[atV rfl,atV hi]
     simp[uA]
   · rw[aqA e]
     have:((k:Int)==(i:Int))=false:=by simp; omega
     simp[uA,this]
 · rw[aQR (by rw[Ct]; omega),aQR (by rw[Ct]; omega)]
   split
   · rw[aqA (by omega)]
   · rfl
theorem awW{n k:Nat}{st:List Step}(h:k<n)(hu:uA st k=false)(b:Bool):((nJ n st).set k b).set k false=nJ n st:=by
 rw[aSf]
 apply aR0
 intro i
 rw[aS8]
 by_cases e:k=i
 · subst e
   rw[atV rfl,Ct,atV h,FE h,hu]
 · rw[aqA e]
theorem atE(st:List Step)(h:st.length<4294967296):KN st=some st:=by
 rw[KN,kK h]
 rfl
section
variable{L:List Method}{A:List aJ}{ff:finder->(List Bool)->(List Int)->Int->Option ((List Bool)×finder)}{pf:List Step->List Int->List Step->List Step}{st:List Step}{bd bc:List Int}
def arv(L:List Method)(A:List aJ)(ff:finder->(List Bool)->(List Int)->Int->Option ((List Bool)×finder))(pf:List Step->List Int->List Step->List Step)(st:List Step)(bd bc:List Int):Prop:=
 ∀(x:Step)(a:aJ)(b:List Step)(cb:Int),a∈A->(b≠[]->cb=jG L b)-> ∃cb',ff {l:=L,atoms:=A,steps:=st++[x],oK:=b,cost:=cb} (nJ A.length (st++[x])) (bc++a.Terms) (jG L (st++[x]))=some (nJ A.length (st++[x]),{l:=L,atoms:=A,steps:=st++[x],oK:=pf (st++[x]) (o_ bd a) b,cost:=cb'})/\(pf (st++[x]) (o_ bd a) b≠[]->cb'=jG L (pf (st++[x]) (o_ bd a) b))
theorem ajn{k:Nat}{x:aJ}{c:Int}(hk:k<A.length)(hu:uA st k=true):∀(r:List Method)(j:Nat)(b:List Step)(cb:Int),
   Bg bc c ff k x r j L A st b cb (nJ A.length st)=some (L,A,st,b,cb,nJ A.length st)
 |[],_,_,_=>rfl
 |m::r,j,b,cb=>by
   unfold Bg
   rw[gG,FE hk,hu]
   simp only[acs,aRk,aRr]
   exact ajn hk hu r (j+1) b cb
theorem ajY(hl:L.length<4294967296)(hc:∀m∈L,aQ 0 99 m.bK=true)(hst:st.length<=100)(hbc:bc.length<=1000)(hv:GQ bd bc)(hA:A.length<=4)(Eb:arv L A ff pf st bd bc){k:Nat}{x:aJ}(hx:x∈A)(hx3:x.Terms.length<=3)(hk:k<A.length)(hu:uA st k=false):
   ∀(r:List Method)(j:Nat)(b:List Step)(cb:Int),L.drop j=r->(b≠[]->cb=jG L b)->
   ∃cb',Bg bc (jG L st) ff k x r j L A st b cb (nJ A.length st)=some (L,A,st,xR pf st bd k x r j b,cb',nJ A.length st)/\(xR pf st bd k x r j b≠[]->cb'=jG L (xR pf st bd k x r j b))
 |[],_,_,cb,_,h=>⟨cb,rfl,h⟩
 |m::r,j,b,cb,hd,h=>by
   obtain⟨h1,h2,h3⟩:=kH hd
   have hm:L[j]?=some m:=by simpa using h2
   have hmc:=hc m (aRh hm)
   have ih:=ajY hl hc hst hbc hv hA Eb hx hx3 hk hu r (j+1)
   unfold Bg xR
   rw[gG,FE hk,hu]
   simp only[acs,aQ3]
   rw[akp _ _ _ (by omega),←ak6 (m:=m) (a:=x) hv]
   cases hcan:oM m x bd
   · simp only[acs,aRF,aRr,av0,aQ9]
     exact ih b cb h3 h
   · simp only[acs,aQX,av0,aQ9,aRr]
     obtain⟨cb2,f1,f2⟩:=Eb {aJ:=(k:Int),Method:=(j:Int)} x b cb hx h
     have hw:=ang (L:=L) st 0 (by omega)
     have aQP:0<=m.bK/\m.bK<=99:=by simpa[aQ]using hmc
     have hw2:jG L st=st.foldl (uI L) 0:=rfl
     rw[Ct,show j5 (decide (0<=(k:Int))&&decide ((k:Int)<(A.length:Int)))=some () by rw[aSb (by omega),aSb (by omega)]; rfl]
     simp only[acs,aRc]
     rw[app1 (by omega),acs,aiW _ _ (by omega),acs,di (by omega) (by omega),aeF (j:Int),←awV (a:=(k:Int)) hm hmc,f1,acs]
     dsimp only
     have hln:(((st++[({aJ:=(k:Int),Method:=(j:Int)}:Step)]).length:Nat):Int)-1=(st.length:Int):=by simp
     rw[hln,di (by omega) (by omega),show j5 (decide (0<=(st.length:Int))&&decide ((st.length:Int)<((st++[({aJ:=(k:Int),Method:=(j:Int)}:Step)]).length:Int)))=some () by rw[aSb (by omega),aSb (by simp; omega)]; rfl]
     simp only[acs]
     rw[Ct,show j5 (decide (0<=(k:Int))&&decide ((k:Int)<(A.length:Int)))=some () by rw[aSb (by omega),aSb (by omega)]; rfl]
     simp only[acs]
     rw[←aeF (j:Int),awW hk hu,aRc,List.take_left]
     exact ih _ cb2 h3 f2
theorem ac0(hl:L.length<4294967296)(hc:∀m∈L,aQ 0 99 m.bK=true)(hst:st.length<=100)(hbc:bc.length<=1000)(hv:GQ bd bc)(hA:A.length<=4)(h3:∀a∈A,a.Terms.length<=3)(Eb:arv L A ff pf st bd bc):
   ∀(r:List aJ)(k:Nat)(b:List Step)(cb:Int),A.drop k=r->(b≠[]->cb=jG L b)->
   ∃cb',GY bc (jG L st) ff r k L A st b cb (nJ A.length st)=some (nJ A.length st,{l:=L,atoms:=A,steps:=st,oK:=zu L pf st bd r k b,cost:=cb'})/\(zu L pf st bd r k b≠[]->cb'=jG L (zu L pf st bd r k b))
 |[],_,_,cb,_,h=>⟨cb,rfl,h⟩
 |a::r,k,b,cb,hd,h=>by
   obtain⟨h1,h2,h5⟩:=kH hd
   have ha:a∈A:=aRh h2
   unfold GY zu
   cases hu:uA st k
   · obtain⟨cb2,e1,e2⟩:=ajY hl hc hst hbc hv hA Eb ha (h3 a ha) h1 hu L 0 b cb (aRl) h
     rw[e1,acs]
     exact ac0 hl hc hst hbc hv hA h3 Eb r (k+1) _ cb2 h5 e2
   · rw[ajn h1 hu,acs]
     exact ac0 hl hc hst hbc hv hA h3 Eb r (k+1) _ cb h5 h
end
theorem aj'(fuel:Nat){L:List Method}{A:List aJ}(hl:L.length<4294967296)(hc:∀m∈L,aQ 0 99 m.bK=true)(hA:A.length<=4)(hA1:A≠[])(h3:∀a∈A,a.Terms.length<=3):∀(n:Nat)(st:List Step)(bd bc:List Int)(b:List Step)(cb:Int),st.length<=A.length->A.length-st.length<n->bc.length<=3*st.length->GQ bd bc->(b≠[]->cb=jG L b)->
   ∃cb',G7 fuel n {l:=L,atoms:=A,steps:=st,oK:=b,cost:=cb} (nJ A.length st) bc (jG L st)=some (nJ A.length st,{l:=L,atoms:=A,steps:=st,oK:=yc L A n st bd b,cost:=cb'})/\(yc L A n st bd b≠[]->cb'=jG L (yc L A n st bd b))
 |0,_,_,_,_,_,_,hn,_,_,_=>by omega
 |n+1,st,bd,bc,b,cb,hs,hn,hb,hv,h=>by
   unfold G7 acx yc
   dsimp only
   by_cases he:st.length=A.length
   · rw[atV (by simp[he]),atV he]
     have hne:st≠[]:=fun e=>hA1 (List.length_eq_zero_iff.1 (by rw[←he,e]; rfl))
     have hc2:(b.isEmpty||decide (jG L st<cb))=(b.isEmpty||decide (jG L st<jG L b)):=by
       cases b with
       |nil=>rfl
       |cons y ys=>rw[h (by simp)]
     rw[hc2]
     split
     · rw[atE _ (by omega),acs,show (!st.isEmpty)=true by cases st with|nil=>exact absurd rfl hne|cons _ _=>rfl]
       exact⟨_,rfl,fun _=>rfl⟩
     · exact⟨_,rfl,h⟩
   · rw[aqA (by simp; omega),aqA he]
     exact ac0 hl hc (by omega) (by omega) hv hA h3 (fun x a b' cb' ha hb'=>aj' fuel hl hc hA hA1 h3 n _ _ _ b' cb' (by simp; omega) (by simp; omega) (by
       have:=h3 a ha
       simp; omega) (hv.bind a) hb') A 0 b cb aRl h
def uV(s:List Int)(q:Query)(i:Int)(cs:List Query):List aJ->Nat->List aJ->List Query
 |[],_,c=>if fe s {a_:=q.a_,aL:=c}&&NS {a_:=q.a_,aL:=c} q then cs++[{a_:=q.a_,aL:=c}]else cs
 |a::r,k,c=>uV s q i cs r (k+1) (if pB i (k:Int)then c++[a]else c)
theorem aaj{s:List Int}{q:Query}{i:Int}{cs:List Query}(h:∀p∈cs,fe s p=true):∀(r:List aJ)(k:Nat)(c:List aJ),(∀p∈uV s q i cs r k c,fe s p=true)/\(uV s q i cs r k c).length<=cs.length+1
 |[],_,c=>by
   unfold uV
   split
   · rename_i h2
     exact⟨aeg h (by simp only[age]at h2; exact h2.1),by simp⟩
   · exact⟨h,by omega⟩
 |a::r,k,c=>by
   unfold uV
   exact aaj h r _ _
theorem adi{s:List Int}{q:Query}(hs:s.length<4294967296)(hq:fe s q=true)(cs:List Query)(hcl:cs.length<=1000)(i:Int):∀(ats:List aJ)(k:Nat)(c:List aJ),(∀a∈ats,a.Terms.length<=3)->(∀a∈c,a.Terms.length<=3)->c.length+ats.length<=4->KW s q cs i q.a_ 20 ats k c=some (uV s q i cs ats k c)
 |[],k,c,_,hc,h4=>by
   unfold KW uV
   have ht:=vw (l:=c) hc
   have h4':c.length<=4:=by simpa using h4
   rw[LY s _ hs (by show ic c<_; omega),acs]
   cases h:fe s {a_:=q.a_,aL:=c}
   · rfl
   · rw[aRk,asC hs h hq,acs,acs,aQ5]
     dsimp only
     split
     · rw[app1 (by omega)]; rfl
     · rfl
 |a::ats,k,c,ha,hc,h4=>by
   have KJ:=ha a (by simp)
   simp only[agr]at h4
   unfold KW uV
   rw[ane,acs,akU _ _ (by omega),acs,app1 (by omega),acs,pB]
   split
   · rw[acs]
     exact adi hs hq cs hcl i ats _ _ (fun x hx=>ha x (by simp[hx])) (aeg hc KJ) (by simp; omega)
   · rw[acs]
     exact adi hs hq cs hcl i ats _ _ (fun x hx=>ha x (by simp[hx])) hc (by omega)
theorem asD{s:List Int}{p q:Query}(hs:s.length<4294967296)(hp:ic p.aL<4294967295)(hq:fe s q=true):Qh 20 s p q=some (fe s p&&NS p q):=by
 obtain⟨g1,g2,g3⟩:=mX hq
 have e1:=vw g2
 rw[Qh,Y1 s p hs hp,acs]
 cases h:fe s p
 · rfl
 · rw[aRk,Y1 s q hs (by omega),hq,acs,aRk,atC h hq]
   rfl
theorem adj{s:List Int}{q:Query}(hs:s.length<4294967296)(hq:fe s q=true)(cs:List Query)(hcl:cs.length<=1000)(i:Int):∀(ats:List aJ)(k:Nat)(c:List aJ),(∀a∈ats,a.Terms.length<=3)->(∀a∈c,a.Terms.length<=3)->c.length+ats.length<=4->KY s q cs i q.a_ 20 ats k c=some (uV s q i cs ats k c)
 |[],k,c,_,hc,h4=>by
   unfold KY uV
   have ht:=vw (l:=c) hc
   have h4':c.length<=4:=by simpa using h4
   rw[asD hs (by show ic c<_; omega) hq,acs]
   split
   · rw[app1 (by omega)]; rfl
   · rfl
 |a::ats,k,c,ha,hc,h4=>by
   have KJ:=ha a (by simp)
   simp only[agr]at h4
   unfold KY uV
   rw[ane,acs,Zt,uW _ (by omega),acs,acs,app1 (by omega),acs,pB]
   split
   · rw[acs]
     exact adj hs hq cs hcl i ats _ _ (fun x hx=>ha x (by simp[hx])) (aeg hc KJ) (by simp; omega)
   · rw[acs]
     exact adj hs hq cs hcl i ats _ _ (fun x hx=>ha x (by simp[hx])) hc (by omega)
def Oi(s:List Int)(q:Query):Nat->Int->List Query->List Query
 |0,_,cs=>cs
 |n+1,i,cs=>Oi s q n (i+1) (uV s q i cs q.aL 0 [])
theorem ani{s:List Int}{q:Query}:∀(n:Nat)(i:Int)(cs:List Query),(∀p∈cs,fe s p=true)-> ∀p∈Oi s q n i cs,fe s p=true
 |0,_,_,h=>h
 |n+1,i,cs,h=>ani n (i+1) _ (aaj h q.aL 0 []).1
theorem akr{s:List Int}{q:Query}(hs:s.length<4294967296)(hq:fe s q=true):∀(n m:Nat)(cs:List Query)(i:Nat),n+i=2 ^ q.aL.length->n<m->(∀p∈cs,fe s p=true)->cs.length+n<=500->KX s q 20 m cs (i:Int)=some (Oi s q n (i:Int) cs)
 |n,0,_,_,_,hm,_,_=>by omega
 |0,m+1,cs,i,hi,_,_,_=>by
   obtain⟨h4,h3,hh⟩:=mX hq
   obtain⟨e,aie,-⟩:=Z8 (n:=q.aL.length) (by omega)
   unfold KX
   rw[e,acs,aqA (by simp only[ag3]; rw[←hi]; simp)]
   rfl
 |n+1,m+1,cs,i,hi,hm,hc,hl=>by
   obtain⟨h4,h3,hh⟩:=mX hq
   obtain⟨e,aie,-⟩:=Z8 (n:=q.aL.length) (by omega)
   obtain⟨o1,o2⟩:=aaj (i:=(i:Int)) hc q.aL 0 []
   unfold KX
   rw[e,acs,atV (by simp only[ag3]; rw[←hi]; omega),kK (by omega),acs,adi hs hq cs (by omega) i q.aL 0 [] h3 (by simp) (by simpa using h4),acs]
   dsimp only
   rw[di (by omega) (by omega),show (i:Int)+1=((i+1:Nat):Int) by omega]
   rw[akr hs hq n m _ (i+1) (by omega) (by omega) o1 (by omega)]
   rfl
theorem aks{s:List Int}{q:Query}(hs:s.length<4294967296)(hq:fe s q=true):∀(n m:Nat)(cs:List Query)(i:Nat),n+i=2 ^ q.aL.length->n<m->(∀p∈cs,fe s p=true)->cs.length+n<=500->KZ s q ((2 ^ q.aL.length:Nat):Int) 20 m cs (i:Int)=some (Oi s q n (i:Int) cs)
 |n,0,_,_,_,hm,_,_=>by omega
 |0,m+1,cs,i,hi,_,_,_=>by
   unfold KZ
   rw[aqA (by simp only[ag3]; rw[←hi]; simp)]
   rfl
 |n+1,m+1,cs,i,hi,hm,hc,hl=>by
   obtain⟨h4,h3,hh⟩:=mX hq
   obtain⟨e,aie,-⟩:=Z8 (n:=q.aL.length) (by omega)
   obtain⟨o1,o2⟩:=aaj (i:=(i:Int)) hc q.aL 0 []
   unfold KZ
   rw[atV (by simp only[ag3]; rw[←hi]; omega),uW _ (by omega),acs,adj hs hq cs (by omega) i q.aL 0 [] h3 (by simp) (by simpa using h4),acs]
   dsimp only
   rw[di (by omega) (by omega),show (i:Int)+1=((i+1:Nat):Int) by omega]
   rw[aks hs hq n m _ (i+1) (by omega) (by omega) o1 (by omega)]
   rfl
def Ev(s:List Int)(q:Query):List Query:=if fe s q then Oi s q (2 ^ q.aL.length-1) 1 []else []
theorem afc{s:List Int}{q:Query}:∀p∈Ev s q,fe s p=true:=by
 unfold Ev
 split
 · exact ani _ _ _ (by simp)
 · simp
theorem ar1{s:List Int}{q:Query}(hs:s.length<4294967296)(ht:ic q.aL<4294967295):O_ 20 s q=some (Ev s q):=by
 unfold O_ Ev
 rw[LY s q hs ht,acs]
 cases h:fe s q
 · rfl
 · have h4:=(mX h).1
   have h5:2 ^ q.aL.length<=2 ^ 4:=aSg (by omega) h4
   have h6:1<=2 ^ q.aL.length:=Nat.one_le_two_pow
   simp only[aQX,av0,aQ9,aRr]
   exact akr hs h (2 ^ q.aL.length-1) 20 [] 1 (by omega) (by omega) (by simp) (by simp; omega)
theorem apI{s:List Int}{q:Query}{cs:List Query}:∀(r:List aJ)(k:Nat),uV s q 0 cs r k []=cs
 |[],k=>by
   unfold uV
   have:fe s {a_:=q.a_,aL:=[]}=false:=by simp[fe,aQ]
   rw[this]; rfl
 |a::r,k=>by
   unfold uV
   have:pB 0 (k:Int)=false:=by
     unfold pB
     rw[Int.zero_fdiv]
     decide
   rw[this]
   exact apI r (k+1)
theorem ar2{s:List Int}{q:Query}(hs:s.length<4294967296)(ht:ic q.aL<4294967295):Pf 20 s q=some (Ev s q):=by
 unfold Pf Ev
 rw[Y1 s q hs ht,acs]
 cases h:fe s q
 · rfl
 · have h4:=(mX h).1
   have h5:2 ^ q.aL.length<=2 ^ 4:=aSg (by omega) h4
   have h6:1<=2 ^ q.aL.length:=Nat.one_le_two_pow
   obtain⟨e,aie,-⟩:=Z8 (n:=q.aL.length) (by omega)
   simp only[aQX,av0,aQ9,aRr]
   rw[e,acs]
   have:=aks hs h (2 ^ q.aL.length) ((((2 ^ q.aL.length:Nat):Int)-0).toNat+2) [] 0 (by omega) (by omega) (by simp) (by simp; omega)
   rw[show ((0:Nat):Int)=0 from rfl]at this
   rw[this]
   obtain⟨n,hn⟩:∃n,2 ^ q.aL.length=n+1:=⟨2 ^ q.aL.length-1,by omega⟩
   rw[hn,Oi,apI]
   rfl
def nE(l:List Method)(p:Query):List Step:=yc (l.map lH) p.aL 20 [] [] []
def xS(l:List Method):List Query->qF×Bool->qF×Bool
 |[],r=>r
 |p::qs,r=>xS l qs (if !(nE l p).isEmpty&&(!r.2||decide (jG l (nE l p)<r.1.bK))then ({Query:=p,Steps:=nE l p,bK:=jG l (nE l p)},true)else r)
def Z9:qF:={Query:={a_:=[],aL:=[]},Steps:=[],bK:=0}
def nV(s:List Int)(l:List Method)(q:Query):qF×Bool:=if iw s l&&fe s q then xS l (Ev s q) (Z9,false)else (Z9,false)
theorem acr{s:List Int}{l:List Method}(hl:l.length<4294967296):∀(qs:List Query)(k:Nat)(r:qF×Bool),(∀p∈qs,fe s p=true)->GZ l 20 qs k r.1.Query.a_ r.1.Query.aL r.1.Steps r.1.bK r.2=some (xS l qs r)
 |[],_,_,_=>rfl
 |p::qs,k,r,hq=>by
   have hp:=hq p (by simp)
   obtain⟨h4,h3,hh⟩:=mX hp
   unfold GZ xS
   obtain⟨e1,e2⟩:=ajz 20 (l.map lH) p (by simpa using hl) h3 h4 20 [] [] [] (by simp) (by simp; omega) (by simp) (by simp)
   have e3:adE 20 (l.map lH) p [] [] []=some (nE l p):=e1
   have e4:(nE l p).length<=4:=e2
   rw[aum l hl,acs,e3,acs,acZ hl (by omega),acs,akW p h3 (by omega) hh]
   have e5:decide ((0:Int)<((nE l p).length:Int))=!(nE l p).isEmpty:=by
     cases nE l p with
     |nil=>rfl
     |cons _ _=>simp
   rw[e5]
   cases hc:(!(nE l p).isEmpty&&(!r.2||decide (jG l (nE l p)<r.1.bK)))
   · simp only[av0,aQ9,acs]
     exact acr hl qs (k+1) r fun x hx=>hq x (by simp[hx])
   · simp only[aRr,acs]
     exact acr hl qs (k+1) ({Query:=p,Steps:=nE l p,bK:=jG l (nE l p)},true) fun x hx=>hq x (by simp[hx])
theorem acu{s:List Int}{l:List Method}(hl:l.length<4294967296)(hm:∀m∈l,aQ 0 99 m.bK=true):∀(qs:List Query)(k:Nat)(r:qF×Bool),(∀p∈qs,fe s p=true)->G8 (l.map lH) 20 qs k r.1.Query.a_ r.1.Query.aL r.1.Steps r.1.bK r.2=some (xS l qs r)
 |[],_,_,_=>rfl
 |p::qs,k,r,hq=>by
   have hp:=hq p (by simp)
   obtain⟨h4,h3,hh⟩:=mX hp
   have hne:p.aL≠[]:=by
     intro e
     have:fe s p=false:=by simp[fe,aQ,e]
     rw[hp]at this; cases this
   have hm2:∀m∈l.map lH,aQ 0 99 m.bK=true:=by
     intro m hx
     obtain⟨m0,h0,rfl⟩:=List.mem_map.1 hx
     have:=hm m0 h0
     unfold lH
     split<;>exact this
   unfold G8 xS
   obtain⟨cb,e1,e2⟩:=aj' 20 (L:=l.map lH) (A:=p.aL) (by simpa using hl) hm2 h4 hne h3 20 [] [] [] [] 0 (by simp) (by simp; omega) (by simp) (fun v _=>Iff.rfl) (fun h=>absurd rfl h)
   have e3:acL 20 {l:=l.map lH,atoms:=p.aL,steps:=[],oK:=[],cost:=0} (List.replicate p.aL.length false) [] 0=some (nJ p.aL.length [],{l:=l.map lH,atoms:=p.aL,steps:=[],oK:=nE l p,cost:=cb}):=by
     have:List.replicate p.aL.length false=nJ p.aL.length []:=by
       apply aR0
       intro i
       by_cases hi:i<p.aL.length
       · rw[FE hi,aSu,atV hi]; rfl
       · rw[aQR (by simp; omega),aQR (by rw[Ct]; omega)]
     rw[this]
     exact e1
   rw[aem _ _ (by omega),acs,e3,acs]
   dsimp only
   have e4:(!(nE l p).isEmpty&&(!r.2||decide (cb<r.1.bK)))=(!(nE l p).isEmpty&&(!r.2||decide (jG l (nE l p)<r.1.bK))):=by
     cases hb:nE l p with
     |nil=>rfl
     |cons y ys=>
       have:=e2 (show nE l p≠[] by rw[hb]; simp)
       rw[this,←hb,anh]
       rfl
   rw[e4]
   cases hc:(!(nE l p).isEmpty&&(!r.2||decide (jG l (nE l p)<r.1.bK)))
   · simp only[av0,aQ9,acs]
     exact acu hl hm qs (k+1) r fun x hx=>hq x (by simp[hx])
   · simp only[aRr,acs]
     have h5:nE l p≠[]:=by
       intro e
       rw[e]at hc; cases hc
     have h6:cb=jG l (nE l p):=by
       rw[e2 h5,anh]
       rfl
     rw[h6]
     exact acu hl hm qs (k+1) ({Query:=p,Steps:=nE l p,bK:=jG l (nE l p)},true) fun x hx=>hq x (by simp[hx])
theorem asn{s:List Int}{l:List Method}{q:Query}(hs:s.length<4294967296)(hl:aZ kT l)(ht:ic q.aL<4294967295):Ll 20 s l q=some (nV s l q):=by
 unfold Ll nV
 rw[akR s l q hs hl ht,acs]
 cases h:iw s l&&fe s q
 · rfl
 · simp only[aQX,av0,aQ9,aRr]
   rw[ar1 hs ht,acs]
   exact acr hl.1 (Ev s q) 0 (Z9,false) afc
theorem auo{s:List Int}{l:List Method}(h:iw s l=true):∀m∈l,aQ 0 99 m.bK=true:=by
 intro m hm
 simp only[iw,age,aRN]at h
 have:=h.2.2 m hm
 simp only[vo,age]at this
 exact this.2.2.1
theorem aso{s:List Int}{l:List Method}{q:Query}(hs:s.length<4294967296)(hl:aZ kT l)(ht:ic q.aL<4294967295):Lp 20 s l q=some (nV s l q):=by
 unfold Lp nV
 rw[aj9 s l q hs hl ht,acs]
 cases h:iw s l&&fe s q
 · rfl
 · simp only[aQX,av0,aQ9,aRr]
   have hm:iw s l=true:=by simp only[age]at h; exact h.1
   rw[atA l hl.1,acs,ar2 hs ht,acs]
   exact acu hl.1 (auo hm) (Ev s q) 0 (Z9,false) afc
theorem amk{ff:List Step->List Int->List Step->List Step}{st:List Step}{bd:List Int}(hf:∀x bd b,b.length<=4->(ff (st++[x]) bd b).length<=4){k:Nat}{a:aJ}:∀(r:List Method)(j:Nat)(b:List Step),b.length<=4->(xR ff st bd k a r j b).length<=4
 |[],_,_,h=>h
 |m::r,j,b,h=>by
   unfold xR
   refine amk hf r _ _ ?_
   split
   · exact hf _ _ _ h
   · exact h
theorem anj{L:List Method}{A:List aJ}(hA:A.length<=4):∀(n:Nat)(st:List Step)(bd:List Int)(b:List Step),b.length<=4->(yc L A n st bd b).length<=4
 |0,_,_,_,h=>h
 |n+1,st,bd,b,h=>by
   unfold yc
   split
   · split
     · omega
     · exact h
   · have:∀(r:List aJ)(k:Nat)(b:List Step),b.length<=4->(zu L (yc L A n) st bd r k b).length<=4:=by
       intro r
       induction r with
       |nil=>intro _ _ h; exact h
       |cons a r ih=>
         intro k b hb
         unfold zu
         refine ih _ _ ?_
         split
         · exact hb
         · exact amk (fun x bd b hb=>anj hA n _ bd b hb) _ _ _ hb
     exact this _ _ _ h
theorem ank{s:List Int}{l:List Method}:∀(qs:List Query)(r:qF×Bool),(∀p∈qs,fe s p=true)->(r.2=true->fe s r.1.Query=true/\r.1.Steps.length<=4/\r.1.bK=jG l r.1.Steps)->(xS l qs r).2=true->fe s (xS l qs r).1.Query=true/\(xS l qs r).1.Steps.length<=4/\(xS l qs r).1.bK=jG l (xS l qs r).1.Steps
 |[],_,_,h=>h
 |p::qs,r,hq,h=>by
   unfold xS
   refine ank qs _ (fun x hx=>hq x (by simp[hx])) ?_
   split
   · exact fun _=>⟨hq p (by simp),anj (mX (hq p (by simp))).1 _ _ _ _ (by simp),rfl⟩
   · exact h
theorem aBn{s:List Int}{l:List Method}{q:Query}(h:(nV s l q).2=true):fe s (nV s l q).1.Query=true/\(nV s l q).1.Steps.length<=4/\(nV s l q).1.bK=jG l (nV s l q).1.Steps:=by
 unfold nV at h ⊢
 split at h
 · rename_i h2
   rw[atV h2]
   exact ank _ _ afc (fun h=>by cases h) h
 · cases h
theorem akt{x y:Int}{a b:List Int}:cmpL (x::a) (y::b)<0↔x<y\/(x=y/\cmpL a b<0):=by
 rw[show cmpL (x::a) (y::b)=if kw x y !=0 then kw x y else cmpL a b from rfl]
 by_cases h:kw x y=0
 · rw[aqA (by simpa using h)]
   have:=yt.1 h
   subst this
   constructor
   · exact fun h=>.inr ⟨rfl,h⟩
   · rintro (h|h)
     · omega
     · exact h.2
 · rw[atV (by simpa using h),SY]
   have hne:x≠y:=fun e=>h (yt.2 e)
   constructor
   · exact .inl
   · rintro (h|h)
     · exact h
     · exact absurd h.1 hne
def cV:List Int->Int
 |[a]=>a
 |[a,b]=>10*a+b
 |[a,b,c]=>100*a+10*b+c
 |_=>0
def agz(f:aj):Int:=f.aD*1000+cV f.Values
theorem aE_{a b:List Int}(h:a.length=b.length)(h1:1<=a.length)(h3:a.length<=3)(ha:∀x∈a,0<=x/\x<=9)(hb:∀x∈b,0<=x/\x<=9)(hc:cmpL a b<0):cV a<cV b:=by
 rcases a with _|⟨a0,_|⟨a1,_|⟨a2,_|⟨a3,a⟩⟩⟩⟩<;>rcases b with _|⟨b0,_|⟨b1,_|⟨b2,_|⟨b3,b⟩⟩⟩⟩<;>simp only[agr,aQ']at h h1 h3<;>try omega
 all_goals
   simp only[aQ1,aRd,aRQ,aR8,aTr]at ha hb
   simp only[akt,cV]at hc ⊢
   try simp only[cmpL]at hc
   omega
theorem agA{a:List Int}(h3:a.length<=3)(ha:∀x∈a,0<=x/\x<=9):0<=cV a/\cV a<=999:=by
 rcases a with _|⟨a0,_|⟨a1,_|⟨a2,_|⟨a3,a⟩⟩⟩⟩
 · exact⟨by decide,by decide⟩
 · simp only[aQ1,aRd,aRQ,aTr]at ha
   simp only[cV]; omega
 · simp only[aQ1,aRd,aRQ,aR8,aTr]at ha
   simp only[cV]; omega
 · simp only[aQ1,aRd,aRQ,aR8,aTr]at ha
   simp only[cV]; omega
 · simp only[agr]at h3; omega
def GF(s:List Int)(l:List aj):Prop:=(∀f∈l,jL s f=true)/\l.Pairwise tq
theorem yu{s:List Int}{f:aj}(h:jL s f=true):(0<=f.aD/\f.aD<=2)/\(1<=f.Values.length/\f.Values.length<=3)/\(f.Values.length:Int)=lG s f.aD/\ ∀v∈f.Values,0<=v/\v<=9:=by
 have h4:=ak4 h
 simp only[jL,age,aRZ]at h
 obtain⟨h1,h2,h3⟩:=h
 have h5:=vB h1
 simp only[jW,jV,zt,aQ,age,ag3]at h1
 refine⟨⟨by omega,by omega⟩,⟨by omega,by omega⟩,h2,h4.2⟩
theorem afd{s:List Int}{l:List aj}(h:GF s l):l.length<=3000:=by
 have h1:(l.map agz).Pairwise (· < ·):=by
   rw[List.pairwise_map]
   refine List.Pairwise.imp_of_mem (fun{a b} ha hb hab=>?_) h.2
   have h1:=yu (h.1 a ha)
   have h2:=yu (h.1 b hb)
   have h3:=agA h1.2.1.2 h1.2.2.2
   have h4:=agA h2.2.1.2 h2.2.2.2
   unfold tq at hab
   rw[IA,akt]at hab
   unfold agz
   rcases hab with hab|⟨e,hab⟩
   · omega
   · have:=aE_ (by have a:=h1.2.2.1; have b:=h2.2.2.1; rw[e]at a; omega) h1.2.1.1 h1.2.1.2 h1.2.2.2 h2.2.2.2 hab
     omega
 have:=aeB h1 0 3000 fun x hx=>by
   obtain⟨a,ha,rfl⟩:=List.mem_map.1 hx
   have h1:=yu (h.1 a ha)
   have h3:=agA h1.2.1.2 h1.2.2.2
   unfold agz; omega
 simpa using this
theorem aE'{s:List Int}{l:List aj}(h:GF s l):aZ fV l:=⟨by have:=afd h; omega,fun f hf=>oG _ (by have:=yu (h.1 f hf); omega)⟩
theorem aku{t:Int}{vs xs:List Int}(h:vs.length=xs.length):(kv vs xs t).isSome=decide (t∈vs):=by
 by_cases ht:t∈vs
 · obtain⟨y,-,e⟩:=ad1 h ht
   rw[e]; simp[ht]
 · have key:∀(vs xs:List Int),t∉vs->kv vs xs t=none:=by
     intro vs
     induction vs with
     |nil=>intro xs _; rfl
     |cons v vs ih=>
       intro xs hn
       rw[aQ1,aS4]at hn
       rcases xs with _|⟨x,xs⟩
       · rfl
       · rw[kv,aqA (fun e=>hn.1 e.symm)]; exact ih xs hn.2
   rw[key vs xs ht]; simp[ht]
theorem S9{s:List Int}{c:List aj}{y:aj}(h:GF s c)(hy:jL s y=true):GF s (jg c y):=⟨fun z hz=>by
 rcases alK.1 hz with rfl|hz
 · exact hy
 · exact h.1 z hz,amh h.2⟩
theorem Z0{s:List Int}:∀{m c:List aj},GF s c->(∀y∈m,jL s y=true)->GF s (m.foldl jg c)
 |[],_,h,_=>h
 |y::m,c,h,hm=>Z0 (m:=m) (S9 h (hm y (by simp))) fun z hz=>hm z (by simp[hz])
theorem adk{s:List Int}{c:List aj}{x:aj}(h:GF s c)(hx:jL s x=true):zQ c x=some (jg c x):=akm c x (aE' h) (by have:=afd h; omega) (oG _ (by have:=yu hx; omega))
theorem awi{s:List Int}{c:List aj}{x:aj}(h:GF s c)(hx:jL s x=true):I9 c x=some (jg c x):=ak3 c x (by have:=afd h; omega) (oG _ (by have:=yu hx; omega))
theorem Cu{s:List Int}{l:List Method}{a:ag}(h:iP s l a=true):a.Values.length<=3:=by
 simp only[iP,age,aRZ]at h
 have h1:=(oV h.2.1).2
 have:=(auY h.1).2 _ h1
 omega
def Am(es:List aS)(a:ag):Bool:=es.any fun e=>lU e.ag a
theorem as3(c:Cache)(a:ag):∃k:Int,YU c a=some k/\decide (0<=k)=Am c.Entries a:=by
 have key:∀(es:List aS)(k:Nat),∃j:Int,Pz a es k=some j/\decide (0<=j)=Am es a:=by
   intro es
   induction es with
   |nil=>intro k; exact⟨-1,rfl,rfl⟩
   |cons e es ih=>
     intro k
     rw[Pz,akI,acs,Am,aR_]
     cases h:lU e.ag a
     · simp only[av0,aQ9,aR']; exact ih (k+1)
     · exact⟨(k:Int),by simp,by simp⟩
 exact key c.Entries 0
theorem as4(c:Cache)(a:ag):∃k:Int,QH c a=some k/\decide (0<=k)=Am c.Entries a:=by
 have key:∀(es:List aS)(k:Nat),∃j:Int,OL a es k=some j/\decide (0<=j)=Am es a:=by
   intro es
   induction es with
   |nil=>intro k; exact⟨-1,rfl,rfl⟩
   |cons e es ih=>
     intro k
     rw[OL,Ym,acM,acs,acs,Am,aR_]
     cases h:lU e.ag a
     · simp only[av0,aQ9,aR']; exact ih (k+1)
     · exact⟨(k:Int),by simp,by simp⟩
 obtain⟨j,e,h⟩:=key c.Entries 0
 exact⟨j,by rw[QH,W_,e,acs],h⟩
def uB(n:aS):List aS->List aS
 |[]=>[n]
 |e::es=>if 0<ko e.ag n.ag then n::e::es else e::uB n es
theorem alV(n:aS):∀es:List aS,(uB n es).length=es.length+1
 |[]=>rfl
 |e::es=>by
   unfold uB
   split
   · rfl
   · rw[agr,alV n es,agr]
theorem ad2{n y:aS}:∀{es:List aS},y∈uB n es↔y=n\/y∈es
 |[]=>by simp[uB]
 |e::es=>by
   unfold uB
   split
   · simp
   · rw[aQ1,ad2,aQ1]
     constructor<;>rintro (h|h|h)<;>simp[h]
def JH(n:aS)(es:List aS):List aS:=uB n (es.filter fun e=>!lU e.ag n.ag)
theorem awj(n e:aS)(es:List aS):JH n (e::es)=if lU e.ag n.ag then JH n es else if 0<ko e.ag n.ag then n::e::es.filter (fun e=>!lU e.ag n.ag)else e::JH n es:=by
 unfold JH
 rw[aRu]
 cases lU e.ag n.ag
 · simp only[aRF,aRr,av0,aQ9]
   rw[uB]
 · simp
theorem akX(a b:ag):decide (ko a b<0)=decide (0<ko b a):=by
 have h:∀x y:ag,ko x y=cmpL (x.Method::x.Values) (y.Method::y.Values):=fun _ _=>rfl
 rw[h,h,aTd,Sj]
theorem Pv(c:Cache)(now:Int)(a:ag)(fs:List aj)(ha:a.Values.length<4294967296):∀(es:List aS)(k:Nat)(o:List aS)(p:Bool),(∀e∈es,nW e)->o.length+es.length+(bif p then 0 else 1)<4294967296->
   EG c a now a es k o fs p=some {Entries:=o++(if p then es.filter (fun e=>!lU e.ag a)else JH {ag:=a,Facts:=fs,At:=now} es),Age:=c.Age}
 |[],k,o,p,_,h=>by
   simp only[aQ']at h
   rw[EG]
   cases p
   · simp only[aQ3]at h
     rw[atV (show (!false)=true from rfl),app1 (by omega),acs]; rfl
   · rw[aqA (by simp)]; simp
 |e::es,k,o,p,hb,h=>by
   simp only[agr]at h
   have hb':∀e∈es,nW e:=fun y hy=>hb y (by simp[hy])
   rw[EG,aj8 e (hb e (by simp)),acs,akI,acs,awj,aRu]
   dsimp only
   cases hs:lU e.ag a
   · simp only[av0,aQ9,aRF,aRr]
     cases p
     · simp only[aQ3]at h
       simp only[aRF,aRk]
       rw[akh a e.ag ha,acs,acs,akX]
       by_cases hl:0<ko e.ag a
       · simp only[hl,aSp,aRr,av0,aQ9]
         rw[app1 (by omega),acs,app1 (by rw[aQW]; simp only[agr,aQ']; omega),acs,acs]
         dsimp only
         rw[Pv c now a fs ha es (k+1) _ true hb' (by simp only[aQW,agr,aQ',aRk]; omega)]
         simp
       · simp only[hl,aSN,av0,aQ9]
         rw[app1 (by omega),acs,acs]
         dsimp only
         rw[Pv c now a fs ha es (k+1) _ false hb' (by simp only[aQW,agr,aQ',aQ3]; omega)]
         simp
     · simp only[aRk]at h
       simp only[aQX,aQ3,acs,av0,aQ9]
       rw[app1 (by omega),acs,acs]
       dsimp only
       rw[Pv c now a fs ha es (k+1) _ true hb' (by simp only[aQW,agr,aQ',aRk]; omega)]
       simp
   · simp only[aRr,acs,aQX,av0,aQ9]
     exact Pv c now a fs ha es (k+1) _ p hb' (by omega)
def JI(c:Cache)(a:ag)(fs:List aj)(now:Int):Cache:={Entries:=JH {ag:=a,Facts:=fs,At:=now} c.Entries,Age:=c.Age}
theorem aup(c:Cache)(a:ag)(fs:List aj)(now:Int)(hc:∀e∈c.Entries,nW e)(hl:c.Entries.length<=1000)(ha:a.Values.length<4294967296)(hf:aZ fV fs):Iu c a fs now=some (JI c a fs now):=by
 rw[Iu,YE _ _ ha,acs,adw fs hf,acs,Pv c now a fs ha c.Entries 0 [] false hc (by simp only[aQ',aQ3]; omega)]; rfl
theorem awX(c:Cache)(a:ag)(hc:∀e∈c.Entries,nW e)(hl:c.Entries.length<=1000):O6 c a=some {Entries:=c.Entries.filter (fun e=>!lU e.ag a),Age:=c.Age}:=by
 have key:∀(es:List aS)(k:Nat)(o:List aS),(∀e∈es,nW e)->o.length+es.length<=1000->KQ c a es k o=some {Entries:=o++es.filter (fun e=>!lU e.ag a),Age:=c.Age}:=by
   intro es
   induction es with
   |nil=>intro k o _ _; simp[KQ]
   |cons e es ih=>
     intro k o hb h
     simp only[agr]at h
     rw[KQ,YY,acM,acs,acs,aRu]
     cases lU e.ag a
     · simp only[aRF,aRr]
       rw[ajw e (hb e (by simp)),acs,app1 (by omega),acs,acs]
       rw[ih (k+1) _ (fun y hy=>hb y (by simp[hy])) (by simp; omega)]; simp
     · simp only[aQX,av0,aQ9,acs]
       exact ih (k+1) o (fun y hy=>hb y (by simp[hy])) (by omega)
 rw[O6,key c.Entries 0 [] hc (by simpa using hl)]; rfl
theorem ak'(a:ag):∀(es:List aS)(k:Nat),OO a es k=some (iM (fun e=>decide (0<ko e.ag a)) es k)
 |[],k=>rfl
 |e::es,k=>by
   rw[OO,YZ,aiT,acs,acs,iM,ak' a es (k+1)]
   split<;>rfl
theorem aml(n:aS):∀(l:List aS)(k:Nat),(iM (fun e=>decide (0<ko e.ag n.ag)) l k= -1/\uB n l=l++[n])\/ ∃j:Nat,j<l.length/\iM (fun e=>decide (0<ko e.ag n.ag)) l k=((k+j:Nat):Int)/\uB n l=l.take j++n::l.drop j
 |[],k=>.inl ⟨rfl,rfl⟩
 |x::l,k=>by
   unfold uB
   rw[iM]
   by_cases h:0<ko x.ag n.ag
   · right
     exact⟨0,by simp,by simp[h],by simp[h]⟩
   · rcases aml n l (k+1)with⟨h1,h2⟩|⟨j,h1,h2,h3⟩
     · left
       exact⟨by simp[h,h1],by simp[h,h2]⟩
     · right
       refine⟨j+1,by simp; omega,?_,by simp[h,h3]⟩
       simp only[h,aSN,av0,aQ9,h2]
       omega
theorem auq(c:Cache)(a:ag)(fs:List aj)(now:Int)(hc:∀e∈c.Entries,nW e)(hl:c.Entries.length<=1000)(ha:rV a)(hf:aZ fV fs):Iw c a fs now=some (JI c a fs now):=by
 have hk:=aRA (fun e:aS=>!lU e.ag a) c.Entries
 rw[Iw,awX c a hc hl,acs,Xb]
 dsimp only
 rw[ak',acs,acN a ha,acs,Yn fs hf,acs,acs,acs,JI,JH]
 generalize c.Entries.filter (fun e=>!lU e.ag a)=K at hk ⊢
 rcases aml {ag:=a,Facts:=fs,At:=now} K 0 with⟨h1,h2⟩|⟨j,h1,h2,h3⟩
 · have h1':iM (fun e:aS=>decide (0<ko e.ag a)) K 0= -1:=h1
   rw[h1',atV (by simp),KL]
   rw[atV (by omega),acs]
   rw[show ((K.length:Int)).toNat=K.length by omega,aR7,aSj]
   rw[←h2]
 · have h2':iM (fun e:aS=>decide (0<ko e.ag a)) K 0=((0+j:Nat):Int):=h2
   rw[h2',aqA (by simp),KL]
   rw[atV (by omega),acs]
   rw[show (((0+j:Nat):Int)).toNat=j by omega,←h3]
def vC(l:List Method)(a:ag):Bool:=aQ 0 ((l.length:Int)-1) a.Method&&((a.Values.length:Int)==((bN l a.Method).bg.length:Int))
theorem ac6(l:List Method)(a:ag)(hl:l.length<4294967296):Ir l a=some (vC l a):=by
 rw[Ir,di (by omega) (by omega),lV,acs,vC]
 cases h:aQ 0 ((l.length:Int)-1) a.Method
 · rfl
 · rw[aRk,(oV h).1,acs,acs]; rfl
theorem ady(l:List Method)(a:ag)(hl:l.length<4294967296):IW l a=some (vC l a):=by
 rw[IW,di (by omega) (by omega),tu,acs,vC]
 cases h:aQ 0 ((l.length:Int)-1) a.Method
 · rfl
 · rw[aRk,(oV h).1,acs,acs]; rfl
def F5(mi bv:List Int)(i x:Int):Bool:=(mi.zip bv).any fun p=>p.1==i&&p.2==x
def apJ(mi bv ai av:List Int):Bool:=(ai.zip av).all fun p=>F5 mi bv p.1 p.2
def zw(l:List Method)(a b:ag):Bool:=(vC l a&&vC l b)&&(((bN l a.Method).aD==(bN l b.Method).aD&&(bN l a.Method).Limit==0)&&apJ (bN l b.Method).bg b.Values (bN l a.Method).bg a.Values)
theorem IB{l:List Method}{a:ag}(h:vC l a=true):ix l a.Method=some (bN l a.Method)/\bN l a.Method∈l/\a.Values.length=(bN l a.Method).bg.length:=by
 simp only[vC,age,aRZ]at h
 have:=oV h.1
 exact⟨this.1,this.2,by omega⟩
theorem aeh{l:List Method}{a b:ag}(ha:ix l a.Method=some (bN l a.Method))(hb:ix l b.Method=some (bN l b.Method))(hbv:b.Values.length=(bN l b.Method).bg.length){k:Nat}{i:Int}(hi:ix (bN l a.Method).bg (k:Int)=some i)(x:Int):∀(vs:List Int)(j:Nat)(c:Bool),j+vs.length=b.Values.length->K6 l a b k x vs j c=some (if c||(((bN l b.Method).bg.drop j).zip vs).any (fun p=>p.1==i&&p.2==x)then .inr ()else .inl false)
 |[],j,c,_=>by cases c<;>simp[K6]
 |v::vs,j,c,h=>by
   simp only[agr]at h
   have hj:j<(bN l b.Method).bg.length:=by omega
   rw[K6,aQV hj,aSk,aR_]
   cases c
   · rw[aQ3,hb,acs,gG,apA hj,acs,ha,acs,hi,acs]
     have e:∀(p q:Bool),(bif p then some q else some false)=some (p&&q):=fun p q=>by cases p<;>rfl
     rw[e,acs]
     dsimp only
     rw[aeh ha hb hbv hi x vs (j+1) _ (by omega),aR']
   · rw[aRk,acs]
     dsimp only
     rw[aeh ha hb hbv hi x vs (j+1) true (by omega)]
     simp
theorem amm{l:List Method}{a b:ag}(ha:ix l a.Method=some (bN l a.Method))(hb:ix l b.Method=some (bN l b.Method))(hav:a.Values.length=(bN l a.Method).bg.length)(hbv:b.Values.length=(bN l b.Method).bg.length):∀(vs:List Int)(k:Nat),k+vs.length=a.Values.length->K7 l a b vs k=some ((((bN l a.Method).bg.drop k).zip vs).all fun p=>F5 (bN l b.Method).bg b.Values p.1 p.2)
 |[],k,_=>by simp[K7]
 |v::vs,k,h=>by
   simp only[agr]at h
   have hk:k<(bN l a.Method).bg.length:=by omega
   have hi:ix (bN l a.Method).bg (k:Int)=some (bN l a.Method).bg[k]:=by rw[gG,apA hk]
   have h2:=aeh ha hb hbv hi v b.Values 0 false (by omega)
   rw[aRl,aR']at h2
   rw[K7,h2,acs,aQV hk,aSk,aRS,F5]
   cases (((bN l b.Method).bg.zip b.Values).any fun p=>p.1==(bN l a.Method).bg[k]&&p.2==v)
   · simp
   · simp only[aRr,aQ5]
     exact amm ha hb hav hbv vs (k+1) (by omega)
theorem asq{l:List Method}(hl:l.length<4294967296)(a b:ag):PR l a b=some (zw l a b):=by
 rw[PR,ac6 l a hl,acs,zw]
 cases h1:vC l a
 · rfl
 rw[aQX,aQ3,ac6 l b hl,acs]
 cases h2:vC l b
 · rfl
 obtain⟨a1,a2,a3⟩:=IB h1
 obtain⟨b1,b2,b3⟩:=IB h2
 rw[aQX,aQ3,a1,acs,b1,acs,acs]
 have h3:=amm a1 b1 a3 b3 a.Values 0 (by omega)
 rw[aRl]at h3
 cases h4:(bN l a.Method).aD==(bN l b.Method).aD
 · simp[bne,h4]
 · cases h5:(bN l a.Method).Limit==0
   · simp[bne,h4,h5]
   · simp only[bne,h4,h5,aQX,aQ3,acs,av0,aQ9,h3]
     rfl
theorem ala{i x:Int}:∀{mi bv:List Int},mi.Pairwise (· < ·)->mi.length=bv.length->F5 mi bv i x=decide (kv mi bv i=some x)
 |[],bv,_,_=>by simp[F5,kv]
 |m::mi,[],_,h=>by simp at h
 |m::mi,v::bv,hp,h=>by
   rw[aRb]at hp
   have ih:=ala (i:=i) (x:=x) hp.2 (show mi.length=bv.length by simpa using h)
   rw[F5,aSk,aR_,show (mi.zip bv).any (fun p=>p.1==i&&p.2==x)=F5 mi bv i x from rfl,kv]
   by_cases e:m=i
   · subst e
     have hn:kv mi bv m=none:=by
       have h3:=aku (t:=m) (show mi.length=bv.length by simpa using h)
       have h4:m∉mi:=fun hm=>by have:=hp.1 m hm; omega
       simp only[h4,aSN]at h3
       cases hq:kv mi bv m
       · rfl
       · rw[hq]at h3; simp at h3
     rw[ih,hn]
     by_cases hv:v=x<;>simp[hv]
   · rw[ih,aqA e]
     simp[e]
theorem amn{a b:ag}{ma mb:Method}(hp:mb.bg.Pairwise (· < ·))(hav:a.Values.length=ma.bg.length)(hbv:b.Values.length=mb.bg.length):∀(r:List Int)(k:Nat),k+r.length=a.Values.length->K_ a b ma mb r k=some ((r.zip (a.Values.drop k)).all (fun p=>F5 mb.bg b.Values p.1 p.2)&&(ma.aD==mb.aD&&ma.Limit==0))
 |[],k,_=>by simp[K_]
 |i::r,k,h=>by
   simp only[agr]at h
   have hk:k<a.Values.length:=by omega
   rw[K_,aco,acs,aQV hk,aSk,aRS,ala hp hbv.symm]
   have ih:=amn (ma:=ma) hp hav hbv r (k+1) (by omega)
   rcases ZY i mb.bg b.Values 0 hbv.symm with⟨h1,h2⟩|⟨j,h1,h2,y,h3,h4⟩
   · rw[h1,h2]; simp
   · rw[h2,h4,show decide (((0+j:Nat):Int)<0)=false by simp,aQ3,aRf,gG,h3,acs,gG,apA hk,acs,acs]
     by_cases hy:y=a.Values[k]
     · simp only[hy,aRH,av0,aQ9,aSp,aQ5]
       exact ih
     · simp[hy]
theorem asr{l:List Method}(hl:l.length<4294967296)(hp:∀m∈l,m.bg.Pairwise (· < ·))(a b:ag):P6 l a b=some (zw l a b):=by
 rw[P6,ady l a hl,acs,zw]
 cases h1:vC l a
 · rfl
 rw[aQX,aQ3,ady l b hl,acs,acs]
 cases h2:vC l b
 · rfl
 obtain⟨a1,a2,a3⟩:=IB h1
 obtain⟨b1,b2,b3⟩:=IB h2
 rw[aQX,aqA (by simp),a1,acs,b1,acs,amn (hp _ b2) a3 b3 _ 0 (by omega),aRl,apJ,Bool.and_comm]
 rfl
theorem alb(b:ag)(m:Method)(c:List aj)(f:aj)(n:Nat)(i:Int):EC b m c f (n+1) false i=some c:=by
 rw[EC,aS1,aqA (by simp),aqA (by simp)]
theorem ay5{b:ag}{m:Method}{f:aj}(hf:f.aD=m.aD-> ∀x∈m.bg,0<=x/\x<(f.Values.length:Int))(hr:f.aD=m.aD)(hb:b.Values.length=m.bg.length)(h3:m.bg.length<=1000)(hv:f.Values.length<=1000)(c:List aj)(hc:c.length<=1000):∀(n i:Nat),i<=m.bg.length->m.bg.length-i+1<n->EC b m c f n true (i:Int)=some (if Aj f b.Values (m.bg.drop i) i then c++[f]else c):=by
 intro n
 induction n with
 |zero=>intro i _ h; omega
 |succ n ih=>
   intro i hi hn
   unfold EC
   by_cases hlt:i<m.bg.length
   · have hw:IntKind.i64.wrap ((i:Int)+1)=((i+1:Nat):Int):=by rw[di (by omega) (by omega)]; rfl
     have hx:=hf hr _ (aSy hlt)
     have e1:ix m.bg (i:Int)=some m.bg[i]:=by rw[gG,apA hlt]
     have e2:aQ 0 ((f.Values.length:Int)-1) m.bg[i]=true:=by simp only[aQ,age,ag3]; omega
     rw[atV (by simp only[aTp,ag3]; omega),e1,acs,di (by omega) (by omega),lV,e2,acs,aRk,acs,Ja _ _ hx,acs,gG,apA (show i<b.Values.length by omega),acs,acs,hw,aQV hlt,Aj,apA (show i<b.Values.length by omega),aSs]
     dsimp only
     cases f.Values[m.bg[i].toNat]?.getD 0==b.Values[i]
     · obtain⟨n',rfl⟩:∃k,n=k+1:=⟨n-1,by omega⟩
       rw[alb]; simp
     · rw[ih (i+1) hlt (by omega),aQ5]
   · rw[aqA (by simp only[aTp,ag3]; omega),atV rfl,aRD (by omega),xk,kK (by omega),acs,acs,app1 (by omega),acs]
     rfl
theorem aeG{b:ag}{m:Method}(hb:b.Values.length=m.bg.length)(h3:m.bg.length<=1000):∀(fs:List aj)(k:Nat)(c:List aj),(∀f∈fs,FJ m b.Values f/\f.Values.length<=1000)->c.length+fs.length<=1000->Lg b m fs k c=some (c++fs.filter (mI m b.Values))
 |[],k,c,_,_=>by simp[Lg]
 |f::fs,k,c,hf,hc=>by
   simp only[agr]at hc
   obtain⟨h1,h2⟩:=hf f (by simp)
   have e:EC b m c f (((m.bg.length:Int)-0).toNat+2) ((f.aD:Int)==m.aD) 0=some (if mI m b.Values f then c++[f]else c):=by
     rw[mI]
     by_cases hr:f.aD=m.aD
     · have:=ay5 h1.1 hr hb h3 h2 c (by omega) (((m.bg.length:Int)-0).toNat+2+0) 0 (by omega) (by omega)
       rw[aRl]at this
       rw[show (f.aD==m.aD)=true by simpa using hr,aQ5]
       exact this
     · rw[show (f.aD==m.aD)=false by simpa using hr,aSr]
       exact alb b m c f _ 0
   rw[Lg,e,acs,aRu]
   dsimp only
   cases mI m b.Values f
   · simp only[av0,aQ9]
     exact aeG hb h3 fs (k+1) c (fun y hy=>hf y (by simp[hy])) (by omega)
   · simp only[aRr]
     rw[aeG hb h3 fs (k+1) _ (fun y hy=>hf y (by simp[hy])) (by simp; omega)]; simp
theorem adN(b:ag)(c:List aj)(f:aj):∀(r:List Int)(k:Nat),Bh b c f r k false=some c
 |[],k=>rfl
 |x::r,k=>by rw[Bh,aQ3,acs]; exact adN b c f r (k+1)
theorem anl{b:ag}{f:aj}(hv:f.Values.length<=1000)(c:List aj)(hc:c.length<=1000):∀(r:List Int)(k:Nat),(∀x∈r,0<=x/\x<(f.Values.length:Int))->k+r.length<=b.Values.length->Bh b c f r k true=some (if Aj f b.Values r k then c++[f]else c)
 |[],k,_,_=>by
   rw[Bh,atV rfl,Bu,uW _ (by omega),acs,acs,app1 (by omega),acs]; rfl
 |x::r,k,hx,hk=>by
   simp only[agr]at hk
   have h1:=hx x (by simp)
   have e2:aQ 0 ((f.Values.length:Int)-1) x=true:=by simp only[aQ,age,ag3]; omega
   rw[Bh,aRk,di (by omega) (by omega),tu,e2,acs,aRk,Ja _ _ h1,acs,gG,apA (show k<b.Values.length by omega),acs,acs,Aj,apA (show k<b.Values.length by omega),aSs]
   dsimp only
   cases f.Values[x.toNat]?.getD 0==b.Values[k]
   · rw[adN]; simp
   · rw[anl hv c hc r (k+1) (fun y hy=>hx y (by simp[hy])) (by omega),aQ5]
theorem aeH{b:ag}{m:Method}(hb:b.Values.length=m.bg.length):∀(fs:List aj)(k:Nat)(c:List aj),(∀f∈fs,FJ m b.Values f/\f.Values.length<=1000)->c.length+fs.length<=1000->Lh b m fs k c=some (c++fs.filter (mI m b.Values))
 |[],k,c,_,_=>by simp[Lh]
 |f::fs,k,c,hf,hc=>by
   simp only[agr]at hc
   obtain⟨h1,h2⟩:=hf f (by simp)
   have e:Bh b c f m.bg 0 ((f.aD:Int)==m.aD)=some (if mI m b.Values f then c++[f]else c):=by
     rw[mI]
     by_cases hr:f.aD=m.aD
     · rw[show (f.aD==m.aD)=true by simpa using hr,aQ5]
       exact anl h2 c (by omega) m.bg 0 (h1.1 hr) (by omega)
     · rw[show (f.aD==m.aD)=false by simpa using hr,aSr]
       exact adN b c f _ 0
   rw[Lh,e,acs,aRu]
   dsimp only
   cases mI m b.Values f
   · simp only[av0,aQ9]
     exact aeH hb fs (k+1) c (fun y hy=>hf y (by simp[hy])) (by omega)
   · simp only[aRr]
     rw[aeH hb fs (k+1) _ (fun y hy=>hf y (by simp[hy])) (by simp; omega)]; simp
theorem Sk{s:List Int}{l:List Method}{b:ag}(h:iP s l b=true):vC l b=true:=by
 simp only[iP,age]at h
 simp only[vC,age]
 exact⟨h.2.1,h.2.2.1⟩
theorem anm{s:List Int}{f:aj}(h:jL s f=true):f.Values.length<=1000:=by have:=(ak4 h).1; omega
theorem asE{s:List Int}{l:List Method}{fs:List aj}{b:ag}(hl:l.length<4294967296)(hb:iP s l b=true)(hf:∀f∈fs,jL s f=true)(hn:fs.length<=1000):Qg l fs b=some (nS l fs b):=by
 obtain⟨b1,b2,b3⟩:=IB (Sk hb)
 have hi:(bN l b.Method).bg.length<=1000:=by have:=Cu hb; omega
 rw[Qg,ac6 l b hl,Sk hb,acs,aqA (by simp),b1,acs,aeG b3 hi fs 0 [] (fun f h=>⟨Si hb (hf f h),anm (hf f h)⟩) (by simpa using hn)]; rfl
theorem asF{s:List Int}{l:List Method}{fs:List aj}{b:ag}(hl:l.length<4294967296)(hb:iP s l b=true)(hf:∀f∈fs,jL s f=true)(hn:fs.length<=1000):Qj l fs b=some (nS l fs b):=by
 obtain⟨b1,b2,b3⟩:=IB (Sk hb)
 rw[Qj,ady l b hl,Sk hb,acs,aqA (by simp),b1,acs,aeH b3 fs 0 [] (fun f h=>⟨Si hb (hf f h),anm (hf f h)⟩) (by simpa using hn)]; rfl
def zL(Ew:Int)(e:aS)(now:Int):Bool:=decide (0<=e.At)&&(decide (e.At<=now)&&decide (now-e.At<=Ew))
def vK(l:List Method)(c:Cache)(b:ag)(now:Int):List aj×Bool:=match c.Entries.find? fun e=>zL c.Age e now&&zw l e.ag b with
 |none=>([],false)
 |some e=>(nS l e.Facts b,true)
def arw(s:List Int)(es:List aS):Prop:=∀e∈es,(0<=e.At/\e.At<=10000)/\(∀f∈e.Facts,jL s f=true)/\e.Facts.length<=24
theorem alc{s:List Int}{l:List Method}{c:Cache}{b:ag}{now:Int}(hl:l.length<4294967296)(hb:iP s l b=true)(hn:0<=now/\now<=10000):∀(es:List aS)(k:Nat),arw s es->O9 l c b now es k=some (match es.find? fun e=>zL c.Age e now&&zw l e.ag b with
 |none=>([],false)
 |some e=>(nS l e.Facts b,true))
 |[],k,_=>rfl
 |e::es,k,h=>by
   obtain⟨h1,h2,h3⟩:=h e (by simp)
   have ih:=alc (c:=c) hl hb hn es (k+1) fun y hy=>h y (by simp[hy])
   have e1:Rx c e now=some (zL c.Age e now):=by
     rw[Rx,di (by omega) (by omega),zL]
     congr 1
     cases decide (0<=e.At)<;>cases decide (e.At<=now)<;>cases decide (now-e.At<=c.Age)<;>rfl
   rw[O9,e1,acs,List.find?_cons]
   cases zL c.Age e now
   · simp only[aQ3,acs,av0,aQ9,aSr]
     exact ih
   · rw[aRk,asq hl,acs,acs,aQ5]
     cases zw l e.ag b
     · simp only[av0,aQ9]
       exact ih
     · simp only[aRr]
       rw[asE hl hb h2 (by omega),acs]
theorem ald{s:List Int}{l:List Method}{c:Cache}{b:ag}{now:Int}(hl:l.length<4294967296)(hp:∀m∈l,m.bg.Pairwise (· < ·))(hb:iP s l b=true)(hn:0<=now/\now<=10000):∀(es:List aS)(k:Nat),arw s es->P7 l c b now es k=some (match es.find? fun e=>zL c.Age e now&&zw l e.ag b with
 |none=>([],false)
 |some e=>(nS l e.Facts b,true))
 |[],k,_=>rfl
 |e::es,k,h=>by
   obtain⟨h1,h2,h3⟩:=h e (by simp)
   have ih:=ald (c:=c) hl hp hb hn es (k+1) fun y hy=>h y (by simp[hy])
   have e1:PH c e now=some (zL c.Age e now):=by
     rw[PH,di (by omega) (by omega),zL]
   rw[P7,e1,acs,List.find?_cons]
   cases zL c.Age e now
   · simp only[aQ3,acs,av0,aQ9,aSr]
     exact ih
   · rw[aRk,asr hl hp,acs,acs,aQ5]
     cases zw l e.ag b
     · simp only[av0,aQ9]
       exact ih
     · simp only[aRr]
       rw[asF hl hb h2 (by omega),acs]
def CP(l:List Method)(st:List Step):Bool:=st.all fun x=>aQ 0 ((l.length:Int)-1) x.Method&&(bN l x.Method).Limit==0
theorem ajA(l:List Method)(hl:l.length<4294967296):∀(st:List Step)(k:Nat),Qx l st k=some (CP l st)
 |[],_=>rfl
 |x::st,k=>by
   have ih:=ajA l hl st (k+1)
   rw[Qx,lV,acs,di (by omega) (by omega),CP,aRS]
   cases h:aQ 0 ((l.length:Int)-1) x.Method
   · rfl
   · simp only[aQX,aQ3,(oV h).1,acs,bne]
     cases (bN l x.Method).Limit==0
     · rfl
     · simp only[aQX,av0,aQ9,aQ5]
       exact ih
theorem au1(l:List Method)(st:List Step)(hl:l.length<4294967296):Sc l st=some (CP l st):=by
 have key:∀(r:List Step)(k:Nat),∃j:Int,OU l r k=some j/\decide (0<=j)=!CP l r:=by
   intro r
   induction r with
   |nil=>intro k; exact⟨-1,rfl,rfl⟩
   |cons x r ih=>
     intro k
     have e:Q_ x l=some (!(aQ 0 ((l.length:Int)-1) x.Method&&(bN l x.Method).Limit==0)):=by
       rw[Q_,tu,di (by omega) (by omega),acs]
       cases h:aQ 0 ((l.length:Int)-1) x.Method
       · rfl
       · simp only[aQX,aQ3,(oV h).1,acs,bne,aQ5]
     rw[OU,e,acs,CP,aRS]
     cases (aQ 0 ((l.length:Int)-1) x.Method&&(bN l x.Method).Limit==0)
     · exact⟨(k:Int),by simp,by simp⟩
     · simp only[aQX,av0,aQ9,aQ5]; exact ih (k+1)
 obtain⟨j,e1,e2⟩:=key st 0
 rw[Sc,Xg,Xm,e1,acs,acs,e2,Bool.not_not]
def pF(q:Query)(i:Int):aJ:=(ix q.aL i).getD {aD:=0,Terms:=[]}
def yO(l:List Method)(q:Query):List Step->List Step->List Int->Bool
 |[],_,_=>true
 |x::r,pre,b=>aQ 0 ((q.aL.length:Int)-1) x.aJ&&(!uA pre x.aJ.toNat&&(aQ 0 ((l.length:Int)-1) x.Method&&(oM (bN l x.Method) (pF q x.aJ) b&&yO l q r (pre++[x]) (o_ b (pF q x.aJ)))))
theorem aeI{q:Query}{i:Int}(h:aQ 0 ((q.aL.length:Int)-1) i=true):ix q.aL i=some (pF q i)/\pF q i∈q.aL:=by
 obtain⟨x,h1,h2⟩:=Te h
 unfold pF
 rw[h1]; exact⟨rfl,aRh h2⟩
theorem axK{pre:List Step}{i:Int}(h:0<=i):uA pre i.toNat=decide (i∈pre.map (·.aJ)):=by
 rw[uA,show ((i.toNat:Nat):Int)=i by omega]
 induction pre with
 |nil=>rfl
 |cons x pre ih=>
   rw[aR_,ih,aRG]
   by_cases e:x.aJ=i
   · simp[e]
   · have e':¬ i=x.aJ:=fun h=>e h.symm
     simp[e,e']
theorem ajB{l:List Method}{q:Query}(hl:l.length<4294967296)(h3:∀a∈q.aL,a.Terms.length<=3)(h4:q.aL.length<=4):∀(st:List Step)(k:Nat)(pre:List Step)(b:List Int),b.length+3*st.length<=1000->pre.length+st.length<=1000->Qw l q st k b (pre.map (·.aJ))=some (yO l q st pre b)
 |[],_,_,_,_,_=>rfl
 |x::st,k,pre,b,hb,hu=>by
   simp only[agr]at hb hu
   rw[Qw,lV,acs,di (by omega) (by omega),yO]
   cases h1:aQ 0 ((q.aL.length:Int)-1) x.aJ
   · rfl
   have h0:0<=x.aJ:=by simp only[aQ,age,ag3]at h1; exact h1.1
   rw[aQX,aQ3,RN,acs,axK h0]
   cases h2:decide (x.aJ∈pre.map (·.aJ))
   rotate_left
   · rfl
   rw[aQ3,lV,acs,di (by omega) (by omega)]
   cases h5:aQ 0 ((l.length:Int)-1) x.Method
   · rfl
   obtain⟨e1,ha⟩:=aeI h1
   have KJ:=h3 _ ha
   simp only[e1,(oV h5).1,acs,ako _ _ _ (show (pF q x.aJ).Terms.length<4294967296 by omega),aQX,aQ3,aRF,aQ5]
   cases h6:oM (bN l x.Method) (pF q x.aJ) b
   · rfl
   · have hp:=alR b (pF q x.aJ)
     have:=ajB hl h3 h4 st (k+1) (pre++[x]) (o_ b (pF q x.aJ)) (by omega) (by simp; omega)
     rw[aSI]at this
     rw[aqA (by simp),app1 (by simp; omega),acs,akT _ _ (by omega),acs,aQ5]
     exact this
theorem ajC{l:List Method}{q:Query}(hl:l.length<4294967296)(h3:∀a∈q.aL,a.Terms.length<=3)(h4:q.aL.length<=4):∀(st:List Step)(k:Nat)(pre:List Step)(b c:List Int),GQ b c->c.length+3*st.length<=1000->QE l q st k (nJ q.aL.length pre) c=some (yO l q st pre b)
 |[],_,_,_,_,_,_=>rfl
 |x::st,k,pre,b,c,hv,hb=>by
   simp only[agr]at hb
   rw[QE,tu,acs,di (by omega) (by omega),yO]
   cases h1:aQ 0 ((q.aL.length:Int)-1) x.aJ
   · rfl
   have h0:0<=x.aJ/\x.aJ<=(q.aL.length:Int)-1:=by simpa only[aQ,age,ag3]using h1
   have e0:ix (nJ q.aL.length pre) x.aJ=some (uA pre x.aJ.toNat):=by
     unfold ix
     rw[atV h0.1,FE (by omega)]
   rw[aQX,aQ3,e0,acs]
   cases h2:uA pre x.aJ.toNat
   rotate_left
   · rfl
   rw[aQ3,tu,acs,di (by omega) (by omega)]
   cases h5:aQ 0 ((l.length:Int)-1) x.Method
   · rfl
   obtain⟨e1,ha⟩:=aeI h1
   have KJ:=h3 _ ha
   simp only[e1,(oV h5).1,acs,akp _ _ _ (show (pF q x.aJ).Terms.length<4294967296 by omega),aQX,aQ3,aRF,aQ5,←ak6 (m:=bN l x.Method) (a:=pF q x.aJ) hv]
   cases h6:oM (bN l x.Method) (pF q x.aJ) b
   · rfl
   · have e2:nJ q.aL.length (pre++[x])=(nJ q.aL.length pre).set x.aJ.toNat true:=by
       rw[aeF x.Method,show ((x.aJ.toNat:Nat):Int)=x.aJ by omega]
     have:=ajC hl h3 h4 st (k+1) (pre++[x]) _ _ (GQ.bind hv (pF q x.aJ)) (by rw[aQW]; omega)
     rw[aqA (by simp),al4 (by simp only[Ct,age,ag3]; omega),acs,nZ (by omega),acs,aQ5,←e2]
     exact this
theorem au2{s:List Int}{l:List Method}{q:Query}(hs:s.length<4294967296)(hl:aZ kT l)(ht:ic q.aL<4294967295)(st:List Step):R6 s l q st=some ((iw s l&&fe s q)&&((st.length:Int)==(q.aL.length:Int)&&yO l q st [] [])):=by
 rw[R6,akR s l q hs hl ht,acs]
 cases h:iw s l&&fe s q
 · rfl
 · simp only[age]at h
   obtain⟨h4,h3,hh⟩:=mX h.2
   simp only[aQX,aQ3,acs,bne,aQ5]
   cases he:(st.length:Int)==(q.aL.length:Int)
   · rfl
   · have he':st.length=q.aL.length:=by rw[aRZ]at he; omega
     have:=ajB hl.1 h3 h4 st 0 [] [] (by simp; omega) (by simp; omega)
     simp only[aQX,av0,aQ9,aQ5]
     exact this
theorem au3{s:List Int}{l:List Method}{q:Query}(hs:s.length<4294967296)(hl:aZ kT l)(ht:ic q.aL<4294967295)(st:List Step):Sa s l q st=some ((iw s l&&fe s q)&&((st.length:Int)==(q.aL.length:Int)&&yO l q st [] [])):=by
 rw[Sa,aj9 s l q hs hl ht,acs]
 cases h:iw s l&&fe s q
 · rfl
 · simp only[age]at h
   obtain⟨h4,h3,hh⟩:=mX h.2
   simp only[aQX,aQ3,acs,bne,aQ5]
   cases he:(st.length:Int)==(q.aL.length:Int)
   · rfl
   · have he':st.length=q.aL.length:=by rw[aRZ]at he; omega
     have:=ajC hl.1 h3 h4 st 0 [] [] [] (fun v _=>Iff.rfl) (by simp; omega)
     have hz:qL (q.aL.length:Int) (false:Bool)=some (nJ q.aL.length []):=by
       rw[aem _ _ (by omega)]
       congr 1
       apply aR0
       intro i
       by_cases hi:i<q.aL.length
       · rw[FE hi,aSu,atV (by omega)]; rfl
       · rw[aQR (by simp; omega),aQR (by rw[Ct]; omega)]
     simp only[aQX,av0,aQ9,aQ5,hz,acs]
     exact this
def OG(a b:aS):Prop:=ko a.ag b.ag<0
theorem afe{p:aS->Bool}:∀(o:Option aS)(l:List aS),gJ p (fun y x=>decide (0<=ko y.ag x.ag)) o l=true↔(∀x∈l,p x=true)/\(∀y,o=some y-> ∀x∈l,OG y x)/\l.Pairwise OG
 |o,[]=>by cases o<;>simp[gJ]
 |none,x::l=>by
   rw[gJ,age,afe (some x) l,aRb]
   simp only[aQ1,aR8,reduceCtorEq,aS7,aTe,aTo,aR2,aTb]
   exact⟨fun ⟨a,b,c,d⟩=>⟨⟨a,b⟩,c,d⟩,fun ⟨⟨a,b⟩,c,d⟩=>⟨a,b,c,d⟩⟩
 |some y,x::l=>by
   rw[gJ,age,age,afe (some x) l,aRb]
   simp only[aQ1,aR8,aR2,aTb,aR1,aRw,Int.not_le]
   constructor
   · rintro⟨⟨a,b⟩,c,d,e⟩
     exact⟨⟨a,c⟩,⟨b,fun z hz=>aj_ b (d z hz)⟩,d,e⟩
   · rintro⟨⟨a,c⟩,⟨b,_⟩,d,e⟩
     exact⟨⟨a,b⟩,c,d,e⟩
theorem EZ{s:List Int}{l:List Method}{c:Cache}:lq s l c=true↔(∀e∈c.Entries,rX s l e=true)/\c.Entries.Pairwise OG/\iw s l=true/\aQ 0 100 c.Age=true/\c.Entries.length<=100:=by
 rw[lq,age,afe]
 simp only[reduceCtorEq,aS7,aTe,aTo,age,ag3]
 constructor
 · rintro⟨⟨a,b⟩,c,d,e⟩; exact⟨a,b,c,d,by omega⟩
 · rintro⟨a,b,c,d,e⟩; exact⟨⟨a,b⟩,c,d,by omega⟩
theorem M8{s:List Int}{l:List Method}{e:aS}(h:rX s l e=true):(0<=e.At/\e.At<=10000)/\(∀f∈e.Facts,jL s f=true)/\e.Facts.length<=24:=by
 simp only[rX,age]at h
 have h1:=MN.1 h.2.1
 exact⟨by simpa only[aQ,age,ag3]using h.2.2.2,h1.1,h1.2.2.2⟩
theorem ZP{s:List Int}{l:List Method}{e:aS}(h:rX s l e=true):nW e:=by
 have h1:=M8 h
 simp only[rX,age]at h
 exact⟨oG _ (by have:=Cu h.1; omega),by omega,fun f hf=>oG _ (by have:=yu (h1.2.1 f hf); omega)⟩
theorem amo{n:aS}:∀{l:List aS},l.Pairwise OG->(∀e∈l,e.ag≠n.ag)->(uB n l).Pairwise OG
 |[],_,_=>by simp[uB]
 |x::l,h,hn=>by
   unfold uB
   rw[aRb]at h
   split
   · rename_i hx
     have hx':OG n x:=by
       have:=akX n.ag x.ag
       rw[aTd]at this
       exact this.2 hx
     rw[aRb,aRb]
     refine⟨fun a ha=>?_,h⟩
     rcases List.mem_cons.1 ha with rfl|ha
     · exact hx'
     · exact aj_ hx' (h.1 a ha)
   · rename_i hx
     rw[aRb]
     refine⟨fun a ha=>?_,amo h.2 fun e he=>hn e (by simp[he])⟩
     rcases ad2.1 ha with rfl|ha
     · have h1:ko x.ag a.ag≠0:=fun e=>by
         have e2:cmpL (x.ag.Method::x.ag.Values) (a.ag.Method::a.ag.Values)=0:=e
         have e3:=adU.1 e2
         rw[aTi]at e3
         refine hn x (by simp) ?_
         cases hx2:x.ag; cases ha2:a.ag
         rw[hx2,ha2]at e3
         simp only at e3
         rw[e3.1,e3.2]
       show ko x.ag a.ag<0
       omega
     · exact h.1 a ha
theorem awk{s:List Int}{l:List Method}{facts:List aj}(hf:lY s facts=true)(b:ag):lY s (nS l facts b)=true:=by
 obtain⟨h1,h2,h3,h4⟩:=MN.1 hf
 exact MN.2 ⟨fun f h=>h1 f (List.mem_filter.1 h).1,h2.filter _,h3,aQ6 (aRA ..) h4⟩
theorem aBo{s:List Int}{l:List Method}{c:Cache}{facts:List aj}{b:ag}{now:Int}(hc:lq s l c=true)(hf:lY s facts=true)(hb:iP s l b=true)(hn:aQ 0 10000 now=true)(hr:c.Entries.length<100\/Am c.Entries b=true):lq s l (JI c b (nS l facts b) now)=true:=by
 obtain⟨h1,h2,h3,h4,h5⟩:=EZ.1 hc
 have hlen:=aRA (fun e:aS=>!lU e.ag b) c.Entries
 refine EZ.2 ⟨fun e he=>?_,amo (h2.filter _) fun e he=>?_,h3,h4,?_⟩
 · rcases ad2.1 he with rfl|he
   · simp only[rX,age]
     refine⟨hb,awk hf b,?_,hn⟩
     rw[aRN]
     exact fun f h=>(List.mem_filter.1 h).2
   · exact h1 e (List.mem_filter.1 he).1
 · have:=(List.mem_filter.1 he).2
   intro e1
   rw[atD.2 e1]at this
   cases this
 · show (uB _ _).length<=100
   rw[alV]
   rcases hr with hr|hr
   · show (c.Entries.filter fun e=>!lU e.ag b).length+1<=100
     omega
   · have:(c.Entries.filter fun e=>!lU e.ag b).length<c.Entries.length:=by
       obtain⟨e,he,h6⟩:=List.any_eq_true.1 hr
       exact List.length_filter_lt_length_iff_exists.2 ⟨e,he,by simp[h6]⟩
     show (c.Entries.filter fun e=>!lU e.ag b).length+1<=100
     omega
def lv(l:List Method)(facts:List aj)(now:Int)(c:Cache)(log:List ag)(b:ag):List aj×Cache×List ag:=if (vK l c b now).2 then ((vK l c b now).1,c,log)else (nS l facts b,if decide (c.Entries.length<100)||Am c.Entries b then JI c b (nS l facts b) now else c,log++[b])
theorem awl{s:List Int}{l:List Method}(h:iw s l=true):∀m∈l,m.bg.Pairwise (· < ·):=fun m hm=>by
 simp only[iw,age]at h
 have h1:=List.all_eq_true.1 h.2.2 m hm
 simp only[vo,age]at h1
 exact ((Z6 none _).1 h1.2.2.2.2.1).2
theorem awY{s:List Int}{l:List Method}{facts:List aj}{now:Int}{c:Cache}{log:List ag}{b:ag}(hl:l.length<4294967296)(hc:lq s l c=true)(hf:lY s facts=true)(hb:iP s l b=true)(hn:aQ 0 10000 now=true)(hg:log.length+1<4294967296):Qk b l c now facts log=some (lv l facts now c log b):=by
 obtain⟨h1,h2,h3,h4,h5⟩:=EZ.1 hc
 have hn':0<=now/\now<=10000:=by simpa only[aQ,age,ag3]using hn
 have hfa:=MN.1 hf
 have hbd:aZ fV facts:=⟨by omega,fun f h=>oG _ (by have:=yu (hfa.1 f h); omega)⟩
 have e1:Zi l c b now=some (vK l c b now):=ald hl (awl h3) hb hn' c.Entries 0 fun e he=>M8 (h1 e he)
 rw[Qk,e1,acs,lv]
 cases (vK l c b now).2
 · have e2:II l facts b=some (nS l facts b):=aki s l facts b hb hfa.1 hbd
   have hgl:(nS l facts b).length<=facts.length:=aRA ..
   have hgb:aZ fV (nS l facts b):=⟨by omega,fun f h=>hbd.2 f (List.mem_filter.1 h).1⟩
   obtain⟨k,e3,e4⟩:=as4 c b
   have e5:Iw c b (nS l facts b) now=some (JI c b (nS l facts b) now):=auq c b _ now (fun e he=>ZP (h1 e he)) (by omega) (oG _ (by have:=Cu hb; omega)) hgb
   rw[aqA (by simp),e2,acs,app1 hg,acs]
   simp only[av0,aQ9]
   by_cases hlt:c.Entries.length<100
   · have h6:decide ((c.Entries.length:Int)<100)=true:=by rw[ag3]; omega
     simp only[h6,aRk,acs,aRr,e5,hlt,aSp,aTf]
   · have h6:decide ((c.Entries.length:Int)<100)=false:=by rw[aRw]; omega
     simp only[h6,aQ3,e3,acs,e4,hlt,aSN,aR']
     cases Am c.Entries b
     · simp
     · simp[e5]
 · rfl
theorem NA{s:List Int}{l:List Method}{facts:List aj}{now:Int}{c:Cache}{log:List ag}{b:ag}(hc:lq s l c=true)(hf:lY s facts=true)(hb:iP s l b=true)(hn:aQ 0 10000 now=true):lq s l (lv l facts now c log b).2.1=true/\(∀f∈(lv l facts now c log b).1,jL s f=true)/\(lv l facts now c log b).1.length<=24/\(lv l facts now c log b).2.2.length<=log.length+1/\ ∀a∈(lv l facts now c log b).2.2,a=b\/a∈log:=by
 obtain⟨h1,h2,h3,h4,h5⟩:=EZ.1 hc
 have hfa:=MN.1 hf
 unfold lv
 cases hA:(vK l c b now).2
 · simp only[av0,aQ9]
   refine⟨?_,fun f h=>hfa.1 f (List.mem_filter.1 h).1,aQ6 (aRA ..) hfa.2.2.2,by simp,fun a ha=>?_⟩
   · split
     · rename_i hr
       simp only[aR4,ag3]at hr
       exact aBo hc hf hb hn hr
     · exact hc
   · rcases List.mem_append.1 ha with ha|ha
     · exact .inr ha
     · exact .inl (List.mem_singleton.1 ha)
 · simp only[aRr]
   refine⟨hc,?_,?_,by omega,fun a ha=>.inr ha⟩
   · intro f hfm
     unfold vK at hfm
     cases J_:c.Entries.find? fun e=>zL c.Age e now&&zw l e.ag b
     · rw[J_]at hfm; cases hfm
     · rename_i e
       rw[J_]at hfm
       exact (M8 (h1 e (aTc J_))).2.1 f (List.mem_filter.1 hfm).1
   · unfold vK
     cases J_:c.Entries.find? fun e=>zL c.Age e now&&zw l e.ag b
     · simp
     · rename_i e
       exact aQ6 (aRA ..) (M8 (h1 e (aTc J_))).2.2
theorem awZ{s:List Int}{l:List Method}{now:Int}{c:Cache}{b:ag}(hs:s.length<4294967296)(hl:aZ kT l)(hc:lq s l c=true)(hcb:uj c)(hb:iP s l b=true)(hn:aQ 0 10000 now=true)(hm:(bN l b.Method).Limit=0):K8 s l c b now=some (vK l c b now):=by
 obtain⟨h1,h2,h3,h4,h5⟩:=EZ.1 hc
 have hn':0<=now/\now<=10000:=by simpa only[aQ,age,ag3]using hn
 have hix:ix l b.Method=some (bN l b.Method):=(IB (Sk hb)).1
 rw[K8,ade s l c hs hl hcb,hc,acs,aQX,aQ3,YG s l b hs hl,hb,acs,aQX,aQ3,hix,acs,acs,hm]
 exact alc hl.1 hb hn' c.Entries 0 fun e he=>M8 (h1 e he)
theorem axL{s:List Int}{l:List Method}{c:Cache}(hc:lq s l c=true):uj c:=by
 obtain⟨h1,h2,h3,h4,h5⟩:=EZ.1 hc
 exact⟨by omega,fun e he=>ZP (h1 e he)⟩
def jC(m:Method)(a:aJ)(b:aN):List Int:=m.bg.map fun i=>mO b.Vars b.Values (uU a i)
theorem agB{a:aJ}{i:Int}(h:0<=i/\i<(a.Terms.length:Int)):ix a.Terms i=some (uU a i):=by
 rw[uU,Ja _ _ h]; rfl
theorem avE{m:Method}{a:aJ}{b:aN}{n:Nat}(hb:mF n b)(hn:n<=1000)(hi:∀i∈m.bg,0<=i/\i<(a.Terms.length:Int))(h3:m.bg.length<=1000):Iq m a b=some (jC m a b):=by
 have hv:=hb.2
 have key:∀(r:List Int)(k:Nat)(c:List Int),(∀i∈r,0<=i/\i<(a.Terms.length:Int))->c.length+r.length<=1000->LD a b r k c=some (c++r.map fun i=>mO b.Vars b.Values (uU a i)):=by
   intro r
   induction r with
   |nil=>intro k c _ _; simp[LD]
   |cons i r ih=>
     intro k c hr hc
     simp only[agr]at hc
     rw[LD,agB (hr i (by simp)),acs,QJ b _ (by omega),acs,app1 (by omega),acs,ih (k+1) _ (fun y hy=>hr y (by simp[hy])) (by simp; omega),aQY]; rfl
 rw[Iq,key m.bg 0 [] hi (by simpa using h3)]; rfl
theorem avF{l:List Method}{x:Int}{a:aJ}{b:aN}{n:Nat}(hx:aQ 0 ((l.length:Int)-1) x=true)(hb:mF n b)(hn:n<=1000)(hi:∀i∈(bN l x).bg,0<=i/\i<(a.Terms.length:Int))(h3:(bN l x).bg.length<=1000):Il l x a b=some {Method:=x,Values:=jC (bN l x) a b}:=by
 have key:∀(r:List Int)(k:Nat)(c:List Int),(∀i∈r,0<=i/\i<(a.Terms.length:Int))->c.length+r.length<=1000->Lr x a b r k c=some {Method:=x,Values:=c++r.map fun i=>mO b.Vars b.Values (uU a i)}:=by
   intro r
   induction r with
   |nil=>intro k c _ _; simp[Lr]
   |cons i r ih=>
     intro k c hr hc
     simp only[agr]at hc
     rw[Lr,agB (hr i (by simp)),acs,QK b _ hb.1,acs,app1 (by omega),acs,ih (k+1) _ (fun y hy=>hr y (by simp[hy])) (by simp; omega),aQY]; rfl
 rw[Il,(oV hx).1,acs,key _ 0 [] hi (by simpa using h3)]; rfl
def AQ(vs:List Int)(b:aN):Prop:=mF 24 b/\(∀v∈vs,aQ 10 17 v=true->v∈b.Vars)/\ ∀x∈b.Values,0<=x/\x<=9
theorem MP{s:List Int}{l:List Method}{x:Int}{a:aJ}{b:aN}{vs:List Int}(hm:iw s l=true)(hx:aQ 0 ((l.length:Int)-1) x=true)(hc:oM (bN l x) a vs=true)(ht:∀t∈a.Terms,rf t=true)(hb:AQ vs b):iP s l {Method:=x,Values:=jC (bN l x) a b}=true/\ ∀i∈(bN l x).bg,0<=i/\i<(a.Terms.length:Int):=by
 simp only[oM,age,aRN]at hc
 have hi:∀i∈(bN l x).bg,0<=i/\i<(a.Terms.length:Int):=fun i h=>by
   have:=hc.2 i h
   simp only[uz,aQ,age,ag3]at this
   omega
 refine⟨?_,hi⟩
 simp only[iP,age,aRN,aRZ]
 refine⟨hm,hx,by simp[jC],fun v hv=>?_⟩
 obtain⟨i,h,rfl⟩:=List.mem_map.1 hv
 have h1:=hc.2 i h
 simp only[uz,age,aR1,Bool.and_eq_false_iff]at h1
 have hir:=hi i h
 have hmem:uU a i∈a.Terms:=by
   have:=agB hir
   unfold ix at this
   rw[atV hir.1]at this
   exact aRh this
 have hte:=ht _ hmem
 unfold mO
 cases hv2:aQ 10 17 (uU a i)
 · rw[aqA (by simp)]
   simpa[rf,hv2]using hte
 · have hin:uU a i∈vs:=by
     rcases h1.2 with h2|h2
     · rw[hv2]at h2; cases h2
     · simpa using h2
   obtain⟨y,hy,e⟩:=ad1 hb.1.1 (hb.2.1 _ hin hv2)
   rw[atV rfl,e,aSs]
   have:=hb.2.2 y hy
   simp only[aQ,age,ag3]; exact this
theorem axM{vs:List Int}{a:aJ}{facts:List aj}{b x:aN}(hf:∀f∈facts,∀v∈f.Values,0<=v/\v<=9)(hb:b.Vars.length=b.Values.length/\(∀v∈vs,aQ 10 17 v=true->v∈b.Vars)/\ ∀y∈b.Values,0<=y/\y<=9)(hx:x∈kz a facts b):x.Vars.length=x.Values.length/\(∀v∈o_ vs a,aQ 10 17 v=true->v∈x.Vars)/\ ∀y∈x.Values,0<=y/\y<=9:=by
 have key:∀(fv:List Int)(T:List Int)(k:Nat)(vs1 OH:List Int)(p:List Int×List Int),(∀v∈fv,0<=v/\v<=9)->vY fv T k vs1 OH=some p->vs1.length=OH.length->(∀y∈OH,0<=y/\y<=9)->(∀v∈vs1,v∈p.1)/\(∀v∈T,aQ 10 17 v=true->v∈p.1)/\ ∀y∈p.2,0<=y/\y<=9:=by
   intro fv T
   induction T with
   |nil=>
     intro k vs1 OH p _ h _ hy
     simp only[vY,aR2]at h
     subst h
     exact⟨fun v h=>h,by simp,hy⟩
   |cons t T ih=>
     intro k vs1 OH p hfv h he hy
     unfold vY at h
     split at h
     · have h0:∀y∈OH++[fv[k]?.getD 0],0<=y/\y<=9:=fun y hm=>by
         rcases List.mem_append.1 hm with hm|hm
         · exact hy y hm
         · obtain rfl:=List.mem_singleton.1 hm
           cases hk:fv[k]?
           · simp
           · exact hfv _ (aRh hk)
       obtain⟨h1,h2,h3⟩:=ih (k+1) _ _ p hfv h (by simp[he]) h0
       refine⟨fun v hv=>h1 v (by simp[hv]),fun v hv hp=>?_,h3⟩
       rcases List.mem_cons.1 hv with rfl|hv
       · exact h1 v (by simp)
       · exact h2 v hv hp
     · rename_i hc
       split at h
       · cases h
       · obtain⟨h1,h2,h3⟩:=ih (k+1) _ _ p hfv h he hy
         refine⟨h1,fun v hv hp=>?_,h3⟩
         rcases List.mem_cons.1 hv with rfl|hv
         · rw[aku he]at hc
           simp only[hp,aQ5,aR1,aRw,aS']at hc
           exact h1 v hc
         · exact h2 v hv hp
 simp only[kz,List.mem_filterMap,Option.map_eq_some_iff]at hx
 obtain⟨f,hfm,p,hp,rfl⟩:=hx
 unfold CO at hp
 split at hp
 · cases hp
 · obtain⟨h1,h2,h3⟩:=key _ _ _ _ _ _ (hf f hfm) hp hb.1 hb.2.2
   refine⟨(Zl hp hb.1).1,fun v hv hpv=>?_,h3⟩
   rcases alS.1 hv with hv|hv
   · exact h1 v (hb.2.1 v hv hpv)
   · exact h2 v hv.1 hpv
theorem aBp(a:aJ)(G:List aj)(b:aN){n:Nat}(hb:mF n b)(hn:n+a.Terms.length<4294967295)(hG:G.length<=1000):uY [b] a G=some (kz a G b):=by
 rw[uY,acG a G hn [b] 0 [] (fun x hx=>by rw[List.mem_singleton.1 hx]; exact hb) (by simp; omega)]
 simp
theorem aBq(a:aJ)(G:List aj)(b:aN){n:Nat}(hb:mF n b)(hn:n+a.Terms.length<4294967295)(hG:G.length<=1000):yl [b] a G=some (kz a G b):=by
 rw[yl,acI a G hn [b] 0 [] (fun x hx=>by rw[List.mem_singleton.1 hx]; exact hb) (by simp; omega)]
 simp
theorem aei{s:List Int}(a:aJ)(nx:List aN)(b:aN)(G:List aj)(z:List ag)(w:Cache):∀(fs:List aj)(k:Nat)(g:List aj),(∀f∈fs,jL s f=true)->GF s g->G9 a nx b G z w fs k g=(uY [b] a G).bind fun r=>(app nx r).bind fun y=>some (z,fs.foldl jg g,w.Entries,w.Age,y)
 |[],k,g,_,_=>rfl
 |f::fs,k,g,h,hg=>by
   rw[G9,adk hg (h f (by simp)),acs]
   exact aei a nx b G z w fs (k+1) _ (fun y hy=>h y (by simp[hy])) (S9 hg (h f (by simp)))
theorem amq{s:List Int}(a:aJ)(es:List aS)(Ew:Int)(nx:List aN)(b:aN)(G:List aj)(z:List ag):∀(fs:List aj)(k:Nat)(g:List aj),(∀f∈fs,jL s f=true)->GF s g->G_ a es Ew nx b G z fs k g=(uY [b] a G).bind fun r=>(app nx r).bind fun y=>some (z,fs.foldl jg g,es,Ew,y)
 |[],k,g,_,_=>rfl
 |f::fs,k,g,h,hg=>by
   rw[G_,adk hg (h f (by simp)),acs]
   exact amq a es Ew nx b G z fs (k+1) _ (fun y hy=>h y (by simp[hy])) (S9 hg (h f (by simp)))
theorem amr{s:List Int}(a:aJ)(log:List ag)(es:List aS)(Ew:Int)(nx:List aN)(b:aN)(r:List aj×Bool):∀(fs:List aj)(k:Nat)(g:List aj),(∀f∈fs,jL s f=true)->GF s g->Hd a log es Ew nx b r fs k g=(uY [b] a r.1).bind fun r=>(app nx r).bind fun y=>some (log,fs.foldl jg g,es,Ew,y)
 |[],k,g,_,_=>rfl
 |f::fs,k,g,h,hg=>by
   rw[Hd,adk hg (h f (by simp)),acs]
   exact amr a log es Ew nx b r fs (k+1) _ (fun y hy=>h y (by simp[hy])) (S9 hg (h f (by simp)))
def n_(l:List Method)(facts:List aj)(now:Int)(x:Step)(a:aJ):List aN->Cache->List ag->List aN->Cache×List ag×List aN
 |[],c,log,nx=>(c,log,nx)
 |b::r,c,log,nx=>n_ l facts now x a r (lv l facts now c log {Method:=x.Method,Values:=jC (bN l x.Method) a b}).2.1 (lv l facts now c log {Method:=x.Method,Values:=jC (bN l x.Method) a b}).2.2 (nx++kz a (lv l facts now c log {Method:=x.Method,Values:=jC (bN l x.Method) a b}).1 b)
theorem au4{s:List Int}{l:List Method}{facts:List aj}{now:Int}{x:Step}{a:aJ}{vs:List Int}{b:aN}(r:List aN)(k:Nat){c:Cache}{log:List ag}{g:List aj}{nx:List aN}(hs:s.length<4294967296)(hl:aZ kT l)(hm:iw s l=true)(hf:lY s facts=true)(hn:aQ 0 10000 now=true)(hx:aQ 0 ((l.length:Int)-1) x.Method=true)(hx0:(bN l x.Method).Limit=0)(hc:oM (bN l x.Method) a vs=true)(ht:∀t∈a.Terms,rf t=true)(h3:a.Terms.length<=3)(hb:AQ vs b)(hC:lq s l c=true)(hg:GF s g)(AR:log.length<=1000000)(hnx:nx.length<=1000000000):
   ∃g',GF s g'/\Bi s l facts now x a (b::r) k log g c.Entries c.Age nx=Bi s l facts now x a r (k+1) (lv l facts now c log {Method:=x.Method,Values:=jC (bN l x.Method) a b}).2.2 g' (lv l facts now c log {Method:=x.Method,Values:=jC (bN l x.Method) a b}).2.1.Entries (lv l facts now c log {Method:=x.Method,Values:=jC (bN l x.Method) a b}).2.1.Age (nx++kz a (lv l facts now c log {Method:=x.Method,Values:=jC (bN l x.Method) a b}).1 b):=by
 obtain⟨hA,hi⟩:=MP hm hx hc ht hb
 have hin:=Cu hA
 obtain⟨h1,h2,h3',h4,h5⟩:=EZ.1 hC
 have hfa:=MN.1 hf
 have hbd:aZ fV facts:=⟨by omega,fun f h=>oG _ (by have:=yu (hfa.1 f h); omega)⟩
 have hT:=NA (log:=log) hC hf hA hn
 have hil:(bN l x.Method).bg.length<=1000:=by
   have:(jC (bN l x.Method) a b).length<=3:=hin
   rw[jC,aRB]at this; omega
 have e1:Iq (bN l x.Method) a b=some (jC (bN l x.Method) a b):=avE hb.1 (by omega) hi hil
 have e2:K8 s l {Entries:=c.Entries,Age:=c.Age} {Method:=x.Method,Values:=jC (bN l x.Method) a b} now=some (vK l c {Method:=x.Method,Values:=jC (bN l x.Method) a b} now):=awZ (c:=c) hs hl hC (axL hC) hA hn hx0
 have pY:∀G:List aj,G.length<=24->uY [b] a G=some (kz a G b):=fun G hG=>aBp a G b hb.1 (by omega) (by omega)
 have hle:=fun G:List aj=>BS a G b
 rw[Bi,(oV hx).1,acs,e1,acs,e2,acs]
 generalize hq:({Method:=x.Method,Values:=jC (bN l x.Method) a b}:ag)=q at*
 have hqm:q.Method=x.Method:=by rw[←hq]
 have hqv:q.Values=jC (bN l x.Method) a b:=by rw[←hq]
 unfold lv at hT ⊢
 cases hP:(vK l c q now).2
 · rw[hP]at hT
   simp only[av0,aQ9,aRF,aRr]at hT ⊢
   have e3:Md (bN l x.Method) (jC (bN l x.Method) a b) facts=some (nS l facts q):=by
     rw[nS,hqm,hqv]
     exact atu _ _ _ (fun f h=>by have:=Si hA (hfa.1 f h); rw[hqm,hqv]at this; exact this) hbd
   have hgl:(nS l facts q).length<=24:=hT.2.2.1
   have hgb:aZ fV (nS l facts q):=⟨by omega,fun f h=>hbd.2 f (List.mem_filter.1 h).1⟩
   obtain⟨j,e4,e5⟩:=as3 c q
   have e6:Iu c q (nS l facts q) now=some (JI c q (nS l facts q) now):=aup c q _ now (fun e he=>ZP (h1 e he)) (by omega) (by omega) hgb
   refine⟨(nS l facts q).foldl jg g,Z0 hg hT.2.1,?_⟩
   have hll:=hle (nS l facts q)
   rw[acs,e3,acs,app1 (by omega),acs]
   have hc':({Entries:=c.Entries,Age:=c.Age}:Cache)=c:=rfl
   have hap:app nx (kz a (nS l facts q) b)=some (nx++kz a (nS l facts q) b):=nZ (by omega)
   rw[hc',e4]
   by_cases hlt:c.Entries.length<100
   · have h6:decide ((c.Entries.length:Int)<100)=true:=by rw[ag3]; omega
     simp only[h6,aRk,acs,aRr,e6,hlt,aSp,aTf]
     rw[aei a nx b _ _ _ _ 0 g hT.2.1 hg,pY _ hgl,acs,hap,acs,acs]
   · have h6:decide ((c.Entries.length:Int)<100)=false:=by rw[aRw]; omega
     simp only[h6,aQ3,acs,e5,hlt,aSN,aR']
     cases Am c.Entries q
     · simp only[av0,aQ9]
       rw[amq a _ _ nx b _ _ _ 0 g hT.2.1 hg,pY _ hgl,acs,hap,acs,acs]
     · simp only[aRr,e6,acs]
       rw[aei a nx b _ _ _ _ 0 g hT.2.1 hg,pY _ hgl,acs,hap,acs,acs]
 · rw[hP]at hT
   simp only[aRr,aQX,av0,aQ9]at hT ⊢
   have hap:app nx (kz a (vK l c q now).1 b)=some (nx++kz a (vK l c q now).1 b):=nZ (by have:=hle (vK l c q now).1; have:=hT.2.2.1; omega)
   refine⟨(vK l c q now).1.foldl jg g,Z0 hg hT.2.1,?_⟩
   rw[amr a _ _ _ nx b _ _ 0 g hT.2.1 hg,pY _ hT.2.2.1,acs,hap,acs,acs]
theorem ams{s:List Int}{q:Query}{x:Step}{a:aJ}(ha:ix q.aL x.aJ=some a)(nx:List aN)(b:aN)(T:List aj×Cache×List ag)(z:List ag):∀(fs:List aj)(k:Nat)(g:List aj),(∀f∈fs,jL s f=true)->GF s g->Ey q x nx b T z fs k g=(yl [b] a T.1).bind fun r=>(app nx r).bind fun y=>some (T.2.1.Entries,T.2.1.Age,T.2.2,z,fs.foldl jg g,y)
 |[],k,g,_,_=>by rw[Ey,ha,acs]; rfl
 |f::fs,k,g,h,hg=>by
   rw[Ey,awi hg (h f (by simp)),acs]
   exact ams ha nx b T z fs (k+1) _ (fun y hy=>h y (by simp[hy])) (S9 hg (h f (by simp)))
theorem au5{s:List Int}{l:List Method}{q0:Query}{facts:List aj}{now:Int}{x:Step}{a:aJ}{vs:List Int}{b:aN}(r:List aN)(k:Nat){c:Cache}{log seen:List ag}{g:List aj}{nx:List aN}(hl:aZ kT l)(hm:iw s l=true)(hf:lY s facts=true)(hn:aQ 0 10000 now=true)(ha:ix q0.aL x.aJ=some a)(hx:aQ 0 ((l.length:Int)-1) x.Method=true)(hc:oM (bN l x.Method) a vs=true)(ht:∀t∈a.Terms,rf t=true)(h3:a.Terms.length<=3)(hb:AQ vs b)(hC:lq s l c=true)(hg:GF s g)(AR:log.length<=1000000)(aOv:seen.length<=1000000)(hnx:nx.length<=1000000000):
   ∃g' seen',GF s g'/\seen'.length<=seen.length+1/\Be l q0 l now facts x (b::r) k c.Entries c.Age log seen g nx=Be l q0 l now facts x r (k+1) (lv l facts now c log {Method:=x.Method,Values:=jC (bN l x.Method) a b}).2.1.Entries (lv l facts now c log {Method:=x.Method,Values:=jC (bN l x.Method) a b}).2.1.Age (lv l facts now c log {Method:=x.Method,Values:=jC (bN l x.Method) a b}).2.2 seen' g' (nx++kz a (lv l facts now c log {Method:=x.Method,Values:=jC (bN l x.Method) a b}).1 b):=by
 obtain⟨hA,hi⟩:=MP hm hx hc ht hb
 have hin:=Cu hA
 have hT:=NA (log:=log) hC hf hA hn
 have hil:(bN l x.Method).bg.length<=1000:=by
   have:(jC (bN l x.Method) a b).length<=3:=hin
   rw[jC,aRB]at this; omega
 have e1:Il l x.Method a b=some {Method:=x.Method,Values:=jC (bN l x.Method) a b}:=avF hx hb.1 (by omega) hi hil
 have e2:=awY (log:=log) hl.1 hC hf hA hn (by omega)
 have hc':({Entries:=c.Entries,Age:=c.Age}:Cache)=c:=rfl
 rw[Be,ha,acs,e1,acs,hc',e2,acs,att,acs]
 generalize ({Method:=x.Method,Values:=jC (bN l x.Method) a b}:ag)=q at*
 generalize lv l facts now c log q=T at*
 have pY:yl [b] a T.1=some (kz a T.1 b):=aBq a T.1 b hb.1 (by omega) (by have:=hT.2.2.1; omega)
 have hap:app nx (kz a T.1 b)=some (nx++kz a T.1 b):=nZ (by have:=BS a T.1 b; have:=hT.2.2.1; omega)
 cases seen.any fun y=>lU y q
 · refine⟨T.1.foldl jg g,seen++[q],Z0 hg hT.2.1,by simp,?_⟩
   rw[atV (show (!false)=true from rfl),app1 (by omega),acs,ams ha nx b T _ T.1 0 g hT.2.1 hg,pY,acs,hap,acs,acs]
 · refine⟨g,seen,hg,by omega,?_⟩
   rw[aqA (by simp),acs,pY,acs,hap,acs,acs]
theorem ann{s:List Int}{l:List Method}{facts:List aj}{now:Int}{x:Step}{a:aJ}{vs:List Int}(hs:s.length<4294967296)(hl:aZ kT l)(hm:iw s l=true)(hf:lY s facts=true)(hn:aQ 0 10000 now=true)(hx:aQ 0 ((l.length:Int)-1) x.Method=true)(hx0:(bN l x.Method).Limit=0)(hc:oM (bN l x.Method) a vs=true)(ht:∀t∈a.Terms,rf t=true)(h3:a.Terms.length<=3):∀(r:List aN)(k:Nat)(c:Cache)(log:List ag)(g:List aj)(nx:List aN),(∀b∈r,AQ vs b)->lq s l c=true->GF s g->log.length+r.length<=1000000->nx.length+24*r.length<=1000000000->
   ∃g',GF s g'/\Bi s l facts now x a r k log g c.Entries c.Age nx=some ((n_ l facts now x a r c log nx).2.1,g',(n_ l facts now x a r c log nx).1.Entries,(n_ l facts now x a r c log nx).1.Age,(n_ l facts now x a r c log nx).2.2)
 |[],k,c,log,g,nx,_,_,hg,_,_=>⟨g,hg,rfl⟩
 |b::r,k,c,log,g,nx,hb,hC,hg,AR,hnx=>by
   simp only[agr]at AR hnx
   obtain⟨g1,hg1,e1⟩:=au4 r k hs hl hm hf hn hx hx0 hc ht h3 (hb b (by simp)) hC hg (show log.length<=1000000 by omega) (show nx.length<=1000000000 by omega)
   have hA:=(MP hm hx hc ht (hb b (by simp))).1
   have hT:=NA (log:=log) hC hf hA hn
   have hle:=BS a (lv l facts now c log {Method:=x.Method,Values:=jC (bN l x.Method) a b}).1 b
   obtain⟨g2,hg2,e2⟩:=ann hs hl hm hf hn hx hx0 hc ht h3 r (k+1) _ (lv l facts now c log {Method:=x.Method,Values:=jC (bN l x.Method) a b}).2.2 g1 (nx++kz a (lv l facts now c log {Method:=x.Method,Values:=jC (bN l x.Method) a b}).1 b) (fun y hy=>hb y (by simp[hy])) hT.1 hg1 (by have:=hT.2.2.2.1; omega) (by rw[aQW]; have:=hT.2.2.1; omega)
   exact⟨g2,hg2,by rw[e1,e2]; rfl⟩
theorem ano{s:List Int}{l:List Method}{q0:Query}{facts:List aj}{now:Int}{x:Step}{a:aJ}{vs:List Int}(hl:aZ kT l)(hm:iw s l=true)(hf:lY s facts=true)(hn:aQ 0 10000 now=true)(ha:ix q0.aL x.aJ=some a)(hx:aQ 0 ((l.length:Int)-1) x.Method=true)(hc:oM (bN l x.Method) a vs=true)(ht:∀t∈a.Terms,rf t=true)(h3:a.Terms.length<=3):∀(r:List aN)(k:Nat)(c:Cache)(log seen:List ag)(g:List aj)(nx:List aN),(∀b∈r,AQ vs b)->lq s l c=true->GF s g->log.length+r.length<=1000000->seen.length+r.length<=1000000->nx.length+24*r.length<=1000000000->
   ∃g' seen',GF s g'/\seen'.length<=seen.length+r.length/\Be l q0 l now facts x r k c.Entries c.Age log seen g nx=some ((n_ l facts now x a r c log nx).1.Entries,(n_ l facts now x a r c log nx).1.Age,(n_ l facts now x a r c log nx).2.1,seen',g',(n_ l facts now x a r c log nx).2.2)
 |[],k,c,log,seen,g,nx,_,_,hg,_,_,_=>⟨g,seen,hg,by simp,rfl⟩
 |b::r,k,c,log,seen,g,nx,hb,hC,hg,AR,hse,hnx=>by
   simp only[agr]at AR hnx hse
   obtain⟨g1,s1,hg1,hs1,e1⟩:=au5 r k hl hm hf hn ha hx hc ht h3 (hb b (by simp)) hC hg (show log.length<=1000000 by omega) (show seen.length<=1000000 by omega) (show nx.length<=1000000000 by omega)
   have hA:=(MP hm hx hc ht (hb b (by simp))).1
   have hT:=NA (log:=log) hC hf hA hn
   have hle:=BS a (lv l facts now c log {Method:=x.Method,Values:=jC (bN l x.Method) a b}).1 b
   obtain⟨g2,s2,hg2,hs2,e2⟩:=ano hl hm hf hn ha hx hc ht h3 r (k+1) _ (lv l facts now c log {Method:=x.Method,Values:=jC (bN l x.Method) a b}).2.2 s1 g1 (nx++kz a (lv l facts now c log {Method:=x.Method,Values:=jC (bN l x.Method) a b}).1 b) (fun y hy=>hb y (by simp[hy])) hT.1 hg1 (by have:=hT.2.2.2.1; omega) (by omega) (by rw[aQW]; have:=hT.2.2.1; omega)
   exact⟨g2,s2,hg2,by simp only[agr]; omega,by rw[e1,e2]; rfl⟩
theorem amt{s:List Int}{l:List Method}{facts:List aj}{now:Int}{x:Step}{a:aJ}{vs:List Int}{n:Nat}(hm:iw s l=true)(hf:lY s facts=true)(hn:aQ 0 10000 now=true)(hx:aQ 0 ((l.length:Int)-1) x.Method=true)(hc:oM (bN l x.Method) a vs=true)(ht:∀t∈a.Terms,rf t=true)(h3:a.Terms.length<=3)(hnn:n+3<=24):∀(r:List aN)(c:Cache)(log:List ag)(nx:List aN),(∀b∈r,AQ vs b/\mF n b)->lq s l c=true->(∀b∈nx,AQ (o_ vs a) b/\mF (n+3) b)->lq s l (n_ l facts now x a r c log nx).1=true/\(n_ l facts now x a r c log nx).2.1.length<=log.length+r.length/\(n_ l facts now x a r c log nx).2.2.length<=nx.length+24*r.length/\ ∀b∈(n_ l facts now x a r c log nx).2.2,AQ (o_ vs a) b/\mF (n+3) b
 |[],c,log,nx,_,hC,hnx=>⟨hC,by simp[n_],by simp[n_],hnx⟩
 |b::r,c,log,nx,hb,hC,hnx=>by
   obtain⟨hb1,hb2⟩:=hb b (by simp)
   have hA:=(MP hm hx hc ht hb1).1
   have hT:=NA (log:=log) hC hf hA hn
   have hle:=BS a (lv l facts now c log {Method:=x.Method,Values:=jC (bN l x.Method) a b}).1 b
   have ih:=amt (n:=n) hm hf hn hx hc ht h3 hnn r _ (lv l facts now c log {Method:=x.Method,Values:=jC (bN l x.Method) a b}).2.2 (nx++kz a (lv l facts now c log {Method:=x.Method,Values:=jC (bN l x.Method) a b}).1 b) (fun y hy=>hb y (by simp[hy])) hT.1 (fun y hy=>by
     rcases List.mem_append.1 hy with hy|hy
     · exact hnx y hy
     · have h1:=axM (fun f h=>(yu (hT.2.1 f h)).2.2.2) ⟨hb1.1.1,hb1.2.1,hb1.2.2⟩ hy
       have h2:=Z7 hb2 hy
       have h4:mF (n+3) y:=⟨h2.1,by have:=h2.2; omega⟩
       exact⟨⟨⟨h4.1,by have:=h4.2; omega⟩,h1.2.1,h1.2.2⟩,h4⟩)
   have h5:=hT.2.2.2.1
   have h6:=hT.2.2.1
   refine⟨ih.1,aQ6 ih.2.1 (by simp only[agr]; omega),aQ6 ih.2.2.1 (by rw[aQW,agr]; omega),ih.2.2.2⟩
theorem alW{s:List Int}{l:List Method}{facts:List aj}{now:Int}{x:Step}{a:aJ}{vs:List Int}(hm:iw s l=true)(hf:lY s facts=true)(hn:aQ 0 10000 now=true)(hx:aQ 0 ((l.length:Int)-1) x.Method=true)(hc:oM (bN l x.Method) a vs=true)(ht:∀t∈a.Terms,rf t=true):∀(r:List aN)(c:Cache)(log:List ag)(nx:List aN),(∀b∈r,AQ vs b)->lq s l c=true->(∀y∈log,iP s l y=true)-> ∀y∈(n_ l facts now x a r c log nx).2.1,iP s l y=true
 |[],_,_,_,_,_,h=>h
 |b::r,c,log,nx,hb,hC,h=>by
   have hA:=(MP hm hx hc ht (hb b (by simp))).1
   have hT:=NA (log:=log) hC hf hA hn
   exact alW hm hf hn hx hc ht r _ _ _ (fun y hy=>hb y (by simp[hy])) hT.1 fun y hy=>by
     rcases hT.2.2.2.2 y hy with rfl|hy
     · exact hA
     · exact h y hy
def qW(l:List Method)(facts:List aj)(now:Int)(q:Query):List Step->Cache->List ag->List aN->Cache×List ag×List aN
 |[],c,log,ls=>(c,log,ls)
 |x::r,c,log,ls=>qW l facts now q r (n_ l facts now x (pF q x.aJ) ls c log []).1 (n_ l facts now x (pF q x.aJ) ls c log []).2.1 (n_ l facts now x (pF q x.aJ) ls c log []).2.2
theorem axN{s:List Int}{l:List Method}{facts:List aj}{now:Int}{q:Query}(hs:s.length<4294967296)(hl:aZ kT l)(hm:iw s l=true)(hf:lY s facts=true)(hn:aQ 0 10000 now=true)(hq:fe s q=true):∀(st:List Step)(k:Nat)(pre:List Step)(vs:List Int)(n:Nat)(c:Cache)(log seen:List ag)(g g2:List aj)(ls:List aN),yO l q st pre vs=true->CP l st=true->(∀b∈ls,AQ vs b/\mF n b)->n+3*st.length<=12->lq s l c=true->GF s g->GF s g2->ls.length*24 ^ st.length<=331776->log.length+13824*st.length<=900000->seen.length+13824*st.length<=900000->(∀y∈log,iP s l y=true)->
   (∃g',EE s l q facts now st k log g c.Entries c.Age ls=some (({nN:=Nz q (qW l facts now q st c log ls).2.2,bD:=(qW l facts now q st c log ls).2.1,rP:=g',bK:=uk l (qW l facts now q st c log ls).2.1 0}:Run),(qW l facts now q st c log ls).1))/\
   (∃r':Run,Ez l q l now facts st k c.Entries c.Age log seen g2 ls=some (r',(qW l facts now q st c log ls).1,(qW l facts now q st c log ls).2.1)/\r'.nN=Nz q (qW l facts now q st c log ls).2.2)/\
   lq s l (qW l facts now q st c log ls).1=true/\(qW l facts now q st c log ls).2.1.length<=900000/\(∀y∈(qW l facts now q st c log ls).2.1,iP s l y=true)/\(qW l facts now q st c log ls).2.2.length<=331776:=by
 obtain⟨q1,q2,q3⟩:=mX hq
 intro st
 induction st with
 |nil=>
   intro k pre vs n c log seen g g2 ls _ _ hb hn0 hC hg hg2 hls AR hse hla
   simp only[aQ',Nat.pow_zero,aS2,Nat.mul_zero,aRV]at hls AR hse hn0
   have arx:∀b∈ls,mF 12 b:=fun b h=>⟨(hb b h).2.1,by have:=(hb b h).2.2; omega⟩
   have e1:MB q ls=some (Nz q ls):=by
     rw[MB,ajj q q3 ls 0 [] arx (by simp) (by simp; omega)]; rfl
   have e2:MI q ls=some (Nz q ls):=by
     rw[MI,ajk q q3 ls 0 [] arx (by simp; omega)]; rfl
   refine⟨⟨g,?_⟩,⟨{nN:=Nz q ls,bD:=seen,rP:=g2,bK:=uk l seen 0},?_,rfl⟩,hC,by simpa[qW]using AR,hla,hls⟩
   · rw[EE,e1,acs,auS l log hl.1 (by omega),acs]; rfl
   · rw[Ez,e2,acs,akk l seen hl.1 (by omega),acs]; rfl
 |cons x st ih=>
   intro k pre vs n c log seen g g2 ls ho he hb hn0 hC hg hg2 hls AR hse hla
   simp only[agr]at hls AR hse hn0
   simp only[yO,age]at ho
   obtain⟨o1,-,o3,o4,o5⟩:=ho
   simp only[CP,aRS,age,aRZ]at he
   obtain⟨⟨-,he1⟩,he2⟩:=he
   obtain⟨a1,a2⟩:=aeI o1
   have ht3:=q2 _ a2
   have htt:∀t∈(pF q x.aJ).Terms,rf t=true:=by
     simp only[fe,age,aRN]at hq
     have:=hq.1 _ a2
     simp only[tY,age,aRN]at this
     exact this.2.2
   have hlen:ls.length<=13824:=by
     have h1:24 ^ (st.length+1)>=24:=by
       calc 24=24 ^ 1:=rfl
         _<=_:=aSg (by omega) (by omega)
     have h2:ls.length*24<=331776:=aQ6 (aSF _ h1) hls
     omega
   obtain⟨g',hg',e1⟩:=ann hs hl hm hf hn o3 he1 o4 htt ht3 ls 0 c log g [] (fun b h=>(hb b h).1) hC hg (by omega) (by simp; omega)
   obtain⟨g3,s3,hg3,hs3,e2⟩:=ano (q0:=q) hl hm hf hn a1 o3 o4 htt ht3 ls 0 c log seen g2 [] (fun b h=>(hb b h).1) hC hg2 (by omega) (by omega) (by simp; omega)
   have hI:=amt (n:=n) hm hf hn o3 o4 htt ht3 (by omega) ls c log [] hb hC (by simp)
   have aId:(n_ l facts now x (pF q x.aJ) ls c log []).2.2.length*24 ^ st.length<=331776:=by
     have h1:=hI.2.2.1
     simp only[aQ',aRf]at h1
     rw[Nat.pow_succ,aSX (24 ^ st.length) 24,←aTq,aSX ls.length 24]at hls
     exact aQ6 (aQ4 _ h1) hls
   have:=ih (k+1) (pre++[x]) _ (n+3) (n_ l facts now x (pF q x.aJ) ls c log []).1 (n_ l facts now x (pF q x.aJ) ls c log []).2.1 s3 g' g3 (n_ l facts now x (pF q x.aJ) ls c log []).2.2 o5 he2 hI.2.2.2 (by omega) hI.1 hg' hg3 aId (by have:=hI.2.1; omega) (by omega) (alW hm hf hn o3 o4 htt ls c log [] (fun b h=>(hb b h).1) hC hla)
   refine⟨?_,?_,this.2.2⟩
   · obtain⟨g4,e4⟩:=this.1
     exact⟨g4,by rw[EE,a1,acs,e1,acs]; exact e4⟩
   · obtain⟨r4,e4,h4⟩:=this.2.1
     exact⟨r4,by rw[Ez,e2,acs]; exact e4,h4⟩
def anT(s:List Int)(l:List Method)(q:Query)(st:List Step)(facts:List aj)(c:Cache)(now:Int):Bool:=((iw s l&&fe s q)&&((st.length:Int)==(q.aL.length:Int)&&yO l q st [] []))&&(CP l st&&(lY s facts&&(lq s l c&&aQ 0 10000 now)))
def yP(s:List Int)(l:List Method)(q:Query)(st:List Step)(facts:List aj)(c:Cache)(now:Int):List (List Int)×List ag×Int×Cache:=if anT s l q st facts c now then (Nz q (qW l facts now q st c [] [{Vars:=[],Values:=[]}]).2.2,(qW l facts now q st c [] [{Vars:=[],Values:=[]}]).2.1,uk l (qW l facts now q st c [] [{Vars:=[],Values:=[]}]).2.1 0,(qW l facts now q st c [] [{Vars:=[],Values:=[]}]).1)else ([],[],0,c)
def agC(s:List Int)(l:List Method)(c:Cache)(r:List (List Int)×List ag×Int×Cache):Prop:=r.2.1.length<=900000/\(∀y∈r.2.1,iP s l y=true)/\r.2.2.1=uk l r.2.1 0/\(lq s l c=true->lq s l r.2.2.2=true)/\r.1.length<=331776/\ ∀x∈r.1,x.length<=3
theorem SS{s:List Int}{l:List Method}{c:Cache}:agC s l c ([],[],0,c):=⟨by simp,by simp,rfl,fun h=>h,by simp,by simp⟩
theorem aw0{s:List Int}{l:List Method}{q:Query}{st:List Step}{facts:List aj}{c:Cache}{now:Int}(hs:s.length<4294967296)(hl:aZ kT l)(ht:ic q.aL<4294967295)(hfb:aZ fV facts)(hcb:uj c):(∃g,Ih s l q st facts c now=some (({nN:=(yP s l q st facts c now).1,bD:=(yP s l q st facts c now).2.1,rP:=g,bK:=(yP s l q st facts c now).2.2.1}:Run),(yP s l q st facts c now).2.2.2))/\(∃g,Mm s l q st facts c now=some (({nN:=(yP s l q st facts c now).1,bD:=(yP s l q st facts c now).2.1,rP:=g,bK:=(yP s l q st facts c now).2.2.1}:Run),(yP s l q st facts c now).2.2.2))/\agC s l c (yP s l q st facts c now)
 :=by
 rw[Ih,akl c hcb,acs,au2 hs hl ht st,acs,Mm,ajU c hcb,acs,au3 hs hl ht st,acs,yP,anT]
 cases h1:(iw s l&&fe s q)&&((st.length:Int)==(q.aL.length:Int)&&yO l q st [] [])
 · exact⟨⟨[],rfl⟩,⟨[],rfl⟩,SS⟩
 rw[aQX,aQ3,aQ3,ZL,ajA l hl.1,acs,au1 l st hl.1,acs]
 cases h2:CP l st
 · exact⟨⟨[],rfl⟩,⟨[],rfl⟩,SS⟩
 rw[aQX,aQ3,aQ3,YF s facts hs hfb,acs,ac3 s facts hs hfb,acs]
 cases h3:lY s facts
 · exact⟨⟨[],rfl⟩,⟨[],rfl⟩,SS⟩
 rw[aQX,aQ3,aQ3,ade s l c hs hl hcb,acs,akj s l c hs hl hcb,acs]
 cases h4:lq s l c
 · exact⟨⟨[],rfl⟩,⟨[],rfl⟩,SS⟩
 rw[aQX,aQ3,aQ3,lV,acs,adu,acs]
 cases h5:aQ 0 10000 now
 · exact⟨⟨[],rfl⟩,⟨[],rfl⟩,SS⟩
 simp only[age,aRZ]at h1
 obtain⟨⟨hm,hq⟩,hlen,ho⟩:=h1
 have hsh:=(mX hq).1
 have hp:(1:Nat)*24 ^ st.length<=331776:=by
   rw[aSC]
   calc 24 ^ st.length<=24 ^ 4:=aSg (by omega) (by omega)
     _=331776:=by decide
 obtain⟨⟨g,e1⟩,⟨r',e2,e3⟩,hC,hL,hLa,hLb⟩:=axN hs hl hm h3 h5 hq st 0 [] [] 0 c [] [] [] [] [{Vars:=[],Values:=[]}] ho h2 (fun b hb=>by
   rw[List.mem_singleton.1 hb]
   exact⟨⟨⟨rfl,by simp⟩,by simp,by simp⟩,⟨rfl,by simp⟩⟩) (by omega) h4 ⟨by simp,List.Pairwise.nil⟩ ⟨by simp,List.Pairwise.nil⟩ hp (by simp only[aQ']; omega) (by simp only[aQ']; omega) (by simp)
 simp only[aQX,acs,av0,aQ9,Bool.and_self,aRr]
 refine⟨⟨g,e1⟩,⟨r'.rP,?_⟩,hL,hLa,rfl,fun _=>hC,?_⟩
 rotate_left
 · have:=akn (mX hq).2.2 (l:=(qW l facts now q st c [] [{Vars:=[],Values:=[]}]).2.2) (c:=[]) (by simp)
   exact⟨by have h:=this.1; simp only[aQ']at h; exact aQ6 h (by omega),this.2⟩
 rw[Zj,O7,e2,acs,akk l _ hl.1 (by dsimp only; omega),acs,acs,e3]
theorem aeJ(l:List Method):∀(log:List ag)(c:Int),c<=uk l log c/\uk l log c<=c+99*(log.length:Int)
 |[],c=>by simp[uk]
 |x::r,c=>by
   have h1:=adv l x
   have h2:=aeJ l r (c+Dp l x)
   rw[uk]; simp only[agr]; omega
theorem axO{s:List Int}{l:List Method}{c:Cache}(h:lq s l c=true):uj c/\nX c<=20000:=by
 obtain⟨h1,-,-,-,h5⟩:=EZ.1 h
 refine⟨⟨by omega,fun e he=>ZP (h1 e he)⟩,?_⟩
 have:=UK (ms:=qg) (c:=200) c.Entries fun e he=>by
   have h6:=M8 (h1 e he)
   have h7:=h1 e he
   simp only[rX,age]at h7
   have h8:=Cu h7.1
   have h9:=UK (ms:=nM) (c:=4) e.Facts fun f hf=>by
     have:=yu (h6.2.1 f hf)
     unfold nM; rw[tJ]; omega
   unfold qg kG; rw[tJ]; omega
 unfold nX; omega
def nC(m:bU)(q:Query):List (List Int)×List ag×Int×Cache:=yP m.bA m.Methods (nV m.bA m.Methods q).1.Query (nV m.bA m.Methods q).1.Steps m.Source.Facts m.Cache m.Now
def abd(m:bU)(q:Query):Bool:=wI m&&(!decide ((500:Int)<(m.bD.length:Int))&&(!decide ((900000:Int)<m.bI)&&(!decide ((100:Int)<=(m.bX.length:Int))&&((nV m.bA m.Methods q).2&&!decide ((1000:Int)<((m.bD.length:Int)+((nC m q).2.1.length:Int)))))))
def oN(m:bU)(q:Query):bU×Bool:=if abd m q then ({bA:=m.bA,Methods:=m.Methods,bV:=m.bV,Source:=m.Source,Cache:=(nC m q).2.2.2,Now:=m.Now,bD:=m.bD++(nC m q).2.1,dh:=m.dh++List.replicate (nC m q).2.1.length m.Now,bI:=m.bI+(nC m q).2.2.1,bX:=m.bX++[(nC m q).1]},true)else (m,false)
theorem amu(l:List Int)(n:Nat)(x:Int):(l++[x])++List.replicate n x=l++List.replicate (n+1) x:=by
 rw[aQY,aSE]; rfl
theorem amv(m:bU)(r:Run×Cache)(hr:aZ (aZ gz) r.1.nN)(hR:m.bX.length<=1000):∀(log:List ag)(k:Nat)(a:List ag)(t:List Int),(∀x∈log,x.Values.length<=3)->a.length+log.length<=1000->t.length+log.length<=1000->
   EH m m r log k a t=some (({bA:=m.bA,Methods:=m.Methods,bV:=m.bV,Source:=m.Source,Cache:=r.2,Now:=m.Now,bD:=a++log,dh:=t++List.replicate log.length m.Now,bI:=IntKind.i64.wrap (m.bI+r.1.bK),bX:=m.bX++[r.1.nN]}:bU),true)
 |[],k,a,t,_,_,_=>by
   rw[EH,ajT _ hr,acs,app1 (by omega),acs]
   simp
 |x::log,k,a,t,hx,ha,ht=>by
   have h3:=hx x (by simp)
   simp only[agr]at ha ht
   rw[EH,YE _ _ (by omega),acs,app1 (by omega),acs,app1 (by omega),acs,amv m r hr hR log (k+1) _ _ (fun y hy=>hx y (by simp[hy])) (by rw[aQW]; simp only[agr,aQ']; omega) (by rw[aQW]; simp only[agr,aQ']; omega),amu,aQY]
   rfl
theorem amw(m:bU)(r:Run×Cache)(hR:m.bX.length<=1000):∀(log:List ag)(k:Nat)(a:List ag)(t:List Int),a.length+log.length<=1000->t.length+log.length<=1000->
   EI m m r log k a t=some (({bA:=m.bA,Methods:=m.Methods,bV:=m.bV,Source:=m.Source,Cache:=r.2,Now:=m.Now,bD:=a++log,dh:=t++List.replicate log.length m.Now,bI:=IntKind.i64.wrap (m.bI+r.1.bK),bX:=m.bX++[r.1.nN]}:bU),true)
 |[],k,a,t,_,_=>by
   rw[EI,app1 (by omega),acs]
   simp
 |x::log,k,a,t,ha,ht=>by
   simp only[agr]at ha ht
   rw[EI,app1 (by omega),acs,app1 (by omega),acs,amw m r hR log (k+1) _ _ (by rw[aQW]; simp only[agr,aQ']; omega) (by rw[aQW]; simp only[agr,aQ']; omega),amu,aQY]
   rfl
theorem ale{m:bU}(h:wI m=true):0<=m.bI/\m.bI<=1000000:=by
 simp only[wI,age]at h
 obtain⟨-,-,-,-,-,-,-,-,-,h1,-⟩:=h
 simpa only[aQ,age,ag3]using h1
theorem awm{m:bU}(h:wI m=true):lq m.bA m.Methods m.Cache=true:=by
 simp only[wI,age]at h
 exact h.2.2.2.1
theorem anU{r:List (List Int)}(h1:r.length<=331776)(h2:∀x∈r,x.length<=3):aZ (aZ gz) r:=⟨by omega,fun x hx=>oG _ (by have:=h2 x hx; omega)⟩
theorem aeK{m:bU}{q:Query}(hm:uX m)(h:(nV m.bA m.Methods q).2=true):fe m.bA q=true/\(∃g,Ih m.bA m.Methods (nV m.bA m.Methods q).1.Query (nV m.bA m.Methods q).1.Steps m.Source.Facts m.Cache m.Now=some (({nN:=(nC m q).1,bD:=(nC m q).2.1,rP:=g,bK:=(nC m q).2.2.1}:Run),(nC m q).2.2.2))/\(∃g,Mm m.bA m.Methods (nV m.bA m.Methods q).1.Query (nV m.bA m.Methods q).1.Steps m.Source.Facts m.Cache m.Now=some (({nN:=(nC m q).1,bD:=(nC m q).2.1,rP:=g,bK:=(nC m q).2.2.1}:Run),(nC m q).2.2.2))/\agC m.bA m.Methods m.Cache (nC m q):=by
 have h3:=mX (aBn h).1
 have h4:=vw (l:=(nV m.bA m.Methods q).1.Query.aL) h3.2.1
 refine⟨?_,aw0 hm.1.1 hm.2.1 (by omega) hm.2.2.2.1 hm.2.2.2.2.1⟩
 unfold nV at h
 split at h
 · rename_i h6
   simp only[age]at h6
   exact h6.2
 · cases h
theorem aBr{s:List Int}{l:List Method}{q:Query}(h:fe s q=false):(nV s l q).2=false:=by
 unfold nV
 rw[h,aS1]; rfl
theorem aur(m:bU)(q:Query)(hm:uX m)(ht:ic q.aL<4294967295):MC 20 m q=some (oN m q):=by
 rw[MC,auU m hm,acs,asU m hm,acs,oN,abd]
 cases h1:wI m
 · rfl
 rw[aQX,aQ3,LY _ q hm.1.1 ht,acs]
 cases h2:fe m.bA q
 · simp only[aBr h2,aRF,aRk,acs,aSr,aS1,av0,aQ9,aRr]
 rw[aQX,aQ3,aQ5]
 cases h3:decide ((500:Int)<(m.bD.length:Int))
 rotate_left
 · rfl
 cases h4:decide ((900000:Int)<m.bI)
 rotate_left
 · rfl
 cases h5:decide ((100:Int)<=(m.bX.length:Int))
 rotate_left
 · rfl
 simp only[aQ3,acs,aRF,aQ5,av0,aQ9]
 rw[asn hm.1.1 hm.2.1 ht,acs]
 cases h6:(nV m.bA m.Methods q).2
 · rfl
 obtain⟨-,⟨g,e1⟩,-,r1,r2,r3,r4,r5,r6⟩:=aeK hm h6
 obtain⟨s1,s2,s3⟩:=aeE h1
 have s4:=ale h1
 rw[aQX,aqA (by simp),e1,acs,di (by dsimp only; omega) (by dsimp only; omega)]
 dsimp only
 by_cases h7:(1000:Int)<(m.bD.length:Int)+((nC m q).2.1.length:Int)
 · simp[h7]
 · have hc:=aeJ m.Methods (nC m q).2.1 0
   rw[←r3]at hc
   rw[aqA (by simpa using h7),amv m _ (anU r5 r6) (by omega) _ _ _ _ (fun y hy=>Cu (r2 y hy)) (by omega) (by omega)]
   dsimp only
   rw[di (by omega) (by omega)]
   simp[h7]
theorem aus(m:bU)(q:Query)(hm:uX m)(ht:ic q.aL<4294967295):Iy 20 m q=some (oN m q):=by
 rw[Iy,asj m hm,acs,asT m hm,acs,oN,abd]
 cases h1:wI m
 · rfl
 rw[aQX,aQ3,aQ5]
 cases h3:decide ((500:Int)<(m.bD.length:Int))
 rotate_left
 · rfl
 cases h4:decide ((900000:Int)<m.bI)
 rotate_left
 · rfl
 cases h5:decide ((100:Int)<=(m.bX.length:Int))
 rotate_left
 · rfl
 simp only[aQ3,acs,aRF,aQ5,av0,aQ9]
 rw[aso hm.1.1 hm.2.1 ht,acs]
 cases h6:(nV m.bA m.Methods q).2
 · rfl
 obtain⟨-,-,⟨g,e1⟩,r1,r2,r3,r4,r5,r6⟩:=aeK hm h6
 obtain⟨s1,s2,s3⟩:=aeE h1
 have s4:=ale h1
 rw[aQX,aqA (by simp),e1,acs,di (by dsimp only; omega) (by dsimp only; omega)]
 dsimp only
 by_cases h7:(1000:Int)<(m.bD.length:Int)+((nC m q).2.1.length:Int)
 · simp[h7]
 · have hc:=aeJ m.Methods (nC m q).2.1 0
   rw[←r3]at hc
   rw[aqA (by simpa using h7),amw m _ (by omega) _ _ _ _ (by omega) (by omega)]
   dsimp only
   rw[di (by omega) (by omega)]
   simp[h7]
theorem ay6(m:bU)(q:Query)(hm:uX m):uX (oN m q).1/\rU (oN m q).1<=rU m+2000000:=by
 rw[oN]
 split
 · rename_i h
   simp only[abd,age,aR1,aRw]at h
   obtain⟨h1,h2,h3,h4,h5,h6⟩:=h
   obtain⟨-,-,-,r1,r2,r3,r4,r5,r6⟩:=aeK hm h5
   obtain⟨s1,s2,s3⟩:=aeE h1
   obtain⟨c1,c2⟩:=axO (r4 (awm h1))
   have hL:=UK (ms:=kG) (c:=4) (nC m q).2.1 fun y hy=>by
     have:=Cu (r2 y hy)
     unfold kG; rw[tJ]; omega
   have hA:=UK (ms:=bq (fun _:Int=>1)) (c:=3) (nC m q).1 fun y hy=>by
     have:=r6 y hy
     rw[tJ]; omega
   refine⟨⟨hm.1,hm.2.1,hm.2.2.1,hm.2.2.2.1,c1,⟨?_,?_⟩,oG _ ?_,axG hm.2.2.2.2.2.2.2 (by omega) (anU r5 r6)⟩,?_⟩
   · rw[aQW]; omega
   · intro x hx
     rcases List.mem_append.1 hx with hx|hx
     · exact hm.2.2.2.2.2.1.2 x hx
     · exact oG _ (by have:=Cu (r2 x hx); omega)
   · rw[aQW,aSU]; omega
   · have e1:bq kG (m.bD++(nC m q).2.1)=bq kG m.bD+bq kG (nC m q).2.1:=by simp[bq]
     have e2:bq (fun _:Int=>1) (m.dh++List.replicate (nC m q).2.1.length m.Now)=bq (fun _:Int=>1) m.dh+(nC m q).2.1.length:=by rw[tJ,tJ,aQW,aSU]
     unfold rU
     dsimp only
     rw[e1,e2,axH]
     omega
 · exact⟨hm,by simp⟩
theorem ar5{m:bU}{q:Query}(wm:ag2 m)(wq:ag5 q):∃fuel,Ph fuel m q=some true:=by
 refine⟨20,?_⟩
 unfold Ph
 obtain⟨n1,e1,h1⟩:=avq m wm 1048576 (by omega) (by omega)
 rw[e1,acs]
 try dsimp only at h1
 rcases h1 with⟨rfl,p1⟩|p1
 rotate_left
 · rw[atV (by simpa using p1)]
 rw[aqA (by simp only[ag3]; omega)]
 obtain⟨n2,e2,h2⟩:=axA q wq _ p1 (by omega)
 rw[e2,acs]
 try dsimp only at h2
 rcases h2 with⟨rfl,p2⟩|p2
 rotate_left
 · rw[atV (by simpa using p2)]
 rw[aqA (by simp only[ag3]; omega)]
 have b:=aBm m (by omega)
 have b2:=awR q (by omega)
 have ht:ic q.aL<4294967295:=by
   have:=amj q.aL
   unfold IJ at p2; omega
 obtain⟨b3,m3⟩:=ay6 m q b
 have m1:=avv m
 have m2:=awS q
 have k1:=YD m 1 b (by omega) (by omega)
 have k2:=awc q (1+rU m) b2 (by omega) (by omega)
 have k4:=YD (oN m q).1 1 b3 (by omega) (by omega)
 have k5:=at1 (oN m q).1 1 b3 (by omega) (by omega)
 have k6:Hf {bA:=(wV (oN m q).1 1).bA,Methods:=(wV (oN m q).1 1).Methods,bV:=(wV (oN m q).1 1).bV,Source:={Facts:=(wV (oN m q).1 1).Source.Facts,Version:=(oN m q).1.Source.Version},Cache:={Entries:=(wV (oN m q).1 1).Cache.Entries,Age:=(oN m q).1.Cache.Age},Now:=(oN m q).1.Now,bD:=(wV (oN m q).1 1).bD,dh:=(wV (oN m q).1 1).dh,bI:=(oN m q).1.bI,bX:=(wV (oN m q).1 1).bX} 1=(some (1+(rU (oN m q).1:Int)):Option Int):=k5
 simp only[ado m b,axC q b2,aur m q b ht,aus m q b ht,adr,axF,k1,k2,k4,k6,acs,aQX,av0,aQ9,ax2,aw9 (show (0:Int)<=1+(rU m:Int)+(Ff q:Int) by omega),aQ3,aRH,beq_self_eq_true]
end Go.Proofs.YtlnefhbbbikmgabGreat
/-
 The row FnExactAskQuery.
-/
set_option maxRecDepth 100000
namespace Go.Proofs.YtlnefhbbbikmgabGreat.fnExactAskQuery
open Go Go.Fw Go.ChangeShapes Go.WideShapes Go.ChangeAt Go.RowKit
theorem own:ownKnob Tryz.prog.godebug=none:=by kernel_rfl
theorem laidOut:laidOutB Tryz.prog=true:=by kernel_rfl
set_option maxRecDepth 100000 in
theorem lifted(os:Os)(started:os.Started)(H:Type)(enc:TypeId×Value->H):
   ReturnsInHanded {} Tryz.checked os 3 .any (Rows.fnExactAskQuerySpec.pre6 enc Tryz.prog Tryz.f3 Rows.fnExactAskQueryRow.domain false) (Rows.fnExactAskQuerySpec.post enc Tryz.prog Tryz.f3 false true false false):=by
 refine returnsInHanded_of_change_sized (C:=Tryz.checked) own started (by kernel_rfl) Tryz.func3
   (ChangeSpec.witness6 (enc:=enc) (C:=Tryz.checked) false ⟨#[],#[.agg #[.slice none 0 0,.slice none 0 0,.slice none 0 0,.slice none 0 0,.int .i64 0,.slice none 0 0,.int .i64 0,.int .i64 0,.slice none 0 0,.slice none 0 0,.int .i64 0,.slice none 0 0],.agg #[.slice none 0 0,.slice none 0 0]],[]⟩ 16 (by kernel_rfl) (by kernel_rfl) (by kernel_rfl) (by kernel_rfl)) ?_
 intro W base args ds gs before hval hW _ hwt _
 have hW':=hW
 obtain⟨p,q,hA0,hV,rfl,hfz,hnd⟩:=hW
 obtain⟨rfl,rfl⟩:=trodVars_none hV
 have hA:DataW.TrodAll enc Tryz.prog W 0 (fun _=>true) true [34,37] args.toList ds p:=hA0
 have hw:∀n∈DataW.weightsEach Tryz.prog [34,37] ds,n<=reachBytes:=fun n hn=>by
   have:=List.all_eq_true.1 hwt n (by rw[aQ_]; exact hn)
   simpa using this
 obtain⟨v0,vs0,d0,ds0,p0,ρ0,H0,uO,a0,e0,rfl,hA0,hw0,r0,f0,u0,i0,rv0,q0,w0⟩:=amG hA hw aF8 aF7 (r:=.any) (base:=base) (fun v h=>hval 0 34 v rfl (ant h)) (aD.nil _ W aSq) rG.nil
 obtain⟨v1,vs1,d1,ds1,p1,ρ1,H1,wM,a1,e1,rfl,hA1,hw1,r1,f1,u1,i1,rv1,q1,w1⟩:=amG hA0 hw0 aF_ aF9 (r:=.any) (base:=base) (fun v h=>hval 1 37 v rfl (ant (by rw[e0]; exact h))) r0 f0
 obtain⟨en,rfl⟩:=aw8 hA1
 subst en
 obtain⟨aah,aBs,aBt,aBu,aBv,aBw,aBx,aBy,rfl,ae6,aBz,aBA,aBB,aBC,aBD,aBE,aBF⟩:=q0
 obtain⟨aBG,aBH,rfl,aBI,aBJ⟩:=q1
 have hargs:bn ρ1 [(.agg [aah.v,aBs.v,aBt.v,aBu.v,(.int .i64 a0.Source.Version),aBv.v,(.int .i64 a0.Cache.Age),(.int .i64 a0.Now),aBw.v,aBx.v,(.int .i64 a0.bI),aBy.v].toArray),(.agg [aBG.v,aBH.v].toArray)] args.toList:=by
   rw[e0,e1]
   exact (.cons _ _ _ _ (rv0.up u1) (.cons _ _ _ _ rv1 .nil))
 obtain⟨fuel,aIe⟩:=ar5 w0 w1
 refine ((arZ.h aIe) H1 [] (Ctx.dup (Ctx.dup (Ctx.dup (Ctx.dup (Ctx.dup (Ctx.dup (Ctx.dup (Ctx.dup (Ctx.dup (Ctx.dup (Ctx.start _) aBJ rfl) aBI rfl) (bz.up aBF i1) rfl) (bz.up aBE i1) rfl) (bz.up aBD i1) rfl) (bz.up aBC i1) rfl) (bz.up aBB i1) rfl) (bz.up aBA i1) rfl) (bz.up aBz i1) rfl) (bz.up ae6 i1) rfl) ρ1 W args r1 hargs).mono ?_
 rintro e w' ⟨v,r,ρ',H',rfl,h1,h2,h3,x,h5,-⟩
 have h6:r= .bool true:=h5
 subst h6
 refine⟨_,rfl,?_⟩
 rw[h1.bool_inv]
 refine aw4 hW' rfl laidOut (by kernel_rfl) rfl (by kernel_rfl) (fun d=>?_) (h3.below f1)
 by_cases hd:d=[d0,d1]
 · subst hd; exact .inl ⟨rfl,rfl,rfl⟩
 · exact .inr (by simpa using hd)
theorem named:Tryz.pinned.checked.prog.funcNamed Rows.fnExactAskQueryRow.func=some 3:=by kernel_rfl
set_option maxHeartbeats 10000000 in
theorem closed:joinedFacts Tryz.pinned.checked.prog 3 Tryz.f3 Rows.fnExactAskQuerySpec Rows.fnExactAskQueryRow=true:=by
 simp only[joinedFacts,age]
 repeat' refine And.intro ?_ ?_
 all_goals (as_aux_lemma=>kernel_rfl)
theorem over:Rows.fnExactAskQueryRow.holds Tryz.pinned (OpenSpec.ofChange Rows.fnExactAskQuerySpec):=
 OpenClaim.holds_of_wide 3 Tryz.f3 rfl rfl rfl rfl rfl rfl rfl ⟨rfl,rfl,rfl,rfl,rfl⟩ rfl rfl rfl rfl rfl named Tryz.func3 closed
   (of_decide_eq_true (by kernel_rfl)) (by unfold Func.isWrapper; first|(rw[if_pos (by decide+kernel)]; kernel_rfl)|(rw[if_neg (by decide+kernel)]; exact⟨rfl,rfl⟩))
   (fun os started H enc _=>lifted os started H enc)
theorem proved:Rows.FnExactAskQuerySaid:=over
end Go.Proofs.YtlnefhbbbikmgabGreat.fnExactAskQuery
