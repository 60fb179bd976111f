/-
  FnExactPlanLine: the plain law and the row: for all arguments.
-/
import Derived.Test.YtdmapdjncfkhhaaGreatDoorPlanLineG3
import Derived.Test.YtdmapdjncfkhhaaGreatDoorFc
import Derived.Test.YtdmapdjncfkhhaaGreatDoorRows
import Derived.Test.YtdmapdjncfkhhaaGreatDoorTie
import Derived.Test.YtdmapdjncfkhhaaGreatDoorCards
import Derived.LaidMore
import Derived.OpenShut
import Derived.Stop.Joined
import Derived.Stop.LaidErr
import Derived.SevenTiedAt
import Derived.Lib.LaidTab
import Derived.WalkKit
import Derived.KernelRfl
/-
 Plain laws of the helpers. Written by a program.
-/
set_option maxRecDepth 100000
set_option maxHeartbeats 4000000
set_option linter.unusedVariables false
namespace Go.Proofs.YtdmapdjncfkhhaaGreatDoor
open Go Go.Fw
def jo(a:Fact):Prop:=(df lK) a.Values
def EO(a:Access):Prop:=(df lK) a.Values
theorem y8:Sz tH (fun a:List Int=>a.length) (iZ kr):=anm (fun _ _=>rfl)
def IX(a:Method):Nat:=a.Inputs.length
theorem ama:Sz L8 IX Uo:=by
 intro a ⟨ae_,amO,aw',ax0,axa⟩ left hl hm
 unfold L8
 have ht:IX a=a.Inputs.length:=rfl
 obtain⟨n1,e1,h1⟩:=y8 a.Inputs amO _ hl hm
 rw[e1,Option.bind_some]
 try dsimp only at h1
 rcases h1 with⟨rfl,p1⟩|p1
 rotate_left
 · rw[if_pos (by simpa using p1)]; exact⟨-1,rfl,.inr (by omega)⟩
 rw[if_neg (by simp only[decide_eq_true_eq]; omega)]
 exact⟨_,rfl,.inl ⟨by rw[ht]<;>omega,p1⟩⟩
theorem alH:Sz RY (jh IX) (iZ Uo):=BR ama (fun _ _=>rfl) (fun _ _ _ _=>rfl) (fun _ _=>rfl)
def Jl(a:dG):Nat:=a.Map.length
theorem anI:Sz Na Jl Uq:=by
 intro a ⟨ax1,aDS,ata⟩ left hl hm
 unfold Na
 have ht:Jl a=a.Map.length:=rfl
 obtain⟨n1,e1,h1⟩:=y8 a.Map ata _ hl hm
 rw[e1,Option.bind_some]
 try dsimp only at h1
 rcases h1 with⟨rfl,p1⟩|p1
 rotate_left
 · rw[if_pos (by simpa using p1)]; exact⟨-1,rfl,.inr (by omega)⟩
 rw[if_neg (by simp only[decide_eq_true_eq]; omega)]
 exact⟨_,rfl,.inl ⟨by rw[ht]<;>omega,p1⟩⟩
theorem amP:Sz SB (jh Jl) (iZ Uq):=BR anI (fun _ _=>rfl) (fun _ _ _ _=>rfl) (fun _ _=>rfl)
def BX(a:Fact):Nat:=a.Values.length
theorem anJ:Sz Nb BX N8:=by
 intro a ⟨ae_,Xl⟩ left hl hm
 unfold Nb
 have ht:BX a=a.Values.length:=rfl
 obtain⟨n1,e1,h1⟩:=y8 a.Values Xl _ hl hm
 rw[e1,Option.bind_some]
 try dsimp only at h1
 rcases h1 with⟨rfl,p1⟩|p1
 rotate_left
 · rw[if_pos (by simpa using p1)]; exact⟨-1,rfl,.inr (by omega)⟩
 rw[if_neg (by simp only[decide_eq_true_eq]; omega)]
 exact⟨_,rfl,.inl ⟨by rw[ht]<;>omega,p1⟩⟩
theorem ac2:Sz MK (jh BX) (iZ N8):=BR anJ (fun _ _=>rfl) (fun _ _ _ _=>rfl) (fun _ _=>rfl)
def MF(a:Source):Nat:=(jh BX) a.Facts
theorem amb:Sz L9 MF YE:=by
 intro a ⟨XD,awz⟩ left hl hm
 unfold L9
 have ht:MF a=(jh BX) a.Facts:=rfl
 obtain⟨n1,e1,h1⟩:=ac2 a.Facts XD _ hl hm
 rw[e1,Option.bind_some]
 try dsimp only at h1
 rcases h1 with⟨rfl,p1⟩|p1
 rotate_left
 · rw[if_pos (by simpa using p1)]; exact⟨-1,rfl,.inr (by omega)⟩
 rw[if_neg (by simp only[decide_eq_true_eq]; omega)]
 exact⟨_,rfl,.inl ⟨by rw[ht]<;>omega,p1⟩⟩
def BN(a:Access):Nat:=a.Values.length
theorem acx:Sz IJ BN N9:=by
 intro a ⟨awG,Xl⟩ left hl hm
 unfold IJ
 have ht:BN a=a.Values.length:=rfl
 obtain⟨n1,e1,h1⟩:=y8 a.Values Xl _ hl hm
 rw[e1,Option.bind_some]
 try dsimp only at h1
 rcases h1 with⟨rfl,p1⟩|p1
 rotate_left
 · rw[if_pos (by simpa using p1)]; exact⟨-1,rfl,.inr (by omega)⟩
 rw[if_neg (by simp only[decide_eq_true_eq]; omega)]
 exact⟨_,rfl,.inl ⟨by rw[ht]<;>omega,p1⟩⟩
def BO(a:eH):Nat:=BN a.Access+(jh BX) a.Facts
theorem amc:Sz L_ BO TW:=by
 intro a ⟨amQ,XD,aDT⟩ left hl hm
 unfold L_
 have ht:BO a=BN a.Access+(jh BX) a.Facts:=rfl
 obtain⟨n1,e1,h1⟩:=acx a.Access amQ _ hl hm
 rw[e1,Option.bind_some]
 try dsimp only at h1
 rcases h1 with⟨rfl,p1⟩|p1
 rotate_left
 · rw[if_pos (by simpa using p1)]; exact⟨-1,rfl,.inr (by omega)⟩
 rw[if_neg (by simp only[decide_eq_true_eq]; omega)]
 obtain⟨n2,e2,h2⟩:=ac2 a.Facts XD _ p1 (by omega)
 rw[e2,Option.bind_some]
 try dsimp only at h2
 rcases h2 with⟨rfl,p2⟩|p2
 rotate_left
 · rw[if_pos (by simpa using p2)]; exact⟨-1,rfl,.inr (by omega)⟩
 rw[if_neg (by simp only[decide_eq_true_eq]; omega)]
 exact⟨_,rfl,.inl ⟨by rw[ht]<;>omega,p2⟩⟩
theorem alI:Sz RZ (jh BO) (iZ TW):=BR amc (fun _ _=>rfl) (fun _ _ _ _=>rfl) (fun _ _=>rfl)
def M5(a:Cache):Nat:=(jh BO) a.Entries
theorem amR:Sz ML M5 YF:=by
 intro a ⟨amd,aAk⟩ left hl hm
 unfold ML
 have ht:M5 a=(jh BO) a.Entries:=rfl
 obtain⟨n1,e1,h1⟩:=alI a.Entries amd _ hl hm
 rw[e1,Option.bind_some]
 try dsimp only at h1
 rcases h1 with⟨rfl,p1⟩|p1
 rotate_left
 · rw[if_pos (by simpa using p1)]; exact⟨-1,rfl,.inr (by omega)⟩
 rw[if_neg (by simp only[decide_eq_true_eq]; omega)]
 exact⟨_,rfl,.inl ⟨by rw[ht]<;>omega,p1⟩⟩
theorem alJ:Sz R3 (jh BN) (iZ N9):=BR acx (fun _ _=>rfl) (fun _ _ _ _=>rfl) (fun _ _=>rfl)
theorem amS:Sz SC (jh (fun a:List Int=>a.length)) (iZ (iZ kr)):=BR y8 (fun _ _=>rfl) (fun _ _ _ _=>rfl) (fun _ _=>rfl)
theorem ame:Sz Sg (jh (jh (fun a:List Int=>a.length))) (iZ (iZ (iZ kr))):=BR amS (fun _ _=>rfl) (fun _ _ _ _=>rfl) (fun _ _=>rfl)
def RS(a:gV):Nat:=a.Schema.length+(jh IX) a.Methods+(jh Jl) a.Rules+MF a.Source+M5 a.Cache+(jh BN) a.Log+a.Times.length+(jh (jh (fun a:List Int=>a.length))) a.Results
theorem alb:Sz Ll RS YG:=by
 intro a ⟨amT,amf,anK,amU,anL,aAl,atb,anM,axb,amg⟩ left hl hm
 unfold Ll
 have ht:RS a=a.Schema.length+(jh IX) a.Methods+(jh Jl) a.Rules+MF a.Source+M5 a.Cache+(jh BN) a.Log+a.Times.length+(jh (jh (fun a:List Int=>a.length))) a.Results:=rfl
 obtain⟨n1,e1,h1⟩:=y8 a.Schema amT _ hl hm
 rw[e1,Option.bind_some]
 try dsimp only at h1
 rcases h1 with⟨rfl,p1⟩|p1
 rotate_left
 · rw[if_pos (by simpa using p1)]; exact⟨-1,rfl,.inr (by omega)⟩
 rw[if_neg (by simp only[decide_eq_true_eq]; omega)]
 obtain⟨n2,e2,h2⟩:=alH a.Methods amf _ p1 (by omega)
 rw[e2,Option.bind_some]
 try dsimp only at h2
 rcases h2 with⟨rfl,p2⟩|p2
 rotate_left
 · rw[if_pos (by simpa using p2)]; exact⟨-1,rfl,.inr (by omega)⟩
 rw[if_neg (by simp only[decide_eq_true_eq]; omega)]
 obtain⟨n3,e3,h3⟩:=amP a.Rules anK _ p2 (by omega)
 rw[e3,Option.bind_some]
 try dsimp only at h3
 rcases h3 with⟨rfl,p3⟩|p3
 rotate_left
 · rw[if_pos (by simpa using p3)]; exact⟨-1,rfl,.inr (by omega)⟩
 rw[if_neg (by simp only[decide_eq_true_eq]; omega)]
 obtain⟨n4,e4,h4⟩:=amb a.Source amU _ p3 (by omega)
 rw[e4,Option.bind_some]
 try dsimp only at h4
 rcases h4 with⟨rfl,p4⟩|p4
 rotate_left
 · rw[if_pos (by simpa using p4)]; exact⟨-1,rfl,.inr (by omega)⟩
 rw[if_neg (by simp only[decide_eq_true_eq]; omega)]
 obtain⟨n5,e5,h5⟩:=amR a.Cache anL _ p4 (by omega)
 rw[e5,Option.bind_some]
 try dsimp only at h5
 rcases h5 with⟨rfl,p5⟩|p5
 rotate_left
 · rw[if_pos (by simpa using p5)]; exact⟨-1,rfl,.inr (by omega)⟩
 rw[if_neg (by simp only[decide_eq_true_eq]; omega)]
 obtain⟨n6,e6,h6⟩:=alJ a.Log atb _ p5 (by omega)
 rw[e6,Option.bind_some]
 try dsimp only at h6
 rcases h6 with⟨rfl,p6⟩|p6
 rotate_left
 · rw[if_pos (by simpa using p6)]; exact⟨-1,rfl,.inr (by omega)⟩
 rw[if_neg (by simp only[decide_eq_true_eq]; omega)]
 obtain⟨n7,e7,h7⟩:=y8 a.Times anM _ p6 (by omega)
 rw[e7,Option.bind_some]
 try dsimp only at h7
 rcases h7 with⟨rfl,p7⟩|p7
 rotate_left
 · rw[if_pos (by simpa using p7)]; exact⟨-1,rfl,.inr (by omega)⟩
 rw[if_neg (by simp only[decide_eq_true_eq]; omega)]
 obtain⟨n8,e8,h8⟩:=ame a.Results amg _ p7 (by omega)
 rw[e8,Option.bind_some]
 try dsimp only at h8
 rcases h8 with⟨rfl,p8⟩|p8
 rotate_left
 · rw[if_pos (by simpa using p8)]; exact⟨-1,rfl,.inr (by omega)⟩
 rw[if_neg (by simp only[decide_eq_true_eq]; omega)]
 exact⟨_,rfl,.inl ⟨by rw[ht]<;>omega,p8⟩⟩
def BZ(a:Atom):Nat:=a.Terms.length
theorem anN:Sz Nc BZ TZ:=by
 intro a ⟨ae_,anO⟩ left hl hm
 unfold Nc
 have ht:BZ a=a.Terms.length:=rfl
 obtain⟨n1,e1,h1⟩:=y8 a.Terms anO _ hl hm
 rw[e1,Option.bind_some]
 try dsimp only at h1
 rcases h1 with⟨rfl,p1⟩|p1
 rotate_left
 · rw[if_pos (by simpa using p1)]; exact⟨-1,rfl,.inr (by omega)⟩
 rw[if_neg (by simp only[decide_eq_true_eq]; omega)]
 exact⟨_,rfl,.inl ⟨by rw[ht]<;>omega,p1⟩⟩
theorem amV:Sz SE (jh BZ) (iZ TZ):=BR anN (fun _ _=>rfl) (fun _ _ _ _=>rfl) (fun _ _=>rfl)
def M6(a:Query):Nat:=a.Head.length+(jh BZ) a.Atoms
theorem amW:Sz MM M6 YH:=by
 intro a ⟨ao6,anP⟩ left hl hm
 unfold MM
 have ht:M6 a=a.Head.length+(jh BZ) a.Atoms:=rfl
 obtain⟨n1,e1,h1⟩:=y8 a.Head ao6 _ hl hm
 rw[e1,Option.bind_some]
 try dsimp only at h1
 rcases h1 with⟨rfl,p1⟩|p1
 rotate_left
 · rw[if_pos (by simpa using p1)]; exact⟨-1,rfl,.inr (by omega)⟩
 rw[if_neg (by simp only[decide_eq_true_eq]; omega)]
 obtain⟨n2,e2,h2⟩:=amV a.Atoms anP _ p1 (by omega)
 rw[e2,Option.bind_some]
 try dsimp only at h2
 rcases h2 with⟨rfl,p2⟩|p2
 rotate_left
 · rw[if_pos (by simpa using p2)]; exact⟨-1,rfl,.inr (by omega)⟩
 rw[if_neg (by simp only[decide_eq_true_eq]; omega)]
 exact⟨_,rfl,.inl ⟨by rw[ht]<;>omega,p2⟩⟩
theorem uO:∀(a:List Int),(df lK) a->tJ a=some a:=
 yI (fun _=>rfl) (fun _ _=>rfl) (fun x r k c hx hk=>by
   rw[IA]
   simp[jT,hk])
def om(a:Method):Prop:=(df lK) a.Inputs
theorem wT(a:Method)(h:om a):Ma a=some a:=by
 have awx:(df lK) a.Inputs:=h
 simp (disch:=assumption) only[Ma,uO,Option.bind_some]
theorem yD:∀(a:List Method),(df om) a->R4 a=some a:=
 yI (fun _=>rfl) (fun _ _=>rfl) (fun x r k c hx hk=>by
   rw[Hy]
   rw[wT _ hx]
   simp[jT,hk])
def Tp(a:dG):Prop:=(df lK) a.Map
theorem y9(a:dG)(h:Tp a):Nf a=some a:=by
 have axc:(df lK) a.Map:=h
 simp (disch:=assumption) only[Nf,uO,Option.bind_some]
theorem B_:∀(a:List dG),(df Tp) a->SF a=some a:=
 yI (fun _=>rfl) (fun _ _=>rfl) (fun x r k c hx hk=>by
   rw[Ih]
   rw[y9 _ hx]
   simp[jT,hk])
theorem Cg(a:Fact)(h:jo a):Ng a=some a:=by
 have alK:(df lK) a.Values:=h
 simp (disch:=assumption) only[Ng,uO,Option.bind_some]
theorem EU:∀(a:List Fact),(df jo) a->MN a=some a:=
 yI (fun _=>rfl) (fun _ _=>rfl) (fun x r k c hx hk=>by
   rw[Ii]
   rw[Cg _ hx]
   simp[jT,hk])
def WZ(a:Source):Prop:=(df jo) a.Facts
theorem I7(a:Source)(h:WZ a):Mc a=some a:=by
 have amh:(df jo) a.Facts:=h
 simp (disch:=assumption) only[Mc,EU,Option.bind_some]
theorem I8(a:Access)(h:EO a):IL a=some a:=by
 have alK:(df lK) a.Values:=h
 simp (disch:=assumption) only[IL,uO,Option.bind_some]
def BQ(a:eH):Prop:=EO a.Access/\(df jo) a.Facts
theorem M7(a:eH)(h:BQ a):Md a=some a:=by
 have alL:EO a.Access:=h.1
 have awr:(df lK) a.Access.Values:=alL
 have amh:(df jo) a.Facts:=h.2
 simp (disch:=assumption) only[Md,I8,EU,Option.bind_some]
theorem Sq:∀(a:List eH),(df BQ) a->R5 a=some a:=
 yI (fun _=>rfl) (fun _ _=>rfl) (fun x r k c hx hk=>by
   rw[Hz]
   rw[M7 _ hx]
   simp[jT,hk])
def Nz(a:Cache):Prop:=(df BQ) a.Entries
theorem Xm(a:Cache)(h:Nz a):MO a=some a:=by
 have awu:(df BQ) a.Entries:=h
 simp (disch:=assumption) only[MO,Sq,Option.bind_some]
theorem WS:∀(a:List Access),(df EO) a->R6 a=some a:=
 yI (fun _=>rfl) (fun _ _=>rfl) (fun x r k c hx hk=>by
   rw[HV]
   rw[I8 _ hx]
   simp[jT,hk])
theorem S_:∀(a:List (List Int)),(df (df lK)) a->SG a=some a:=
 yI (fun _=>rfl) (fun _ _=>rfl) (fun x r k c hx hk=>by
   rw[Ij]
   rw[uO _ hx]
   simp[jT,hk])
theorem W9:∀(a:List (List (List Int))),(df (df (df lK))) a->Si a=some a:=
 yI (fun _=>rfl) (fun _ _=>rfl) (fun x r k c hx hk=>by
   rw[Ib]
   rw[S_ _ hx]
   simp[jT,hk])
def ED(a:gV):Prop:=(df lK) a.Schema/\(df om) a.Methods/\(df Tp) a.Rules/\WZ a.Source/\Nz a.Cache/\(df EO) a.Log/\(df lK) a.Times/\(df (df (df lK))) a.Results
theorem WG(a:gV)(h:ED a):El a=some a:=by
 have awy:(df lK) a.Schema:=h.1
 have awv:(df om) a.Methods:=h.2.1
 have awC:(df Tp) a.Rules:=h.2.2.1
 have alM:WZ a.Source:=h.2.2.2.1
 have awt:(df jo) a.Source.Facts:=alM
 have ami:Nz a.Cache:=h.2.2.2.2.1
 have aws:(df BQ) a.Cache.Entries:=ami
 have axd:(df EO) a.Log:=h.2.2.2.2.2.1
 have awD:(df lK) a.Times:=h.2.2.2.2.2.2.1
 have aww:(df (df (df lK))) a.Results:=h.2.2.2.2.2.2.2
 simp (disch:=assumption) only[El,WS,Xm,uO,W9,yD,B_,I7,Option.bind_some]
def Tq(a:Atom):Prop:=(df lK) a.Terms
theorem adE(a:Atom)(h:Tq a):Nh a=some a:=by
 have awE:(df lK) a.Terms:=h
 simp (disch:=assumption) only[Nh,uO,Option.bind_some]
theorem amX:∀(a:List Atom),(df Tq) a->SH a=some a:=
 yI (fun _=>rfl) (fun _ _=>rfl) (fun x r k c hx hk=>by
   rw[Ik]
   rw[adE _ hx]
   simp[jT,hk])
def ac3(a:Query):Prop:=(df lK) a.Head/\(df Tq) a.Atoms
theorem amY(a:Query)(h:ac3 a):EK a=some a:=by
 have awH:(df lK) a.Head:=h.1
 have awF:(df Tq) a.Atoms:=h.2
 simp (disch:=assumption) only[EK,amX,uO,Option.bind_some]
theorem uP:∀(a:List Int),tK a a=some true:=
 yJ (fun _ _=>rfl) (fun _ _=>rfl) (fun b x r k h=>by
   rw[IG,je,h]
   simp)
theorem wU(a:Method):MB a a=some true:=by simp[MB,uP]
theorem yE:∀(a:List Method),R9 a a=some true:=
 yJ (fun _ _=>rfl) (fun _ _=>rfl) (fun b x r k h=>by
   rw[HZ,je,h]
   simp[wU])
theorem y_(a:dG):Nv a a=some true:=by simp[Nv,uP]
theorem Cb:∀(a:List dG),SK a a=some true:=
 yJ (fun _ _=>rfl) (fun _ _=>rfl) (fun b x r k h=>by
   rw[Iq,je,h]
   simp[y_])
theorem Ch(a:Fact):Nw a a=some true:=by simp[Nw,uP]
theorem EW:∀(a:List Fact),M0 a a=some true:=
 yJ (fun _ _=>rfl) (fun _ _=>rfl) (fun b x r k h=>by
   rw[Ir,je,h]
   simp[Ch])
theorem I9(a:Source):MC a a=some true:=by simp[MC,EW]
theorem I_(a:Access):IW a a=some true:=by simp[IW,uP]
theorem M8(a:eH):ME a a=some true:=by simp[ME,I_,EW]
theorem Sr:∀(a:List eH),R_ a a=some true:=
 yJ (fun _ _=>rfl) (fun _ _=>rfl) (fun b x r k h=>by
   rw[H_,je,h]
   simp[M8])
theorem Xn(a:Cache):M3 a a=some true:=by simp[M3,Sr]
theorem WT:∀(a:List Access),Sa a a=some true:=
 yJ (fun _ _=>rfl) (fun _ _=>rfl) (fun b x r k h=>by
   rw[Ia,je,h]
   simp[I_])
theorem Ta:∀(a:List (List Int)),SN a a=some true:=
 yJ (fun _ _=>rfl) (fun _ _=>rfl) (fun b x r k h=>by
   rw[Iu,je,h]
   simp[uP])
theorem W_:∀(a:List (List (List Int))),Sn a a=some true:=
 yJ (fun _ _=>rfl) (fun _ _=>rfl) (fun b x r k h=>by
   rw[Ig,je,h]
   simp[Ta])
theorem WH(a:gV):LD a a=some true:=by simp[LD,WT,Xn,uP,W_,yE,Cb,I9]
theorem adF(a:Atom):Ny a a=some true:=by simp[Ny,uP]
theorem amZ:∀(a:List Atom),SQ a a=some true:=
 yJ (fun _ _=>rfl) (fun _ _=>rfl) (fun b x r k h=>by
   rw[Iw,je,h]
   simp[adF])
theorem am0(a:Query):M4 a a=some true:=by simp[M4,amZ,uP]
end Go.Proofs.YtdmapdjncfkhhaaGreatDoor
/-
 Plain laws.
-/
set_option maxRecDepth 100000
set_option linter.unusedVariables false
namespace Go.Proofs.YtdmapdjncfkhhaaGreatDoor
open Go Go.Fw
theorem alc(a b:List Int):SY a b=some (vW (fun x y=>x==y) a b):=
 adr (L:=Ex) (f:=fun x y=>some (x==y)) (fun _ _=>rfl) (fun _ _=>rfl) (fun b x r k y h=>by rw[Ex,je,h]; rfl) a b (fun _ _ _ _=>rfl)
theorem ahz(a b:List Int):Rn a b=some (vW (fun x y=>x==y) a b):=
 adr (L:=DD) (f:=fun x y=>some (x==y)) (fun _ _=>rfl) (fun _ _=>rfl) (fun b x r k y h=>by rw[DD,je,h]; rfl) a b (fun _ _ _ _=>rfl)
def E8:List Int->List Int->Bool:=vW (fun x y=>x==y)
theorem VN(x y:Int):DJ x y=some (jR x y):=by
 simp only[DJ,Bl,Option.bind_some,jR,bne_self_eq_false,Bool.false_eq_true,if_false,decide_eq_true_eq]
 split
 · rfl
 · split<;>rfl
theorem aan(s1 b:List Int):∀(l:List Int)(k:Nat),s1.drop k=l->k<=s1.length->AV s1 b l k=some (cmpL l (b.drop k))
 |[],k,hd,hk=>by
   have h1:s1.length<=k:=List.drop_eq_nil_iff.1 hd
   rw[AV]
   cases hb:b.drop k with
   |nil=>
     have h2:b.length<=k:=List.drop_eq_nil_iff.1 hb
     rw[if_neg (by simp; omega)]; rfl
   |cons y t=>
     have h2:k<b.length:=(bN hb).1
     rw[if_pos (by simp; omega)]; rfl
 |x::r,k,hd,hk=>by
   have h1:k<s1.length:=(bN hd).1
   rw[AV]
   cases hb:b.drop k with
   |nil=>
     have h2:b.length<=k:=List.drop_eq_nil_iff.1 hb
     rw[if_pos (by simp; omega)]; rfl
   |cons y t=>
     have h2:k<b.length:=(bN hb).1
     obtain⟨e1,e2⟩:=M9 hb
     rw[if_neg (by simp; omega),je,e1,Option.bind_some,VN,Option.bind_some,cmpL]
     split
     · rfl
     · rw[aan s1 b r (k+1) (M9 hd).2 h1,e2]
theorem aap(a b:List Int):Hr a b=some (cmpL a b):=by
 have:=aan a b a 0 rfl (by omega)
 simpa[Hr]using this
theorem abA(x y:Int):Ip [x,y]=some (if x !=0 then x else y):=by
 simp only[Ip,Hw]
 split
 · rfl
 · split
   · rfl
   · rename_i h; simp at h; rw[h]
def jB(a b:Fact):Int:=if jR a.Rel b.Rel !=0 then jR a.Rel b.Rel else cmpL a.Values b.Values
theorem VT(a b:Fact):D_ a b=some (jB a b):=by
 simp only[D_,VN,aap,Option.bind_some,abA,jB]
theorem aaq(a b:Fact)(ha:a.Values.length<4294967296):∀(m k:Nat),k<=a.Values.length->k<=b.Values.length->a.Values.length<k+m->Bc a b m k=some (cmpL (a.Values.drop k) (b.Values.drop k))
 |0,k,h1,_,h2=>by omega
 |m+1,k,h1,h1',h2=>by
   rw[Bc]
   by_cases h:k<a.Values.length/\k<b.Values.length
   · rw[if_pos (by simp[h.1,h.2])]
     simp only[je,List.getElem?_eq_getElem h.1,List.getElem?_eq_getElem h.2,Option.bind_some]
     rw[List.drop_eq_getElem_cons h.1,List.drop_eq_getElem_cons h.2,cmpL,jR]
     by_cases e1:a.Values[k]<b.Values[k]
     · simp[e1]
     · rw[if_neg (by simpa using e1)]
       by_cases e2:b.Values[k]<a.Values[k]
       · simp[e1,e2]
       · rw[if_neg (by simpa using e2),if_neg e1,if_neg e2,show ((k:Int)+1)=((k+1:Nat):Int)from rfl,SV (by omega),aaq a b ha m (k+1) h.1 h.2 (by omega)]
         simp
   · rw[if_neg (by simp only[Bool.and_eq_true,decide_eq_true_eq]; omega)]
     by_cases h3:k<b.Values.length
     · have:k=a.Values.length:=by omega
       subst this
       rw[if_pos (by simp; omega),List.drop_of_length_le (Nat.le_refl _),List.drop_eq_getElem_cons h3]; rfl
     · rw[List.drop_of_length_le (show b.Values.length<=k by omega),if_neg (by simp; omega)]
       by_cases h4:k<a.Values.length
       · rw[if_pos (by simp; omega),List.drop_eq_getElem_cons h4]; rfl
       · rw[if_neg (by simp; omega),List.drop_of_length_le (by omega)]; rfl
theorem VU(a b:Fact)(ha:a.Values.length<4294967296):D6 a b=some (jB a b):=by
 unfold D6 jB jR
 by_cases h:a.Rel=b.Rel
 · rw[if_neg (by simp[h])]
   have:=aaq a b ha (((a.Values.length:Int)-0).toNat+2) 0 (by omega) (by omega) (by omega)
   rw[show Bc a b (((a.Values.length:Int)-0).toNat+2) 0=_ from this]
   simp[h]
 · rw[if_pos (by simpa using h)]
   by_cases h2:a.Rel<b.Rel
   · simp[h2]
   · have:b.Rel<a.Rel:=by omega
     simp[h2,this]
theorem KI(a:List Int)(h:a.length<4294967296):x_ a=some a:=by simp[x_,mW h]
def xP(n:Int):Bool:=decide (1<=n)&&decide (n<=3)
def jC(s:List Int):Bool:=xP (s.length:Int)&&s.all xP
theorem yt(s:List Int):rX s=some (jC s):=by
 unfold rX
 rw[yK (L:=Ef s) (f:=fun n=>iG n 1 3) (p:=xP) (e:=xP (s.length:Int)) (fun k=>by simp[Ef,iG,xP]) (fun x r k=>rfl) s 0 (fun x _=>rfl),jC,Bool.and_comm]
theorem ahg(l:List Int):Kz l=some (l.any fun x=>!xP x):=by
 unfold Kz Re
 rw[nC (L:=Hf) (f:=fun x=>RN x) (p:=fun x=>!xP x) (fun k=>rfl) (fun x r k=>rfl) l 0 (fun x hx=>rfl),Option.bind_some,oZ]
theorem Lg(s:List Int):yC s=some (jC s):=by
 unfold yC
 rw[ahg]
 simp only[kL,Option.bind_some,jC,xP]
 cases hh:(decide (1<=(s.length:Int))&&decide ((s.length:Int)<=3))
 · simp
 · simp[List.all_eq_not_any_not,xP]
theorem WI{s:List Int}(h:jC s=true):s.length<=3/\ ∀x∈s,1<=x/\x<=3:=by
 simp[jC,xP]at h
 exact⟨by omega,h.2⟩
theorem kz(x lo hi:Int):iG x lo hi=some (aT lo hi x):=rfl
theorem qj(x lo hi:Int):kL x lo hi=some (aT lo hi x):=rfl
def iY(s:List Int)(rel:Int):Bool:=jC s&&aT 0 ((s.length:Int)-1) rel
theorem Sb(s:List Int)(rel:Int)(hs:s.length<4294967296):yL s rel=some (iY s rel):=by
 simp only[yL,Lg,qj,Option.bind_some,iY]
 rw[fU (by omega) (by omega)]
 cases jC s<;>rfl
theorem alN{s:List Int}{rel:Int}(h:iY s rel=true):∃x,ix s rel=some x/\1<=x/\x<=3:=by
 simp only[iY,Bool.and_eq_true]at h
 obtain⟨x,h1,h2⟩:=TD h.2
 exact⟨x,h1,(WI h.1).2 x (List.mem_of_getElem? h2)⟩
def j_(s:List Int)(rel:Int):Int:=(ix s rel).getD 0
theorem tT{s:List Int}{rel:Int}(h:iY s rel=true):ix s rel=some (j_ s rel)/\1<=j_ s rel/\j_ s rel<=3:=by
 obtain⟨x,h1,h2⟩:=alN h
 unfold j_
 rw[h1]; exact⟨rfl,h2⟩
def uQ(s:List Int)(m:Method):Bool:=iY s m.Rel&&(aT 0 9 m.Limit&&(aT 0 99 m.Cost&&(aT 1 99 m.Quota&&(iL (fun _=>true) (fun y x=>decide (x<=y)) none m.Inputs&&m.Inputs.all (aT 0 (j_ s m.Rel-1))))))
theorem ajM(s:List Int)(m:Method)(hs:s.length<4294967296)(hm:m.Inputs.length<4294967296):IM s m=some (uQ s m):=by
 simp only[IM,yt,kz,Option.bind_some]
 rw[fU (by omega) (by omega)]
 have hL:iY s m.Rel=true->yl s m m.Inputs 0=some (iL (aT 0 (j_ s m.Rel-1)) (fun y x=>decide (x<=y)) none m.Inputs):=fun h=>by
   obtain⟨e1,e2,e3⟩:=tT h
   have:=ES (L:=yl s m) (P:=fun _=>True) (p:=aT 0 (j_ s m.Rel-1)) (q:=fun y x=>decide (x<=y)) (e:=true) m.Inputs (fun _ _=>trivial) hm (fun _=>rfl) (fun x r _=>by
     rw[yl]
     simp only[e1,Option.bind_some,kz,Jc]
     rw[fU (by omega) (by omega)]
     cases aT 0 (j_ s m.Rel-1) x<;>rfl) (fun x r k y _ _ hy hk=>by
     rw[yl]
     simp only[e1,Option.bind_some,kz,BS,EZ _ k hk,hy]
     rw[fU (by omega) (by omega)]
     cases aT 0 (j_ s m.Rel-1) x<;>cases decide (x<=y)<;>rfl)
   simpa using this
 unfold uQ
 cases hh:iY s m.Rel
 · simp only[iY]at hh
   cases h1:jC s
   · rfl
   · rw[h1,Bool.true_and]at hh
     simp[hh]
 · rw[hL hh,M_]
   simp only[iY,Bool.and_eq_true]at hh
   rw[hh.1,hh.2]
   cases aT 0 9 m.Limit
   · rfl
   cases aT 0 99 m.Cost
   · rfl
   cases aT 1 99 m.Quota<;>rfl
theorem ai8(l:List Int)(hl:l.length<4294967296):LP l=some (iL (fun _=>true) (fun y x=>decide (x<=y)) none l):=by
 have:=ES (L:=D9 l) (P:=fun _=>True) (p:=fun _=>true) (q:=fun y x=>decide (x<=y)) (e:=true) l (fun _ _=>trivial) hl (fun _=>rfl) (fun x r _=>rfl) (fun x r k y _ _ hy hk=>by
     rw[D9]
     simp only[Option.bind_some,BS,EZ _ k hk,hy,cond_true]
     cases decide (x<=y)<;>rfl)
 simpa[LP]using this
theorem ag'(l:List Int)(a1:Int)(h1:-1000<=a1/\a1<=1000):Kw l a1=some (l.any fun x=>!aT 0 (a1-1) x):=by
 unfold Kw Ra
 rw[nC (L:=Hd a1) (f:=fun x=>KQ x a1) (p:=fun x=>!aT 0 (a1-1) x) (fun k=>rfl) (fun x r k=>rfl) l 0 (fun x hx=>by rw[KQ,qj,fU (by omega) (by omega)]; rfl),Option.bind_some,oZ]
theorem ald(n:Int):S9 n=some (aT 0 99 n):=rfl
theorem ajN(s:List Int)(m:Method)(hs:s.length<4294967296)(hm:m.Inputs.length<4294967296):Mm s m=some (uQ s m):=by
 simp only[Mm,Sb _ _ hs,Option.bind_some,uQ]
 cases hh:iY s m.Rel
 · rfl
 obtain⟨e1,e2,e3⟩:=tT hh
 simp only[e1,Option.bind_some,RD,ai8 _ hm,ag' _ _ (show -1000<=j_ s m.Rel/\j_ s m.Rel<=1000 by omega),qj,ald,cond_true,Bool.true_and]
 have e4:(m.Inputs.any fun x=>!aT 0 (j_ s m.Rel-1) x)=!(m.Inputs.all (aT 0 (j_ s m.Rel-1))):=by simp[List.all_eq_not_any_not]
 rw[e4]
 cases iL (fun _=>true) (fun y x=>decide (x<=y)) none m.Inputs<;>cases m.Inputs.all (aT 0 (j_ s m.Rel-1))<;>cases aT 0 9 m.Limit<;>cases aT 0 99 m.Cost<;>cases aT 1 99 m.Quota<;>rfl
def kW(s:List Int)(l:List Method):Bool:=jC s&&(decide ((l.length:Int)<=5)&&l.all (uQ s))
theorem Rx(s:List Int)(l:List Method)(hs:s.length<4294967296)(hl:df om l):Bz s l=some (kW s l):=by
 unfold Bz
 rw[yK (L:=DX s l) (f:=fun m=>IM s m) (p:=uQ s) (e:=jC s&&decide ((l.length:Int)<=5)) (fun k=>by
   rw[DX,yt]
   cases jC s<;>rfl) (fun x r k=>rfl) l 0 (fun x hx=>ajM s x hs (hl.2 x hx).1),kW]
 cases jC s<;>cases decide ((l.length:Int)<=5)<;>cases l.all (uQ s)<;>rfl
theorem agP(l:List Method)(s:List Int)(hs:s.length<4294967296)(hl:df om l):Ko l s=some (l.any fun x=>!uQ s x):=by
 unfold Ko Q0
 rw[nC (L:=GZ s) (f:=fun x=>KW x s) (p:=fun x=>!uQ s x) (fun k=>rfl) (fun x r k=>rfl) l 0 (fun x hx=>by rw[KW,ajN s x hs (hl.2 x hx).1]; rfl),Option.bind_some,oZ]
theorem Ry(s:List Int)(l:List Method)(hs:s.length<4294967296)(hl:df om l):BF s l=some (kW s l):=by
 simp only[BF,Lg,Option.bind_some,agP l s hs hl,kW,List.all_eq_not_any_not]
 cases jC s<;>cases decide ((l.length:Int)<=5)<;>rfl
def zQ(s:List Int)(r:dG):Bool:=iY s r.From&&(iY s r.To&&(((r.Map.length:Int)==j_ s r.To)&&r.Map.all (aT 0 (j_ s r.From-1))))
theorem ale(s:List Int)(r:dG)(hs:s.length<4294967296):Jd s r=some (zQ s r):=by
 simp only[Jd,yt,kz,Option.bind_some]
 rw[fU (by omega) (by omega)]
 have hL:iY s r.From=true->BI s r r.Map 0=some (r.Map.all (aT 0 (j_ s r.From-1))):=fun h=>by
   obtain⟨e1,e2,e3⟩:=tT h
   have:=yK (L:=BI s r) (f:=fun x=>some (aT 0 (j_ s r.From-1) x)) (p:=aT 0 (j_ s r.From-1)) (e:=true) (fun _=>rfl) (fun x r' k=>by
     rw[BI]
     simp only[e1,Option.bind_some,kz]
     rw[fU (by omega) (by omega)]) r.Map 0 (fun _ _=>rfl)
   simpa using this
 unfold zQ
 cases hF:iY s r.From
 · simp only[iY]at hF
   cases h1:jC s
   · rfl
   · rw[h1,Bool.true_and]at hF
     simp[hF]
 · cases hT:iY s r.To
   · simp only[iY]at hT hF
     simp only[Bool.and_eq_true]at hF
     rw[hF.1,Bool.true_and]at hT
     simp[hF,hT]
   · obtain⟨e1,-⟩:=tT hT
     rw[hL hF,e1]
     simp only[iY,Bool.and_eq_true]at hF hT
     simp only[hF,hT,Bool.not_true,cond_false,Option.bind_some,bne]
     cases ((r.Map.length:Int)==j_ s r.To)<;>rfl
theorem ag8(l:List Int)(a1:Int)(h1:-1000<=a1/\a1<=1000):Kv l a1=some (l.any fun x=>!aT 0 (a1-1) x):=by
 unfold Kv Q9
 rw[nC (L:=Ha a1) (f:=fun x=>KP x a1) (p:=fun x=>!aT 0 (a1-1) x) (fun k=>rfl) (fun x r k=>rfl) l 0 (fun x hx=>by rw[KP,qj,fU (by omega) (by omega)]; rfl),Option.bind_some,oZ]
theorem alf(s:List Int)(r:dG)(hs:s.length<4294967296):Nq s r=some (zQ s r):=by
 simp only[Nq,Sb _ _ hs,Option.bind_some,zQ]
 cases hF:iY s r.From
 · rfl
 cases hT:iY s r.To
 · rfl
 obtain⟨e1,e2,e3⟩:=tT hF
 obtain⟨e4,-⟩:=tT hT
 simp only[e1,e4,Option.bind_some,RB,ag8 _ _ (show -1000<=j_ s r.From/\j_ s r.From<=1000 by omega),cond_true,Bool.true_and,List.all_eq_not_any_not]
 cases ((r.Map.length:Int)==j_ s r.To)<;>rfl
def Fp(s:List Int)(l:List dG):Bool:=jC s&&(decide ((l.length:Int)<=4)&&l.all (zQ s))
theorem ajO(s:List Int)(l:List dG)(hs:s.length<4294967296):Me s l=some (Fp s l):=by
 unfold Me
 rw[yK (L:=Eg s l) (f:=fun m=>Jd s m) (p:=zQ s) (e:=jC s&&decide ((l.length:Int)<=4)) (fun k=>by
   rw[Eg,yt]
   cases jC s<;>rfl) (fun x r k=>rfl) l 0 (fun x hx=>ale s x hs),Fp]
 cases jC s<;>cases decide ((l.length:Int)<=4)<;>cases l.all (zQ s)<;>rfl
theorem agU(l:List dG)(s:List Int)(hs:s.length<4294967296):Kr l s=some (l.any fun x=>!zQ s x):=by
 unfold Kr Q4
 rw[nC (L:=G6 s) (f:=fun x=>Lt x s) (p:=fun x=>!zQ s x) (fun k=>rfl) (fun x r k=>rfl) l 0 (fun x hx=>by rw[Lt,alf s x hs]; rfl),Option.bind_some,oZ]
theorem ajP(s:List Int)(l:List dG)(hs:s.length<4294967296):Mo s l=some (Fp s l):=by
 simp only[Mo,Lg,Option.bind_some,agU l s hs,Fp,List.all_eq_not_any_not]
 cases jC s<;>cases decide ((l.length:Int)<=4)<;>rfl
theorem ahc(l:List Int):Ky l=some (l.any fun x=>!aT 0 9 x):=by
 unfold Ky Rb
 rw[nC (L:=He) (f:=fun x=>RF x) (p:=fun x=>!aT 0 9 x) (fun k=>rfl) (fun x r k=>rfl) l 0 (fun x hx=>rfl),Option.bind_some,oZ]
theorem aa1(l:List Int):IC l=some (l.all (aT 0 9)):=by
 simp only[IC,ahc,Option.bind_some,List.all_eq_not_any_not]
def qA(s:List Int)(f:Fact):Bool:=iY s f.Rel&&(((f.Values.length:Int)==j_ s f.Rel)&&f.Values.all (aT 0 9))
theorem abZ(s:List Int)(f:Fact)(hs:s.length<4294967296):Ni s f=some (qA s f):=by
 simp only[Ni,yt,kz,Option.bind_some]
 rw[fU (by omega) (by omega)]
 have hL:Es f.Values 0=some (f.Values.all (aT 0 9)):=by
   have:=yK (L:=Es) (f:=fun x=>some (aT 0 9 x)) (p:=aT 0 9) (e:=true) (fun _=>rfl) (fun x r' k=>rfl) f.Values 0 (fun _ _=>rfl)
   simpa using this
 unfold qA
 cases hF:iY s f.Rel
 · simp only[iY]at hF
   cases h1:jC s
   · rfl
   · rw[h1,Bool.true_and]at hF
     simp[hF]
 · obtain⟨e1,-⟩:=tT hF
   rw[hL,e1]
   simp only[iY,Bool.and_eq_true]at hF
   simp only[hF,Bool.not_true,cond_false,Option.bind_some,bne]
   cases ((f.Values.length:Int)==j_ s f.Rel)<;>rfl
theorem ab0(s:List Int)(f:Fact)(hs:s.length<4294967296):Nr s f=some (qA s f):=by
 simp only[Nr,Sb _ _ hs,Option.bind_some,qA]
 cases hF:iY s f.Rel
 · rfl
 obtain⟨e1,-⟩:=tT hF
 simp only[e1,Option.bind_some,aa1,cond_true,Bool.true_and]
 cases ((f.Values.length:Int)==j_ s f.Rel)<;>rfl
def tV(s:List Int)(l:List Fact):Bool:=iL (qA s) (fun y x=>decide (0<=jB y x)) none l&&(jC s&&decide ((l.length:Int)<=24))
theorem Wi(s:List Int)(l:List Fact)(hs:s.length<4294967296)(hl:df jo l):Mf s l=some (tV s l):=
 ES (L:=ym s l) (P:=jo) (p:=qA s) (q:=fun y x=>decide (0<=jB y x)) l hl.2 hl.1 (fun _=>by
   rw[ym,yt]
   cases jC s<;>rfl) (fun x r _=>by
   rw[ym,abZ s x hs]
   simp only[Option.bind_some,Jc]
   cases qA s x<;>rfl) (fun x r k y _ hy hy2 hk=>by
   rw[ym,abZ s x hs]
   simp only[Option.bind_some,BS,EZ _ k hk,hy2,VU y x hy.1]
   cases qA s x<;>cases decide (0<=jB y x)<;>rfl)
theorem abj(s:List Int)(l:List Fact)(hs:s.length<4294967296)(hl:df jo l):Mq s l=some (tV s l):=
 ES (L:=yo s l) (P:=jo) (p:=qA s) (q:=fun y x=>decide (0<=jB y x)) l hl.2 hl.1 (fun _=>by
   rw[yo,Lg]
   cases jC s<;>rfl) (fun x r _=>by
   rw[yo,ab0 s x hs]
   simp only[Option.bind_some,Jc]
   cases qA s x<;>rfl) (fun x r k y _ hy hy2 hk=>by
   rw[yo,ab0 s x hs]
   simp only[Option.bind_some,BS,EZ _ k hk,hy2,VT y x]
   cases qA s x<;>cases decide (0<=jB y x)<;>rfl)
def E9(s:List Int)(x:Source):Bool:=tV s x.Facts&&aT 0 1000 x.Version
theorem ajQ(s:List Int)(x:Source)(hs:s.length<4294967296)(hl:df jo x.Facts):Mg s x=some (E9 s x):=by
 simp only[Mg,Wi s _ hs hl,kz,Option.bind_some,E9]
 cases tV s x.Facts<;>rfl
theorem ajR(s:List Int)(x:Source)(hs:s.length<4294967296)(hl:df jo x.Facts):Mr s x=some (E9 s x):=by
 simp only[Mr,abj s _ hs hl,qj,Option.bind_some,E9]
 cases tV s x.Facts<;>rfl
def kD(l:List Method)(m:Int):Method:=(ix l m).getD ⟨0,[],0,0,0⟩
theorem yM{l:List Method}{m:Int}(h:aT 0 ((l.length:Int)-1) m=true):ix l m=some (kD l m)/\kD l m∈l:=by
 obtain⟨x,h1,h2⟩:=TD h
 unfold kD
 rw[h1]; exact⟨rfl,List.mem_of_getElem? h2⟩
def l9(s:List Int)(l:List Method)(a:Access):Bool:=kW s l&&(aT 0 ((l.length:Int)-1) a.Method&&(((a.Values.length:Int)==((kD l a.Method).Inputs.length:Int))&&a.Values.all (aT 0 9)))
theorem Wj(s:List Int)(l:List Method)(a:Access)(hs:s.length<4294967296)(hl:df om l):EF s l a=some (l9 s l a):=by
 have h1:=hl.1
 have hL:Eh a.Values 0=some (a.Values.all (aT 0 9)):=by
   have:=yK (L:=Eh) (f:=fun x=>some (aT 0 9 x)) (p:=aT 0 9) (e:=true) (fun _=>rfl) (fun x r' k=>rfl) a.Values 0 (fun _ _=>rfl)
   simpa using this
 simp only[EF,Rx s l hs hl,kz,Option.bind_some,l9,hL]
 rw[fU (by omega) (by omega)]
 cases kW s l
 · rfl
 cases hm:aT 0 ((l.length:Int)-1) a.Method
 · rfl
 rw[(yM hm).1]
 simp only[Option.bind_some,Bool.not_true,cond_false,bne]
 cases ((a.Values.length:Int)==((kD l a.Method).Inputs.length:Int))<;>rfl
theorem abk(s:List Int)(l:List Method)(a:Access)(hs:s.length<4294967296)(hl:df om l):IR s l a=some (l9 s l a):=by
 have h1:=hl.1
 simp only[IR,Ry s l hs hl,qj,Option.bind_some,l9,aa1]
 rw[fU (by omega) (by omega)]
 cases kW s l
 · rfl
 cases hm:aT 0 ((l.length:Int)-1) a.Method
 · rfl
 rw[(yM hm).1]
 simp only[Option.bind_some,cond_true]
 cases ((a.Values.length:Int)==((kD l a.Method).Inputs.length:Int))<;>rfl
def tN(a b:Access):Int:=if jR a.Method b.Method !=0 then jR a.Method b.Method else cmpL a.Values b.Values
theorem ahH(a b:Access):KN a b=some (tN a b):=by
 simp only[KN,VN,aap,Option.bind_some,abA,tN]
theorem abl(a b:List Int)(ha:a.length<4294967296):∀(m k:Nat),k<=a.length->k<=b.length->a.length<k+m->Et a b m k=some (decide (cmpL (a.drop k) (b.drop k)<0))
 |0,k,h1,_,h2=>by omega
 |m+1,k,h1,h1',h2=>by
   rw[Et]
   by_cases h:k<a.length/\k<b.length
   · rw[if_pos (by simp[h.1,h.2])]
     simp only[je,List.getElem?_eq_getElem h.1,List.getElem?_eq_getElem h.2,Option.bind_some]
     rw[List.drop_eq_getElem_cons h.1,List.drop_eq_getElem_cons h.2,cmpL,jR]
     by_cases e:a[k]=b[k]
     · rw[if_neg (by simp[e]),show ((k:Int)+1)=((k+1:Nat):Int)from rfl,SV (by omega),abl a b ha m (k+1) h.1 h.2 (by omega)]
       simp[e]
     · rw[if_pos (by simpa using e)]
       by_cases e1:a[k]<b[k]
       · simp[e1]
       · have e2:b[k]<a[k]:=by omega
         simp[e1,e2]
   · rw[if_neg (by simp only[Bool.and_eq_true,decide_eq_true_eq]; omega)]
     by_cases h3:k<b.length
     · have:k=a.length:=by omega
       subst this
       rw[List.drop_of_length_le (Nat.le_refl _),List.drop_eq_getElem_cons h3]
       simp[cmpL,h3]
     · rw[List.drop_of_length_le (show b.length<=k by omega)]
       by_cases h4:k<a.length
       · rw[List.drop_eq_getElem_cons h4]
         simp[cmpL]; omega
       · rw[List.drop_of_length_le (by omega)]
         simp[cmpL]; omega
theorem alg(a b:List Int)(ha:a.length<4294967296):Nj a b=some (decide (cmpL a b<0)):=by
 have:=abl a b ha (((a.length:Int)-0).toNat+2) 0 (by omega) (by omega) (by omega)
 simpa[Nj]using this
theorem aky(a b:Access)(ha:a.Values.length<4294967296):MP a b=some (decide (tN a b<0)):=by
 unfold MP tN jR
 by_cases h:a.Method=b.Method
 · rw[if_neg (by simp[h]),alg _ _ ha]
   simp[h]
 · rw[if_pos (by simpa using h)]
   by_cases h2:a.Method<b.Method
   · simp[h2]
   · have:b.Method<a.Method:=by omega
     simp[h2,this]
def Jz(f:Fact)(vals:List Int):List Int->Nat->Bool
 |[],_=>true
 |x::r,k=>(f.Values[x.toNat]?.getD 0==vals[k]?.getD 0)&&Jz f vals r (k+1)
def qB(m:Method)(vals:List Int)(f:Fact):Bool:=f.Rel==m.Rel&&Jz f vals m.Inputs 0
theorem Tt(l:List Int)(x:Int)(h:0<=x/\x<(l.length:Int)):ix l x=some (l[x.toNat]?.getD 0):=by
 have hlt:x.toNat<l.length:=by omega
 unfold ix
 rw[if_pos h.1,List.getElem?_eq_getElem hlt]; rfl
theorem abm(vals:List Int)(f:Fact):∀(l:List Int)(k:Nat),(∀x∈l,0<=x/\x<(f.Values.length:Int))->k+l.length<=vals.length->Eu vals f l k=some (Jz f vals l k)
 |[],_,_,_=>rfl
 |x::r,k,h,hl=>by
   simp only[List.length_cons]at hl
   rw[Eu,Tt _ _ (h x (by simp)),Tt _ _ ⟨by omega,by omega⟩,Option.bind_some,Option.bind_some,Jz,Int.toNat_natCast]
   by_cases e:f.Values[x.toNat]?.getD 0=vals[k]?.getD 0
   · rw[if_neg (by simp[e]),abm vals f r (k+1) (fun y hy=>h y (by simp[hy])) (by omega)]; simp[e]
   · rw[if_pos (by simpa using e)]; simp[e]
theorem aa2(f:Fact)(a:Access):∀(l:List Int)(k:Nat),(∀x∈l,0<=x/\x<(f.Values.length:Int))->k+l.length<=a.Values.length->Eb f a l k=some (!Jz f a.Values l k)
 |[],_,_,_=>rfl
 |x::r,k,h,hl=>by
   simp only[List.length_cons]at hl
   rw[Eb,Tt _ _ (h x (by simp)),Tt _ _ ⟨by omega,by omega⟩,Option.bind_some,Option.bind_some,Jz,Int.toNat_natCast]
   by_cases e:f.Values[x.toNat]?.getD 0=a.Values[k]?.getD 0
   · rw[if_neg (by simp[e]),aa2 f a r (k+1) (fun y hy=>h y (by simp[hy])) (by omega)]; simp[e]
   · rw[if_pos (by simpa using e)]; simp[e]
def TG(m:Method)(vals:List Int)(f:Fact):Prop:=(f.Rel=m.Rel-> ∀x∈m.Inputs,0<=x/\x<(f.Values.length:Int))/\m.Inputs.length<=vals.length
theorem alh(m:Method)(vals:List Int)(f:Fact)(h:TG m vals f):Nk m vals f=some (qB m vals f):=by
 unfold Nk qB
 by_cases e:f.Rel=m.Rel
 · rw[if_neg (by simp[e]),abm vals f m.Inputs 0 (h.1 e) (by have:=h.2; omega)]; simp[e]
 · rw[if_pos (by simpa using e)]; simp[e]
theorem ai9(f:Fact)(m:Method)(a:Access)(h:TG m a.Values f):uJ f m a=some (!qB m a.Values f):=by
 unfold uJ qB
 by_cases e:f.Rel=m.Rel
 · rw[if_neg (by simp[e]),aa2 f a m.Inputs 0 (h.1 e) (by have:=h.2; omega)]; simp[e]
 · rw[if_pos (by simpa using e)]; simp[e]
theorem acy{s:List Int}{l:List Method}{a:Access}{f:Fact}(h1:l9 s l a=true)(h2:qA s f=true):TG (kD l a.Method) a.Values f:=by
 simp only[l9,kW,Bool.and_eq_true,List.all_eq_true]at h1
 obtain⟨⟨-,-,hm⟩,hi,hv,-⟩:=h1
 have hmm:=hm _ (yM hi).2
 simp only[uQ,Bool.and_eq_true,List.all_eq_true]at hmm
 obtain⟨-,-,-,-,-,hin⟩:=hmm
 simp only[qA,Bool.and_eq_true]at h2
 obtain⟨-,hf,-⟩:=h2
 refine⟨fun e x hx=>?_,by simp at hv; omega⟩
 have:=hin x hx
 simp[aT]at this hf
 rw[hf,e]
 omega
theorem ab9{s:List Int}{l:List Fact}(h:tV s l=true):∀f∈l,qA s f=true:=by
 unfold tV at h
 rw[M_]at h
 simp only[Bool.and_eq_true,List.all_eq_true]at h
 exact h.1.2
theorem Wl(a:Fact)(h:jo a):EI a=some a:=by simp[EI,KI _ h.1]
theorem ai_(l:List Fact)(h:df jo l):R8 l=some l:=
 amD (L:=Ea) (fun _ _=>rfl) (fun x r k c hx hc=>by rw[Ea,Wl x hx,Option.bind_some,app1 hc,Option.bind_some]) l h
theorem akz(s:List Int)(l:List Method)(facts:List Fact)(a:Access)(h1:l9 s l a=true)(h2:∀f∈facts,qA s f=true)(hb:df jo facts):MV l facts a=some (facts.filter (qB (kD l a.Method) a.Values)):=by
 have hi:aT 0 ((l.length:Int)-1) a.Method=true:=by
   simp only[l9,Bool.and_eq_true]at h1
   exact h1.2.1
 rw[MV,(yM hi).1,Option.bind_some,ai_ facts hb,Option.bind_some,Q5,
   ads (p:=fun f=>!qB (kD l a.Method) a.Values f) (fun f hf=>ai9 f _ a (acy h1 (h2 f hf)))]
 simp
theorem ab1(n:Int):Ji n=some (aT 0 10000 n):=rfl
def xe(s:List Int)(l:List Method)(x:eH):Bool:=l9 s l x.Access&&(tV s x.Facts&&(x.Facts.all (qB (kD l x.Access.Method) x.Access.Values)&&aT 0 10000 x.At))
theorem abn(s:List Int)(l:List Method)(x:eH)(hs:s.length<4294967296)(hl:df om l)(hx:BQ x):Ms s l x=some (xe s l x):=by
 simp only[Ms,abk s l _ hs hl,abj s _ hs hx.2,Option.bind_some,xe]
 cases h1:l9 s l x.Access
 · rfl
 cases h2:tV s x.Facts
 · rfl
 rw[akz s l x.Facts x.Access h1 (ab9 h2) hx.2]
 simp only[Option.bind_some,cond_true,Bool.true_and,ab1]
 have e:(((x.Facts.filter (qB (kD l x.Access.Method) x.Access.Values)).length:Int)==(x.Facts.length:Int))=x.Facts.all (qB (kD l x.Access.Method) x.Access.Values):=by
   rw[Bool.eq_iff_iff]
   simp only[beq_iff_eq,List.all_eq_true,Int.natCast_inj]
   exact List.length_filter_eq_length_iff
 rw[e]
 cases x.Facts.all (qB (kD l x.Access.Method) x.Access.Values)<;>rfl
def Jt(s:List Int)(l:List Method)(c:Cache):Bool:=iL (xe s l) (fun y x=>decide (0<=tN y.Access x.Access)) none c.Entries&&(kW s l&&(aT 0 100 c.Age&&decide ((c.Entries.length:Int)<=100)))
theorem akA(s:List Int)(l:List Method)(c:Cache)(hs:s.length<4294967296)(hl:df om l)(hc:Nz c):SI s l c=some (Jt s l c):=
 ES (L:=yx s l c) (P:=BQ) (p:=xe s l) (q:=fun y x=>decide (0<=tN y.Access x.Access)) c.Entries hc.2 hc.1 (fun _=>by
   rw[yx,Ry s l hs hl]
   simp only[Option.bind_some,qj]
   cases kW s l<;>cases aT 0 100 c.Age<;>rfl) (fun x r hx=>by
   rw[yx,abn s l x hs hl hx]
   simp only[Option.bind_some,Jc]
   cases xe s l x<;>rfl) (fun x r k y hx hy hy2 hk=>by
   rw[yx,abn s l x hs hl hx]
   simp only[Option.bind_some,BS,EZ _ k hk,hy2,ahH]
   cases xe s l x<;>cases decide (0<=tN y.Access x.Access)<;>rfl)
theorem aaS(l:List Method)(x:eH)(hi:aT 0 ((l.length:Int)-1) x.Access.Method=true):∀(fs:List Fact)(k:Nat),(∀f∈fs,TG (kD l x.Access.Method) x.Access.Values f)->
   BA l x fs k=some (if fs.all (qB (kD l x.Access.Method) x.Access.Values)then .inr ()else .inl false)
 |[],_,_=>rfl
 |f::r,k,h=>by
   rw[BA,(yM hi).1,Option.bind_some,alh _ _ _ (h f (by simp)),Option.bind_some,List.all_cons]
   cases qB (kD l x.Access.Method) x.Access.Values f
   · rfl
   · simp[aaS l x hi r (k+1) fun g hg=>h g (by simp[hg])]
theorem akB(s:List Int)(l:List Method)(c:Cache)(hs:s.length<4294967296)(hl:df om l)(hc:Nz c):MQ s l c=some (Jt s l c):=by
 have hL:yu s l c c.Entries 0=some (iL (xe s l) (fun y x=>decide (0<=tN y.Access x.Access)) none c.Entries):=by
   have key:∀x:eH,l9 s l x.Access=true->tV s x.Facts=true->BA l x x.Facts 0=some (if x.Facts.all (qB (kD l x.Access.Method) x.Access.Values)then .inr ()else .inl false):=fun x h1 h2=>by
     have hi:aT 0 ((l.length:Int)-1) x.Access.Method=true:=by
       simp only[l9,Bool.and_eq_true]at h1
       exact h1.2.1
     exact aaS l x hi x.Facts 0 fun f hf=>acy h1 (ab9 h2 f hf)
   have:=ES (L:=yu s l c) (P:=BQ) (p:=xe s l) (q:=fun y x=>decide (0<=tN y.Access x.Access)) (e:=true) c.Entries hc.2 hc.1 (fun _=>rfl) (fun x r hx=>by
     rw[yu,Wj s l _ hs hl,Wi s _ hs hx.2]
     simp only[Option.bind_some,Jc,kz,xe]
     rcases Bool.eq_false_or_eq_true (l9 s l x.Access)with h1|h1
     rotate_left
     · simp only[h1]; rfl
     rcases Bool.eq_false_or_eq_true (tV s x.Facts)with h2|h2
     rotate_left
     · simp only[h1,h2]; rfl
     simp only[key x h1 h2,h1,h2]
     cases aT 0 10000 x.At<;>cases x.Facts.all (qB (kD l x.Access.Method) x.Access.Values)<;>rfl) (fun x r k y hx hy hy2 hk=>by
     rw[yu,Wj s l _ hs hl,Wi s _ hs hx.2]
     simp only[Option.bind_some,BS,EZ _ k hk,hy2,kz,xe,aky _ _ hy.1.1]
     have e:decide (0<=tN y.Access x.Access)=!decide (tN y.Access x.Access<0):=by
       rw[Bool.eq_iff_iff]; simp
     rw[e]
     rcases Bool.eq_false_or_eq_true (l9 s l x.Access)with h1|h1
     rotate_left
     · simp only[h1]; rfl
     rcases Bool.eq_false_or_eq_true (tV s x.Facts)with h2|h2
     rotate_left
     · simp only[h1,h2]; rfl
     simp only[key x h1 h2,h1,h2]
     cases aT 0 10000 x.At<;>cases x.Facts.all (qB (kD l x.Access.Method) x.Access.Values)<;>cases decide (tN y.Access x.Access<0)<;>rfl)
   simpa using this
 simp only[MQ,Rx s l hs hl,kz,Option.bind_some,Jt,hL]
 have e:decide ((c.Entries.length:Int)<=100)=!decide ((100:Int)<(c.Entries.length:Int)):=by
   rw[Bool.eq_iff_iff]; simp
 rw[e]
 cases kW s l
 · simp
 cases aT 0 100 c.Age
 · simp
 cases decide ((100:Int)<(c.Entries.length:Int))<;>simp
def Ck(l:List Int):Bool:=iL (fun _=>true) (fun y x=>decide (x<y)) none l&&l.all (aT 0 10000)
theorem ajS(l:List Int)(hl:l.length<4294967296):Mh l=some (Ck l&&decide ((l.length:Int)<=1000)):=by
 have:=ES (L:=Bp l) (P:=fun _=>True) (p:=aT 0 10000) (q:=fun y x=>decide (x<y)) (e:=decide ((l.length:Int)<=1000)) l (fun _ _=>trivial) hl (fun _=>rfl) (fun x r _=>by
     rw[Bp]
     simp only[Option.bind_some,kz,Jc]
     cases aT 0 10000 x<;>rfl) (fun x r k y _ _ hy hk=>by
     rw[Bp]
     simp only[Option.bind_some,kz,BS,EZ _ k hk,hy]
     cases aT 0 10000 x<;>cases decide (x<y)<;>rfl)
 rw[Mh,this,M_,Ck]
theorem Xa{α:Type}(p:α->Bool)(q:α->α->Bool)(x y:α):∀(l:List α)(o:Option α),(l.getLast?=some y\/l=[]/\o=some y)->iL p q o (l++[x])=(iL p q o l&&(p x&&!q y x))
 |[],o,h=>by
   rcases h with h|⟨-,rfl⟩
   · simp at h
   · simp[iL]
 |[z],none,h=>by
   obtain rfl:z=y:=by simpa using h
   simp[iL]
 |[z],some w,h=>by
   obtain rfl:z=y:=by simpa using h
   simp[iL]
 |z::z2::r,none,h=>by
   have h':(z2::r).getLast?=some y:=by simpa using h
   rw[List.cons_append,iL,iL,Xa p q x y (z2::r) (some z) (.inl h'),Bool.and_assoc]
 |z::z2::r,some w,h=>by
   have h':(z2::r).getLast?=some y:=by simpa using h
   rw[List.cons_append,iL,iL,Xa p q x y (z2::r) (some z) (.inl h')]
   simp only[Bool.and_assoc]
theorem ah1(x y:Int):KY x y=some (decide (x<y)):=by
 simp[KY,Bl]
theorem aal(l:List Int)(hl:l.length<4294967296):∀(k m:Nat),k<l.length->k<m->AU l m k=some (iL (fun _=>true) (fun y x=>decide (x<y)) none (l.take (k+1)))
 |0,m+1,h,_=>by
   rw[AU,if_neg (by simp)]
   cases l with
   |nil=>simp at h
   |cons x r=>rfl
 |k+1,m+1,h,hm=>by
   rw[AU,if_pos (BS k)]
   rw[je,List.getElem?_eq_getElem h,Option.bind_some,show (((k+1:Nat):Int))-1=(k:Int) by omega,SV (by omega),je,List.getElem?_eq_getElem (by omega:k<l.length),Option.bind_some,ah1,Option.bind_some,
     aal l hl k m (by omega) (by omega),show l.take (k+1+1)=l.take (k+1)++[l[k+1]]from List.take_succ_eq_append_getElem h,Xa _ _ _ l[k] (l.take (k+1)) none (.inl (by rw[List.getLast?_take]; simp[List.getElem?_eq_getElem (show k<l.length by omega)]))]
   cases decide (l[k+1]<l[k])<;>simp
theorem ahI(l:List Int)(hl:l.length<4294967296):KH l=some (iL (fun _=>true) (fun y x=>decide (x<y)) none l):=by
 unfold KH
 rw[fU (by omega) (by omega)]
 by_cases h:l.length=0
 · have:l=[]:=List.length_eq_zero_iff.1 h
   subst this; rfl
 · rw[show ((l.length:Int)-1)=((l.length-1:Nat):Int) by omega,aal l hl (l.length-1) _ (by omega) (by omega),show l.length-1+1=l.length by omega,List.take_length]
theorem ahh(l:List Int):KA l=some (l.any fun x=>!aT 0 10000 x):=by
 unfold KA Rh
 rw[nC (L:=Hg) (f:=fun x=>RP x) (p:=fun x=>!aT 0 10000 x) (fun k=>rfl) (fun x r k=>rfl) l 0 (fun x hx=>rfl),Option.bind_some,oZ]
theorem ajT(l:List Int)(hl:l.length<4294967296):Mt l=some (Ck l):=by
 simp only[Mt,ahI l hl,ahh,Option.bind_some,Ck,List.all_eq_not_any_not]
 cases iL (fun _=>true) (fun y x=>decide (x<y)) none l<;>rfl
theorem agQ(l:List Access)(m:gV)(hm:ED m):Kq l m=some (l.any fun x=>!l9 m.Schema m.Methods x):=by
 unfold Kq Q3
 rw[nC (L:=G5 m) (f:=fun x=>KX x m) (p:=fun x=>!l9 m.Schema m.Methods x) (fun k=>rfl) (fun x r k=>rfl) l 0 (fun x hx=>by rw[KX,abk _ _ x hm.1.1 hm.2.1]; rfl),Option.bind_some,oZ]
def Gl(m:gV):Bool:=kW m.Schema m.Methods&&(Fp m.Schema m.Rules&&(E9 m.Schema m.Source&&(Jt m.Schema m.Methods m.Cache&&(aT 0 10000 m.Now&&(decide ((m.Log.length:Int)<=1000)&&(m.Log.all (l9 m.Schema m.Methods)&&
 (((m.Times.length:Int)==(m.Log.length:Int))&&(Ck m.Times&&(aT 0 1000000 m.Spent&&decide ((m.Results.length:Int)<=100))))))))))
theorem aiB(m:gV)(hm:ED m):Lu m=some (Gl m):=by
 obtain⟨h1,h2,h3,h4,h5,h6,h7,h8⟩:=id hm
 simp only[Lu,Ry _ _ h1.1 h2,ajP _ _ h1.1,ajR _ _ h1.1 (show df jo m.Source.Facts from h4),akA _ _ _ h1.1 h2 h5,ab1,agQ _ m hm,ajT _ h7.1,qj,Option.bind_some,Gl,List.all_eq_not_any_not (p:=l9 m.Schema m.Methods)]
 cases kW m.Schema m.Methods
 · rfl
 cases Fp m.Schema m.Rules
 · rfl
 cases E9 m.Schema m.Source
 · rfl
 cases Jt m.Schema m.Methods m.Cache
 · rfl
 cases aT 0 10000 m.Now
 · rfl
 cases decide ((m.Log.length:Int)<=1000)
 · rfl
 cases m.Log.any fun a=>!l9 m.Schema m.Methods a
 rotate_left
 · rfl
 cases ((m.Times.length:Int)==(m.Log.length:Int))
 · rfl
 cases Ck m.Times
 · rfl
 cases aT 0 1000000 m.Spent<;>rfl
theorem aiC(m:gV)(hm:ED m):Lp m=some (Gl m):=by
 obtain⟨h1,h2,h3,h4,h5,h6,h7,h8⟩:=id hm
 have hL:Bi m m.Log 0=some (m.Log.all (l9 m.Schema m.Methods)&&(aT 0 10000 m.Now&&(decide ((m.Log.length:Int)<=1000)&&(((m.Times.length:Int)==(m.Log.length:Int))&&(Ck m.Times&&(aT 0 1000000 m.Spent&&decide ((m.Results.length:Int)<=100))))))):=by
   refine yK (L:=Bi m) (f:=fun a=>EF m.Schema m.Methods a) (p:=l9 m.Schema m.Methods) (fun k=>?_) (fun x r k=>rfl) m.Log 0 (fun x _=>Wj _ _ x h1.1 h2)
   rw[Bi]
   simp only[kz,ajS _ h7.1,Option.bind_some]
   cases aT 0 10000 m.Now
   · rfl
   by_cases hl:(m.Log.length:Int)<=1000
   · by_cases ht:(m.Times.length:Int)=(m.Log.length:Int)
     · simp only[hl,ht,decide_true,beq_self_eq_true,cond_true,Bool.and_true,Bool.true_and]
       cases Ck m.Times<;>cases aT 0 1000000 m.Spent<;>rfl
     · have e:((m.Times.length:Int)==(m.Log.length:Int))=false:=beq_false_of_ne ht
       simp only[hl,e,decide_true,cond_true,cond_false,Bool.true_and,Bool.false_and,Option.bind_some]
   · simp[hl]
 simp only[Lp,yt,Rx _ _ h1.1 h2,ajO _ _ h1.1,ajQ _ _ h1.1 (show df jo m.Source.Facts from h4),akB _ _ _ h1.1 h2 h5,Option.bind_some,Gl,hL]
 cases hS:jC m.Schema
 · simp[kW,hS]
 cases kW m.Schema m.Methods
 · rfl
 cases Fp m.Schema m.Rules
 · rfl
 cases E9 m.Schema m.Source
 · rfl
 cases Jt m.Schema m.Methods m.Cache
 · rfl
 cases aT 0 10000 m.Now<;>cases decide ((m.Log.length:Int)<=1000)<;>cases m.Log.all (l9 m.Schema m.Methods)<;>rfl
theorem ao7(a:gV)(h:RS a<4294967296):ED a:=by
 unfold RS MF M5 at h
 have hF:∀l:List Fact,jh BX l<4294967296->df jo l:=Cj fun x hx=>uN _ hx
 have hA:∀x:Access,BN x<4294967296->EO x:=fun x hx=>uN _ hx
 exact⟨uN _ (by omega),Cj (f:=IX) (fun x hx=>uN _ hx) _ (by omega),Cj (f:=Jl) (fun x hx=>uN _ hx) _ (by omega),hF _ (by omega),
   Cj (f:=BO) (fun x hx=>⟨hA _ (by unfold BO at hx; omega),hF _ (by unfold BO at hx; omega)⟩) _ (by omega),Cj hA _ (by omega),uN _ (by omega),
   Cj (f:=jh fun a:List Int=>a.length) (fun x hx=>Cj (f:=fun a:List Int=>a.length) (fun y hy=>uN y hy) x hx) _ (by omega)⟩
theorem MG(r:Int)(v:List Int)(h:v.length<4294967296):Cf r v=some {Rel:=r,Values:=v}:=by simp[Cf,mW h]
theorem acz(x y:Int):jR y x= -jR x y:=by
 unfold jR
 repeat' split
 all_goals omega
theorem acA:∀(a b:List Int),cmpL b a= -cmpL a b
 |[],[]=>rfl
 |[],_::_=>rfl
 |_::_,[]=>rfl
 |x::a,y::b=>by
   simp only[cmpL,acz x y,acA a b]
   by_cases h:jR x y=0
   · simp[h]
   · rw[if_pos (by simp only[bne_iff_ne]; omega),if_pos (by simpa using h)]
theorem ajU(a b:Fact):jB b a= -jB a b:=by
 unfold jB
 rw[acz a.Rel b.Rel,acA a.Values b.Values]
 by_cases h:jR a.Rel b.Rel=0
 · simp[h]
 · rw[if_pos (by simp only[bne_iff_ne]; omega),if_pos (by simpa using h)]
def zR(l:List Fact)(f:Fact):Bool:=l.any fun x=>jB x f==0
theorem akC(l:List Fact)(f:Fact)(h:df jo l):MR l f=some (zR l f):=by
 have hx:∀x∈l,x.Values.length<4294967296:=fun x hx=>(h.2 x hx).1
 clear h
 unfold MR
 generalize 0=k
 induction l generalizing k with
 |nil=>rfl
 |cons x l ih=>
   unfold Im
   rw[VU x f (hx x (by simp)),Option.bind_some]
   by_cases h:jB x f=0
   · rw[if_pos (by simpa using h)]; simp[zR,h]
   · rw[if_neg (by simpa using h),ih (fun y hy=>hx y (by simp[hy]))]; simp[zR,h]
theorem agX(l:List Fact)(f:Fact):Ku l f=some (zR l f):=by
 unfold Ku Q7
 rw[nC (L:=G9 f) (f:=fun x=>LV x f) (p:=fun x=>jB x f==0) (fun k=>rfl) (fun x r k=>rfl) l 0 (fun x hx=>by rw[LV,VT]; rfl),Option.bind_some,oZ]
 rfl
theorem akD(l:List Fact)(f:Fact):MW l f=some (zR l f):=by
 rw[MW,agX]; rfl
def nQ(f:Fact):List Fact->List Fact
 |[]=>[f]
 |x::l=>if 0<jB x f then f::x::l else x::nQ f l
theorem acB(f:Fact):∀l:List Fact,(nQ f l).length=l.length+1
 |[]=>rfl
 |x::l=>by
   unfold nQ
   split
   · rfl
   · simp[acB f l]
theorem acC{f y:Fact}:∀{l:List Fact},y∈nQ f l->y=f\/y∈l
 |[],h=>by simp[nQ]at h; exact .inl h
 |x::l,h=>by
   unfold nQ at h
   split at h
   · simp at h; simp[h]
   · rcases List.mem_cons.1 h with h|h
     · simp[h]
     · rcases acC h with h|h<;>simp[h]
theorem ac4(f:Fact):∀(l:List Fact)(k:Nat),(jN (fun x=>decide (0<jB x f)) l k= -1/\nQ f l=l++[f])\/ ∃j:Nat,j<l.length/\jN (fun x=>decide (0<jB x f)) l k=((k+j:Nat):Int)/\nQ f l=l.take j++f::l.drop j
 |[],k=>.inl ⟨rfl,rfl⟩
 |x::l,k=>by
   unfold jN nQ
   by_cases h:0<jB x f
   · rw[if_pos h,if_pos (by simpa using h)]
     exact .inr ⟨0,by simp,by simp,by simp⟩
   · rw[if_neg h,if_neg (by simpa using h)]
     rcases ac4 f l (k+1)with⟨h1,h2⟩|⟨j,h1,h2,h3⟩
     · exact .inl ⟨h1,by rw[h2]; rfl⟩
     · exact .inr ⟨j+1,by simp; omega,by rw[h2]; congr 1; omega,by rw[h3]; rfl⟩
def kw(l:List Fact)(f:Fact):List Fact:=if zR l f then l else nQ f l
theorem SS(l:List Fact)(f:Fact):(kw l f).length<=l.length+1:=by
 unfold kw
 split
 · omega
 · rw[acB]; exact Nat.le_refl _
theorem amj{l:List Fact}{f y:Fact}(h:y∈kw l f):y=f\/y∈l:=by
 unfold kw at h
 split at h
 · exact .inr h
 · exact acC h
theorem alO(l:List Fact)(f:Fact)(hl:l.length+1<4294967296)(hf:jo f):NB l f=some (kw l f):=by
 unfold NB kw
 rw[akD,Option.bind_some]
 cases hh:zR l f
 · rw[if_neg (by simp),if_neg (by simp)]
   have hix:Q8 l f=some (jN (fun x=>decide (0<jB x f)) l 0):=
     nC (L:=G_ f) (f:=fun x=>MX x f) (p:=fun x=>decide (0<jB x f)) (fun k=>rfl) (fun x r k=>rfl) l 0 (fun x hx=>by rw[MX,VT]; rfl)
   rw[hix,Option.bind_some]
   rcases ac4 f l 0 with⟨h1,h2⟩|⟨j,h1,h2,h3⟩
   · rw[h1,if_pos (by decide),Wl f hf,Option.bind_some,Ho,h2]
     rw[if_pos ⟨by omega,by omega,hl⟩,Option.bind_some,Int.toNat_natCast,List.take_length,List.drop_length]
   · rw[h2,if_neg (by simp only[decide_eq_true_eq]; omega),Wl f hf,Option.bind_some,Ho,h3]
     rw[if_pos ⟨by omega,by omega,hl⟩,Option.bind_some,Int.toNat_natCast,Nat.zero_add]
 · rw[if_pos rfl,if_pos rfl]
theorem VV(f:Fact):∀(l:List Fact)(k:Nat)(c:List Fact),(∀x∈l,jo x)->c.length+l.length<4294967296->uI f l k c true=some (c++l)
 |[],k,c,_,_=>by simp[uI]
 |x::l,k,c,hx,h=>by
   simp only[List.length_cons]at h
   unfold uI
   rw[Bool.not_true,cond_false,Option.bind_some]
   dsimp only
   rw[if_neg (by simp),MG _ _ (hx x (by simp)).1,Option.bind_some,o5 (by simp; omega),Option.bind_some,Option.bind_some]
   dsimp only
   rw[VV f l _ _ (fun y hy=>hx y (by simp[hy])) (by simp; omega)]
   simp
theorem aaT(f:Fact)(hf:jo f):∀(l:List Fact)(k:Nat)(c:List Fact)(b:Bool),(∀x∈l,jo x)->c.length+l.length+1<4294967296->uI f l k c b=some (if b then c++l else c++nQ f l)
 |[],k,c,b,_,h=>by
   unfold uI
   cases b
   · rw[if_pos (show (!false)=true from rfl),MG _ _ hf.1,Option.bind_some,o5 (by simp at h ⊢; omega),if_neg (by simp)]; rfl
   · simp
 |x::l,k,c,b,hx,h=>by
   simp only[List.length_cons]at h
   have hx1:=hx x (by simp)
   have hx2:∀y∈l,jo y:=fun y hy=>hx y (by simp[hy])
   unfold uI
   cases b
   · rw[Bool.not_false,cond_true,VU f x hf.1,Option.bind_some,Option.bind_some]
     dsimp only
     have ha:=ajU f x
     by_cases hc:0<jB x f
     · rw[if_pos (by simp only[decide_eq_true_eq]; omega),MG _ _ hf.1,Option.bind_some,o5 (by simp; omega),Option.bind_some,MG _ _ hx1.1,Option.bind_some,o5 (by simp; omega),Option.bind_some,Option.bind_some]
       dsimp only
       rw[VV f l _ _ hx2 (by simp; omega),if_neg (by simp)]
       simp[nQ,hc]
     · rw[if_neg (by simp only[decide_eq_true_eq]; omega),MG _ _ hx1.1,Option.bind_some,o5 (by simp; omega),Option.bind_some,Option.bind_some]
       dsimp only
       rw[aaT f hf l _ _ _ hx2 (by simp; omega),if_neg (by simp),if_neg (by simp)]
       simp[nQ,hc]
   · rw[if_pos rfl]
     exact VV f (x::l) k c hx (by simp; omega)
theorem akE(l:List Fact)(f:Fact)(hb:df jo l)(hl:l.length+1<4294967296)(hf:jo f):MS l f=some (kw l f):=by
 unfold MS kw
 rw[akC l f hb,Option.bind_some,aaT f hf l 0 [] _ hb.2 (by simpa using hl),List.nil_append,List.nil_append]
def mi(n:Int):List UInt8:=[UInt8.ofNat (48+n.toNat)]
theorem K4{K:Nat}(hK:2<=K)(n:Int)(h:0<=n/\n<=9):rW K n=some (mi n):=by
 obtain⟨k,rfl⟩:∃k,K=k+2:=⟨K-2,by omega⟩
 obtain⟨h0,h1⟩:=h
 have:n=0\/n=1\/n=2\/n=3\/n=4\/n=5\/n=6\/n=7\/n=8\/n=9:=by omega
 rcases this with rfl|rfl|rfl|rfl|rfl|rfl|rfl|rfl|rfl|rfl<;>rfl
theorem am1(n:Int)(h:0<=n/\n<=9):Lib.itoa n=mi n:=by
 unfold Lib.itoa mi
 rw[if_neg (by omega),Lib.decDigits,dif_pos (by omega)]
theorem V_(n:Int)(h:0<=n/\n<=9):tu n=some (mi n):=by
 rw[tu,K3,if_pos (by omega),am1 n h]; rfl
theorem RI(u:Nat):Lib.decDigits u=if u<10 then [UInt8.ofNat (48+u)]else Lib.decDigits (u / 10)++[UInt8.ofNat (48+u % 10)]:=by
 rw[Lib.decDigits]
 by_cases h:u<10
 · rw[dif_pos h,if_pos h]
 · rw[dif_neg h,if_neg h]
theorem RJ:∀(m u:Nat),u<10 ^ (m+1)->(Lib.decDigits u).length<=m+1
 |0,u,h=>by rw[RI,if_pos (by simpa using h)]; simp
 |m+1,u,h=>by
   rw[RI]
   split
   · simp
   · have:=RJ m (u / 10) (by rw[Nat.pow_succ]at h; omega)
     rw[List.length_append,List.length_singleton]; omega
theorem ac5(n:Int)(h:-9223372036854775808<=n/\n<=9223372036854775807):(Lib.itoa n).length<=20:=by
 unfold Lib.itoa
 split
 · have:=RJ 18 n.natAbs (by omega)
   rw[List.length_cons]; omega
 · have:=RJ 18 n.toNat (by omega)
   omega
theorem aaB:∀(m u:Nat)(n:Int)(c:List UInt8),n.natAbs=u->u<10 ^ m-> -9223372036854775808<=n/\n<=9223372036854775807->c.length+m<4294967296->wN (m+1) n c=some ((if u=0 then []else Lib.decDigits u)++c)
 |0,u,n,c,hu,h,_,_=>by
   have h0:n=0:=by simp at h; omega
   subst h0
   have:u=0:=by simpa using hu.symm
   subst this
   unfold wN
   rw[if_neg (by simp)]; rfl
 |m+1,u,n,c,hu,h,hr,hc=>by
   by_cases h0:u=0
   · have hn:n=0:=by omega
     subst hn
     subst h0
     unfold wN
     rw[if_neg (by simp)]; rfl
   · have hn:n≠0:=by omega
     have hc1:∀b:UInt8,fG [b] c=some (b::c):=fun b=>by unfold fG; rw[if_pos (by simp; omega)]; rfl
     have hd:n.tdiv 10=if n<0 then -((u / 10:Nat):Int)else ((u / 10:Nat):Int):=by
       split
       · have:n= -(u:Int):=by omega
         rw[this,Int.neg_tdiv]; rfl
       · have:n=(u:Int):=by omega
         rw[this]; rfl
     have hm:n.tmod 10=if n<0 then -((u % 10:Nat):Int)else ((u % 10:Nat):Int):=by
       split
       · have:n= -(u:Int):=by omega
         rw[this,Int.neg_tmod]; rfl
       · have:n=(u:Int):=by omega
         rw[this]; rfl
     have hw:IntKind.i64.wrap (n.tdiv 10)=n.tdiv 10:=fU (by rw[hd]; split<;>omega) (by rw[hd]; split<;>omega)
     have hu8:∀r:Nat,r<10->rG (IntKind.i64.wrap (48+(r:Int)))=UInt8.ofNat (48+r):=by
       intro r hr
       have:r=0\/r=1\/r=2\/r=3\/r=4\/r=5\/r=6\/r=7\/r=8\/r=9:=by omega
       rcases this with rfl|rfl|rfl|rfl|rfl|rfl|rfl|rfl|rfl|rfl<;>decide
     have hlt:u % 10<10:=Nat.mod_lt _ (by omega)
     have hgo:=aaB m (u / 10) (n.tdiv 10) (UInt8.ofNat (48+u % 10)::c) (by rw[hd]; split<;>omega) (by rw[Nat.pow_succ]at h; omega) (by rw[hd]; split<;>omega) (by simp; omega)
     have hfin:((if u / 10=0 then []else Lib.decDigits (u / 10))++UInt8.ofNat (48+u % 10)::c)=(if u=0 then []else Lib.decDigits u)++c:=by
       rw[if_neg h0,RI u]
       by_cases h9:u<10
       · rw[if_pos h9,if_pos (by omega),Nat.mod_eq_of_lt h9]; rfl
       · rw[if_neg h9,if_neg (by omega)]; simp
     rw[hfin]at hgo
     unfold wN
     rw[if_pos (by simpa using hn),hw,hm]
     by_cases hneg:n<0
     · rw[if_pos hneg]
       by_cases hz:u % 10=0
       · rw[if_neg (by simp only[decide_eq_true_eq]; omega),show -((u % 10:Nat):Int)=((u % 10:Nat):Int)from by omega,hu8 _ hlt,hc1,Option.bind_some]
         exact hgo
       · rw[if_pos (by simp only[decide_eq_true_eq]; omega),show IntKind.i64.wrap (- -((u % 10:Nat):Int))=((u % 10:Nat):Int)from by rw[Int.neg_neg]; exact fU (by omega) (by omega),hu8 _ hlt,hc1,Option.bind_some]
         exact hgo
     · rw[if_neg hneg,if_neg (by simp only[decide_eq_true_eq]; omega),hu8 _ hlt,hc1,Option.bind_some]
       exact hgo
theorem aiD(k:Nat)(n:Int)(hr:-9223372036854775808<=n/\n<=9223372036854775807)(hk:19<=k)(hk2:k<1000):rW (k+1) n=some (Lib.itoa n):=by
 unfold rW Lib.itoa
 by_cases h0:n=0
 · subst h0
   rw[if_pos (by decide),if_neg (by decide),show Int.toNat 0=0 from rfl,RI]; rfl
 · rw[if_neg (by simpa using h0),aaB k n.natAbs n [] rfl (Nat.lt_of_lt_of_le (show n.natAbs<10 ^ 19 by omega) (Nat.pow_le_pow_right (by decide) hk)) hr (by simp; omega),Option.bind_some,if_neg (show ¬ n.natAbs=0 by omega),List.append_nil]
   dsimp only
   by_cases hneg:n<0
   · have:=RJ 18 n.natAbs (by omega)
     rw[if_pos (by simpa using hneg),if_pos hneg]
     unfold fG
     rw[if_pos (by simp; omega)]; rfl
   · rw[if_neg (by simpa using hneg),if_neg hneg,show n.natAbs=n.toNat from by omega]
theorem aiE(n:Int)(hr:-9223372036854775808<=n/\n<=9223372036854775807):tu n=some (Lib.itoa n):=by
 rw[tu,K3,if_pos hr]; rfl
theorem iR{a b:List UInt8}(h:a.length+b.length<4294967296):fG a b=some (a++b):=by unfold fG; rw[if_pos (by omega)]
theorem ajV{zs:List Int}(h:zs.Pairwise (· <= ·)):∀m,m<=zs.length->
   (Lib.compactUpTo zs.toArray m).Pairwise (· < ·)/\(∀x,x∈Lib.compactUpTo zs.toArray m↔x∈zs.take m)/\(∀x∈Lib.compactUpTo zs.toArray m,∀y,zs[m]?=some y->x<=y):=by
 intro m
 induction m with
 |zero=>intro _; simp[Lib.compactUpTo]
 |succ m ih=>
   intro hm
   obtain⟨i1,i2,i3⟩:=ih (by omega)
   have hlt:m<zs.length:=by omega
   have hg:zs.toArray[m]! =zs[m]:=by simp[hlt]
   have hnext:∀x,x∈zs.take (m+1)-> ∀y,zs[m+1]?=some y->x<=y:=by
     intro x hx y hy
     obtain⟨j,hj,rfl⟩:=List.mem_iff_getElem.1 hx
     obtain⟨hy1,rfl⟩:=List.getElem?_eq_some_iff.1 hy
     rw[List.getElem_take]
     simp only[List.length_take]at hj
     exact List.pairwise_iff_getElem.1 h j (m+1) (by omega) hy1 (by omega)
   rw[Lib.compactUpTo_succ,hg]
   have htake:zs.take (m+1)=zs.take m++[zs[m]]:=by rw[List.take_succ_eq_append_getElem hlt]
   by_cases hk:Lib.keeps zs.toArray m=true
   · rw[if_pos hk]
     have hlow:∀x∈Lib.compactUpTo zs.toArray m,x<zs[m]:=by
       intro x hx
       have hm0:m≠0:=by
         intro e; subst e; simp[Lib.compactUpTo]at hx
       have hpl:m-1<zs.length:=by omega
       have hpm:zs.toArray[m-1]! =zs[m-1]:=by simp[hpl]
       have hne:zs[m]≠zs[m-1]:=by
         simp only[Lib.keeps,decide_eq_true_eq,hg,hpm]at hk
         rcases hk with h0|h0
         · exact absurd h0 hm0
         · exact h0
       have hx1:=(i2 x).1 hx
       obtain⟨j,hj,rfl⟩:=List.mem_iff_getElem.1 hx1
       rw[List.getElem_take]at*
       simp only[List.length_take]at hj
       have a1:zs[j]<=zs[m-1]:=by
         rcases Nat.lt_or_ge j (m-1)with h1|h1
         · exact List.pairwise_iff_getElem.1 h j (m-1) (by omega) hpl h1
         · have:j=m-1:=by omega
           subst this; exact Int.le_refl _
       have a2:zs[m-1]<=zs[m]:=List.pairwise_iff_getElem.1 h (m-1) m hpl hlt (by omega)
       omega
     refine⟨?_,?_,?_⟩
     · rw[List.pairwise_append]
       exact⟨i1,by simp,fun a ha b hb=>by simp at hb; subst hb; exact hlow a ha⟩
     · intro x; rw[htake,List.mem_append,List.mem_append,i2]
     · intro x hx y hy
       apply hnext x _ y hy
       rw[htake,List.mem_append,←i2,←List.mem_append]; exact hx
   · rw[if_neg hk,List.append_nil]
     have hm0:m≠0:=fun e=>hk (by simp[Lib.keeps,e])
     have hpl:m-1<zs.length:=by omega
     have hpm:zs.toArray[m-1]! =zs[m-1]:=by simp[hpl]
     have he:zs[m]=zs[m-1]:=by
       simp only[Lib.keeps,decide_eq_true_eq,hg,hpm]at hk
       exact Classical.byContradiction fun hc=>hk (.inr hc)
     have hin:zs[m]∈zs.take m:=by
       rw[he]
       exact List.mem_iff_getElem.2 ⟨m-1,by simp; omega,by rw[List.getElem_take]⟩
     have hiff:∀x,x∈zs.take (m+1)↔x∈zs.take m:=by
       intro x; rw[htake,List.mem_append,List.mem_singleton]
       exact⟨fun h=>h.elim id fun h=>h ▸ hin,.inl⟩
     refine⟨i1,fun x=>by rw[i2,hiff],fun x hx y hy=>hnext x ((hiff x).2 ((i2 x).1 hx)) y hy⟩
theorem akF{zs:List Int}(h:zs.Pairwise (· <= ·)):(Lib.compact zs).Pairwise (· < ·)/\ ∀x,x∈Lib.compact zs↔x∈zs:=by
 obtain⟨h1,h2,-⟩:=ajV h zs.length (Nat.le_refl _)
 exact⟨h1,fun x=>by rw[Lib.compact,h2,List.take_length]⟩
theorem ad':∀{a b:List Int},a.Pairwise (· < ·)->b.Pairwise (· < ·)->(∀x,x∈a↔x∈b)->a=b
 |[],[],_,_,_=>rfl
 |[],y::b,_,_,h=>absurd ((h y).2 (by simp)) (by simp)
 |x::a,[],_,_,h=>absurd ((h x).1 (by simp)) (by simp)
 |x::a,y::b,ha,hb,h=>by
   rw[List.pairwise_cons]at ha hb
   have e:x=y:=by
     have h1:=(h x).1 (by simp)
     have h2:=(h y).2 (by simp)
     rw[List.mem_cons]at h1 h2
     rcases h1 with h1|h1
     · exact h1
     · rcases h2 with h2|h2
       · exact h2.symm
       · have:=hb.1 x h1; have:=ha.1 y h2; omega
   subst e
   rw[ad' ha.2 hb.2 fun z=>?_]
   constructor
   · intro hz
     have h1:=(h z).1 (by simp[hz])
     have:=ha.1 z hz
     rcases List.mem_cons.1 h1 with h1|h1
     · omega
     · exact h1
   · intro hz
     have h1:=(h z).2 (by simp[hz])
     have:=hb.1 z hz
     rcases List.mem_cons.1 h1 with h1|h1
     · omega
     · exact h1
def sK(x:Int):List Int->List Int
 |[]=>[x]
 |y::l=>if x<y then x::y::l else y::sK x l
theorem Xo{x:Int}:∀{l:List Int}{y:Int},y∈sK x l↔y=x\/y∈l
 |[],y=>by simp[sK]
 |z::l,y=>by
   unfold sK
   split
   · simp
   · rw[List.mem_cons,Xo,List.mem_cons]
     constructor<;>rintro (h|h|h)<;>simp[h]
theorem adG{x:Int}:∀{l:List Int},l.Pairwise (· < ·)->x∉l->(sK x l).Pairwise (· < ·)
 |[],_,_=>by simp[sK]
 |z::l,h,hn=>by
   unfold sK
   rw[List.mem_cons,not_or]at hn
   rw[List.pairwise_cons]at h
   split
   · rename_i hx
     rw[List.pairwise_cons,List.pairwise_cons]
     refine⟨fun a ha=>?_,h⟩
     rcases List.mem_cons.1 ha with rfl|ha
     · exact hx
     · have:=h.1 a ha; omega
   · rename_i hx
     rw[List.pairwise_cons]
     refine⟨fun a ha=>?_,adG h.2 hn.2⟩
     rcases Xo.1 ha with rfl|ha
     · omega
     · exact h.1 a ha
theorem ac6{x:Int}:∀{l:List Int},(sK x l).length=l.length+1
 |[]=>rfl
 |z::l=>by
   unfold sK
   split
   · rfl
   · simp[ac6]
def lW(l:List Int)(x:Int):List Int:=if x∈l then l else sK x l
theorem am2{l:List Int}{x y:Int}:y∈lW l x↔y=x\/y∈l:=by
 unfold lW
 split
 · rename_i h; exact⟨.inr,fun h'=>h'.elim (fun e=>e ▸ h) id⟩
 · exact Xo
theorem anQ{l:List Int}{x:Int}(h:l.Pairwise (· < ·)):(lW l x).Pairwise (· < ·):=by
 unfold lW
 split
 · exact h
 · exact adG h (by assumption)
theorem Tc{l:List Int}{x:Int}:(lW l x).length<=l.length+1:=by
 unfold lW
 split
 · omega
 · rw[ac6]; exact Nat.le_refl _
theorem Td{y:Int}:∀{v l:List Int},y∈v.foldl lW l↔y∈l\/y∈v
 |[],l=>by simp
 |x::v,l=>by
   rw[List.foldl_cons,Td,am2,List.mem_cons]
   constructor
   · rintro ((h|h)|h)<;>simp[h]
   · rintro (h|h|h)<;>simp[h]
theorem XE:∀{v l:List Int},l.Pairwise (· < ·)->(v.foldl lW l).Pairwise (· < ·)
 |[],_,h=>h
 |x::v,l,h=>XE (v:=v) (anQ h)
theorem Xp:∀{v l:List Int},(v.foldl lW l).length<=l.length+v.length
 |[],_=>Nat.le_refl _
 |x::v,l=>by
   have h1:=Xp (v:=v) (l:=lW l x)
   have h2:=Tc (l:=l) (x:=x)
   simp only[List.foldl_cons,List.length_cons]; omega
theorem acD(v:List Int):v.foldl lW []=Lib.compact (v.mergeSort fun x y=>decide (x<=y)):=by
 have hs:(v.mergeSort fun x y=>decide (x<=y)).Pairwise (· <= ·):=by
   have:=List.pairwise_mergeSort (le:=fun x y:Int=>decide (x<=y)) (fun a b c h1 h2=>by simp only[decide_eq_true_eq]at*; omega) (fun a b=>by simp only[Bool.or_eq_true,decide_eq_true_eq]; omega) v
   exact this.imp fun h=>by simpa using h
 obtain⟨c1,c2⟩:=akF hs
 exact ad' (XE (by simp)) c1 fun x=>by rw[Td,c2,List.mem_mergeSort]; simp
theorem MH(x:Int)(l:List Int):xc l x=some (decide (x∈l)):=by
 unfold xc
 generalize 0=k
 induction l generalizing k with
 |nil=>rfl
 |cons y l ih=>
   unfold IP
   by_cases h:y=x
   · subst h; simp
   · rw[if_neg (by simpa using h),ih]
     congr 1
     simp only[List.mem_cons,decide_eq_decide]
     exact⟨.inr,fun h'=>h'.elim (fun e=>absurd e.symm h) id⟩
theorem RL(l:List Int)(x:Int)(hl:l.length<4294967296):∀(m i:Nat)(c:List Int)(b:Bool),i<=l.length->l.length-i<m->c.length+(l.length-i)+(bif b then 0 else 1)<4294967296->EH l x m c b (i:Int)=some (if b then c++l.drop i else c++sK x (l.drop i))
 |0,_,_,_,_,hm,_=>by omega
 |m+1,i,c,b,hi,hm,h=>by
   unfold EH
   by_cases hlt:i<l.length
   · obtain⟨y,t,hg,hd,ht⟩:∃y t,ix l (i:Int)=some y/\l.drop i=y::t/\l.drop (i+1)=t:=⟨_,_,by rw[je,List.getElem?_eq_getElem hlt],List.drop_eq_getElem_cons hlt,rfl⟩
     have hw:IntKind.i64.wrap ((i:Int)+1)=((i+1:Nat):Int):=by rw[fU (by omega) (by omega)]; rfl
     rw[if_pos (by simp only[decide_eq_true_eq]; omega)]
     simp only[hg,Option.bind_some,hw]
     cases b
     · simp only[cond_false]at h
       by_cases hx:x<y
       · simp only[Bool.not_false,cond_true,hx,decide_true,if_true,Option.bind_some]
         rw[o5 (by simp; omega),Option.bind_some,o5 (by simp; omega),Option.bind_some,Option.bind_some]
         dsimp only
         rw[RL l x hl m (i+1) _ _ hlt (by omega) (by simp; omega),ht,hd]
         simp[sK,hx]
       · simp only[Bool.not_false,cond_true,hx,decide_false,Bool.false_eq_true,if_false,Option.bind_some]
         rw[o5 (by simp; omega),Option.bind_some,Option.bind_some]
         dsimp only
         rw[RL l x hl m (i+1) _ _ hlt (by omega) (by simp; omega),ht,hd]
         simp[sK,hx]
     · simp only[cond_true]at h
       simp only[Bool.not_true,cond_false,Bool.false_eq_true,if_false,Option.bind_some]
       rw[o5 (by simp; omega),Option.bind_some,Option.bind_some]
       dsimp only
       rw[RL l x hl m (i+1) _ _ hlt (by omega) (by simp; omega),ht,hd]
       simp
   · have hd:l.drop i=[]:=List.drop_eq_nil_of_le (by omega)
     rw[if_neg (by simp only[decide_eq_true_eq]; omega),hd]
     cases b
     · simp only[cond_false]at h
       rw[if_pos (show (!false)=true from rfl),o5 (by simp; omega),if_neg (by simp)]; rfl
     · simp
theorem WU(l:List Int)(x:Int)(h:l.length+1<4294967296):E5 l x=some (lW l x):=by
 unfold E5 lW
 rw[MH,Option.bind_some]
 by_cases hx:x∈l
 · rw[if_pos (by simpa using hx),if_pos hx]
 · rw[if_neg (by simpa using hx),if_neg hx]
   have:=RL l x (by omega) (((l.length:Int)-0).toNat+2) 0 [] false (by omega) (by omega) (by simpa using h)
   rw[show ((0:Nat):Int)=0 from rfl]at this
   rw[this]
   simp
theorem XF{x y:Int}:jR x y<0↔x<y:=by unfold jR; split<;>(try split)<;>omega
theorem anR{x y:Int}:0<jR x y↔y<x:=by unfold jR; split<;>(try split)<;>omega
theorem EP{x y:Int}:jR x y=0↔x=y:=by unfold jR; split<;>(try split)<;>omega
theorem acE:∀{a b:List Int},cmpL a b=0↔a=b
 |[],[]=>by simp[cmpL]
 |[],_::_=>by simp[cmpL]
 |_::_,[]=>by simp[cmpL]
 |x::a,y::b=>by
   unfold cmpL
   by_cases h:jR x y=0
   · rw[if_neg (by simpa using h),acE,EP.1 h]; simp
   · rw[if_pos (by simpa using h)]
     constructor
     · intro h'; exact absurd h' h
     · intro h'; exact absurd (EP.2 (List.cons.inj h').1) h
theorem acF:∀{a b:List Int},0<cmpL a b↔cmpL b a<0
 |[],[]=>by simp[cmpL]
 |[],_::_=>by simp[cmpL]
 |_::_,[]=>by simp[cmpL]
 |x::a,y::b=>by
   unfold cmpL
   by_cases h:jR x y=0
   · have h2:=EP.1 h
     subst h2
     rw[if_neg (by simpa using h),if_neg (by simpa using h)]; exact acF
   · rw[if_pos (by simpa using h),if_pos (by have:¬ jR y x=0:=fun e=>h (by rw[EP]at*; exact e.symm); simpa using this),anR,XF]
theorem ab_:∀{a b c:List Int},cmpL a b<0->cmpL b c<0->cmpL a c<0
 |[],_,[],h1,h2=>by
   rename_i b
   cases b<;>simp[cmpL]at h1 h2
 |[],_,_::_,_,_=>by simp[cmpL]
 |_::_,[],_,h1,_=>by simp[cmpL]at h1
 |_::_,_::_,[],_,h2=>by simp[cmpL]at h2
 |x::a,y::b,z::c,h1,h2=>by
   unfold cmpL at*
   by_cases e1:jR x y=0
   · have:=EP.1 e1
     subst this
     rw[if_neg (by simpa using e1)]at h1
     by_cases e2:jR x z=0
     · have:=EP.1 e2
       subst this
       rw[if_neg (by simpa using e1)]at h2 ⊢
       exact ab_ h1 h2
     · rw[if_pos (by simpa using e2)]at h2 ⊢
       exact h2
   · rw[if_pos (by simpa using e1)]at h1
     by_cases e2:jR y z=0
     · have:=EP.1 e2
       subst this
       rw[if_pos (by simpa using e1)]; exact h1
     · rw[if_pos (by simpa using e2)]at h2
       rw[XF]at h1 h2
       have:jR x z<0:=XF.2 (by omega)
       rw[if_pos (by simp; omega)]; exact this
theorem IY(a b:Fact):jB a b=cmpL (a.Rel::a.Values) (b.Rel::b.Values):=rfl
theorem Wm{a b:Fact}:jB a b=0↔a=b:=by
 rw[IY,acE]
 constructor
 · intro h; cases a; cases b; simp at h; simp[h]
 · rintro rfl; rfl
theorem ajW{a b:Fact}:0<jB a b↔jB b a<0:=by rw[IY,IY,acF]
theorem aa3{a b c:Fact}:jB a b<0->jB b c<0->jB a c<0:=by
 rw[IY,IY,IY]; exact ab_
def uF(a b:Fact):Prop:=jB a b<0
theorem acG{l:List Fact}{f:Fact}:zR l f=true↔f∈l:=by
 simp only[zR,List.any_eq_true,beq_iff_eq,Wm]
 constructor
 · rintro⟨x,h,rfl⟩; exact h
 · intro h; exact⟨f,h,rfl⟩
theorem Xb{f y:Fact}:∀{l:List Fact},y∈nQ f l↔y=f\/y∈l
 |[]=>by simp[nQ]
 |x::l=>by
   unfold nQ
   split
   · simp
   · rw[List.mem_cons,Xb,List.mem_cons]
     constructor<;>rintro (h|h|h)<;>simp[h]
theorem ac7{f:Fact}:∀{l:List Fact},l.Pairwise uF->f∉l->(nQ f l).Pairwise uF
 |[],_,_=>by simp[nQ]
 |x::l,h,hn=>by
   unfold nQ
   rw[List.mem_cons,not_or]at hn
   rw[List.pairwise_cons]at h
   split
   · rename_i hx
     have hx':=ajW.1 hx
     rw[List.pairwise_cons,List.pairwise_cons]
     refine⟨fun a ha=>?_,h⟩
     rcases List.mem_cons.1 ha with rfl|ha
     · exact hx'
     · exact aa3 hx' (h.1 a ha)
   · rename_i hx
     rw[List.pairwise_cons]
     refine⟨fun a ha=>?_,ac7 h.2 hn.2⟩
     rcases Xb.1 ha with rfl|ha
     · have:jB x a≠0:=fun e=>hn.1 (Wm.1 e).symm
       show jB x a<0
       omega
     · exact h.1 a ha
theorem amk{l:List Fact}{f y:Fact}:y∈kw l f↔y=f\/y∈l:=by
 unfold kw
 split
 · rename_i h
   rw[acG]at h
   exact⟨.inr,fun h'=>h'.elim (fun e=>e ▸ h) id⟩
 · exact Xb
theorem am3{l:List Fact}{f:Fact}(h:l.Pairwise uF):(kw l f).Pairwise uF:=by
 unfold kw
 split
 · exact h
 · rename_i hn
   exact ac7 h fun hm=>hn (acG.2 hm)
theorem anS{v:List Int}(h:v.Pairwise (· < ·))(lo:Int)(n:Nat)(hb:∀x∈v,lo<=x/\x<lo+n):v.length<=n:=by
 induction v generalizing lo n with
 |nil=>simp
 |cons x v ih=>
   rw[List.pairwise_cons]at h
   have hx:=hb x (by simp)
   have:=ih h.2 (x+1) (n-(x+1-lo).toNat) (fun y hy=>by
     have a:=h.1 y hy
     have b:=hb y (by simp[hy])
     omega)
   simp only[List.length_cons]; omega
theorem Wq(n:Int):EL n=some (aT 0 9 n):=rfl
theorem aar(a b:List Int)(h:a.length+b.length<4294967296):Ht [a,b]=some (a++b):=by
 unfold Ht AX
 rw[fU (by omega) (by omega),if_neg (by simp only[decide_eq_true_eq]; omega),Option.bind_some]
 dsimp only
 unfold AX
 rw[fU (by omega) (by omega),if_neg (by simp only[decide_eq_true_eq]; omega),Option.bind_some]
 dsimp only
 unfold AX Rm
 rw[if_pos (by omega),Option.bind_some]
 unfold Dy
 rw[mW (by omega),Option.bind_some]
 unfold Dy
 rw[o5 (by omega),Option.bind_some]
 rfl
theorem Xc:∀{g fs:List Fact},(g.foldl kw fs).length<=fs.length+g.length
 |[],_=>by simp
 |x::g,fs=>by
   rw[List.foldl_cons]
   have h1:=Xc (g:=g) (fs:=kw fs x)
   have h2:=SS fs x
   simp only[List.length_cons]; omega
theorem IZ(t:Int):w_ t=some (aT 10 17 t):=rfl
theorem MI(t:Int):yX t=some (aT 10 17 t):=rfl
def lG(t:Int):Bool:=aT 0 9 t||aT 10 17 t
theorem ab2(t:Int):ET t=some (lG t):=by
 rw[ET,kz,Option.bind_some,IZ,lG]
 cases aT 0 9 t<;>rfl
theorem ali(t:Int):Ns t=some (lG t):=by
 rw[Ns,Wq,Option.bind_some,MI,lG]
 cases aT 0 9 t<;>rfl
theorem abo(l:List Int):IV l=some (l.all lG):=by
 unfold IV Q_ Ri
 rw[nC (L:=Hl) (f:=Lv) (p:=fun x=>!lG x) (fun k=>rfl) (fun x r k=>rfl) l 0 (fun x _=>by rw[Lv,ali]; rfl),Option.bind_some,oZ,Option.bind_some]
 simp[List.all_eq_not_any_not]
def o7(s:List Int)(a:Atom):Bool:=iY s a.Rel&&(((a.Terms.length:Int)==j_ s a.Rel)&&a.Terms.all lG)
theorem alj(s:List Int)(a:Atom)(hs:s.length<4294967296):Nl s a=some (o7 s a):=by
 have hL:Ew a.Terms 0=some (a.Terms.all lG):=by
   have:=yK (L:=Ew) (f:=ET) (p:=lG) (e:=true) (fun k=>rfl) (fun x r k=>rfl) a.Terms 0 (fun x _=>ab2 x)
   rw[this]; simp
 unfold Nl o7
 rw[yt,Option.bind_some]
 cases h1:jC s
 · simp[iY,h1]
 rw[kz,Option.bind_some,fU (by omega) (by omega)]
 cases h2:aT 0 ((s.length:Int)-1) a.Rel
 · simp[iY,h1,h2]
 have hh:iY s a.Rel=true:=by simp[iY,h1,h2]
 rw[(tT hh).1,hL,hh]
 by_cases e:(a.Terms.length:Int)=j_ s a.Rel
 · simp[e]
 · simp[e]
theorem alk(s:List Int)(a:Atom)(hs:s.length<4294967296):Nt s a=some (o7 s a):=by
 unfold Nt o7
 rw[Sb _ _ hs,Option.bind_some]
 cases hh:iY s a.Rel
 · rfl
 rw[(tT hh).1,abo]
 cases e:((a.Terms.length:Int)==j_ s a.Rel)<;>simp[e]
def fK(p:Int->Bool)(l:List Atom):List Int:=((l.flatMap (·.Terms)).filter p).foldl lW []
def gT(l:List Atom):Nat:=(l.flatMap (·.Terms)).length
theorem Xd{p:Int->Bool}{v l:List Int}:((v.filter p).foldl lW l).length<=l.length+v.length:=by
 have h1:=Xp (v:=v.filter p) (l:=l)
 have h2:=List.length_filter_le p v
 omega
theorem ai'(x:Atom)(hx:x.Terms.length<4294967296):∀(m i:Nat)(c:List Int),i<=x.Terms.length->x.Terms.length-i<m->c.length+(x.Terms.length-i)<4294967295->BJ x m c (i:Int)=some (((x.Terms.drop i).filter (aT 10 17)).foldl lW c):=by
 intro m
 induction m with
 |zero=>intro i c _ h _; omega
 |succ m ih=>
   intro i c hi hm hc
   unfold BJ
   by_cases hlt:i<x.Terms.length
   · rw[if_pos (by simpa using hlt),je,List.getElem?_eq_getElem hlt,Option.bind_some,IZ,Option.bind_some,List.drop_eq_getElem_cons hlt,List.filter_cons]
     cases hp:(aT 10 17) x.Terms[i]
     · rw[if_neg (by simp),Option.bind_some,if_neg (by simp)]
       dsimp only
       rw[show IntKind.i64.wrap ((i:Int)+1)=((i+1:Nat):Int)from by rw[fU (by omega) (by omega)]; rfl,ih (i+1) _ (by omega) (by omega) (by omega)]
     · have:=Tc (l:=c) (x:=x.Terms[i])
       rw[if_pos rfl,Option.bind_some,WU _ _ (by omega),Option.bind_some,Option.bind_some,if_pos rfl]
       dsimp only
       rw[show IntKind.i64.wrap ((i:Int)+1)=((i+1:Nat):Int)from by rw[fU (by omega) (by omega)]; rfl,ih (i+1) _ (by omega) (by omega) (by omega),List.foldl_cons]
   · rw[if_neg (by simpa using hlt),List.drop_eq_nil_of_le (by omega)]; rfl
theorem aa4:∀(l:List Atom)(k:Nat)(c:List Int),c.length+gT l<4294967295->Ev l k c=some (((l.flatMap (·.Terms)).filter (aT 10 17)).foldl lW c)
 |[],k,c,_=>rfl
 |a::l,k,c,h=>by
   simp only[gT,List.flatMap_cons,List.length_append]at h
   have:=Xd (p:=(aT 10 17)) (v:=a.Terms) (l:=c)
   unfold Ev
   have e:BJ a (a.Terms.length+2) c 0=some (((a.Terms.drop 0).filter (aT 10 17)).foldl lW c):=ai' a (by omega) _ 0 c (by omega) (by omega) (by omega)
   rw[show ((a.Terms.length:Int)-0).toNat+2=a.Terms.length+2 by omega,e,Option.bind_some]
   dsimp only
   rw[List.drop_zero,aa4 l _ _ (by simp only[gT]; omega),List.flatMap_cons,List.filter_append,List.foldl_append]
theorem Sc(q:Query)(h:gT q.Atoms<4294967295):BU q=some (fK (aT 10 17) q.Atoms):=by
 rw[BU,aa4 _ _ _ (by simpa using h)]; rfl
theorem ahN(x:Atom)(hx:x.Terms.length<4294967296):∀(m i:Nat)(c:List Int),i<=x.Terms.length->x.Terms.length-i<m->c.length+(x.Terms.length-i)<4294967295->Bd x m c (i:Int)=some (((x.Terms.drop i).filter (aT 0 9)).foldl lW c):=by
 intro m
 induction m with
 |zero=>intro i c _ h _; omega
 |succ m ih=>
   intro i c hi hm hc
   unfold Bd
   by_cases hlt:i<x.Terms.length
   · rw[if_pos (by simpa using hlt),je,List.getElem?_eq_getElem hlt,Option.bind_some,kz,Option.bind_some,List.drop_eq_getElem_cons hlt,List.filter_cons]
     cases hp:(aT 0 9) x.Terms[i]
     · rw[if_neg (by simp),Option.bind_some,if_neg (by simp)]
       dsimp only
       rw[show IntKind.i64.wrap ((i:Int)+1)=((i+1:Nat):Int)from by rw[fU (by omega) (by omega)]; rfl,ih (i+1) _ (by omega) (by omega) (by omega)]
     · have:=Tc (l:=c) (x:=x.Terms[i])
       rw[if_pos rfl,Option.bind_some,WU _ _ (by omega),Option.bind_some,Option.bind_some,if_pos rfl]
       dsimp only
       rw[show IntKind.i64.wrap ((i:Int)+1)=((i+1:Nat):Int)from by rw[fU (by omega) (by omega)]; rfl,ih (i+1) _ (by omega) (by omega) (by omega),List.foldl_cons]
   · rw[if_neg (by simpa using hlt),List.drop_eq_nil_of_le (by omega)]; rfl
theorem aas:∀(l:List Atom)(k:Nat)(c:List Int),c.length+gT l<4294967295->DN l k c=some (((l.flatMap (·.Terms)).filter (aT 0 9)).foldl lW c)
 |[],k,c,_=>rfl
 |a::l,k,c,h=>by
   simp only[gT,List.flatMap_cons,List.length_append]at h
   have:=Xd (p:=(aT 0 9)) (v:=a.Terms) (l:=c)
   unfold DN
   have e:Bd a (a.Terms.length+2) c 0=some (((a.Terms.drop 0).filter (aT 0 9)).foldl lW c):=ahN a (by omega) _ 0 c (by omega) (by omega) (by omega)
   rw[show ((a.Terms.length:Int)-0).toNat+2=a.Terms.length+2 by omega,e,Option.bind_some]
   dsimp only
   rw[List.drop_zero,aas l _ _ (by simp only[gT]; omega),List.flatMap_cons,List.filter_append,List.foldl_append]
theorem aaI(q:Query)(h:gT q.Atoms<4294967295):Ic q=some (fK (aT 0 9) q.Atoms):=by
 rw[Ic,aas _ _ _ (by simpa using h)]; rfl
theorem ahB(l:List Int)(c:List Int)(h:c.length+l.length<4294967296):Ba l 0 c=some (c++l.filter (aT 10 17)):=by
 have:=Xz (L:=Ba) (P:=fun _=>True) (p:=(aT 10 17)) (g:=fun x:Int=>x) (fun _ _=>rfl) (fun x r k c _ hc=>by
   rw[Ba,MI,Option.bind_some]
   cases (aT 10 17) x
   · rw[if_neg (by simp),if_neg (by simp)]; rfl
   · rw[if_pos rfl,app1 hc,if_pos rfl]; rfl) l 0 c (fun _ _=>trivial) h
 rw[this,List.map_id']
theorem aam:∀(l:List Atom)(k:Nat)(c:List Int),c.length+gT l<4294967296->Bb l k c=some (Lib.compact ((c++(l.flatMap (·.Terms)).filter (aT 10 17)).mergeSort fun x y=>decide (x<=y)))
 |[],k,c,_=>by simp[Bb,KL,KJ]
 |a::l,k,c,h=>by
   simp only[gT,List.flatMap_cons,List.length_append]at h
   have:=List.length_filter_le (aT 10 17) a.Terms
   unfold Bb
   rw[ahB a.Terms c (by omega),Option.bind_some]
   dsimp only
   rw[aam l _ _ (by simp only[gT,List.length_append]; omega),List.flatMap_cons,List.filter_append,List.append_assoc]
theorem WJ(q:Query)(h:gT q.Atoms<4294967295):Jj q=some (fK (aT 10 17) q.Atoms):=by
 rw[Jj,Ru,aam _ _ _ (by simp; omega),Option.bind_some,List.nil_append,fK,acD]
theorem ahA(l:List Int)(c:List Int)(h:c.length+l.length<4294967296):AY l 0 c=some (c++l.filter (aT 0 9)):=by
 have:=Xz (L:=AY) (P:=fun _=>True) (p:=(aT 0 9)) (g:=fun x:Int=>x) (fun _ _=>rfl) (fun x r k c _ hc=>by
   rw[AY,Wq,Option.bind_some]
   cases (aT 0 9) x
   · rw[if_neg (by simp),if_neg (by simp)]; rfl
   · rw[if_pos rfl,app1 hc,if_pos rfl]; rfl) l 0 c (fun _ _=>trivial) h
 rw[this,List.map_id']
theorem aak:∀(l:List Atom)(k:Nat)(c:List Int),c.length+gT l<4294967296->AZ l k c=some (Lib.compact ((c++(l.flatMap (·.Terms)).filter (aT 0 9)).mergeSort fun x y=>decide (x<=y)))
 |[],k,c,_=>by simp[AZ,KL,KJ]
 |a::l,k,c,h=>by
   simp only[gT,List.flatMap_cons,List.length_append]at h
   have:=List.length_filter_le (aT 0 9) a.Terms
   unfold AZ
   rw[ahA a.Terms c (by omega),Option.bind_some]
   dsimp only
   rw[aak l _ _ (by simp only[gT,List.length_append]; omega),List.flatMap_cons,List.filter_append,List.append_assoc]
theorem aaJ(q:Query)(h:gT q.Atoms<4294967295):Ie q=some (fK (aT 0 9) q.Atoms):=by
 rw[Ie,Rq,aak _ _ _ (by simp; omega),Option.bind_some,List.nil_append,fK,acD]
theorem aai(l:List Int)(v:Int):Hu l v=some (jN (fun x=>v==x) l 0):=by
 rw[Hu]
 exact nC (L:=Hq v) (f:=fun x=>some (v==x)) (p:=fun x=>v==x) (fun _=>rfl) (fun _ _ _=>rfl) l 0 (fun _ _=>rfl)
theorem Rl(l:List Int)(v:Int):Dz l v=some (decide (v∈l)):=by
 rw[Dz,aai,Option.bind_some,oZ]
 congr 1
 rw[Bool.eq_iff_iff]
 simp
def fw(s:List Int)(q:Query):Bool:=q.Atoms.all (o7 s)&&(q.Head.all (fun t=>decide (t∈fK (aT 10 17) q.Atoms))&&(jC s&&(aT 1 4 (q.Atoms.length:Int)&&decide ((q.Head.length:Int)<=3))))
theorem aiF(s:List Int)(q:Query)(v:List Int):∀(l:List Int)(k:Nat),BB s q v l k=some (l.all (fun t=>decide (t∈v))&&(jC s&&(aT 1 4 (q.Atoms.length:Int)&&decide ((q.Head.length:Int)<=3)))):=by
 intro l
 induction l with
 |nil=>
   intro k
   rw[BB,yt,Option.bind_some,kz]
   cases jC s<;>cases aT 1 4 (q.Atoms.length:Int)<;>rfl
 |cons x l ih=>
   intro k
   rw[BB,MH,Option.bind_some,ih,List.all_cons]
   cases decide (x∈v)<;>rfl
theorem Iy(s:List Int)(q:Query)(hs:s.length<4294967296)(h:gT q.Atoms<4294967295):wR s q=some (fw s q):=by
 have key:∀(l:List Atom)(k:Nat),BC s q l k=some (l.all (o7 s)&&(q.Head.all (fun t=>decide (t∈fK (aT 10 17) q.Atoms))&&(jC s&&(aT 1 4 (q.Atoms.length:Int)&&decide ((q.Head.length:Int)<=3))))):=by
   intro l
   induction l with
   |nil=>
     intro k
     rw[BC,Sc q h,Option.bind_some,aiF]
     simp
   |cons x l ih=>
     intro k
     rw[BC,alj s x hs,Option.bind_some,ih,List.all_cons]
     cases o7 s x<;>rfl
 rw[wR,key]; rfl
theorem LF(s:List Int)(q:Query)(hs:s.length<4294967296)(h:gT q.Atoms<4294967295):yG s q=some (fw s q):=by
 have h1:Kt q.Atoms s=some (q.Atoms.any fun a=>!o7 s a):=by
   unfold Kt Q6
   rw[nC (L:=G8 s) (f:=fun a=>LQ a s) (p:=fun a=>!o7 s a) (fun k=>rfl) (fun x r k=>rfl) q.Atoms 0 (fun x _=>by rw[LQ,alk s x hs]; rfl),Option.bind_some,oZ]
 have h2:Dw q.Head (fK (aT 10 17) q.Atoms)=some (q.Head.any fun t=>!decide (t∈fK (aT 10 17) q.Atoms)):=by
   unfold Dw KD
   rw[nC (L:=Dv _) (f:=fun t=>Ez t (fK (aT 10 17) q.Atoms)) (p:=fun t=>!decide (t∈fK (aT 10 17) q.Atoms)) (fun k=>rfl) (fun x r k=>rfl) q.Head 0 (fun x _=>by rw[Ez,Rl]; rfl),Option.bind_some,oZ]
 unfold yG fw
 rw[Lg,Option.bind_some,qj,Option.bind_some,h1,Option.bind_some,EM,WJ q h,Option.bind_some,h2]
 have e1:(q.Atoms.any fun a=>!o7 s a)=!(q.Atoms.all (o7 s)):=by simp[List.all_eq_not_any_not]
 have e2:(q.Head.any fun t=>!decide (t∈fK (aT 10 17) q.Atoms))=!(q.Head.all fun t=>decide (t∈fK (aT 10 17) q.Atoms)):=by simp[List.all_eq_not_any_not]
 rw[e1,e2]
 cases jC s<;>cases aT 1 4 (q.Atoms.length:Int)<;>cases q.Atoms.all (o7 s)<;>cases decide ((q.Head.length:Int)<=3)<;>cases (q.Head.all fun t=>decide (t∈fK (aT 10 17) q.Atoms))<;>rfl
theorem alm(s:List Int)(l:List Method)(q:Query)(hs:s.length<4294967296)(hl:df om l)(h:gT q.Atoms<4294967295):Nn s l q=some (kW s l&&fw s q):=by
 rw[Nn,Rx s l hs hl,Option.bind_some,Iy s q hs h]
 cases kW s l<;>rfl
theorem ajX(s:List Int)(l:List Method)(q:Query)(hs:s.length<4294967296)(hl:df om l)(h:gT q.Atoms<4294967295):Mv s l q=some (kW s l&&fw s q):=by
 rw[Mv,Ry s l hs hl,Option.bind_some,LF s q hs h]
 cases kW s l<;>rfl
def l_:List Int->List Int->Int->Option Int
 |v::vs,x::xs,t=>if v=t then some x else l_ vs xs t
 |_,_,_=>none
theorem acH(vs:List Int)(t:Int):l_ vs [] t=none:=by cases vs<;>rfl
theorem aiG(b:aY)(t:Int)(hv:b.Vars.length<4294967296):∀(m i:Nat),i<=b.Vars.length->b.Vars.length-i<m->Em b t m (i:Int)=some ((l_ (b.Vars.drop i) (b.Values.drop i) t).getD (-1)):=by
 intro m
 induction m with
 |zero=>intro i _ h; omega
 |succ m ih=>
   intro i hi hm
   unfold Em
   by_cases h1:i<b.Vars.length
   · by_cases h2:i<b.Values.length
     · rw[if_pos (by simp; omega),je,List.getElem?_eq_getElem h1,Option.bind_some,je,List.getElem?_eq_getElem h2,Option.bind_some,List.drop_eq_getElem_cons h1,List.drop_eq_getElem_cons h2,l_]
       by_cases e:b.Vars[i]=t
       · rw[if_pos (by simpa using e),if_pos e]; rfl
       · rw[if_neg (by simpa using e),if_neg e,show IntKind.i64.wrap ((i:Int)+1)=((i+1:Nat):Int)from by rw[fU (by omega) (by omega)]; rfl,ih (i+1) (by omega) (by omega)]
     · rw[if_neg (by simp; omega),List.drop_eq_nil_of_le (show b.Values.length<=i by omega),acH]; rfl
   · rw[if_neg (by simp; omega),List.drop_eq_nil_of_le (by omega)]; rfl
theorem aiH(b:aY)(t:Int)(hv:b.Vars.length<4294967296):∀(m i:Nat),i<=b.Vars.length->b.Vars.length-i<m->En b t m (i:Int)=some (l_ (b.Vars.drop i) (b.Values.drop i) t).isSome:=by
 intro m
 induction m with
 |zero=>intro i _ h; omega
 |succ m ih=>
   intro i hi hm
   unfold En
   by_cases h1:i<b.Vars.length
   · by_cases h2:i<b.Values.length
     · rw[if_pos (by simp; omega),je,List.getElem?_eq_getElem h1,Option.bind_some,List.drop_eq_getElem_cons h1,List.drop_eq_getElem_cons h2,l_]
       by_cases e:b.Vars[i]=t
       · rw[if_pos (by simpa using e),if_pos e]; rfl
       · rw[if_neg (by simpa using e),if_neg e,show IntKind.i64.wrap ((i:Int)+1)=((i+1:Nat):Int)from by rw[fU (by omega) (by omega)]; rfl,ih (i+1) (by omega) (by omega)]
     · rw[if_neg (by simp; omega),List.drop_eq_nil_of_le (show b.Values.length<=i by omega),acH]; rfl
   · rw[if_neg (by simp; omega),List.drop_eq_nil_of_le (by omega)]; rfl
def mP(vs xs:List Int)(t:Int):Int:=if aT 10 17 t then (l_ vs xs t).getD (-1)else t
theorem Ws(b:aY)(t:Int)(hv:b.Vars.length<4294967296):yF b t=some (mP b.Vars b.Values t):=by
 unfold yF mP
 rw[IZ,Option.bind_some]
 cases aT 10 17 t
 · simp
 · rw[if_neg (by simp),if_pos rfl,show ((b.Vars.length:Int)-0).toNat+2=b.Vars.length+2 by omega,show (0:Int)=((0:Nat):Int)from rfl,aiG b t hv _ 0 (by omega) (by omega)]
   rfl
theorem akG(b:aY)(t:Int)(hv:b.Vars.length<4294967296):I4 b t=some (l_ b.Vars b.Values t).isSome:=by
 unfold I4
 rw[show ((b.Vars.length:Int)-0).toNat+2=b.Vars.length+2 by omega,show (0:Int)=((0:Nat):Int)from rfl,aiH b t hv _ 0 (by omega) (by omega)]
 rfl
theorem Xq(t:Int):∀(vs xs:List Int)(k:Nat),vs.length=xs.length->(jN (fun x=>t==x) vs k= -1/\l_ vs xs t=none)\/ ∃j:Nat,j<vs.length/\jN (fun x=>t==x) vs k=((k+j:Nat):Int)/\ ∃y,xs[j]?=some y/\l_ vs xs t=some y
 |[],xs,k,_=>.inl ⟨rfl,rfl⟩
 |v::vs,[],k,h=>by simp at h
 |v::vs,x::xs,k,h=>by
   unfold jN l_
   by_cases e:v=t
   · subst e
     rw[if_pos (by simp),if_pos rfl]
     exact .inr ⟨0,by simp,by simp,x,rfl,rfl⟩
   · rw[if_neg (by simp; exact fun h=>e h.symm),if_neg e]
     rcases Xq t vs xs (k+1) (by simpa using h)with⟨h1,h2⟩|⟨j,h1,h2,y,h3,h4⟩
     · exact .inl ⟨h1,h2⟩
     · exact .inr ⟨j+1,by simp; omega,by rw[h2]; congr 1; omega,y,by simpa using h3,h4⟩
theorem ab'(b:aY)(t:Int)(h:b.Vars.length=b.Values.length):DZ b t=some (jN (fun x=>t==x) b.Vars 0):=by
 unfold DZ
 rw[if_neg (by omega),jT,if_pos (by simp),Option.bind_some,aai,Option.bind_some]
 congr 2
 rw[show ((b.Vars.length:Int)).toNat=b.Vars.length by omega,List.take_length]
theorem RU(b:aY)(t:Int)(h:b.Vars.length=b.Values.length):wS b t=some (mP b.Vars b.Values t):=by
 unfold wS mP
 rw[MI,Option.bind_some]
 cases aT 10 17 t
 · simp
 · rw[if_neg (by simp),if_pos rfl,ab' b t h,Option.bind_some]
   rcases Xq t b.Vars b.Values 0 h with⟨h1,h2⟩|⟨j,h1,h2,y,h3,h4⟩
   · rw[h1,h2,if_pos (by decide)]; rfl
   · rw[h2,h4,if_neg (by simp),Nat.zero_add,je,h3]; rfl
theorem acI{t x:Int}:∀{vs xs:List Int},vs.length=xs.length->l_ vs xs t=none->l_ (vs++[t]) (xs++[x]) t=some x
 |[],[],_,_=>by simp[l_]
 |v::vs,[],h,_=>by simp at h
 |[],x::xs,h,_=>by simp at h
 |v::vs,y::xs,h,hn=>by
   unfold l_ at hn
   split at hn
   · simp at hn
   · rename_i e
     rw[List.cons_append,List.cons_append,l_,if_neg e]
     exact acI (by simpa using h) hn
def xg(fv:List Int):List Int->Nat->List Int->List Int->Option (List Int×List Int)
 |[],_,vs,xs=>some (vs,xs)
 |t::r,k,vs,xs=>
   if aT 10 17 t&&!(l_ vs xs t).isSome then xg fv r (k+1) (vs++[t]) (xs++[fv[k]?.getD 0])
   else if mP vs xs t !=fv[k]?.getD 0 then none else xg fv r (k+1) vs xs
def Da:Option (List Int×List Int)->aY×Bool
 |some p=>({Vars:=p.1,Values:=p.2},true)
 |none=>({Vars:=[],Values:=[]},false)
theorem VW(f:Fact):∀(l:List Int)(k:Nat)(vs xs:List Int),k+l.length<=f.Values.length->vs.length=xs.length->vs.length+l.length<4294967295->D7 f l k vs xs=some (Da (xg f.Values l k vs xs))
 |[],k,vs,xs,_,_,_=>rfl
 |t::l,k,vs,xs,hk,he,hb=>by
   simp only[List.length_cons]at hk hb
   have hlt:k<f.Values.length:=by omega
   have e1:yF {Vars:=vs,Values:=xs} t=some (mP vs xs t):=Ws _ _ (by show vs.length<_; omega)
   have e2:I4 {Vars:=vs,Values:=xs} t=some (l_ vs xs t).isSome:=akG _ _ (by show vs.length<_; omega)
   have e3:BV {Vars:=vs,Values:=xs} t f.Values[k]=some {Vars:=vs++[t],Values:=xs++[f.Values[k]]}:=by
     simp only[BV]
     rw[mW (by omega),Option.bind_some,o5 (by simp; omega),Option.bind_some,mW (by omega),Option.bind_some,o5 (by simp; omega),Option.bind_some]
   have ih1:=VW f l (k+1) vs xs (by omega) he (by omega)
   have ih2:=VW f l (k+1) (vs++[t]) (xs++[f.Values[k]]) (by omega) (by simp[he]) (by simp; omega)
   unfold D7 xg
   rw[e1,Option.bind_some,IZ,Option.bind_some,e2,je,List.getElem?_eq_getElem hlt]
   rcases Bool.eq_false_or_eq_true (aT 10 17 t)with h1|h1<;>rcases Bool.eq_false_or_eq_true (l_ vs xs t).isSome with h3|h3<;>by_cases h2:mP vs xs t=f.Values[k]<;>simp[h1,h2,h3,e3,ih1,ih2]<;>rfl
theorem VX(f:Fact):∀(l:List Int)(k:Nat)(vs xs:List Int),k+l.length<=f.Values.length->vs.length=xs.length->vs.length+l.length<4294967295->Ed f l k vs xs=some (Da (xg f.Values l k vs xs))
 |[],k,vs,xs,_,_,_=>rfl
 |t::l,k,vs,xs,hk,he,hb=>by
   simp only[List.length_cons]at hk hb
   have hlt:k<f.Values.length:=by omega
   have hd:(decide (jN (fun x=>t==x) vs 0<0))=!(l_ vs xs t).isSome:=by
     rcases Xq t vs xs 0 he with⟨h1,h2⟩|⟨j,h1,h2,y,h3,h4⟩
     · rw[h1,h2]; rfl
     · rw[h2,h4]; simp
   have e1:wS {Vars:=vs,Values:=xs} t=some (mP vs xs t):=RU _ t he
   have e2:DZ {Vars:=vs,Values:=xs} t=some (jN (fun x=>t==x) vs 0):=ab' _ t he
   have e4:app vs [t]=some (vs++[t]):=o5 (by simp; omega)
   have e5:app xs [f.Values[k]]=some (xs++[f.Values[k]]):=o5 (by simp; omega)
   have e6:wS {Vars:=vs++[t],Values:=xs++[f.Values[k]]} t=some (mP (vs++[t]) (xs++[f.Values[k]]) t):=RU _ t (by simp[he])
   have ih1:=VX f l (k+1) vs xs (by omega) he (by omega)
   have ih2:=VX f l (k+1) (vs++[t]) (xs++[f.Values[k]]) (by omega) (by simp[he]) (by simp; omega)
   unfold Ed xg
   rw[MI,Option.bind_some,e2,je,List.getElem?_eq_getElem hlt]
   by_cases h3:(l_ vs xs t).isSome=true
   · rcases Bool.eq_false_or_eq_true (aT 10 17 t)with h1|h1<;>by_cases h2:mP vs xs t=f.Values[k]<;>simp[h1,h2,h3,hd,e1,ih1]<;>rfl
   · have hn:l_ vs xs t=none:=by simpa using h3
     by_cases h1:aT 10 17 t=true
     · have hv:mP (vs++[t]) (xs++[f.Values[k]]) t=f.Values[k]:=by rw[mP,h1,if_pos rfl,acI he hn]; rfl
       simp[h1,hn,hd,e4,e5,e6,hv,ih2]
     · rw[Bool.not_eq_true]at h1
       by_cases h2:mP vs xs t=f.Values[k]<;>simp[h1,h2,hn,hd,e1,ih1]<;>rfl
def Cn(b:aY)(a:Atom)(f:Fact):Option (List Int×List Int):=
 if (a.Rel !=f.Rel)||(((a.Terms.length:Int)!=(f.Values.length:Int))||((b.Vars.length:Int)!=(b.Values.length:Int)))then none else xg f.Values a.Terms 0 b.Vars b.Values
def qZ(n:Nat)(b:aY):Prop:=b.Vars.length=b.Values.length/\b.Vars.length<=n
theorem aja(b:aY)(a:Atom)(f:Fact){n:Nat}(hb:qZ n b)(hn:n+a.Terms.length<4294967295):LK b a f=some (Da (Cn b a f)):=by
 unfold LK Cn
 rw[Jg,mW (by have:=hb.2; omega),Option.bind_some,mW (by have:=hb.1; have:=hb.2; omega),Option.bind_some,Option.bind_some]
 dsimp only
 split
 · rfl
 · rename_i h
   simp only[Bool.or_eq_true,bne_iff_ne,ne_eq,not_or,Decidable.not_not]at h
   exact VW f a.Terms 0 _ _ (by omega) hb.1 (by have:=hb.2; show b.Vars.length+_<_; omega)
theorem ajb(b:aY)(a:Atom)(f:Fact){n:Nat}(hb:qZ n b)(hn:n+a.Terms.length<4294967295):LW b a f=some (Da (Cn b a f)):=by
 unfold LW Cn
 split
 · rfl
 · rename_i h
   simp only[Bool.or_eq_true,bne_iff_ne,ne_eq,not_or,Decidable.not_not]at h
   rw[RG,KI _ (by have:=hb.2; omega),Option.bind_some,KI _ (by have:=hb.1; have:=hb.2; omega),Option.bind_some,Option.bind_some]
   exact VX f a.Terms 0 _ _ (by omega) hb.1 (by have:=hb.2; show b.Vars.length+_<_; omega)
def qM(a:Atom)(facts:List Fact)(b:aY):List aY:=facts.filterMap fun f=>(Cn b a f).map fun p=>({Vars:=p.1,Values:=p.2}:aY)
theorem Te(a:Atom)(facts:List Fact)(b:aY):(qM a facts b).length<=facts.length:=List.length_filterMap_le ..
theorem VZ(a:Atom)(b:aY){n:Nat}(hb:qZ n b)(hn:n+a.Terms.length<4294967295):∀(l:List Fact)(k:Nat)(c:List aY),c.length+l.length<4294967296->Br a b l k c=some (c++qM a l b)
 |[],k,c,_=>by simp[Br,qM]
 |f::l,k,c,h=>by
   simp only[List.length_cons]at h
   unfold Br
   rw[aja b a f hb hn,Option.bind_some,qM,List.filterMap_cons]
   cases hp:Cn b a f with
   |none=>
     simp only[Da,Bool.false_eq_true,if_false,Option.bind_some,Option.map_none]
     rw[VZ a b hb hn l _ _ (by omega)]; rfl
   |some p=>
     simp only[Da,eq_self,if_true,Option.map_some]
     rw[app1 (by omega),Option.bind_some,Option.bind_some]
     rw[VZ a b hb hn l _ _ (by simp; omega),List.append_assoc]; rfl
theorem aaK(a:Atom)(facts:List Fact){n:Nat}(hn:n+a.Terms.length<4294967295):∀(l:List aY)(k:Nat)(c:List aY),(∀b∈l,qZ n b)->c.length+l.length*facts.length<4294967296->Bt a facts l k c=some (c++l.flatMap (qM a facts))
 |[],k,c,_,_=>by simp[Bt]
 |b::l,k,c,hb,h=>by
   simp only[List.length_cons,Nat.succ_mul]at h
   have:=Te a facts b
   unfold Bt
   rw[VZ a b (hb b (by simp)) hn facts 0 c (by omega),Option.bind_some]
   dsimp only
   rw[aaK a facts hn l _ _ (fun x hx=>hb x (by simp[hx])) (by simp; omega),List.flatMap_cons,List.append_assoc]
theorem V3(a:Atom)(b:aY){n:Nat}(hb:qZ n b)(hn:n+a.Terms.length<4294967295):∀(l:List Fact)(k:Nat)(c:List aY),c.length+l.length<4294967296->Bv a b l k c=some (c++qM a l b)
 |[],k,c,_=>by simp[Bv,qM]
 |f::l,k,c,h=>by
   simp only[List.length_cons]at h
   unfold Bv
   rw[ajb b a f hb hn,Option.bind_some,qM,List.filterMap_cons]
   cases hp:Cn b a f with
   |none=>
     simp only[Da,Bool.false_eq_true,if_false,Option.bind_some,Option.map_none]
     rw[V3 a b hb hn l _ _ (by omega)]; rfl
   |some p=>
     simp only[Da,eq_self,if_true,Option.map_some]
     rw[app1 (by omega),Option.bind_some,Option.bind_some]
     rw[V3 a b hb hn l _ _ (by simp; omega),List.append_assoc]; rfl
theorem aaL(a:Atom)(facts:List Fact){n:Nat}(hn:n+a.Terms.length<4294967295):∀(l:List aY)(k:Nat)(c:List aY),(∀b∈l,qZ n b)->c.length+l.length*facts.length<4294967296->Bw a facts l k c=some (c++l.flatMap (qM a facts))
 |[],k,c,_,_=>by simp[Bw]
 |b::l,k,c,hb,h=>by
   simp only[List.length_cons,Nat.succ_mul]at h
   have:=Te a facts b
   unfold Bw
   rw[V3 a b (hb b (by simp)) hn facts 0 c (by omega),Option.bind_some]
   dsimp only
   rw[aaL a facts hn l _ _ (fun x hx=>hb x (by simp[hx])) (by simp; omega),List.flatMap_cons,List.append_assoc]
theorem WK{fv:List Int}:∀{l:List Int}{k:Nat}{vs xs:List Int}{p:List Int×List Int},xg fv l k vs xs=some p->vs.length=xs.length->p.1.length=p.2.length/\p.1.length<=vs.length+l.length
 |[],k,vs,xs,p,h,he=>by
   simp only[xg,Option.some.injEq]at h
   subst h; exact⟨he,by simp⟩
 |t::l,k,vs,xs,p,h,he=>by
   unfold xg at h
   split at h
   · have:=WK h (by simp[he])
     simp only[List.length_append,List.length_cons,List.length_nil]at this ⊢
     exact⟨this.1,by omega⟩
   · split at h
     · simp at h
     · have:=WK h he
       simp only[List.length_cons]
       exact⟨this.1,by omega⟩
theorem XG{a:Atom}{facts:List Fact}{b x:aY}{n:Nat}(hb:qZ n b)(h:x∈qM a facts b):qZ (n+a.Terms.length) x:=by
 simp only[qM,List.mem_filterMap,Option.map_eq_some_iff]at h
 obtain⟨f,-,p,hp,rfl⟩:=h
 unfold Cn at hp
 split at hp
 · simp at hp
 · have:=WK hp hb.1
   exact⟨this.1,by show p.1.length<=_; have:=hb.2; omega⟩
def Fq(facts:List Fact):List Atom->List aY->List aY
 |[],l=>l
 |a::r,l=>Fq facts r (l.flatMap (qM a facts))
theorem XH{α β:Type}(f:α->List β)(c:Nat)(hf:∀x,(f x).length<=c):∀l:List α,(l.flatMap f).length<=l.length*c
 |[]=>by simp
 |x::l=>by
   have h1:=hf x
   have h2:=XH f c hf l
   rw[List.flatMap_cons,List.length_append,List.length_cons,Nat.succ_mul]; omega
theorem aaC(facts:List Fact)(hf:facts.length<=24):∀(l:List Atom)(k n:Nat)(c:List aY),l.length<=4->(∀a∈l,a.Terms.length<=3)->(∀b∈c,qZ n b)->n+3*l.length<=1000->c.length*24 ^ l.length<=24 ^ 4->DY facts l k c=some (Fq facts l c)
 |[],k,n,c,_,_,_,_,_=>rfl
 |a::l,k,n,c,hl,ha,hb,hn,hc=>by
   have QZ:=ha a (by simp)
   rw[List.length_cons,Nat.pow_succ,Nat.mul_comm (24 ^ l.length) 24,←Nat.mul_assoc]at hc
   have hp:0<24 ^ l.length:=Nat.pow_pos (by omega)
   have h1:c.length*24<=24 ^ 4:=Nat.le_trans (Nat.le_mul_of_pos_right _ hp) hc
   have h2:c.length*facts.length<=c.length*24:=Nat.mul_le_mul_left _ hf
   have h3:=XH (qM a facts) 24 (fun b=>Nat.le_trans (Te a facts b) hf) c
   unfold DY Fq
   rw[Sk,aaK a facts (n:=n) (by simp at hn; omega) c 0 [] hb (by simp; omega),Option.bind_some,List.nil_append]
   exact aaC facts hf l (k+1) (n+a.Terms.length) _ (by simp at hl; omega) (fun x hx=>ha x (by simp[hx])) (fun x hx=>by
     obtain⟨b,hb1,hb2⟩:=List.mem_flatMap.1 hx
     exact XG (hb b hb1) hb2) (by simp at hn; omega) (Nat.le_trans (Nat.mul_le_mul_right _ h3) hc)
theorem aaD(facts:List Fact)(hf:facts.length<=24):∀(l:List Atom)(k n:Nat)(c:List aY),l.length<=4->(∀a∈l,a.Terms.length<=3)->(∀b∈c,qZ n b)->n+3*l.length<=1000->c.length*24 ^ l.length<=24 ^ 4->D5 facts l k c=some (Fq facts l c)
 |[],k,n,c,_,_,_,_,_=>rfl
 |a::l,k,n,c,hl,ha,hb,hn,hc=>by
   have QZ:=ha a (by simp)
   rw[List.length_cons,Nat.pow_succ,Nat.mul_comm (24 ^ l.length) 24,←Nat.mul_assoc]at hc
   have hp:0<24 ^ l.length:=Nat.pow_pos (by omega)
   have h1:c.length*24<=24 ^ 4:=Nat.le_trans (Nat.le_mul_of_pos_right _ hp) hc
   have h2:c.length*facts.length<=c.length*24:=Nat.mul_le_mul_left _ hf
   have h3:=XH (qM a facts) 24 (fun b=>Nat.le_trans (Te a facts b) hf) c
   unfold D5 Fq
   rw[Sl,aaL a facts (n:=n) (by simp at hn; omega) c 0 [] hb (by simp; omega),Option.bind_some,List.nil_append]
   exact aaD facts hf l (k+1) (n+a.Terms.length) _ (by simp at hl; omega) (fun x hx=>ha x (by simp[hx])) (fun x hx=>by
     obtain⟨b,hb1,hb2⟩:=List.mem_flatMap.1 hx
     exact XG (hb b hb1) hb2) (by simp at hn; omega) (Nat.le_trans (Nat.mul_le_mul_right _ h3) hc)
theorem l7{s:List Int}{q:Query}(h:fw s q=true):q.Atoms.length<=4/\(∀a∈q.Atoms,a.Terms.length<=3)/\q.Head.length<=3:=by
 simp only[fw,Bool.and_eq_true,List.all_eq_true,decide_eq_true_eq]at h
 obtain⟨h1,-,-,h2,h3⟩:=h
 simp only[aT,Bool.and_eq_true,decide_eq_true_eq]at h2
 refine⟨by omega,fun a ha=>?_,by omega⟩
 have:=h1 a ha
 simp only[o7,Bool.and_eq_true,beq_iff_eq]at this
 have h4:=tT this.1
 omega
def Jm(q:Query)(facts:List Fact):List aY:=Fq facts q.Atoms [{Vars:=[],Values:=[]}]
theorem aiI{s:List Int}{q:Query}{facts:List Fact}(hq:fw s q=true)(hf:facts.length<=24):Lr q facts=some (Jm q facts):=by
 obtain⟨h1,h2,-⟩:=l7 hq
 rw[Lr,aaC facts hf q.Atoms 0 0 _ h1 h2 (fun b hb=>by simp at hb; subst hb; exact⟨rfl,by simp⟩) (by omega) (by
   simp only[List.length_cons,List.length_nil,Nat.zero_add,Nat.one_mul]
   exact Nat.pow_le_pow_right (by omega) h1)]
 rfl
theorem aiJ{s:List Int}{q:Query}{facts:List Fact}(hq:fw s q=true)(hf:facts.length<=24):LA q facts=some (Jm q facts):=by
 obtain⟨h1,h2,-⟩:=l7 hq
 rw[LA,aaD facts hf q.Atoms 0 0 _ h1 h2 (fun b hb=>by simp at hb; subst hb; exact⟨rfl,by simp⟩) (by omega) (by
   simp only[List.length_cons,List.length_nil,Nat.zero_add,Nat.one_mul]
   exact Nat.pow_le_pow_right (by omega) h1)]
 rfl
theorem acJ{facts:List Fact}:∀{l:List Atom}{n:Nat}{c:List aY},(∀b∈c,qZ n b)-> ∀b∈Fq facts l c,qZ (n+gT l) b
 |[],n,c,h,b,hb=>by simpa[gT]using h b hb
 |a::l,n,c,h,b,hb=>by
   have:=acJ (l:=l) (n:=n+a.Terms.length) (c:=c.flatMap (qM a facts)) (fun x hx=>by
     obtain⟨b,hb1,hb2⟩:=List.mem_flatMap.1 hx
     exact XG (h b hb1) hb2) b hb
   have e:n+gT (a::l)=n+a.Terms.length+gT l:=by simp only[gT,List.flatMap_cons,List.length_append]; omega
   rw[e]; exact this
theorem qo:∀{l:List Atom},(∀a∈l,a.Terms.length<=3)->gT l<=3*l.length
 |[],_=>by simp[gT]
 |a::l,h=>by
   have h1:=h a (by simp)
   have h2:=qo (l:=l) fun x hx=>h x (by simp[hx])
   simp only[gT,List.flatMap_cons,List.length_append,List.length_cons]at*; omega
theorem ab3{s:List Int}{q:Query}{facts:List Fact}(hq:fw s q=true):∀b∈Jm q facts,qZ 12 b:=fun b hb=>by
 obtain⟨h1,h2,-⟩:=l7 hq
 have h3:=qo h2
 have:=acJ (n:=0) (fun b hb=>by simp at hb; subst hb; exact⟨rfl,by simp⟩) b hb
 exact⟨this.1,by have:=this.2; omega⟩
def rA(q:Query)(b:aY):List Int:=q.Head.map (mP b.Vars b.Values)
theorem aaU(b:aY)(hb:b.Vars.length=b.Values.length):∀(l:List Int)(k:Nat)(c:List Int),c.length+l.length<4294967296->BG b l k c=some (c++l.map (mP b.Vars b.Values))
 |[],k,c,_=>by simp[BG]
 |t::l,k,c,h=>by
   simp only[List.length_cons]at h
   rw[BG,RU b t hb,Option.bind_some,app1 (by omega),Option.bind_some,aaU b hb l _ _ (by simp; omega),List.map_cons,List.append_assoc]
   rfl
theorem abB(q:Query)(b:aY)(hb:b.Vars.length=b.Values.length)(hq:q.Head.length<=3):I6 q b=some (rA q b):=by
 rw[I6,aaU b hb _ _ _ (by simp; omega),List.nil_append]; rfl
theorem ac8:∀l:List Atom,gT l<=jh BZ l
 |[]=>by simp[gT]
 |a::l=>by
   have:=ac8 l
   simp only[gT,List.flatMap_cons,List.length_append,jh,List.map_cons,List.sum_cons,List.length_cons,BZ]at*; omega
theorem aml(q:Query)(h:M6 q<4294967296):ac3 q:=by
 unfold M6 at h
 exact⟨uN _ (by omega),Cj (f:=BZ) (fun x hx=>uN _ hx) _ (by omega)⟩
theorem aln{p:Int->Bool}{l:List Atom}:(fK p l).length<=gT l:=by
 have:=Xd (p:=p) (v:=l.flatMap (·.Terms)) (l:=[])
 simpa[fK,gT]using this
theorem XI{a:Fact}:¬ uF a a:=by
 unfold uF; rw[Wm.2 rfl]; decide
theorem anT{a b:Fact}(h1:uF a b)(h2:uF b a):False:=XI (aa3 h1 h2)
theorem aea:∀{a b:List Fact},a.Pairwise uF->b.Pairwise uF->(∀x,x∈a↔x∈b)->a=b
 |[],[],_,_,_=>rfl
 |[],y::b,_,_,h=>absurd ((h y).2 (by simp)) (by simp)
 |x::a,[],_,_,h=>absurd ((h x).1 (by simp)) (by simp)
 |x::a,y::b,ha,hb,h=>by
   rw[List.pairwise_cons]at ha hb
   have e:x=y:=by
     have h1:=(h x).1 (by simp)
     have h2:=(h y).2 (by simp)
     rw[List.mem_cons]at h1 h2
     rcases h1 with h1|h1
     · exact h1
     · rcases h2 with h2|h2
       · exact h2.symm
       · exact (anT (hb.1 x h1) (ha.1 y h2)).elim
   subst e
   rw[aea ha.2 hb.2 fun z=>?_]
   constructor
   · intro hz
     have h1:=(h z).1 (by simp[hz])
     rcases List.mem_cons.1 h1 with rfl|h1
     · exact (XI (ha.1 z hz)).elim
     · exact h1
   · intro hz
     have h1:=(h z).2 (by simp[hz])
     rcases List.mem_cons.1 h1 with rfl|h1
     · exact (XI (hb.1 z hz)).elim
     · exact h1
theorem Xe{y:Fact}:∀{l c:List Fact},y∈l.foldl kw c↔y∈c\/y∈l
 |[],c=>by simp
 |x::l,c=>by
   rw[List.foldl_cons,Xe,amk,List.mem_cons]
   constructor
   · rintro ((h|h)|h)
     · exact .inr (.inl h)
     · exact .inl h
     · exact .inr (.inr h)
   · rintro (h|h|h)
     · exact .inl (.inr h)
     · exact .inl (.inl h)
     · exact .inr h
theorem Xr:∀{l c:List Fact},c.Pairwise uF->(l.foldl kw c).Pairwise uF
 |[],_,h=>h
 |x::l,c,h=>by rw[List.foldl_cons]; exact Xr (am3 h)
def GY(a:Atom)(i:Int):Int:=(ix a.Terms i).getD 0
def sj(a:Atom)(b:List Int)(i:Int):Bool:=aT 0 ((a.Terms.length:Int)-1) i&&!(aT 10 17 (GY a i)&&!decide (GY a i∈b))
def vU(m:Method)(a:Atom)(b:List Int):Bool:=m.Rel==a.Rel&&m.Inputs.all (sj a b)
theorem alP{m:Method}{a:Atom}{b b':List Int}(h:∀v,aT 10 17 v=true->(v∈b↔v∈b')):vU m a b=vU m a b':=by
 have e:sj a b=sj a b':=by
   funext i
   unfold sj
   cases hv:aT 10 17 (GY a i)
   · rfl
   · rw[decide_eq_decide.2 (h _ hv)]
 rw[vU,vU,e]
theorem V8(a:Atom)(b:List Int)(ha:a.Terms.length<4294967296):∀(l:List Int)(k:Nat),Eo a b l k=some (l.all (sj a b))
 |[],k=>rfl
 |x::l,k=>by
   rw[Eo,kz,fU (by omega) (by omega),Option.bind_some,List.all_cons,sj]
   cases h:aT 0 ((a.Terms.length:Int)-1) x
   · simp
   · obtain⟨y,e1,-⟩:=TD h
     have e2:GY a x=y:=by rw[GY,e1]; rfl
     rw[if_neg (by simp),e1,Option.bind_some,IZ,Option.bind_some,e2]
     cases aT 10 17 y
     · simpa using V8 a b ha l (k+1)
     · rw[MH]
       by_cases hm:y∈b
       · simpa[hm]using V8 a b ha l (k+1)
       · simp[hm]
theorem akH(m:Method)(a:Atom)(b:List Int)(ha:a.Terms.length<4294967296):MU m a b=some (vU m a b):=by
 rw[MU,V8 a b ha,vU]
 by_cases h:m.Rel=a.Rel
 · simp[h]
 · simp[h]
theorem ajc(a:Atom)(b:List Int)(ha:a.Terms.length<4294967296)(i:Int):IE i a b=some (!sj a b i):=by
 rw[IE,qj,fU (by omega) (by omega),Option.bind_some,sj]
 cases h:aT 0 ((a.Terms.length:Int)-1) i
 · rfl
 · obtain⟨y,e1,-⟩:=TD h
   have e2:GY a i=y:=by rw[GY,e1]; rfl
   simp only[Bool.not_true,cond_false,e1,Option.bind_some,MI,e2]
   cases aT 10 17 y
   · rfl
   · rw[Rl]
     cases decide (y∈b)<;>rfl
theorem akI(m:Method)(a:Atom)(b:List Int)(ha:a.Terms.length<4294967296):MZ m a b=some (vU m a b):=by
 have h1:KC m.Inputs a b=some (m.Inputs.any fun i=>!sj a b i):=by
   unfold KC Rj
   rw[nC (L:=Hm a b) (f:=fun i=>IE i a b) (p:=fun i=>!sj a b i) (fun k=>rfl) (fun x r k=>rfl) m.Inputs 0 (fun x _=>ajc a b ha x),Option.bind_some,oZ]
 rw[MZ,h1,vU]
 have e2:(m.Inputs.any fun i=>!sj a b i)=!(m.Inputs.all (sj a b)):=by simp[List.all_eq_not_any_not]
 rw[e2]
 cases m.Rel==a.Rel<;>cases m.Inputs.all (sj a b)<;>rfl
def jV(m:Method):Method:=if (m.Limit:Int)!=0 then {m with Rel:=-1}else m
theorem ajY(l:List Method)(h:l.length<4294967296):Mj l=some (l.map jV):=by
 have:=Xj (L:=Ei) (P:=fun _=>True) (g:=jV) (fun _ _=>rfl) (fun x r k c _ hc=>by
   rw[Ei,app1 hc,app1 hc,jV]
   split<;>rfl) l 0 [] (fun _ _=>trivial) (by simpa using h)
 simpa[Mj]using this
theorem ah2(l:List Method)(hl:l.length<4294967296):∀(m i:Nat),i<=l.length->l.length-i<m->Ec l m ((l.take i).map jV++l.drop i) (i:Int)=some (l.map jV):=by
 intro m
 induction m with
 |zero=>intro i _ h; omega
 |succ m ih=>
   intro i hi hm
   unfold Ec
   by_cases hlt:i<l.length
   · have hx:((l.take i).map jV++l.drop i)[i]?=some l[i]:=by
       rw[List.getElem?_append_right (by simp; omega)]
       simp[hlt,Nat.min_eq_left hi]
     have ht:l.take (i+1)=l.take i++[l[i]]:=(List.take_append_getElem hlt).symm
     have hs:∀y:Method,y=jV l[i]->((l.take i).map jV++l.drop i).set i y=(l.take (i+1)).map jV++l.drop (i+1):=by
       rintro y rfl
       rw[List.set_append,if_neg (by simp; omega)]
       simp only[List.length_map,List.length_take,Nat.min_eq_left hi,Nat.sub_self]
       rw[List.drop_eq_getElem_cons hlt,List.set_cons_zero,ht,List.map_append,List.append_assoc]
       rfl
     rw[if_pos (by simpa using hlt),je,hx,Option.bind_some,Option.bind_some]
     have hw:IntKind.i64.wrap ((i:Int)+1)=((i+1:Nat):Int):=by rw[fU (by omega) (by omega)]; rfl
     rw[hw]
     have hn:=ih (i+1) (by omega) (by omega)
     by_cases h0:(l[i].Limit:Int)!=0
     · rw[if_pos h0]
       simp only[Option.bind_some,Int.toNat_natCast]
       rw[hs _ (by rw[jV,if_pos h0])]
       exact hn
     · rw[if_neg h0]
       simp only[Option.bind_some]
       have e:(l.take i).map jV++l.drop i=(l.take (i+1)).map jV++l.drop (i+1):=by
         rw[List.drop_eq_getElem_cons hlt,ht,List.map_append,List.append_assoc,List.map_cons,jV,if_neg h0]
         rfl
       rw[e]
       exact hn
   · rw[if_neg (by simpa using hlt),List.drop_eq_nil_of_le (by omega),List.take_of_length_le (by omega),List.append_nil]
theorem ajd(l:List Method)(hl:l.length<4294967296):LU l=some (l.map jV):=by
 rw[LU,Rc,mW hl]
 simp only[Option.bind_some]
 rw[show ((l.length:Int)-0).toNat+2=l.length+2 by omega]
 exact ah2 l hl (l.length+2) 0 (by omega) (by omega)
def pY(b:List Int)(a:Atom):List Int:=(a.Terms.filter (aT 10 17)).foldl lW b
theorem alo(b:List Int)(a:Atom)(h:b.length+a.Terms.length<4294967295):Np b a=some (pY b a):=by
 have key:∀(l:List Int)(k:Nat)(c:List Int),c.length+l.length<4294967295->Ey l k c=some ((l.filter (aT 10 17)).foldl lW c):=by
   intro l
   induction l with
   |nil=>intro k c _; rfl
   |cons x l ih=>
     intro k c hc
     simp only[List.length_cons]at hc
     have:=Tc (l:=c) (x:=x)
     rw[Ey,IZ,Option.bind_some,List.filter_cons]
     cases aT 10 17 x
     · simpa using ih (k+1) c (by omega)
     · rw[if_pos rfl,WU c x (by omega),Option.bind_some,if_pos rfl]
       exact ih (k+1) _ (by omega)
 rw[Np,mW (by omega),Option.bind_some,key _ _ _ (by omega)]; rfl
theorem amm(b:List Int)(a:Atom):(pY b a).length<=b.length+a.Terms.length:=by
 have h1:=Xp (v:=a.Terms.filter (aT 10 17)) (l:=b)
 have h2:=List.length_filter_le (aT 10 17) a.Terms
 unfold pY; omega
theorem amn{b:List Int}{a:Atom}{v:Int}:v∈pY b a↔v∈b\/(v∈a.Terms/\aT 10 17 v=true):=by
 rw[pY,Td,List.mem_filter]
theorem ab4(r:Int)(t:List Int)(h:t.length<4294967296):Je r t=some {Rel:=r,Terms:=t}:=by
 rw[Je,mW h]; rfl
def lL(W:List Int):Nat->Int->Int
 |0,c=>c
 |n+1,c=>if c∈W then lL W n (c+1)else c
theorem ab5{W W':List Int}(h:∀v,v∈W↔v∈W'):∀(n:Nat)(c:Int),lL W n c=lL W' n c
 |0,_=>rfl
 |n+1,c=>by
   rw[lL,lL,ab5 h n]
   by_cases hc:c∈W
   · rw[if_pos hc,if_pos ((h c).1 hc)]
   · rw[if_neg hc,if_neg fun h'=>hc ((h c).2 h')]
theorem Tg{W:List Int}:∀(n:Nat)(c:Int),c<=lL W n c
 |0,c=>Int.le_refl _
 |n+1,c=>by
   rw[lL]; split
   · have:=Tg (W:=W) n (c+1); omega
   · exact Int.le_refl _
theorem Xt{W:List Int}(hW:∀v∈W,v<=9):∀(n:Nat)(c:Int),c<=10->lL W n c<=10
 |0,c,h=>h
 |n+1,c,h=>by
   rw[lL]; split
   · rename_i hc; have:=hW c hc; exact Xt hW n (c+1) (by omega)
   · exact h
theorem aat{W:List Int}(hW:∀v∈W,v<=9):∀(n:Nat)(c:Int),0<=c->c<=10->10<c+n->DT W n c=some (lL W n c)
 |0,c,_,h1,h2=>by omega
 |n+1,c,h0,h1,h2=>by
   rw[DT,MH,Option.bind_some,lL]
   by_cases hc:c∈W
   · have:=hW c hc
     simp only[hc,decide_true,if_true]
     rw[fU (by omega) (by omega)]
     exact aat hW n (c+1) (by omega) (by omega) (by omega)
   · simp[hc]
theorem aa5{W:List Int}(hW:∀v∈W,v<=9):∀(n:Nat)(c:Int),0<=c->c<=10->10<c+n->EA W n c=some (lL W n c)
 |0,c,_,h1,h2=>by omega
 |n+1,c,h0,h1,h2=>by
   rw[EA,Rl,Option.bind_some,lL]
   by_cases hc:c∈W
   · have:=hW c hc
     simp only[hc,decide_true,if_true]
     rw[fU (by omega) (by omega)]
     exact aa5 hW n (c+1) (by omega) (by omega) (by omega)
   · simp[hc]
def sM(W:List Int):List Int->Int->List Int->List Int->Option (List Int×List Int)
 |[],_,vs,xs=>some (vs,xs)
 |t::r,c,vs,xs=>if 9<lL W 20 c then none else sM W r (lL W 20 c+1) (vs++[t]) (xs++[lL W 20 c])
theorem aca{W W':List Int}(h:∀v,v∈W↔v∈W'):∀(l:List Int)(c:Int)(vs xs:List Int),sM W l c vs xs=sM W' l c vs xs
 |[],_,_,_=>rfl
 |t::r,c,vs,xs=>by rw[sM,sM,ab5 h,aca h r]
theorem acK{W:List Int}:∀{l:List Int}{c:Int}{vs xs:List Int}{p:List Int×List Int},0<=c->vs.length=xs.length->(∀x∈xs,0<=x/\x<=9)->sM W l c vs xs=some p->p.1=vs++l/\p.1.length=p.2.length/\ ∀x∈p.2,0<=x/\x<=9
 |[],c,vs,xs,p,_,h1,h2,h=>by
   obtain rfl:=Option.some.inj h
   exact⟨by simp,h1,h2⟩
 |t::r,c,vs,xs,p,h0,h1,h2,h=>by
   rw[sM]at h
   split at h
   · cases h
   · rename_i h9
     have hg:=Tg (W:=W) 20 c
     obtain⟨e1,e2,e3⟩:=acK (by omega) (by simp[h1]) (fun x hx=>by
       rcases List.mem_append.1 hx with hx|hx
       · exact h2 x hx
       · obtain rfl:=List.mem_singleton.1 hx; omega) h
     exact⟨by rw[e1,List.append_assoc]; rfl,e2,e3⟩
def mQ(vs xs:List Int)(a:Atom):Fact:={Rel:=a.Rel,Values:=a.Terms.map (mP vs xs)}
def Aq(W:List Int)(q:Query):Option (List Fact×aY):=(sM W (fK (aT 10 17) q.Atoms) 0 [] []).map fun p=>((q.Atoms.map (mQ p.1 p.2)).foldl kw [],({Vars:=p.1,Values:=p.2}:aY))
def xB:Option (List Fact×aY)->List Fact×aY×Bool
 |none=>([],{Vars:=[],Values:=[]},false)
 |some (f,b)=>(f,b,true)
theorem ahO(vs xs:List Int)(c:List Fact)(a:Atom)(hv:vs.length<100)(ha:a.Terms.length<=3)(hc:c.length<=1000)(hb:df jo c):∀(m i:Nat),i<=a.Terms.length->a.Terms.length-i<m->Be vs xs c a m ((a.Terms.take i).map (mP vs xs)) (i:Int)=some (kw c (mQ vs xs a)):=by
 intro m
 induction m with
 |zero=>intro i _ h; omega
 |succ m ih=>
   intro i hi hm
   unfold Be
   by_cases hlt:i<a.Terms.length
   · have hw:IntKind.i64.wrap ((i:Int)+1)=((i+1:Nat):Int):=by rw[fU (by omega) (by omega)]; rfl
     have e:yF ({Vars:=vs,Values:=xs}:aY) a.Terms[i]=some (mP vs xs a.Terms[i]):=Ws _ _ (by show vs.length<_; omega)
     have ht:a.Terms.take (i+1)=a.Terms.take i++[a.Terms[i]]:=(List.take_append_getElem hlt).symm
     have ih':=ih (i+1) (by omega) (by omega)
     rw[ht,List.map_append,List.map_cons,List.map_nil]at ih'
     rw[if_pos (by simpa using hlt),je,List.getElem?_eq_getElem hlt,Option.bind_some,e,Option.bind_some,app1 (by simp; omega),Option.bind_some,hw,ih']
   · rw[if_neg (by simpa using hlt),List.take_of_length_le (by omega),show ({Rel:=a.Rel,Values:=a.Terms.map (mP vs xs)}:Fact)=mQ vs xs a from rfl,
       akE c _ hb (by omega) (uN _ (by simp[mQ]; omega))]
     rfl
theorem adH{vs xs:List Int}{a:Atom}(ha:a.Terms.length<=3):jo (mQ vs xs a):=uN _ (by simp[mQ]; omega)
theorem am4{c:List Fact}{f:Fact}(hc:c.length<=1000)(hb:df jo c)(hf:jo f):df jo (kw c f):=⟨by have:=SS c f; omega,fun x hx=>by
 rcases amj hx with rfl|hx
 · exact hf
 · exact hb.2 x hx⟩
theorem aau(vs xs:List Int)(hv:vs.length<100):∀(l:List Atom)(k:Nat)(c:List Fact),(∀a∈l,a.Terms.length<=3)->c.length+l.length<=1000->df jo c->DR vs xs l k c=some ((l.map (mQ vs xs)).foldl kw c,({Vars:=vs,Values:=xs}:aY),true)
 |[],k,c,_,_,_=>rfl
 |a::l,k,c,ha,hc,hb=>by
   simp only[List.length_cons]at hc
   have h0:=ha a (by simp)
   have h1:Be vs xs c a (((a.Terms.length:Int)-0).toNat+2) [] 0=some (kw c (mQ vs xs a)):=ahO vs xs c a hv h0 (by omega) hb (((a.Terms.length:Int)-0).toNat+2) 0 (by omega) (by omega)
   rw[DR,h1,Option.bind_some]
   have h2:=SS c (mQ vs xs a)
   exact aau vs xs hv l (k+1) _ (fun x hx=>ha x (by simp[hx])) (by omega) (am4 (by omega) hb (adH h0))
theorem aav(q:Query)(W:List Int)(hW:∀v∈W,v<=9)(ha:∀a∈q.Atoms,a.Terms.length<=3)(h4:q.Atoms.length<=500):∀(l:List Int)(k:Nat)(vs xs:List Int)(c:Int),0<=c->c<=10->vs.length+l.length<100->vs.length=xs.length->Bf q W 20 l k vs xs c=some (xB ((sM W l c vs xs).map fun p=>((q.Atoms.map (mQ p.1 p.2)).foldl kw [],({Vars:=p.1,Values:=p.2}:aY))))
 |[],k,vs,xs,c,_,_,hv,_=>by
   rw[Bf,aau vs xs (by simpa using hv) q.Atoms 0 [] ha (by simp; omega) ann]; rfl
 |t::l,k,vs,xs,c,h0,h1,hv,he=>by
   simp only[List.length_cons]at hv
   have hg:=Tg (W:=W) 20 c
   have hl:=Xt hW 20 c h1
   rw[Bf,aat hW 20 c h0 h1 (by omega),Option.bind_some,sM]
   dsimp only
   by_cases h9:9<lL W 20 c
   · rw[if_pos (by simpa using h9),if_pos h9]; rfl
   · have e:BV ({Vars:=vs,Values:=xs}:aY) t (lL W 20 c)=some ({Vars:=vs++[t],Values:=xs++[lL W 20 c]}:aY):=by
       rw[BV,mW (by show vs.length<_; omega),Option.bind_some,app1 (by show vs.length+1<_; omega),Option.bind_some,mW (by show xs.length<_; omega),Option.bind_some,app1 (by show xs.length+1<_; omega)]; rfl
     rw[if_neg (by simpa using h9),if_neg h9,e,Option.bind_some,Option.bind_some,fU (by omega) (by omega)]
     exact aav q W hW ha h4 l (k+1) (vs++[t]) (xs++[lL W 20 c]) _ (by omega) (by omega) (by simp; omega) (by simp[he])
theorem II{p:Int->Bool}{l:List Atom}{v:Int}:v∈fK p l↔v∈l.flatMap (·.Terms)/\p v=true:=by
 rw[fK,Td,List.mem_filter]; simp
theorem WV{l:List Atom}:∀v∈fK (aT 0 9) l,v<=9:=fun v hv=>by
 have:=(II.1 hv).2
 simp only[aT,Bool.and_eq_true,decide_eq_true_eq]at this
 exact this.2
theorem Wu{p:Int->Bool}{l:List Atom}(ha:∀a∈l,a.Terms.length<=3)(h:l.length<=30):(fK p l).length<=90:=by
 have h1:=aln (p:=p) (l:=l)
 have h2:=qo ha
 omega
theorem aif(q:Query)(ha:∀a∈q.Atoms,a.Terms.length<=3)(h4:q.Atoms.length<=30):K6 20 q=some (xB (Aq (fK (aT 0 9) q.Atoms) q)):=by
 have h2:=qo ha
 have h3:=Wu (p:=aT 10 17) ha h4
 rw[K6,aaI q (by omega),Option.bind_some,Sc q (by omega),Option.bind_some,
   aav q _ WV ha (by omega) _ 0 [] [] 0 (by omega) (by omega) (by simp; omega) rfl]
 rfl
theorem alp(a:Atom)(b:aY)(hb:b.Vars.length=b.Values.length)(ha:a.Terms.length<=3):Jk a b=some (mQ b.Vars b.Values a):=by
 have key:∀(l:List Int)(k:Nat)(c:List Int),c.length+l.length<100->BL a b l k c=some {Rel:=a.Rel,Values:=c++l.map (mP b.Vars b.Values)}:=by
   intro l
   induction l with
   |nil=>intro k c _; simp[BL]
   |cons x r ih=>
     intro k c hc
     simp only[List.length_cons]at hc
     rw[BL,RU b x hb,Option.bind_some,app1 (by omega),Option.bind_some,ih _ _ (by simp; omega),List.append_assoc]; rfl
 rw[Jk,key _ _ _ (by simp; omega)]; rfl
theorem aa6(vs xs:List Int)(he:vs.length=xs.length):∀(l:List Atom)(k:Nat)(c:List Fact),(∀a∈l,a.Terms.length<=3)->c.length+l.length<=1000->EB vs xs l k c=some ((l.map (mQ vs xs)).foldl kw c,({Vars:=vs,Values:=xs}:aY),true)
 |[],k,c,_,_=>rfl
 |a::l,k,c,ha,hc=>by
   simp only[List.length_cons]at hc
   have h0:=ha a (by simp)
   have h1:Jk a ({Vars:=vs,Values:=xs}:aY)=some (mQ vs xs a):=alp a _ he h0
   have h2:=SS c (mQ vs xs a)
   rw[EB,h1,Option.bind_some,alO c _ (by omega) (adH h0),Option.bind_some]
   exact aa6 vs xs he l (k+1) _ (fun x hx=>ha x (by simp[hx])) (by omega)
theorem aje(q:Query)(W R:List Int)(hW:∀v∈W,v<=9)(ha:∀a∈q.Atoms,a.Terms.length<=3)(h4:q.Atoms.length<=500)(hR:R.length<100):∀(m i:Nat)(vs xs:List Int)(c:Int),i<=R.length->R.length-i<m->0<=c->c<=10->vs.length<=i->vs.length=xs.length->EC q W R 20 m vs xs c (i:Int)=some (xB ((sM W (R.drop i) c vs xs).map fun p=>((q.Atoms.map (mQ p.1 p.2)).foldl kw [],({Vars:=p.1,Values:=p.2}:aY)))):=by
 intro m
 induction m with
 |zero=>intro i _ _ _ _ h; omega
 |succ m ih=>
   intro i vs xs c hi hm h0 h1 hv he
   have hg:=Tg (W:=W) 20 c
   have hl:=Xt hW 20 c h1
   unfold EC
   by_cases hlt:i<R.length
   · have hw:IntKind.i64.wrap ((i:Int)+1)=((i+1:Nat):Int):=by rw[fU (by omega) (by omega)]; rfl
     rw[if_pos (by simpa using hlt),je,List.getElem?_eq_getElem hlt,Option.bind_some,aa5 hW 20 c h0 h1 (by omega),Option.bind_some]
     dsimp only
     rw[Wq,Option.bind_some,List.drop_eq_getElem_cons hlt,sM]
     by_cases h9:9<lL W 20 c
     · have e:aT 0 9 (lL W 20 c)=false:=by
         simp only[aT,Bool.and_eq_false_iff,decide_eq_false_iff_not]; omega
       rw[e,if_pos h9]; rfl
     · have e:aT 0 9 (lL W 20 c)=true:=by
         simp only[aT,Bool.and_eq_true,decide_eq_true_eq]; omega
       rw[e,if_neg h9,if_neg (by simp),app1 (by omega),Option.bind_some,app1 (by omega),Option.bind_some,Option.bind_some,fU (by omega) (by omega),hw]
       exact ih (i+1) _ _ _ (by omega) (by omega) (by omega) (by omega) (by simp; omega) (by simp[he])
   · rw[if_neg (by simpa using hlt),aa6 vs xs he q.Atoms 0 [] ha (by simp; omega),List.drop_eq_nil_of_le (by omega)]; rfl
theorem alq(q:Query)(W:List Int)(hW:∀v∈W,v<=9)(ha:∀a∈q.Atoms,a.Terms.length<=3)(h4:q.Atoms.length<=30):Nu 20 q W=some (xB (Aq W q)):=by
 have h2:=qo ha
 have h3:=Wu (p:=aT 10 17) ha h4
 rw[Nu,WJ q (by omega),Option.bind_some]
 exact aje q W _ hW ha (by omega) (by omega) _ 0 [] [] 0 (by omega) (by omega) (by omega) (by omega) (by simp) rfl
theorem akJ{A B:List Fact}(hA:∀f∈A,f.Rel<3)(hB:∀f∈B,f.Rel=3):((A++B).foldl kw []).filter (fun f=>decide ((f.Rel:Int)<3))=A.foldl kw []:=by
 refine aea ((Xr List.Pairwise.nil).filter _) (Xr List.Pairwise.nil) fun x=>?_
 rw[List.mem_filter,Xe,Xe,List.mem_append]
 simp only[List.not_mem_nil,false_or,decide_eq_true_eq]
 constructor
 · rintro⟨h|h,h2⟩
   · exact h
   · have:=hB x h; omega
 · exact fun h=>⟨.inl h,hA x h⟩
theorem ab6(q:Query)(ha:∀a∈q.Atoms,a.Terms.length<=3)(h4:q.Atoms.length<=30)(hh:q.Head.length<=3):Jf q=some q:=by
 have key:∀(l:List Atom)(k:Nat)(c:List Atom),(∀a∈l,a.Terms.length<=3)->c.length+l.length<=100->BK q.Head l k c=some {Head:=q.Head,Atoms:=c++l}:=by
   intro l
   induction l with
   |nil=>intro k c _ _; simp[BK]
   |cons x l ih=>
     intro k c hx hc
     simp only[List.length_cons]at hc
     have h0:=hx x (by simp)
     rw[BK,ab4 _ _ (by omega),Option.bind_some,app1 (by omega),Option.bind_some,ih _ _ (fun a h=>hx a (by simp[h])) (by simp; omega),List.append_assoc]; rfl
 rw[Jf,mW (by omega),Option.bind_some,key _ _ _ ha (by simp; omega)]; rfl
def rF(C:List Int):List Atom:=C.map fun c=>({Rel:=3,Terms:=[c]}:Atom)
theorem aaM(p:Query):∀(l:List Int)(k:Nat)(c:List Atom),c.length+l.length<=100->yn p 20 l k c=yn p 20 [] 0 (c++rF l)
 |[],k,c,_=>by rw[rF,List.map_nil,List.append_nil]; rfl
 |x::l,k,c,h=>by
   simp only[List.length_cons]at h
   conv=>lhs; rw[yn,app1 (by omega),Option.bind_some,aaM p l _ _ (by simp; omega),List.append_assoc]
   rfl
theorem acb(A:List Atom)(C:List Int):(A++rF C).flatMap (·.Terms)=A.flatMap (·.Terms)++C:=by
 rw[List.flatMap_append]
 congr 1
 induction C with
 |nil=>rfl
 |cons x C ih=>rw[rF,List.map_cons,List.flatMap_cons]; rw[rF]at ih; rw[ih]; rfl
theorem amo{A:List Atom}{C:List Int}(hC:∀c∈C,0<=c/\c<=9):fK (aT 10 17) (A++rF C)=fK (aT 10 17) A:=by
 rw[fK,acb,List.filter_append,(List.filter_eq_nil_iff (l:=C)).2 (fun c hc=>by
   have:=hC c hc
   simp only[aT,Bool.and_eq_true,decide_eq_true_eq]; omega),List.append_nil]; rfl
theorem acd{l:List Atom}:∀v∈fK (aT 0 9) l,0<=v/\v<=9:=fun v hv=>by
 have:=(II.1 hv).2
 simpa only[aT,Bool.and_eq_true,decide_eq_true_eq]using this
theorem WL{l:List Atom}:(fK (aT 0 9) l).length<=10:=anS (XE List.Pairwise.nil) 0 10 fun x hx=>by have:=acd x hx; omega
def pW(p q:Query):List Int:=fK (aT 0 9) p.Atoms++fK (aT 0 9) q.Atoms
theorem alQ{s:List Int}{q:Query}(h:fw s q=true):∀a∈q.Atoms,a.Rel<3:=fun a ha=>by
 have hs:jC s=true/\o7 s a=true:=by
   simp only[fw,Bool.and_eq_true]at h
   exact⟨h.2.2.1,List.all_eq_true.1 h.1 a ha⟩
 have h1:=(WI hs.1).1
 have h2:=hs.2
 simp only[o7,iY,aT,Bool.and_eq_true,decide_eq_true_eq]at h2
 omega
theorem ajZ{s:List Int}{p q:Query}(hp:fw s p=true)(hq:fw s q=true):Mi 20 p q=some (xB (Aq (pW p q) p)):=by
 obtain⟨h1,h2,h3⟩:=l7 hp
 obtain⟨g1,g2,g3⟩:=l7 hq
 have e1:=qo g2
 have hC:=acd (l:=q.Atoms)
 have hl:=WL (l:=q.Atoms)
 have hx:∀a∈p.Atoms++rF (fK (aT 0 9) q.Atoms),a.Terms.length<=3:=fun a ha=>by
   rcases List.mem_append.1 ha with ha|ha
   · exact h2 a ha
   · obtain⟨c,-,rfl⟩:=List.mem_map.1 ha; simp
 have hn:(p.Atoms++rF (fK (aT 0 9) q.Atoms)).length<=30:=by
   simp only[List.length_append,rF,List.length_map]; omega
 have hF:=aif {Head:=p.Head,Atoms:=p.Atoms++rF (fK (aT 0 9) q.Atoms)} hx hn
 have hw:∀v,v∈fK (aT 0 9) (p.Atoms++rF (fK (aT 0 9) q.Atoms))↔v∈pW p q:=fun v=>by
   rw[II,acb,pW,List.mem_append,List.mem_append,II,II]
   constructor
   · rintro⟨h|h,hv⟩
     · exact .inl ⟨h,hv⟩
     · exact .inr h
   · rintro (⟨h,hv⟩|h)
     · exact⟨.inl h,hv⟩
     · exact⟨.inr h,h.2⟩
 rw[Mi,ab6 p h2 (by omega) h3,Option.bind_some,aaI q (by omega),Option.bind_some,aaM p _ _ _ (by omega),yn,hF,Option.bind_some]
 rw[Aq,Aq]
 dsimp only
 rw[amo hC,aca hw]
 rcases sM (pW p q) (fK (aT 10 17) p.Atoms) 0 [] []with _|⟨vs,xs⟩
 · rfl
 · simp only[Option.map_some,xB]
   have hA:∀f∈p.Atoms.map (mQ vs xs),f.Rel<3:=fun f hf=>by
     obtain⟨a,ha,rfl⟩:=List.mem_map.1 hf
     exact alQ hp a ha
   have hB:∀f∈(rF (fK (aT 0 9) q.Atoms)).map (mQ vs xs),f.Rel=3:=fun f hf=>by
     obtain⟨a,ha,rfl⟩:=List.mem_map.1 hf
     obtain⟨c,-,rfl⟩:=List.mem_map.1 ha
     rfl
   have hlen:(((p.Atoms++rF (fK (aT 0 9) q.Atoms)).map (mQ vs xs)).foldl kw []).length<=30:=by
     have:=Xc (g:=(p.Atoms++rF (fK (aT 0 9) q.Atoms)).map (mQ vs xs)) (fs:=[])
     simp only[List.length_map,List.length_nil]at this; omega
   have key:∀(r:List Fact×aY×Bool)(l:List Fact)(k:Nat)(c:List Fact),c.length+l.length<=100->Bq r l k c=some (c++l.filter (fun f=>decide ((f.Rel:Int)<3)),r.2.1,r.2.2):=by
     intro r l
     induction l with
     |nil=>intro k c _; simp[Bq]
     |cons x l ih=>
       intro k c hc
       simp only[List.length_cons]at hc
       rw[Bq,app1 (by omega),Option.bind_some,List.filter_cons]
       cases decide ((x.Rel:Int)<3)
       · simp only[Bool.false_eq_true,if_false,Option.bind_some]
         exact ih _ _ (by omega)
       · simp only[if_true,Option.bind_some]
         rw[ih _ _ (by simp; omega),List.append_assoc]; rfl
   rw[key _ _ _ _ (by simp only[List.length_nil]; omega),List.nil_append,List.map_append,akJ hA hB]
theorem abC(q:Query)(b:aY)(hb:b.Vars.length<4294967296)(hq:q.Head.length<=3):I1 q b=some (rA q b):=by
 have key:∀(l:List Int)(k:Nat)(c:List Int),c.length+l.length<1000->BD b l k c=some (c++l.map (mP b.Vars b.Values)):=by
   intro l
   induction l with
   |nil=>intro k c _; simp[BD]
   |cons x l ih=>
     intro k c hc
     simp only[List.length_cons]at hc
     rw[BD,Ws b x hb,Option.bind_some,app1 (by omega),Option.bind_some,ih _ _ (by simp; omega),List.append_assoc]; rfl
 rw[I1,key _ _ _ (by simp; omega)]; rfl
def Ot(q:Query)(f:List Fact)(h:List Int):Bool:=(Jm q f).any fun x=>E8 (rA q x) h
theorem aig{s:List Int}{q:Query}{f:List Fact}(h:List Int)(hq:fw s q=true)(hf:f.length<=24):∃b,K7 q f h=some (b,Ot q f h):=by
 have hok:=ab3 (facts:=f) hq
 rw[K7,aiI hq hf,Option.bind_some,Ot]
 generalize Jm q f=L at hok
 have key:∀(l:List aY)(k:Nat),(∀b∈l,qZ 12 b)-> ∃b,DU q h l k=some (b,l.any fun x=>E8 (rA q x) h):=by
   intro l
   induction l with
   |nil=>intro k _; exact⟨_,rfl⟩
   |cons x l ih=>
     intro k hk
     obtain⟨e1,e2⟩:=hk x (by simp)
     rw[DU,abC q x (by omega) (l7 hq).2.2,Option.bind_some,alc,Option.bind_some,List.any_cons,show vW (fun x y=>x==y) (rA q x) h=E8 (rA q x) h from rfl]
     cases E8 (rA q x) h
     · simpa using ih (k+1) fun b hb=>hk b (by simp[hb])
     · rw[if_pos rfl,Jg,mW (by omega),Option.bind_some,mW (by omega)]; exact⟨_,rfl⟩
 exact key L 0 hok
theorem aih{s:List Int}{q:Query}{f:List Fact}(h:List Int)(hq:fw s q=true)(hf:f.length<=24):∃b,Ld q f h=some (b,Ot q f h):=by
 have hok:=ab3 (facts:=f) hq
 rw[Ld,aiJ hq hf,Option.bind_some,Ot]
 generalize Jm q f=L at hok
 have key:∀(l:List aY)(k:Nat),(∀b∈l,qZ 12 b)-> ∃b,DW q h l k=some (b,l.any fun x=>E8 (rA q x) h):=by
   intro l
   induction l with
   |nil=>intro k _; exact⟨_,rfl⟩
   |cons x l ih=>
     intro k hk
     obtain⟨e1,e2⟩:=hk x (by simp)
     rw[DW,abB q x e1 (l7 hq).2.2,Option.bind_some,ahz,Option.bind_some,List.any_cons,show vW (fun x y=>x==y) (rA q x) h=E8 (rA q x) h from rfl]
     cases E8 (rA q x) h
     · simpa using ih (k+1) fun b hb=>hk b (by simp[hb])
     · exact⟨_,rfl⟩
 exact key L 0 hok
def NK(p q:Query):Option (List Fact×aY)->Bool
 |none=>false
 |some (f,b)=>Ot q f (rA p b)
def JA(p q:Query):Bool:=(p.Head.length==q.Head.length)&&NK p q (Aq (pW p q) p)
theorem acL{W:List Int}{q:Query}{f:List Fact}{b:aY}(h:Aq W q=some (f,b)):f.length<=q.Atoms.length/\b.Vars=fK (aT 10 17) q.Atoms/\b.Vars.length=b.Values.length/\(∀x∈b.Values,0<=x/\x<=9)/\f=(q.Atoms.map (mQ b.Vars b.Values)).foldl kw []:=by
 obtain⟨p,h1,h2⟩:=Option.map_eq_some_iff.1 h
 obtain⟨e1,e2,e3⟩:=acK (by omega) rfl (by simp) h1
 cases h2
 have:=Xc (g:=q.Atoms.map (mQ p.1 p.2)) (fs:=[])
 simp only[List.length_map,List.length_nil]at this
 exact⟨by omega,by simpa using e1,e2,e3,rfl⟩
theorem aii{s:List Int}{p q:Query}(hs:s.length<4294967296)(hp:fw s p=true)(hq:fw s q=true):K8 20 s p q=some (JA p q):=by
 obtain⟨h1,h2,h3⟩:=l7 hp
 obtain⟨g1,g2,g3⟩:=l7 hq
 have e1:=qo g2
 have e2:=qo h2
 rw[K8,Iy s p hs (by omega),hp,Option.bind_some,Iy s q hs (by omega),hq,JA]
 by_cases hh:p.Head.length=q.Head.length
 · have hh':((p.Head.length:Int)!=(q.Head.length:Int))=false:=by simp[hh]
   simp only[Bool.not_true,cond_false,Option.bind_some,hh',Bool.false_eq_true,if_false]
   rw[ajZ hp hq,Option.bind_some]
   rcases hf:Aq (pW p q) p with _|⟨f,b⟩
   · simp[xB,NK]
   · obtain⟨f1,f2,f3,f4,-⟩:=acL hf
     have f5:=Wu (p:=aT 10 17) h2 (by omega)
     have hb:b.Vars.length<=90:=by rw[f2]; exact f5
     obtain⟨b',hm⟩:=aig (q:=q) (f:=f) (rA p b) hq (by omega)
     simp only[xB,Bool.not_true,Bool.false_eq_true,if_false]
     rw[abC p b (by omega) h3,Option.bind_some,hm,Option.bind_some]
     simp[NK,hh]
 · have hh':((p.Head.length:Int)!=(q.Head.length:Int))=true:=by simp; omega
   simp[hh',hh]
theorem ajf{s:List Int}{p q:Query}(hp:fw s p=true)(hq:fw s q=true):LX 20 p q=some (JA p q):=by
 obtain⟨h1,h2,h3⟩:=l7 hp
 obtain⟨g1,g2,g3⟩:=l7 hq
 have e1:=qo g2
 have e2:=qo h2
 have l1:=WL (l:=p.Atoms)
 have l2:=WL (l:=q.Atoms)
 have hW:∀v∈pW p q,v<=9:=fun v hv=>by
   rcases List.mem_append.1 hv with hv|hv
   · exact WV v hv
   · exact WV v hv
 rw[LX,JA]
 by_cases hh:p.Head.length=q.Head.length
 · have hh':((p.Head.length:Int)!=(q.Head.length:Int))=false:=by simp[hh]
   rw[if_neg (by rw[hh']; simp),aaJ p (by omega),Option.bind_some,aaJ q (by omega),Option.bind_some,aar _ _ (by omega),Option.bind_some,show fK (aT 0 9) p.Atoms++fK (aT 0 9) q.Atoms=pW p q from rfl,alq p _ hW h2 (by omega),Option.bind_some]
   rcases hf:Aq (pW p q) p with _|⟨f,b⟩
   · simp[xB,NK]
   · obtain⟨f1,f2,f3,f4,-⟩:=acL hf
     obtain⟨b',hm⟩:=aih (q:=q) (f:=f) (rA p b) hq (by omega)
     simp only[xB,Bool.not_true,Bool.false_eq_true,if_false]
     rw[abB p b f3 h3,Option.bind_some,hm,Option.bind_some]
     simp[NK,hh]
 · have hh':((p.Head.length:Int)!=(q.Head.length:Int))=true:=by simp; omega
   rw[if_pos hh']
   simp[hh]
def pB(m i:Int):Bool:=(Oz .i64 (m.fdiv (2 ^ min i.toNat (IntKind.bits .i64))) 1)==1
theorem adI(m:Int)(i:Nat):JG .i64 m (i:Int)=some (m.fdiv (2 ^ min (i:Int).toNat (IntKind.bits .i64))):=by
 unfold JG; rw[if_neg (by omega)]
theorem Tu{n:Nat}(hn:n<=8):Oy .i64 1 (n:Int)=some (((2 ^ n:Nat):Int))/\(2 ^ n:Nat)<=256/\1<=(2 ^ n:Nat):=by
 have:n=0\/n=1\/n=2\/n=3\/n=4\/n=5\/n=6\/n=7\/n=8:=by omega
 rcases this with rfl|rfl|rfl|rfl|rfl|rfl|rfl|rfl|rfl<;>exact⟨rfl,by decide,by decide⟩
theorem Ti{α:Type}{P:α->Prop}{l:List α}{x:α}(h:∀y∈l,P y)(hx:P x):∀y∈l++[x],P y:=fun y hy=>by
 rcases List.mem_append.1 hy with hy|hy
 · exact h y hy
 · rw[List.mem_singleton]at hy; exact hy ▸ hx
theorem alR{s:List Int}{r:Int}(h:iY s r=true):0<=r/\r<=2:=by
 simp only[iY,aT,Bool.and_eq_true,decide_eq_true_eq]at h
 have:=(WI h.1).1
 omega
def oP(t:Int):List UInt8:=if aT 10 17 t then 120::Lib.itoa (t-10)else Lib.itoa t
def ae'(n:Nat):Bool:=decide (Mw n=some (oP n))&&(decide (Jh 20 n=some (oP n))&&((oP n).all (fun c=>!(c==44)&&(!(c==40)&&(!(c==41)&&!(c==32))))&&(decide (1<=(oP n).length)&&decide ((oP n).length<=2))))
theorem anU:(List.range 18).all ae'=true:=by decide+kernel
theorem Qp{t:Int}(h:lG t=true):Mw t=some (oP t)/\Jh 20 t=some (oP t)/\(∀c∈oP t,c≠44/\c≠40/\c≠41/\c≠32)/\1<=(oP t).length/\(oP t).length<=2:=by
 have hr:0<=t/\t<=17:=by
   simp only[lG,aT,Bool.or_eq_true,Bool.and_eq_true,decide_eq_true_eq]at h; omega
 obtain⟨k,rfl⟩:=Int.eq_ofNat_of_zero_le hr.1
 have h1:=List.all_eq_true.1 anU k (List.mem_range.2 (by omega))
 simp only[ae',Bool.and_eq_true,decide_eq_true_eq,List.all_eq_true,Bool.not_eq_true',beq_eq_false_iff_ne]at h1
 obtain⟨a1,a2,a5,a6,a7⟩:=h1
 exact⟨a1,a2,fun c hc=>a5 c hc,a6,a7⟩
def x9(l:List Int):List UInt8:=Lib.join (l.map oP) [44]
theorem E_{l:List Int}(h:∀x∈l,lG x=true)(hl:l.length<=3):(x9 l).length<=8:=by
 unfold x9
 cases l with
 |nil=>simp[Lib.join,List.intercalate]
 |cons x l=>
   have h1:=(Qp (h x (by simp))).2.2.2.2
   have key:∀r:List Int,(∀y∈r,lG y=true)->(Lib.joinTail [44] (r.map oP)).length<=3*r.length:=by
     intro r
     induction r with
     |nil=>intro _; simp[Lib.joinTail]
     |cons y r ih=>
       intro hr
       have h2:=(Qp (hr y (by simp))).2.2.2.2
       have h3:=ih fun z hz=>hr z (by simp[hz])
       have e:Lib.joinTail [44] ((y::r).map oP)=[44]++oP y++Lib.joinTail [44] (r.map oP):=by simp[Lib.joinTail]
       rw[e]; simp; omega
   have h2:=key l fun z hz=>h z (by simp[hz])
   rw[List.map_cons,Lib.join_cons,List.length_append]
   simp only[List.length_cons]at hl
   omega
theorem aa7{l:List Int}(h:∀x∈l,lG x=true)(hl:l.length<=3):LY l=some (x9 l):=by
 have key:∀(r:List Int)(k:Nat)(c:List (List UInt8)),(∀x∈r,lG x=true)->c.length+r.length<=3->(Lib.join (c++r.map oP) [44]).length<=8->Bo r k c=some (Lib.join (c++r.map oP) [44]):=by
   intro r
   induction r with
   |nil=>
     intro k c _ hc h8
     rw[Bo]
     unfold yh
     rw[List.map_nil,List.append_nil]at h8 ⊢
     rw[if_pos ⟨by simp at hc; omega,by omega⟩]; rfl
   |cons x r ih=>
     intro k c hr hc h8
     simp only[List.length_cons]at hc
     rw[Bo,(Qp (hr x (by simp))).1,Option.bind_some,app1 (by omega),Option.bind_some,ih _ _ (fun y hy=>hr y (by simp[hy])) (by simp; omega) (by simpa using h8)]
     simp
 exact key l 0 [] h (by simpa using hl) (by simpa[x9]using E_ h hl)
theorem aaV:∀(r:List Int)(k:Nat)(c:List UInt8),0<k->(∀x∈r,lG x=true)->c.length+3*r.length<=1000->yw 20 r k c=some (c++Lib.joinTail [44] (r.map oP))
 |[],k,c,_,_,_=>by simp[yw,Lib.joinTail]
 |x::r,k,c,hk,hr,hc=>by
   simp only[List.length_cons]at hc
   have h1:=Qp (hr x (by simp))
   have h2:=h1.2.2.2.2
   unfold yw
   rw[if_pos (by simp only[decide_eq_true_eq]; omega),iR (by simp; omega),Option.bind_some,h1.2.1,Option.bind_some,iR (by simp; omega),Option.bind_some,Option.bind_some]
   dsimp only
   rw[aaV r _ _ (by omega) (fun y hy=>hr y (by simp[hy])) (by simp; omega)]
   simp[Lib.joinTail]
theorem abD{l:List Int}(h:∀x∈l,lG x=true)(hl:l.length<=3):I5 20 l=some (x9 l):=by
 unfold I5 x9
 cases l with
 |nil=>rfl
 |cons x r=>
   have h1:=Qp (h x (by simp))
   have h2:=h1.2.2.2.2
   simp only[List.length_cons]at hl
   unfold yw
   rw[if_neg (by simp),h1.2.1,Option.bind_some,iR (by simp; omega),Option.bind_some,Option.bind_some]
   dsimp only
   rw[aaV r _ _ (by omega) (fun y hy=>h y (by simp[hy])) (by simp; omega),List.map_cons,Lib.join_cons]
   simp
def lM(a:Atom):Bool:=aT 0 2 a.Rel&&(aT 1 3 (a.Terms.length:Int)&&a.Terms.all lG)
def lw(a:Atom):List UInt8:=[114]++mi a.Rel++[40]++x9 a.Terms++[41]
def Co(a:Atom):List UInt8:=if lM a then lw a else []
theorem Su{a:Atom}(h:lM a=true):(0<=a.Rel/\a.Rel<=2)/\(1<=a.Terms.length/\a.Terms.length<=3)/\ ∀x∈a.Terms,lG x=true:=by
 simp only[lM,aT,Bool.and_eq_true,decide_eq_true_eq,List.all_eq_true]at h
 exact⟨h.1,by omega,h.2.2⟩
theorem adJ{d t:List UInt8}(hd:d.length<=1)(ht:t.length<=8):(((fG [114] d).bind fun x=>(fG x [40]).bind fun y=>(fG y t).bind fun z=>(fG z [41]).bind fun u=>some u):Option (List UInt8))=some ([114]++d++[40]++t++[41]):=by
 rw[iR (by simp; omega),Option.bind_some,iR (by simp; omega),Option.bind_some,iR (by simp; omega),Option.bind_some,iR (by simp; omega),Option.bind_some]
theorem aiK(a:Atom):LB a=some (Co a):=by
 unfold LB Co Tn
 rw[qj,Option.bind_some,Option.bind_some]
 cases h1:aT 0 2 a.Rel
 · simp[lM,h1]
 rw[qj,Option.bind_some]
 cases h2:aT 1 3 (a.Terms.length:Int)
 · simp[lM,h1,h2]
 simp only[Bool.not_true,cond_false,abo,Option.bind_some]
 cases h3:a.Terms.all lG
 · simp[lM,h1,h2,h3]
 · have ho:lM a=true:=by simp[lM,h1,h2,h3]
   obtain⟨g1,g2,g3⟩:=Su ho
   simp only[Bool.not_true,Bool.false_eq_true,if_false]
   rw[if_pos ho,V_ _ (by omega),Option.bind_some,aa7 g3 g2.2]
   simp only[Option.bind_some]
   exact adJ (by simp[mi]) (E_ g3 g2.2)
theorem aaE{a:Atom}(h:lM a=true):∀(l:List Int)(k:Nat),(∀x∈l,lG x=true)->Bj a 20 l k=some (lw a)
 |[],k,_=>by
   obtain⟨g1,g2,g3⟩:=Su h
   unfold Bj
   rw[K4 (by decide) _ (by omega),Option.bind_some,abD g3 g2.2]
   simp only[Option.bind_some]
   exact adJ (by simp[mi]) (E_ g3 g2.2)
 |x::l,k,hl=>by
   unfold Bj
   rw[ab2,Option.bind_some,hl x (by simp),if_neg (by simp)]
   exact aaE h l _ fun y hy=>hl y (by simp[hy])
theorem Rz{a:Atom}(h:lM a=true):Io 20 a=some (lw a):=by
 obtain⟨g1,g2,g3⟩:=Su h
 have p1:aT 0 2 a.Rel=true:=by simp only[aT,Bool.and_eq_true,decide_eq_true_eq]; omega
 have p2:aT 1 3 (a.Terms.length:Int)=true:=by simp only[aT,Bool.and_eq_true,decide_eq_true_eq]; omega
 unfold Io
 simp only[kz,p1,p2,Option.bind_some,Bool.not_true,cond_false,Bool.false_eq_true,if_false]
 exact aaE h a.Terms 0 g3
theorem am5{s:List Int}{a:Atom}(h:o7 s a=true):lM a=true:=by
 simp only[o7,Bool.and_eq_true,beq_iff_eq]at h
 obtain⟨h1,h2,h3⟩:=h
 have a1:=tT h1
 have a2:=alR h1
 simp only[lM,aT,Bool.and_eq_true,decide_eq_true_eq]
 exact⟨a2,by omega,h3⟩
theorem Jp{a:Atom}(h:lM a=true):1<=(lw a).length/\(lw a).length<=12:=by
 obtain⟨g1,g2,g3⟩:=Su h
 have:=E_ g3 g2.2
 unfold lw
 simp[mi]; omega
def hTx(h:List Int):List UInt8:=if h=[]then [121,101,115]else x9 h
def AQ(q:Query):List UInt8:=hTx q.Head++[32,105,102,32]++Lib.join (q.Atoms.map lw) [32,97,110,100,32]
def sN(q:Query):Bool:=aT 1 4 (q.Atoms.length:Int)&&(q.Atoms.all lM&&(decide ((q.Head.length:Int)<=3)&&q.Head.all fun t=>decide (t∈fK (aT 10 17) q.Atoms)))
def Ou(q:Query):List UInt8:=if sN q then AQ q else []
theorem Xf{q:Query}(h:sN q=true):(1<=q.Atoms.length/\q.Atoms.length<=4)/\(∀a∈q.Atoms,lM a=true)/\q.Head.length<=3/\(∀x∈q.Head,x∈fK (aT 10 17) q.Atoms)/\ ∀x∈q.Head,lG x=true:=by
 simp only[sN,aT,Bool.and_eq_true,decide_eq_true_eq,List.all_eq_true]at h
 obtain⟨h1,h2,h3,h4⟩:=h
 refine⟨by omega,h2,by omega,h4,fun x hx=>?_⟩
 have:=(II.1 (h4 x hx)).2
 simp[lG,this]
theorem ace{s:List Int}{q:Query}(h:fw s q=true):sN q=true:=by
 simp only[fw,Bool.and_eq_true,List.all_eq_true,decide_eq_true_eq]at h
 obtain⟨h1,h2,-,h3,h4⟩:=h
 simp only[sN,Bool.and_eq_true,List.all_eq_true,decide_eq_true_eq]
 exact⟨h3,fun a ha=>am5 (h1 a ha),h4,h2⟩
theorem XJ{A:List (List UInt8)}{m:Nat}(h:∀z∈A,z.length<=m)(sep:List UInt8):(Lib.join A sep).length<=A.length*(m+sep.length):=by
 cases A with
 |nil=>simp[Lib.join,List.intercalate]
 |cons y A=>
   have key:∀r:List (List UInt8),(∀z∈r,z.length<=m)->(Lib.joinTail sep r).length<=r.length*(m+sep.length):=by
     intro r
     induction r with
     |nil=>intro _; simp[Lib.joinTail]
     |cons z r ih=>
       intro hr
       have h1:=hr z (by simp)
       have h2:=ih fun w hw=>hr w (by simp[hw])
       have e:Lib.joinTail sep (z::r)=sep++z++Lib.joinTail sep r:=by simp[Lib.joinTail]
       rw[e,List.length_append,List.length_append,List.length_cons,Nat.succ_mul]; omega
   have h1:=h y (by simp)
   have h2:=key A fun z hz=>h z (by simp[hz])
   rw[Lib.join_cons,List.length_append,List.length_cons,Nat.succ_mul]; omega
theorem anV{h:List Int}(hh:∀x∈h,lG x=true)(hl:h.length<=3):(hTx h).length<=8:=by
 unfold hTx
 split
 · simp
 · exact E_ hh hl
theorem acM{l:List Atom}(h:∀a∈l,lM a=true)(h4:l.length<=4):(Lib.join (l.map lw) [32,97,110,100,32]).length<=68:=by
 have:=XJ (A:=l.map lw) (m:=12) (fun z hz=>by
   obtain⟨a,ha,rfl⟩:=List.mem_map.1 hz
   exact (Jp (h a ha)).2) [32,97,110,100,32]
 simp at this; omega
theorem am6(c:List (List UInt8)):KF c []=some (c.any fun x=>x==[]):=by
 unfold KF Rk
 rw[nC (L:=Dx []) (f:=fun x=>some (x==[])) (p:=fun x=>x==[]) (fun k=>rfl) (fun x r k=>by
   rw[Dx,Option.bind_some]
   cases x<;>rfl) c 0 (fun x _=>rfl),Option.bind_some,oZ]
theorem akK(q:Query)(h:gT q.Atoms<4294967295):EM q=some (decide ((q.Head.length:Int)<=3)&&q.Head.all fun t=>decide (t∈fK (aT 10 17) q.Atoms)):=by
 have h2:Dw q.Head (fK (aT 10 17) q.Atoms)=some (q.Head.any fun t=>!decide (t∈fK (aT 10 17) q.Atoms)):=by
   unfold Dw KD
   rw[nC (L:=Dv _) (f:=fun t=>Ez t (fK (aT 10 17) q.Atoms)) (p:=fun t=>!decide (t∈fK (aT 10 17) q.Atoms)) (fun k=>rfl) (fun x r k=>rfl) q.Head 0 (fun x _=>by rw[Ez,Rl]; rfl),Option.bind_some,oZ]
 have e2:(q.Head.any fun t=>!decide (t∈fK (aT 10 17) q.Atoms))=!(q.Head.all fun t=>decide (t∈fK (aT 10 17) q.Atoms)):=by simp[List.all_eq_not_any_not]
 rw[EM,WJ q h,Option.bind_some,h2,e2]
 cases decide ((q.Head.length:Int)<=3)<;>cases (q.Head.all fun t=>decide (t∈fK (aT 10 17) q.Atoms))<;>rfl
theorem aij(q:Query)(ht:gT q.Atoms<4294967295)(ha:q.Atoms.length<=1000):RH q=some (Ou q):=by
 have fin:∀(k:Nat),yg q [] k (q.Atoms.map Co)=some (Ou q):=by
   intro k
   rw[yg,qj,Option.bind_some,List.length_map]
   unfold Ou
   cases h1:aT 1 4 (q.Atoms.length:Int)
   · simp[sN,h1]
   have e3:((q.Atoms.map Co).any fun x=>x==[])=!(q.Atoms.all lM):=by
     rw[List.any_map,List.all_eq_not_any_not,Bool.not_not]
     congr 1
     funext a
     simp only[Function.comp,Co]
     cases h:lM a
     · simp
     · have:=(Jp h).1
       rw[if_pos rfl]
       cases hx:lw a with
       |nil=>rw[hx]at this; simp at this
       |cons _ _=>rfl
   rw[Bool.not_true,cond_false,am6,Option.bind_some,e3]
   cases h2:q.Atoms.all lM
   · simp[sN,h1,h2]
   rw[Bool.not_true,cond_false,akK q ht,Option.bind_some]
   cases h3:(decide ((q.Head.length:Int)<=3)&&q.Head.all fun t=>decide (t∈fK (aT 10 17) q.Atoms))
   · have:sN q=false:=by unfold sN; rw[h1,h2,h3]; rfl
     simp[this]
   · have ho:sN q=true:=by unfold sN; rw[h1,h2,h3]; rfl
     obtain⟨g1,g2,g3,g4,g5⟩:=Xf ho
     have em:q.Atoms.map Co=q.Atoms.map lw:=List.map_congr_left fun a h=>by unfold Co; rw[if_pos (g2 a h)]
     have l1:=acM g2 g1.2
     have l2:=E_ g5 g3
     rw[Option.bind_some,em,if_pos ho]
     dsimp only
     rw[if_neg (by simp)]
     unfold yh
     by_cases hn:q.Head=[]
     · rw[if_neg (by simp[hn]),iR (by simp),Option.bind_some,if_pos ⟨by simp; omega,by omega⟩,Option.bind_some,iR (by simp; omega),Option.bind_some]
       simp[AQ,hTx,hn]
     · have:0<q.Head.length:=List.length_pos_iff.2 hn
       rw[if_pos (by simp only[decide_eq_true_eq]; omega),aa7 g5 g3,Option.bind_some,iR (by simp; omega),Option.bind_some,if_pos ⟨by simp; omega,by omega⟩,Option.bind_some,iR (by simp; omega),Option.bind_some]
       simp[AQ,hTx,hn]
 have key:∀(r:List Atom)(k:Nat)(c:List Atom),c++r=q.Atoms->yg q r k (c.map Co)=some (Ou q):=by
   intro r
   induction r with
   |nil=>intro k c e; rw[List.append_nil]at e; subst e; exact fin k
   |cons a r ih=>
     intro k c e
     have hc:c.length+(r.length+1)<=1000:=by rw[←e]at ha; simpa using ha
     rw[yg,aiK,Option.bind_some,app1 (by simp; omega),Option.bind_some]
     have:=ih (k+1) (c++[a]) (by simpa using e)
     simpa using this
 exact key q.Atoms 0 [] rfl
theorem aaw:∀(r:List Atom)(k:Nat)(c:List UInt8),0<k->(∀a∈r,lM a=true)->c.length+17*r.length<=10000->wL 20 r k c=some (c++Lib.joinTail [32,97,110,100,32] (r.map lw))
 |[],k,c,_,_,_=>by simp[wL,Lib.joinTail]
 |a::r,k,c,hk,hr,hc=>by
   simp only[List.length_cons]at hc
   have h1:=Jp (hr a (by simp))
   have hne:(lw a==[])=false:=by
     cases hx:lw a with
     |nil=>rw[hx]at h1; simp at h1
     |cons _ _=>rfl
   unfold wL
   rw[Rz (hr a (by simp)),Option.bind_some,if_neg (by simp[hne]),if_pos (by simp only[decide_eq_true_eq]; omega),iR (by simp; omega),Option.bind_some,iR (by simp; omega),Option.bind_some,Option.bind_some]
   dsimp only
   rw[aaw r _ _ (by omega) (fun b hb=>hr b (by simp[hb])) (by simp; omega)]
   simp[Lib.joinTail]
theorem aax:∀(r:List Atom)(k:Nat)(c:List UInt8),0<k->(∀a∈r,lM a=true)->c.length+17*r.length<=10000->wM 20 r k c=some (c++Lib.joinTail [32,97,110,100,32] (r.map lw))
 |[],k,c,_,_,_=>by simp[wM,Lib.joinTail]
 |a::r,k,c,hk,hr,hc=>by
   simp only[List.length_cons]at hc
   have h1:=Jp (hr a (by simp))
   have hne:(lw a==[])=false:=by
     cases hx:lw a with
     |nil=>rw[hx]at h1; simp at h1
     |cons _ _=>rfl
   unfold wM
   rw[Rz (hr a (by simp)),Option.bind_some,if_neg (by simp[hne]),if_pos (by simp only[decide_eq_true_eq]; omega),iR (by simp; omega),Option.bind_some,iR (by simp; omega),Option.bind_some,Option.bind_some]
   dsimp only
   rw[aax r _ _ (by omega) (fun b hb=>hr b (by simp[hb])) (by simp; omega)]
   simp[Lib.joinTail]
theorem ahS{l:List Atom}(hn:1<=l.length)(h4:l.length<=4)(h:∀a∈l,lM a=true)(c:List UInt8)(hc:c.length<=100):wL 20 l 0 c=some (c++Lib.join (l.map lw) [32,97,110,100,32]):=by
 cases l with
 |nil=>simp at hn
 |cons a r=>
   have h1:=Jp (h a (by simp))
   simp only[List.length_cons]at h4
   have hne:(lw a==[])=false:=by
     cases hx:lw a with
     |nil=>rw[hx]at h1; simp at h1
     |cons _ _=>rfl
   unfold wL
   rw[Rz (h a (by simp)),Option.bind_some,if_neg (by simp[hne]),if_neg (by simp),iR (by omega),Option.bind_some,Option.bind_some]
   dsimp only
   rw[aaw r _ _ (by omega) (fun b hb=>h b (by simp[hb])) (by simp; omega),List.map_cons,Lib.join_cons]
   simp
theorem ahT{l:List Atom}(hn:1<=l.length)(h4:l.length<=4)(h:∀a∈l,lM a=true)(c:List UInt8)(hc:c.length<=100):wM 20 l 0 c=some (c++Lib.join (l.map lw) [32,97,110,100,32]):=by
 cases l with
 |nil=>simp at hn
 |cons a r=>
   have h1:=Jp (h a (by simp))
   simp only[List.length_cons]at h4
   have hne:(lw a==[])=false:=by
     cases hx:lw a with
     |nil=>rw[hx]at h1; simp at h1
     |cons _ _=>rfl
   unfold wM
   rw[Rz (h a (by simp)),Option.bind_some,if_neg (by simp[hne]),if_neg (by simp),iR (by omega),Option.bind_some,Option.bind_some]
   dsimp only
   rw[aax r _ _ (by omega) (fun b hb=>h b (by simp[hb])) (by simp; omega),List.map_cons,Lib.join_cons]
   simp
theorem aik{q:Query}(h:sN q=true)(ht:gT q.Atoms<4294967295):K9 20 q=some (AQ q):=by
 obtain⟨g1,g2,g3,g4,g5⟩:=Xf h
 have l2:=E_ g5 g3
 have p1:aT 1 4 (q.Atoms.length:Int)=true:=by simp only[aT,Bool.and_eq_true,decide_eq_true_eq]; omega
 have k1:∀(l:List Int)(k:Nat),(∀x∈l,x∈fK (aT 10 17) q.Atoms)->Bg q 20 (x9 q.Head) (fK (aT 10 17) q.Atoms) l k=some (x9 q.Head++[32,105,102,32]++Lib.join (q.Atoms.map lw) [32,97,110,100,32]):=by
   intro l
   induction l with
   |nil=>
     intro k _
     rw[Bg,iR (by simp; omega),Option.bind_some,ahS g1.1 g1.2 g2 _ (by simp; omega)]
   |cons x l ih=>
     intro k hx
     rw[Bg,MH,Option.bind_some,decide_eq_true (hx x (by simp)),if_neg (by simp)]
     exact ih _ fun y hy=>hx y (by simp[hy])
 have k3:∀(k:Nat),DV q 20 (fK (aT 10 17) q.Atoms) [] k=some ([121,101,115]++[32,105,102,32]++Lib.join (q.Atoms.map lw) [32,97,110,100,32]):=by
   intro k
   rw[DV,iR (by simp),Option.bind_some,ahT g1.1 g1.2 g2 _ (by simp)]
 unfold K9
 rw[kz,Option.bind_some,p1,Bool.not_true,cond_false,Option.bind_some]
 dsimp only
 rw[if_neg (by simp only[decide_eq_true_eq]; omega)]
 unfold AQ hTx
 by_cases hn:q.Head=[]
 · rw[if_neg (by simp[hn]),Sc q ht,Option.bind_some,hn,k3,if_pos rfl]
 · have:0<q.Head.length:=List.length_pos_iff.2 hn
   rw[if_pos (by simp only[decide_eq_true_eq]; omega),abD g5 g3,Option.bind_some,Sc q ht,Option.bind_some,k1 q.Head 0 g4,if_neg hn]
def xC(st:List Step)(i:Nat):Bool:=st.any fun x=>(x.Atom:Int)==(i:Int)
def qN(L:List Method)(c:Int)(x:Step):Int:=if aT 0 ((L.length:Int)-1) x.Method&&aT 0 99 (kD L x.Method).Cost then c+(kD L x.Method).Cost else c
def iQ(L:List Method)(st:List Step):Int:=st.foldl (qN L) 0
theorem adK{L:List Method}{c:Int}{x:Step}(h:0<=c):0<=qN L c x/\qN L c x<=c+99:=by
 unfold qN
 split
 · rename_i h2
   simp only[aT,Bool.and_eq_true,decide_eq_true_eq]at h2
   omega
 · omega
theorem aaF{L:List Method}(hl:L.length<4294967296):∀(st:List Step)(k:Nat)(c:Int),0<=c->c+99*st.length<=1000000->D8 L st k c=some (st.foldl (qN L) c)
 |[],_,_,_,_=>rfl
 |x::st,k,c,h0,h1=>by
   simp only[List.length_cons]at h1
   have hb:=adK (L:=L) (x:=x) h0
   have ih:=aaF hl st (k+1) (qN L c x) hb.1 (by omega)
   unfold D8
   rw[kz,Option.bind_some,fU (by omega) (by omega),List.foldl_cons]
   unfold qN at ih hb ⊢
   cases h:aT 0 ((L.length:Int)-1) x.Method
   · simp only[h,Bool.false_and,Bool.false_eq_true,if_false]at ih ⊢
     exact ih
   · simp only[h,Bool.true_and]at ih hb ⊢
     simp only[cond_true,(yM h).1,Option.bind_some,kz]
     cases h2:aT 0 99 (kD L x.Method).Cost
     · simp only[h2,Bool.false_eq_true,if_false]at ih ⊢
       exact ih
     · simp only[h2,if_true]at ih hb ⊢
       rw[Option.bind_some,fU (by omega) (by omega)]
       exact ih
theorem Wd{L:List Method}(hl:L.length<4294967296){st:List Step}(h:st.length<=1000):IB L st=some (iQ L st):=
 aaF hl st 0 0 (by omega) (by omega)
theorem XK{L:List Method}:∀(st:List Step)(c:Int),0<=c->0<=st.foldl (qN L) c/\st.foldl (qN L) c<=c+99*st.length
 |[],_,_=>by simp; omega
 |x::st,c,h=>by
   have hb:=adK (L:=L) (x:=x) h
   have:=XK (L:=L) st (qN L c x) hb.1
   simp only[List.foldl_cons,List.length_cons]
   omega
theorem amq{L:List Method}{j:Nat}{m:Method}(h:L[j]?=some m):kD L (j:Int)=m/\aT 0 ((L.length:Int)-1) (j:Int)=true:=by
 have hj:j<L.length:=(List.getElem?_eq_some_iff.1 h).1
 have h2:aT 0 ((L.length:Int)-1) (j:Int)=true:=by simp only[aT,Bool.and_eq_true,decide_eq_true_eq]; omega
 have h3:=(yM h2).1
 rw[je,h]at h3
 exact⟨(Option.some.inj h3).symm,h2⟩
theorem amr{L:List Method}{st:List Step}{a:Int}{j:Nat}{m:Method}(h:L[j]?=some m)(hc:aT 0 99 m.Cost=true):iQ L (st++[{Atom:=a,Method:=(j:Int)}])=iQ L st+m.Cost:=by
 obtain⟨h1,h2⟩:=amq h
 rw[iQ,iQ,List.foldl_append]
 simp only[List.foldl_cons,List.foldl_nil,qN,h1,h2,hc,Bool.and_self,if_true]
theorem adL{L:List Method}{st:List Step}:iQ (L.map jV) st=iQ L st:=by
 have:∀(st:List Step)(c:Int),st.foldl (qN (L.map jV)) c=st.foldl (qN L) c:=by
   intro st
   induction st with
   |nil=>intro c; rfl
   |cons x st ih=>
     intro c
     rw[List.foldl_cons,List.foldl_cons,ih]
     congr 1
     unfold qN
     rw[List.length_map]
     cases h:aT 0 ((L.length:Int)-1) x.Method
     · rfl
     · have h1:=(yM h).1
       have h2:=(yM (l:=L.map jV) (by rw[List.length_map]; exact h)).1
       have e:kD (L.map jV) x.Method=jV (kD L x.Method):=by
         have h3:0<=x.Method:=by simp only[aT,Bool.and_eq_true,decide_eq_true_eq]at h; exact h.1
         obtain⟨n,hn⟩:∃n:Nat,x.Method=(n:Int):=⟨x.Method.toNat,by omega⟩
         rw[hn]at h1 h2 ⊢
         rw[je]at h1 h2
         rw[List.getElem?_map,h1]at h2
         exact (Option.some.inj h2).symm
       have e2:(kD (L.map jV) x.Method).Cost=(kD L x.Method).Cost:=by
         rw[e,jV]
         split<;>rfl
       rw[e2]
 exact this st 0
def uq(ff:List Step->List Int->List Step->List Step)(st:List Step)(bd:List Int)(i:Nat)(a:Atom):List Method->Nat->List Step->List Step
 |[],_,b=>b
 |m::r,j,b=>uq ff st bd i a r (j+1) (if vU m a bd then ff (st++[{Atom:=(i:Int),Method:=(j:Int)}]) (pY bd a) b else b)
def vV(L:List Method)(ff:List Step->List Int->List Step->List Step)(st:List Step)(bd:List Int):List Atom->Nat->List Step->List Step
 |[],_,b=>b
 |a::r,i,b=>vV L ff st bd r (i+1) (if xC st i then b else uq ff st bd i a L 0 b)
def uG(L:List Method)(A:List Atom):Nat->List Step->List Int->List Step->List Step
 |0,_,_,b=>b
 |n+1,st,bd,b=>if st.length=A.length then (if b.isEmpty||decide (iQ L st<iQ L b)then st else b)else vV L (uG L A n) st bd A 0 b
section
variable{l:List Method}{q:Query}{ff:(List Method)->Query->(List Step)->(List Int)->(List Step)->Option ((List Step))}{pf:List Step->List Int->List Step->List Step}{st:List Step}{bd:List Int}
theorem V4(hl:l.length<4294967296)(hst:st.length<=100)(hbd:bd.length<=1000)(hf:∀(x:Step)(a:Atom)(b:List Step),a∈q.Atoms->b.length<=4->ff l q (st++[x]) (pY bd a) b=some (pf (st++[x]) (pY bd a) b)/\(pf (st++[x]) (pY bd a) b).length<=4){kx:Nat}{x:Atom}(hx:x∈q.Atoms)(hx3:x.Terms.length<=3):∀(m:Nat)(b:List Step)(i:Nat),b.length<=4->i<=l.length->l.length-i<m->
   uH l q st bd ff kx x false m b (i:Int)=some (uq pf st bd kx x (l.drop i) i b)/\(uq pf st bd kx x (l.drop i) i b).length<=4
 |0,_,_,_,_,hm=>by omega
 |m+1,b,i,hb,hi,hm=>by
   unfold uH
   by_cases hlt:i<l.length
   · rw[decide_eq_true (by omega),Bool.true_and,if_pos (show (!false)=true from rfl),List.drop_eq_getElem_cons hlt,uq,je,List.getElem?_eq_getElem hlt,Option.bind_some,akH _ _ _ (by omega),Option.bind_some]
     cases hc:vU l[i] x bd
     · simp only[Bool.false_eq_true,if_false,Option.bind_some]
       rw[fU (by omega) (by omega),show (i:Int)+1=((i+1:Nat):Int) by omega]
       exact V4 hl hst hbd hf hx hx3 m b (i+1) hb hlt (by omega)
     · simp only[if_true]
       obtain⟨f1,f2⟩:=hf {Atom:=(kx:Int),Method:=(i:Int)} x b hx hb
       rw[mW (by omega),Option.bind_some,app1 (by omega),Option.bind_some,alo _ _ (by omega),Option.bind_some,f1,Option.bind_some,Option.bind_some]
       rw[fU (by omega) (by omega),show (i:Int)+1=((i+1:Nat):Int) by omega]
       exact V4 hl hst hbd hf hx hx3 m _ (i+1) f2 hlt (by omega)
   · rw[decide_eq_false (by omega),List.drop_eq_nil_iff.2 (by omega)]
     exact⟨rfl,hb⟩
theorem aaN{kx:Nat}{x:Atom}(b:List Step):∀(ss:List Step)(k:Nat)(u:Bool),Bu l q st bd ff b kx x ss k u=uH l q st bd ff kx x (u||ss.any fun y=>(y.Atom:Int)==(kx:Int)) (((l.length:Int)-0).toNat+2) b 0
 |[],k,u=>by
   unfold Bu
   simp
 |y::ss,k,u=>by
   unfold Bu
   rw[aaN b ss,List.any_cons,Bool.or_assoc]
theorem V5(hl:l.length<4294967296)(hst:st.length<=100)(hbd:bd.length<=1000)(hf:∀(x:Step)(a:Atom)(b:List Step),a∈q.Atoms->b.length<=4->ff l q (st++[x]) (pY bd a) b=some (pf (st++[x]) (pY bd a) b)/\(pf (st++[x]) (pY bd a) b).length<=4)(h3:∀a∈q.Atoms,a.Terms.length<=3):∀(ats:List Atom)(k:Nat)(b:List Step),(∀a∈ats,a∈q.Atoms)->b.length<=4->
   Ej l q st bd ff ats k b=some (vV l pf st bd ats k b)/\(vV l pf st bd ats k b).length<=4
 |[],_,_,_,hb=>⟨rfl,hb⟩
 |a::ats,k,b,ha,hb=>by
   unfold Ej vV
   rw[aaN,Bool.false_or]
   cases hu:xC st k
   · rw[show (st.any fun y=>(y.Atom:Int)==(k:Int))=false from hu]
     obtain⟨e1,e2⟩:=V4 hl hst hbd hf (ha a (by simp)) (h3 a (ha a (by simp))) (kx:=k) (((l.length:Int)-0).toNat+2) b 0 hb (by omega) (by omega)
     rw[List.drop_zero]at e1 e2
     have e1':uH l q st bd ff k a false (((l.length:Int)-0).toNat+2) b 0=some (uq pf st bd k a l 0 b):=e1
     rw[e1',Option.bind_some]
     exact V5 hl hst hbd hf h3 ats (k+1) _ (fun y hy=>ha y (by simp[hy])) e2
   · rw[show (st.any fun y=>(y.Atom:Int)==(k:Int))=true from hu]
     have e1:uH l q st bd ff k a true (((l.length:Int)-0).toNat+2) b 0=some b:=by
       unfold uH
       rw[if_neg (by simp)]
     rw[e1,Option.bind_some]
     exact V5 hl hst hbd hf h3 ats (k+1) _ (fun y hy=>ha y (by simp[hy])) hb
end
theorem aaW(fuel:Nat)(l:List Method)(q:Query)(hl:l.length<4294967296)(h3:∀a∈q.Atoms,a.Terms.length<=3)(h4:q.Atoms.length<=4):∀(n:Nat)(st:List Step)(bd:List Int)(b:List Step),st.length<=q.Atoms.length->q.Atoms.length-st.length<n->bd.length<=3*st.length->b.length<=4->
   Ep fuel n l q st bd b=some (uG l q.Atoms n st bd b)/\(uG l q.Atoms n st bd b).length<=4
 |0,_,_,_,_,hn,_,_=>by omega
 |n+1,st,bd,b,hs,hn,hb,hbl=>by
   unfold Ep Wp uG
   by_cases he:st.length=q.Atoms.length
   · rw[if_pos (by simp[he]),if_pos he]
     have e0:((b.length:Int)==0)=b.isEmpty:=by
       cases b with
       |nil=>rfl
       |cons _ _=>simp; omega
     rw[e0]
     cases hbe:b.isEmpty
     · rw[Wd hl (by omega),Wd hl (by omega)]
       simp only[cond_false,Option.bind_some,Bool.false_or]
       split
       · rw[mW (by omega)]
         exact⟨rfl,by omega⟩
       · exact⟨rfl,hbl⟩
     · simp only[cond_true,Option.bind_some,Bool.true_or,if_true]
       rw[mW (by omega)]
       exact⟨rfl,by omega⟩
   · rw[if_neg (by simp; omega),if_neg he]
     exact V5 hl (by omega) (by omega) (fun x a b' ha hb'=>aaW fuel l q hl h3 h4 n _ _ b' (by simp; omega) (by simp; omega) (by
       have:=amm bd a
       have:=h3 a ha
       simp; omega) hb') h3 _ _ _ (fun _ h=>h) hbl
def Kn(b c:List Int):Prop:=∀v,aT 10 17 v=true->(v∈b↔v∈c)
theorem Kn.bind{b c:List Int}(h:Kn b c)(a:Atom):Kn (pY b a) (c++a.Terms):=by
 intro v hv
 rw[amn,List.mem_append,h v hv]
 constructor
 · rintro (h|h)
   · exact .inl h
   · exact .inr h.1
 · rintro (h|h)
   · exact .inl h
   · exact .inr ⟨h,hv⟩
def nA(n:Nat)(st:List Step):List Bool:=(List.range n).map (xC st)
theorem Jq{n k:Nat}{st:List Step}(h:k<n):(nA n st)[k]?=some (xC st k):=by
 unfold nA
 rw[List.getElem?_map,List.getElem?_range h]
 rfl
theorem Fe{n:Nat}{st:List Step}:(nA n st).length=n:=by simp[nA]
theorem adM{n k:Nat}{st:List Step}(j:Int):(nA n st).set k true=nA n (st++[{Atom:=(k:Int),Method:=j}]):=by
 apply List.ext_getElem?
 intro i
 rw[List.getElem?_set,Fe]
 by_cases hi:i<n
 · rw[Jq hi,Jq hi]
   by_cases e:k=i
   · subst e
     rw[if_pos rfl,if_pos hi]
     simp[xC]
   · rw[if_neg e]
     have:((k:Int)==(i:Int))=false:=by simp; omega
     simp[xC,this]
 · rw[List.getElem?_eq_none (by rw[Fe]; omega),List.getElem?_eq_none (by rw[Fe]; omega)]
   split
   · rw[if_neg (by omega)]
   · rfl
theorem ams{n k:Nat}{st:List Step}(h:k<n)(hu:xC st k=false)(b:Bool):((nA n st).set k b).set k false=nA n st:=by
 rw[List.set_set]
 apply List.ext_getElem?
 intro i
 rw[List.getElem?_set]
 by_cases e:k=i
 · subst e
   rw[if_pos rfl,Fe,if_pos h,Jq h,hu]
 · rw[if_neg e]
theorem ajg(st:List Step)(h:st.length<4294967296):KE st=some st:=by
 rw[KE,mW h]
 rfl
section
variable{L:List Method}{A:List Atom}{ff:finder->(List Bool)->(List Int)->Int->Option ((List Bool)×finder)}{pf:List Step->List Int->List Step->List Step}{st:List Step}{bd bc:List Int}
def agM(L:List Method)(A:List Atom)(ff:finder->(List Bool)->(List Int)->Int->Option ((List Bool)×finder))(pf:List Step->List Int->List Step->List Step)(st:List Step)(bd bc:List Int):Prop:=
 ∀(x:Step)(a:Atom)(b:List Step)(cb:Int),a∈A->(b≠[]->cb=iQ L b)-> ∃cb',ff {l:=L,atoms:=A,steps:=st++[x],best:=b,cost:=cb} (nA A.length (st++[x])) (bc++a.Terms) (iQ L (st++[x]))=some (nA A.length (st++[x]),{l:=L,atoms:=A,steps:=st++[x],best:=pf (st++[x]) (pY bd a) b,cost:=cb'})/\(pf (st++[x]) (pY bd a) b≠[]->cb'=iQ L (pf (st++[x]) (pY bd a) b))
theorem aaO{k:Nat}{x:Atom}{c:Int}(hk:k<A.length)(hu:xC st k=true):∀(r:List Method)(j:Nat)(b:List Step)(cb:Int),
   yc bc c ff k x r j L A st b cb (nA A.length st)=some (L,A,st,b,cb,nA A.length st)
 |[],_,_,_=>rfl
 |m::r,j,b,cb=>by
   unfold yc
   rw[je,Jq hk,hu]
   simp only[Option.bind_some,cond_true,if_true]
   exact aaO hk hu r (j+1) b cb
theorem aa8(hl:L.length<4294967296)(hc:∀m∈L,aT 0 99 m.Cost=true)(hst:st.length<=100)(hbc:bc.length<=1000)(hv:Kn bd bc)(hA:A.length<=4)(Av:agM L A ff pf st bd bc){k:Nat}{x:Atom}(hx:x∈A)(hx3:x.Terms.length<=3)(hk:k<A.length)(hu:xC st k=false):
   ∀(r:List Method)(j:Nat)(b:List Step)(cb:Int),L.drop j=r->(b≠[]->cb=iQ L b)->
   ∃cb',yc bc (iQ L st) ff k x r j L A st b cb (nA A.length st)=some (L,A,st,uq pf st bd k x r j b,cb',nA A.length st)/\(uq pf st bd k x r j b≠[]->cb'=iQ L (uq pf st bd k x r j b))
 |[],_,_,cb,_,h=>⟨cb,rfl,h⟩
 |m::r,j,b,cb,hd,h=>by
   obtain⟨h1,h2,h3⟩:=bN hd
   have hm:L[j]?=some m:=by simpa using h2
   have hmc:=hc m (List.mem_of_getElem? hm)
   have ih:=aa8 hl hc hst hbc hv hA Av hx hx3 hk hu r (j+1)
   unfold yc uq
   rw[je,Jq hk,hu]
   simp only[Option.bind_some,cond_false]
   rw[akI _ _ _ (by omega),←alP (m:=m) (a:=x) hv]
   cases hcan:vU m x bd
   · simp only[Option.bind_some,Bool.not_false,if_true,Bool.false_eq_true,if_false]
     exact ih b cb h3 h
   · simp only[Option.bind_some,Bool.not_true,Bool.false_eq_true,if_false,if_true]
     obtain⟨cb2,f1,f2⟩:=Av {Atom:=(k:Int),Method:=(j:Int)} x b cb hx h
     have hw:=XK (L:=L) st 0 (by omega)
     have aDU:0<=m.Cost/\m.Cost<=99:=by simpa[aT]using hmc
     have hw2:iQ L st=st.foldl (qN L) 0:=rfl
     rw[Fe,show jT (decide (0<=(k:Int))&&decide ((k:Int)<(A.length:Int)))=some () by rw[decide_eq_true (by omega),decide_eq_true (by omega)]; rfl]
     simp only[Option.bind_some,Int.toNat_natCast]
     rw[app1 (by omega),Option.bind_some,aar _ _ (by omega),Option.bind_some,fU (by omega) (by omega),adM (j:Int),←amr (a:=(k:Int)) hm hmc,f1,Option.bind_some]
     dsimp only
     have hln:(((st++[({Atom:=(k:Int),Method:=(j:Int)}:Step)]).length:Nat):Int)-1=(st.length:Int):=by simp
     rw[hln,fU (by omega) (by omega),show jT (decide (0<=(st.length:Int))&&decide ((st.length:Int)<((st++[({Atom:=(k:Int),Method:=(j:Int)}:Step)]).length:Int)))=some () by rw[decide_eq_true (by omega),decide_eq_true (by simp; omega)]; rfl]
     simp only[Option.bind_some]
     rw[Fe,show jT (decide (0<=(k:Int))&&decide ((k:Int)<(A.length:Int)))=some () by rw[decide_eq_true (by omega),decide_eq_true (by omega)]; rfl]
     simp only[Option.bind_some]
     rw[←adM (j:Int),ams hk hu,Int.toNat_natCast,List.take_left]
     exact ih _ cb2 h3 f2
theorem We(hl:L.length<4294967296)(hc:∀m∈L,aT 0 99 m.Cost=true)(hst:st.length<=100)(hbc:bc.length<=1000)(hv:Kn bd bc)(hA:A.length<=4)(h3:∀a∈A,a.Terms.length<=3)(Av:agM L A ff pf st bd bc):
   ∀(r:List Atom)(k:Nat)(b:List Step)(cb:Int),A.drop k=r->(b≠[]->cb=iQ L b)->
   ∃cb',DF bc (iQ L st) ff r k L A st b cb (nA A.length st)=some (nA A.length st,{l:=L,atoms:=A,steps:=st,best:=vV L pf st bd r k b,cost:=cb'})/\(vV L pf st bd r k b≠[]->cb'=iQ L (vV L pf st bd r k b))
 |[],_,_,cb,_,h=>⟨cb,rfl,h⟩
 |a::r,k,b,cb,hd,h=>by
   obtain⟨h1,h2,h5⟩:=bN hd
   have ha:a∈A:=List.mem_of_getElem? h2
   unfold DF vV
   cases hu:xC st k
   · obtain⟨cb2,e1,e2⟩:=aa8 hl hc hst hbc hv hA Av ha (h3 a ha) h1 hu L 0 b cb (List.drop_zero) h
     rw[e1,Option.bind_some]
     exact We hl hc hst hbc hv hA h3 Av r (k+1) _ cb2 h5 e2
   · rw[aaO h1 hu,Option.bind_some]
     exact We hl hc hst hbc hv hA h3 Av r (k+1) _ cb h5 h
end
theorem abp(fuel:Nat){L:List Method}{A:List Atom}(hl:L.length<4294967296)(hc:∀m∈L,aT 0 99 m.Cost=true)(hA:A.length<=4)(hA1:A≠[])(h3:∀a∈A,a.Terms.length<=3):∀(n:Nat)(st:List Step)(bd bc:List Int)(b:List Step)(cb:Int),st.length<=A.length->A.length-st.length<n->bc.length<=3*st.length->Kn bd bc->(b≠[]->cb=iQ L b)->
   ∃cb',DK fuel n {l:=L,atoms:=A,steps:=st,best:=b,cost:=cb} (nA A.length st) bc (iQ L st)=some (nA A.length st,{l:=L,atoms:=A,steps:=st,best:=uG L A n st bd b,cost:=cb'})/\(uG L A n st bd b≠[]->cb'=iQ L (uG L A n st bd b))
 |0,_,_,_,_,_,_,hn,_,_,_=>by omega
 |n+1,st,bd,bc,b,cb,hs,hn,hb,hv,h=>by
   unfold DK VS uG
   dsimp only
   by_cases he:st.length=A.length
   · rw[if_pos (by simp[he]),if_pos he]
     have hne:st≠[]:=fun e=>hA1 (List.length_eq_zero_iff.1 (by rw[←he,e]; rfl))
     have hc2:(b.isEmpty||decide (iQ L st<cb))=(b.isEmpty||decide (iQ L st<iQ L b)):=by
       cases b with
       |nil=>rfl
       |cons y ys=>rw[h (by simp)]
     rw[hc2]
     split
     · rw[ajg _ (by omega),Option.bind_some,show (!st.isEmpty)=true by cases st with|nil=>exact absurd rfl hne|cons _ _=>rfl]
       exact⟨_,rfl,fun _=>rfl⟩
     · exact⟨_,rfl,h⟩
   · rw[if_neg (by simp; omega),if_neg he]
     exact We hl hc (by omega) (by omega) hv hA h3 (fun x a b' cb' ha hb'=>abp fuel hl hc hA hA1 h3 n _ _ _ b' cb' (by simp; omega) (by simp; omega) (by
       have:=h3 a ha
       simp; omega) (hv.bind a) hb') A 0 b cb List.drop_zero h
def rf(s:List Int)(q:Query)(i:Int)(cs:List Query):List Atom->Nat->List Atom->List Query
 |[],_,c=>if fw s {Head:=q.Head,Atoms:=c}&&JA {Head:=q.Head,Atoms:=c} q then cs++[{Head:=q.Head,Atoms:=c}]else cs
 |a::r,k,c=>rf s q i cs r (k+1) (if pB i (k:Int)then c++[a]else c)
theorem TH{s:List Int}{q:Query}{i:Int}{cs:List Query}(h:∀p∈cs,fw s p=true):∀(r:List Atom)(k:Nat)(c:List Atom),(∀p∈rf s q i cs r k c,fw s p=true)/\(rf s q i cs r k c).length<=cs.length+1
 |[],_,c=>by
   unfold rf
   split
   · rename_i h2
     exact⟨Ti h (by simp only[Bool.and_eq_true]at h2; exact h2.1),by simp⟩
   · exact⟨h,by omega⟩
 |a::r,k,c=>by
   unfold rf
   exact TH h r _ _
theorem Wv{s:List Int}{q:Query}(hs:s.length<4294967296)(hq:fw s q=true)(cs:List Query)(hcl:cs.length<=1000)(i:Int):∀(ats:List Atom)(k:Nat)(c:List Atom),(∀a∈ats,a.Terms.length<=3)->(∀a∈c,a.Terms.length<=3)->c.length+ats.length<=4->A7 s q cs i q.Head 20 ats k c=some (rf s q i cs ats k c)
 |[],k,c,_,hc,h4=>by
   unfold A7 rf
   have ht:=qo (l:=c) hc
   have h4':c.length<=4:=by simpa using h4
   rw[Iy s _ hs (by show gT c<_; omega),Option.bind_some]
   cases h:fw s {Head:=q.Head,Atoms:=c}
   · rfl
   · rw[cond_true,aii hs h hq,Option.bind_some,Option.bind_some,Bool.true_and]
     dsimp only
     split
     · rw[app1 (by omega)]; rfl
     · rfl
 |a::ats,k,c,ha,hc,h4=>by
   have QZ:=ha a (by simp)
   simp only[List.length_cons]at h4
   unfold A7 rf
   rw[adI,Option.bind_some,ab4 _ _ (by omega),Option.bind_some,app1 (by omega),Option.bind_some,pB]
   split
   · rw[Option.bind_some]
     exact Wv hs hq cs hcl i ats _ _ (fun x hx=>ha x (by simp[hx])) (Ti hc QZ) (by simp; omega)
   · rw[Option.bind_some]
     exact Wv hs hq cs hcl i ats _ _ (fun x hx=>ha x (by simp[hx])) hc (by omega)
theorem ail{s:List Int}{p q:Query}(hs:s.length<4294967296)(hp:gT p.Atoms<4294967295)(hq:fw s q=true):Le 20 s p q=some (fw s p&&JA p q):=by
 obtain⟨g1,g2,g3⟩:=l7 hq
 have e1:=qo g2
 rw[Le,LF s p hs hp,Option.bind_some]
 cases h:fw s p
 · rfl
 · rw[cond_true,LF s q hs (by omega),hq,Option.bind_some,cond_true,ajf h hq]
   rfl
theorem Ww{s:List Int}{q:Query}(hs:s.length<4294967296)(hq:fw s q=true)(cs:List Query)(hcl:cs.length<=1000)(i:Int):∀(ats:List Atom)(k:Nat)(c:List Atom),(∀a∈ats,a.Terms.length<=3)->(∀a∈c,a.Terms.length<=3)->c.length+ats.length<=4->A9 s q cs i q.Head 20 ats k c=some (rf s q i cs ats k c)
 |[],k,c,_,hc,h4=>by
   unfold A9 rf
   have ht:=qo (l:=c) hc
   have h4':c.length<=4:=by simpa using h4
   rw[ail hs (by show gT c<_; omega) hq,Option.bind_some]
   split
   · rw[app1 (by omega)]; rfl
   · rfl
 |a::ats,k,c,ha,hc,h4=>by
   have QZ:=ha a (by simp)
   simp only[List.length_cons]at h4
   unfold A9 rf
   rw[adI,Option.bind_some,Sm,KI _ (by omega),Option.bind_some,Option.bind_some,app1 (by omega),Option.bind_some,pB]
   split
   · rw[Option.bind_some]
     exact Ww hs hq cs hcl i ats _ _ (fun x hx=>ha x (by simp[hx])) (Ti hc QZ) (by simp; omega)
   · rw[Option.bind_some]
     exact Ww hs hq cs hcl i ats _ _ (fun x hx=>ha x (by simp[hx])) hc (by omega)
def J4(s:List Int)(q:Query):Nat->Int->List Query->List Query
 |0,_,cs=>cs
 |n+1,i,cs=>J4 s q n (i+1) (rf s q i cs q.Atoms 0 [])
theorem adN{s:List Int}{q:Query}:∀(n:Nat)(i:Int)(cs:List Query),(∀p∈cs,fw s p=true)-> ∀p∈J4 s q n i cs,fw s p=true
 |0,_,_,h=>h
 |n+1,i,cs,h=>adN n (i+1) _ (TH h q.Atoms 0 []).1
theorem abE{s:List Int}{q:Query}(hs:s.length<4294967296)(hq:fw s q=true):∀(n m:Nat)(cs:List Query)(i:Nat),n+i=2 ^ q.Atoms.length->n<m->(∀p∈cs,fw s p=true)->cs.length+n<=500->A8 s q 20 m cs (i:Int)=some (J4 s q n (i:Int) cs)
 |n,0,_,_,_,hm,_,_=>by omega
 |0,m+1,cs,i,hi,_,_,_=>by
   obtain⟨h4,h3,hh⟩:=l7 hq
   obtain⟨e,aac,-⟩:=Tu (n:=q.Atoms.length) (by omega)
   unfold A8
   rw[e,Option.bind_some,if_neg (by simp only[decide_eq_true_eq]; rw[←hi]; simp)]
   rfl
 |n+1,m+1,cs,i,hi,hm,hc,hl=>by
   obtain⟨h4,h3,hh⟩:=l7 hq
   obtain⟨e,aac,-⟩:=Tu (n:=q.Atoms.length) (by omega)
   obtain⟨o1,o2⟩:=TH (i:=(i:Int)) hc q.Atoms 0 []
   unfold A8
   rw[e,Option.bind_some,if_pos (by simp only[decide_eq_true_eq]; rw[←hi]; omega),mW (by omega),Option.bind_some,Wv hs hq cs (by omega) i q.Atoms 0 [] h3 (by simp) (by simpa using h4),Option.bind_some]
   dsimp only
   rw[fU (by omega) (by omega),show (i:Int)+1=((i+1:Nat):Int) by omega]
   rw[abE hs hq n m _ (i+1) (by omega) (by omega) o1 (by omega)]
   rfl
theorem abF{s:List Int}{q:Query}(hs:s.length<4294967296)(hq:fw s q=true):∀(n m:Nat)(cs:List Query)(i:Nat),n+i=2 ^ q.Atoms.length->n<m->(∀p∈cs,fw s p=true)->cs.length+n<=500->A_ s q ((2 ^ q.Atoms.length:Nat):Int) 20 m cs (i:Int)=some (J4 s q n (i:Int) cs)
 |n,0,_,_,_,hm,_,_=>by omega
 |0,m+1,cs,i,hi,_,_,_=>by
   unfold A_
   rw[if_neg (by simp only[decide_eq_true_eq]; rw[←hi]; simp)]
   rfl
 |n+1,m+1,cs,i,hi,hm,hc,hl=>by
   obtain⟨h4,h3,hh⟩:=l7 hq
   obtain⟨e,aac,-⟩:=Tu (n:=q.Atoms.length) (by omega)
   obtain⟨o1,o2⟩:=TH (i:=(i:Int)) hc q.Atoms 0 []
   unfold A_
   rw[if_pos (by simp only[decide_eq_true_eq]; rw[←hi]; omega),KI _ (by omega),Option.bind_some,Ww hs hq cs (by omega) i q.Atoms 0 [] h3 (by simp) (by simpa using h4),Option.bind_some]
   dsimp only
   rw[fU (by omega) (by omega),show (i:Int)+1=((i+1:Nat):Int) by omega]
   rw[abF hs hq n m _ (i+1) (by omega) (by omega) o1 (by omega)]
   rfl
def AR(s:List Int)(q:Query):List Query:=if fw s q then J4 s q (2 ^ q.Atoms.length-1) 1 []else []
theorem XV{s:List Int}{q:Query}:∀p∈AR s q,fw s p=true:=by
 unfold AR
 split
 · exact adN _ _ _ (by simp)
 · simp
theorem ahJ{s:List Int}{q:Query}(hs:s.length<4294967296)(ht:gT q.Atoms<4294967295):KM 20 s q=some (AR s q):=by
 unfold KM AR
 rw[Iy s q hs ht,Option.bind_some]
 cases h:fw s q
 · rfl
 · have h4:=(l7 h).1
   have h5:2 ^ q.Atoms.length<=2 ^ 4:=Nat.pow_le_pow_right (by omega) h4
   have h6:1<=2 ^ q.Atoms.length:=Nat.one_le_two_pow
   simp only[Bool.not_true,Bool.false_eq_true,if_false,if_true]
   exact abE hs h (2 ^ q.Atoms.length-1) 20 [] 1 (by omega) (by omega) (by simp) (by simp; omega)
theorem afa{s:List Int}{q:Query}{cs:List Query}:∀(r:List Atom)(k:Nat),rf s q 0 cs r k []=cs
 |[],k=>by
   unfold rf
   have:fw s {Head:=q.Head,Atoms:=[]}=false:=by simp[fw,aT]
   rw[this]; rfl
 |a::r,k=>by
   unfold rf
   have:pB 0 (k:Int)=false:=by
     unfold pB
     rw[Int.zero_fdiv]
     decide
   rw[this]
   exact afa r (k+1)
theorem ahK{s:List Int}{q:Query}(hs:s.length<4294967296)(ht:gT q.Atoms<4294967295):KO 20 s q=some (AR s q):=by
 unfold KO AR
 rw[LF s q hs ht,Option.bind_some]
 cases h:fw s q
 · rfl
 · have h4:=(l7 h).1
   have h5:2 ^ q.Atoms.length<=2 ^ 4:=Nat.pow_le_pow_right (by omega) h4
   have h6:1<=2 ^ q.Atoms.length:=Nat.one_le_two_pow
   obtain⟨e,aac,-⟩:=Tu (n:=q.Atoms.length) (by omega)
   simp only[Bool.not_true,Bool.false_eq_true,if_false,if_true]
   rw[e,Option.bind_some]
   have:=abF hs h (2 ^ q.Atoms.length) ((((2 ^ q.Atoms.length:Nat):Int)-0).toNat+2) [] 0 (by omega) (by omega) (by simp) (by simp; omega)
   rw[show ((0:Nat):Int)=0 from rfl]at this
   rw[this]
   obtain⟨n,hn⟩:∃n,2 ^ q.Atoms.length=n+1:=⟨2 ^ q.Atoms.length-1,by omega⟩
   rw[hn,J4,afa]
   rfl
def lm(l:List Method)(p:Query):List Step:=uG (l.map jV) p.Atoms 20 [] [] []
def ut(l:List Method):List Query->lH×Bool->lH×Bool
 |[],r=>r
 |p::qs,r=>ut l qs (if !(lm l p).isEmpty&&(!r.2||decide (iQ l (lm l p)<r.1.Cost))then ({Query:=p,Steps:=lm l p,Cost:=iQ l (lm l p)},true)else r)
def Tv:lH:={Query:={Head:=[],Atoms:=[]},Steps:=[],Cost:=0}
def oQ(s:List Int)(l:List Method)(q:Query):lH×Bool:=if kW s l&&fw s q then ut l (AR s q) (Tv,false)else (Tv,false)
theorem VO{s:List Int}{l:List Method}(hl:l.length<4294967296):∀(qs:List Query)(k:Nat)(r:lH×Bool),(∀p∈qs,fw s p=true)->DI l 20 qs k r.1.Query.Head r.1.Query.Atoms r.1.Steps r.1.Cost r.2=some (ut l qs r)
 |[],_,_,_=>rfl
 |p::qs,k,r,hq=>by
   have hp:=hq p (by simp)
   obtain⟨h4,h3,hh⟩:=l7 hp
   unfold DI ut
   obtain⟨e1,e2⟩:=aaW 20 (l.map jV) p (by simpa using hl) h3 h4 20 [] [] [] (by simp) (by simp; omega) (by simp) (by simp)
   have e3:WR 20 (l.map jV) p [] [] []=some (lm l p):=e1
   have e4:(lm l p).length<=4:=e2
   rw[ajY l hl,Option.bind_some,e3,Option.bind_some,Wd hl (by omega),Option.bind_some,ab6 p h3 (by omega) hh]
   have e5:decide ((0:Int)<((lm l p).length:Int))=!(lm l p).isEmpty:=by
     cases lm l p with
     |nil=>rfl
     |cons _ _=>simp
   rw[e5]
   cases hc:(!(lm l p).isEmpty&&(!r.2||decide (iQ l (lm l p)<r.1.Cost)))
   · simp only[Bool.false_eq_true,if_false,Option.bind_some]
     exact VO hl qs (k+1) r fun x hx=>hq x (by simp[hx])
   · simp only[if_true,Option.bind_some]
     exact VO hl qs (k+1) ({Query:=p,Steps:=lm l p,Cost:=iQ l (lm l p)},true) fun x hx=>hq x (by simp[hx])
theorem VP{s:List Int}{l:List Method}(hl:l.length<4294967296)(hm:∀m∈l,aT 0 99 m.Cost=true):∀(qs:List Query)(k:Nat)(r:lH×Bool),(∀p∈qs,fw s p=true)->DL (l.map jV) 20 qs k r.1.Query.Head r.1.Query.Atoms r.1.Steps r.1.Cost r.2=some (ut l qs r)
 |[],_,_,_=>rfl
 |p::qs,k,r,hq=>by
   have hp:=hq p (by simp)
   obtain⟨h4,h3,hh⟩:=l7 hp
   have hne:p.Atoms≠[]:=by
     intro e
     have:fw s p=false:=by simp[fw,aT,e]
     rw[hp]at this; cases this
   have hm2:∀m∈l.map jV,aT 0 99 m.Cost=true:=by
     intro m hx
     obtain⟨m0,h0,rfl⟩:=List.mem_map.1 hx
     have:=hm m0 h0
     unfold jV
     split<;>exact this
   unfold DL ut
   obtain⟨cb,e1,e2⟩:=abp 20 (L:=l.map jV) (A:=p.Atoms) (by simpa using hl) hm2 h4 hne h3 20 [] [] [] [] 0 (by simp) (by simp; omega) (by simp) (fun v _=>Iff.rfl) (fun h=>absurd rfl h)
   have e3:V7 20 {l:=l.map jV,atoms:=p.Atoms,steps:=[],best:=[],cost:=0} (List.replicate p.Atoms.length false) [] 0=some (nA p.Atoms.length [],{l:=l.map jV,atoms:=p.Atoms,steps:=[],best:=lm l p,cost:=cb}):=by
     have:List.replicate p.Atoms.length false=nA p.Atoms.length []:=by
       apply List.ext_getElem?
       intro i
       by_cases hi:i<p.Atoms.length
       · rw[Jq hi,List.getElem?_replicate,if_pos hi]; rfl
       · rw[List.getElem?_eq_none (by simp; omega),List.getElem?_eq_none (by rw[Fe]; omega)]
     rw[this]
     exact e1
   rw[adl _ _ (by omega),Option.bind_some,e3,Option.bind_some]
   dsimp only
   have e4:(!(lm l p).isEmpty&&(!r.2||decide (cb<r.1.Cost)))=(!(lm l p).isEmpty&&(!r.2||decide (iQ l (lm l p)<r.1.Cost))):=by
     cases hb:lm l p with
     |nil=>rfl
     |cons y ys=>
       have:=e2 (show lm l p≠[] by rw[hb]; simp)
       rw[this,←hb,adL]
       rfl
   rw[e4]
   cases hc:(!(lm l p).isEmpty&&(!r.2||decide (iQ l (lm l p)<r.1.Cost)))
   · simp only[Bool.false_eq_true,if_false,Option.bind_some]
     exact VP hl hm qs (k+1) r fun x hx=>hq x (by simp[hx])
   · simp only[if_true,Option.bind_some]
     have h5:lm l p≠[]:=by
       intro e
       rw[e]at hc; cases hc
     have h6:cb=iQ l (lm l p):=by
       rw[e2 h5,adL]
       rfl
     rw[h6]
     exact VP hl hm qs (k+1) ({Query:=p,Steps:=lm l p,Cost:=iQ l (lm l p)},true) fun x hx=>hq x (by simp[hx])
theorem ah3{s:List Int}{l:List Method}{q:Query}(hs:s.length<4294967296)(hl:df om l)(ht:gT q.Atoms<4294967295):KV 20 s l q=some (oQ s l q):=by
 unfold KV oQ
 rw[alm s l q hs hl ht,Option.bind_some]
 cases h:kW s l&&fw s q
 · rfl
 · simp only[Bool.not_true,Bool.false_eq_true,if_false,if_true]
   rw[ahJ hs ht,Option.bind_some]
   exact VO hl.1 (AR s q) 0 (Tv,false) XV
theorem aj0{s:List Int}{l:List Method}(h:kW s l=true):∀m∈l,aT 0 99 m.Cost=true:=by
 intro m hm
 simp only[kW,Bool.and_eq_true,List.all_eq_true]at h
 have:=h.2.2 m hm
 simp only[uQ,Bool.and_eq_true]at this
 exact this.2.2.1
theorem ah4{s:List Int}{l:List Method}{q:Query}(hs:s.length<4294967296)(hl:df om l)(ht:gT q.Atoms<4294967295):KZ 20 s l q=some (oQ s l q):=by
 unfold KZ oQ
 rw[ajX s l q hs hl ht,Option.bind_some]
 cases h:kW s l&&fw s q
 · rfl
 · simp only[Bool.not_true,Bool.false_eq_true,if_false,if_true]
   have hm:kW s l=true:=by simp only[Bool.and_eq_true]at h; exact h.1
   rw[ajd l hl.1,Option.bind_some,ahK hs ht,Option.bind_some]
   exact VP hl.1 (aj0 hm) (AR s q) 0 (Tv,false) XV
theorem ac9{ff:List Step->List Int->List Step->List Step}{st:List Step}{bd:List Int}(hf:∀x bd b,b.length<=4->(ff (st++[x]) bd b).length<=4){k:Nat}{a:Atom}:∀(r:List Method)(j:Nat)(b:List Step),b.length<=4->(uq ff st bd k a r j b).length<=4
 |[],_,_,h=>h
 |m::r,j,b,h=>by
   unfold uq
   refine ac9 hf r _ _ ?_
   split
   · exact hf _ _ _ h
   · exact h
theorem adO{L:List Method}{A:List Atom}(hA:A.length<=4):∀(n:Nat)(st:List Step)(bd:List Int)(b:List Step),b.length<=4->(uG L A n st bd b).length<=4
 |0,_,_,_,h=>h
 |n+1,st,bd,b,h=>by
   unfold uG
   split
   · split
     · omega
     · exact h
   · have:∀(r:List Atom)(k:Nat)(b:List Step),b.length<=4->(vV L (uG L A n) st bd r k b).length<=4:=by
       intro r
       induction r with
       |nil=>intro _ _ h; exact h
       |cons a r ih=>
         intro k b hb
         unfold vV
         refine ih _ _ ?_
         split
         · exact hb
         · exact ac9 (fun x bd b hb=>adO hA n _ bd b hb) _ _ _ hb
     exact this _ _ _ h
theorem adP{s:List Int}{l:List Method}:∀(qs:List Query)(r:lH×Bool),(∀p∈qs,fw s p=true)->(r.2=true->fw s r.1.Query=true/\r.1.Steps.length<=4/\r.1.Cost=iQ l r.1.Steps)->(ut l qs r).2=true->fw s (ut l qs r).1.Query=true/\(ut l qs r).1.Steps.length<=4/\(ut l qs r).1.Cost=iQ l (ut l qs r).1.Steps
 |[],_,_,h=>h
 |p::qs,r,hq,h=>by
   unfold ut
   refine adP qs _ (fun x hx=>hq x (by simp[hx])) ?_
   split
   · exact fun _=>⟨hq p (by simp),adO (l7 (hq p (by simp))).1 _ _ _ _ (by simp),rfl⟩
   · exact h
theorem XW{s:List Int}{l:List Method}{q:Query}(h:(oQ s l q).2=true):fw s (oQ s l q).1.Query=true/\(oQ s l q).1.Steps.length<=4/\(oQ s l q).1.Cost=iQ l (oQ s l q).1.Steps:=by
 unfold oQ at h ⊢
 split at h
 · rename_i h2
   rw[if_pos h2]
   exact adP _ _ XV (fun h=>by cases h) h
 · cases h
def J5(x:Step):Bool:=aT 0 3 x.Atom&&aT 0 4 x.Method
def Db(x:Step):List UInt8:=mi x.Atom++[47,109]++mi x.Method
def Du(st:List Step):List UInt8:=if st.all J5 then Lib.join (st.map Db) [32]else []
theorem aay:∀(st:List Step)(k:Nat)(c:List (List UInt8)),(∀z∈c,z.length<=4)->c.length+st.length<=100->Bh st k c=some (if st.all J5 then Lib.join (c++st.map Db) [32]else [])
 |[],k,c,hc,hl=>by
   have hj:=XJ hc [32]
   simp only[List.length_nil,Nat.add_zero,List.length_cons]at hl hj
   unfold Bh yh
   rw[if_pos ⟨by omega,by omega⟩]
   simp
 |x::st,k,c,hc,hl=>by
   simp only[List.length_cons]at hl
   unfold Bh
   rw[qj,Option.bind_some,qj,List.all_cons,J5]
   cases h1:aT 0 3 x.Atom
   · rfl
   · cases h2:aT 0 4 x.Method
     · rfl
     · have g1:0<=x.Atom/\x.Atom<=3:=by simpa[aT]using h1
       have g2:0<=x.Method/\x.Method<=4:=by simpa[aT]using h2
       simp only[Bool.not_true,cond_false,Option.bind_some,Bool.false_eq_true,if_false,Bool.and_self,Bool.true_and]
       rw[V_ _ (by omega),Option.bind_some,iR (by simp[mi]),Option.bind_some,V_ _ (by omega),Option.bind_some,iR (by simp[mi]),Option.bind_some,app1 (by omega),Option.bind_some]
       rw[aay st (k+1) _ (Ti hc (by simp[mi])) (by simp; omega)]
       simp[Db]
theorem aim(st:List Step)(h:st.length<=100):Lf st=some (Du st):=by
 rw[Lf,aay st 0 [] (by simp) (by simpa using h)]
 simp[Du]
theorem aaz:∀(st:List Step)(k:Nat)(c:List UInt8),0<k->c.length+5*st.length<=1000->yf 20 st k c=some (if st.all J5 then c++Lib.joinTail [32] (st.map Db)else [])
 |[],k,c,_,_=>by simp[yf,Lib.joinTail]
 |x::st,k,c,hk,hl=>by
   simp only[List.length_cons]at hl
   unfold yf
   rw[kz,Option.bind_some,kz,List.all_cons,J5]
   cases h1:aT 0 3 x.Atom
   · rfl
   · cases h2:aT 0 4 x.Method
     · rfl
     · have g1:0<=x.Atom/\x.Atom<=3:=by simpa[aT]using h1
       have g2:0<=x.Method/\x.Method<=4:=by simpa[aT]using h2
       simp only[Bool.not_true,cond_false,Option.bind_some,Bool.false_eq_true,if_false,Bool.and_self,Bool.true_and]
       rw[if_pos (by simp only[decide_eq_true_eq]; omega),iR (by simp; omega),Option.bind_some,K4 (by omega) _ (by omega),Option.bind_some,iR (by simp[mi]; omega),Option.bind_some,iR (by simp[mi]; omega),Option.bind_some,K4 (by omega) _ (by omega),Option.bind_some,iR (by simp[mi]; omega),Option.bind_some,Option.bind_some]
       dsimp only
       rw[aaz st (k+1) _ (by omega) (by simp[mi]; omega)]
       simp[Db,Lib.joinTail]
theorem ain(st:List Step)(h:st.length<=100):K_ 20 st=some (Du st):=by
 rw[K_,Du]
 cases st with
 |nil=>rfl
 |cons x st=>
   simp only[List.length_cons]at h
   unfold yf
   rw[kz,Option.bind_some,kz,List.all_cons,J5]
   cases h1:aT 0 3 x.Atom
   · rfl
   · cases h2:aT 0 4 x.Method
     · rfl
     · have g1:0<=x.Atom/\x.Atom<=3:=by simpa[aT]using h1
       have g2:0<=x.Method/\x.Method<=4:=by simpa[aT]using h2
       simp only[Bool.not_true,cond_false,Option.bind_some,Bool.false_eq_true,if_false,Bool.and_self,Bool.true_and]
       rw[if_neg (by simp),K4 (by omega) _ (by omega),Option.bind_some,iR (by simp[mi]),Option.bind_some,iR (by simp[mi]),Option.bind_some,K4 (by omega) _ (by omega),Option.bind_some,iR (by simp[mi]),Option.bind_some,Option.bind_some]
       dsimp only
       rw[aaz st 1 _ (by omega) (by simp[mi]; omega),List.map_cons,Lib.join_cons]
       simp[Db]
theorem adQ{st:List Step}(h:st.length<=4):(Du st).length<=20:=by
 unfold Du
 split
 · have:=XJ (A:=st.map Db) (m:=4) (fun z hz=>by
     obtain⟨x,-,rfl⟩:=List.mem_map.1 hz
     simp[Db,mi]) [32]
   simp at this; omega
 · simp
def Ov(p:lH):List UInt8:=if (AQ p.Query==[])||((Du p.Steps==[])||decide (p.Cost<0))then []else AQ p.Query++[32,98,121,32]++Du p.Steps++[32,99,111,115,116,32]++Lib.itoa p.Cost
theorem adR{q:Query}(h:sN q=true):(AQ q).length<=80:=by
 obtain⟨g1,g2,g3,g4,g5⟩:=Xf h
 have h1:=anV g5 g3
 have h2:=acM g2 g1.2
 unfold AQ
 simp only[List.length_append,List.length_cons,List.length_nil]
 omega
theorem aiL{s:List Int}{p:lH}(h:fw s p.Query=true)(h4:p.Steps.length<=4)(hc:0<=p.Cost/\p.Cost<=1000):LC p=some (Ov p):=by
 obtain⟨g1,g2,g3⟩:=l7 h
 have e1:=qo g2
 have hq:=ace h
 have l1:=adR hq
 have l2:=adQ h4
 have l3:=(ac5 (n:=p.Cost) (by omega))
 rw[LC,aij _ (by omega) (by omega),Option.bind_some,aim _ (by omega),Option.bind_some,Ou,if_pos hq,Ov]
 split
 · rfl
 · rw[iR (by simp; omega),Option.bind_some,iR (by simp; omega),Option.bind_some,iR (by simp; omega),Option.bind_some,aiE _ (by omega),Option.bind_some,iR (by simp; omega)]
   rfl
theorem aiM{s:List Int}{p:lH}(h:fw s p.Query=true)(h4:p.Steps.length<=4)(hc:0<=p.Cost/\p.Cost<=1000):Ls 20 p=some (Ov p):=by
 obtain⟨g1,g2,g3⟩:=l7 h
 have e1:=qo g2
 have hq:=ace h
 have l1:=adR hq
 have l2:=adQ h4
 have l3:=(ac5 (n:=p.Cost) (by omega))
 rw[Ls,aik hq (by omega),Option.bind_some,ain _ (by omega),Option.bind_some,Ov]
 split
 · rfl
 · rw[iR (by simp; omega),Option.bind_some,iR (by simp; omega),Option.bind_some,iR (by simp; omega),Option.bind_some,aiD 19 _ (by omega) (by omega) (by omega),Option.bind_some,iR (by simp; omega)]
   rfl
def TI(m:gV)(q:Query):List UInt8:=if Gl m&&fw m.Schema q then (if (oQ m.Schema m.Methods q).2 then Ov (oQ m.Schema m.Methods q).1 else [110,111,32,112,108,97,110])else []
theorem ac_{s:List Int}{l:List Method}{q:Query}(h:(oQ s l q).2=true):0<=(oQ s l q).1.Cost/\(oQ s l q).1.Cost<=1000:=by
 obtain⟨-,h4,e⟩:=XW h
 have:=XK (L:=l) (oQ s l q).1.Steps 0 (by omega)
 rw[e]
 unfold iQ
 omega
theorem aj1(m:gV)(q:Query)(b:ED m)(hs:m.Schema.length<4294967296)(hl:df om m.Methods)(ht:gT q.Atoms<4294967295):Mx 20 m q=some (TI m q):=by
 rw[Mx,aiB m b,Option.bind_some,TI]
 cases h1:Gl m
 · rfl
 · rw[LF _ _ hs ht,Bool.not_true,cond_false,Option.bind_some]
   cases h2:fw m.Schema q
   · rfl
   · simp only[Bool.not_true,Option.bind_some,Bool.false_eq_true,if_false,Bool.and_self,if_true]
     rw[ah4 hs hl ht,Option.bind_some]
     cases h3:(oQ m.Schema m.Methods q).2
     · rfl
     · obtain⟨o1,o2,-⟩:=XW h3
       simp only[Bool.not_true,Bool.false_eq_true,if_false,if_true]
       rw[aiL o1 o2 (ac_ h3)]
       rfl
theorem aj2(m:gV)(q:Query)(b:ED m)(hs:m.Schema.length<4294967296)(hl:df om m.Methods)(ht:gT q.Atoms<4294967295):Ml 20 m q=some (TI m q):=by
 rw[Ml,aiC m b,Option.bind_some,TI]
 cases h1:Gl m
 · rfl
 · rw[Iy _ _ hs ht,Bool.not_true,cond_false,Option.bind_some]
   cases h2:fw m.Schema q
   · rfl
   · simp only[Bool.not_true,Option.bind_some,Bool.false_eq_true,if_false,Bool.and_self,if_true]
     rw[ah3 hs hl ht,Option.bind_some]
     cases h3:(oQ m.Schema m.Methods q).2
     · rfl
     · obtain⟨o1,o2,-⟩:=XW h3
       simp only[Bool.not_true,Bool.false_eq_true,if_false,if_true]
       rw[aiM o1 o2 (ac_ h3)]
       rfl
theorem ahP{m:gV}{q:Query}(wm:YG m)(wq:YH q):∃fuel,Rt fuel m q=some true:=by
 refine⟨20,?_⟩
 unfold Rt
 obtain⟨n1,e1,h1⟩:=alb m wm 1048576 (by omega) (by omega)
 rw[e1,Option.bind_some]
 try dsimp only at h1
 rcases h1 with⟨rfl,p1⟩|p1
 rotate_left
 · rw[if_pos (by simpa using p1)]
 rw[if_neg (by simp only[decide_eq_true_eq]; omega)]
 obtain⟨n2,e2,h2⟩:=amW q wq _ p1 (by omega)
 rw[e2,Option.bind_some]
 try dsimp only at h2
 rcases h2 with⟨rfl,p2⟩|p2
 rotate_left
 · rw[if_pos (by simpa using p2)]
 rw[if_neg (by simp only[decide_eq_true_eq]; omega)]
 have b:=ao7 m (by omega)
 have b2:=aml q (by omega)
 have ht:gT q.Atoms<4294967295:=by
   have:=ac8 q.Atoms
   unfold M6 at p2; omega
 simp[WG m b,amY q b2,aj2 m q b b.1.1 b.2.1 ht,aj1 m q b b.1.1 b.2.1 ht,WH,am0]
end Go.Proofs.YtdmapdjncfkhhaaGreatDoor
/-
 The row FnExactPlanLine.
-/
set_option maxRecDepth 100000
namespace Go.Proofs.YtdmapdjncfkhhaaGreatDoor.fnExactPlanLine
open Go Go.Fw Go.ChangeShapes Go.WideShapes Go.ChangeAt Go.RowKit
theorem own:ownKnob Tryz.prog.godebug=none:=by kernel_rfl
theorem am7(os:Os)(args:Array Value):laidMetH Tryz.prog Rows.fnExactPlanLineRow.laid ((World.doorLaid Tryz.prog 400 os).forCall (fun _ _=>0) ⟨#[],args,[]⟩).memory:=
 laidMetH_of_parts3 (fuel:=8) (laidMet_of_run' 8 (by kernel_rfl) (by kernel_rfl)) (by kernel_rfl) (by kernel_rfl)
theorem awp:Tryz.prog.globalNamed "internal/strconv.uint64pow10" =some 1:=by kernel_rfl
theorem atc:(Tryz.prog.globals[1]?).map (·.type)=some 329:=by kernel_rfl
theorem laidOut:laidOutB Tryz.prog=true:=by kernel_rfl
set_option maxRecDepth 100000 in
theorem lifted(os:Os)(started:os.Started)(H:Type)(enc:TypeId×Value->H):
   ReturnsInHanded {} Tryz.checked os 4 .any (fun w args=>(Rows.fnExactPlanLineSpec.pre enc Tryz.prog Tryz.f4 [] false w args/\laidMetH Tryz.prog Rows.fnExactPlanLineRow.laid w)/\sizedMet enc Tryz.prog Tryz.f4 (OpenSpec.ofChange Rows.fnExactPlanLineSpec) false w args) (Rows.fnExactPlanLineSpec.post enc Tryz.prog Tryz.f4 false true false false):=by
 refine returnsInHanded_of_change_and (C:=Tryz.checked) (X:=fun w _=>laidMetH Tryz.prog Rows.fnExactPlanLineRow.laid w) (fun _ _ _ hh h=>h.of_heap hh) own started (by kernel_rfl) Tryz.func4
   (ChangeSpec.witness_shaped (enc:=enc) (C:=Tryz.checked) (os:=os) (X:=fun w _=>laidMetH Tryz.prog Rows.fnExactPlanLineRow.laid w) false (World.doorLaid Tryz.prog 400 os) #[.agg #[.slice none 0 0,.slice none 0 0,.slice none 0 0,.slice none 0 0,.int .i64 0,.slice none 0 0,.int .i64 0,.int .i64 0,.slice none 0 0,.slice none 0 0,.int .i64 0,.slice none 0 0],.agg #[.slice none 0 0,.slice none 0 0]] 16 rfl (World.shaped_of_RefB (by kernel_rfl) (by kernel_rfl)) (by kernel_rfl) (by kernel_rfl) (by kernel_rfl) (am7 os _)) ?_
 intro W base args ds gs before hval hW _ hwt hL _
 rw[MakeChecks.laidMetH_plain _ _ _ (by kernel_rfl)]at hL
 have htab:Lib.TabIs Tryz.prog W "internal/strconv.uint64pow10" .u64 Lib.pow10Tab:=Lib.tabIs_of_head awp atc (show Tryz.prog.underlying 329=some (.array 20 312) by kernel_rfl) (show Tryz.prog.underlying 312=some (.int .u64) by kernel_rfl) (by kernel_rfl) (by kernel_rfl) (laidMet.tail (laidMet.tail hL))
 have hW':=hW
 obtain⟨p,q,hA0,hV,rfl,hfz,hnd⟩:=hW
 obtain⟨rfl,rfl⟩:=trodVars_none hV
 have hA:DataW.TrodAll enc Tryz.prog W 0 (fun _=>true) true [55,27] args.toList ds p:=hA0
 have hw:∀n∈DataW.weightsEach Tryz.prog [55,27] ds,n<=reachBytes:=fun n hn=>by
   have:=List.all_eq_true.1 hwt n (by rw[List.append_nil]; exact hn)
   simpa using this
 obtain⟨v0,vs0,d0,ds0,p0,ρ0,H0,qR,a0,e0,rfl,hA0,hw0,r0,f0,u0,i0,rv0,q0,w0⟩:=adj hA hw aul auk (r:=.any) (base:=base) (fun v h=>hval 0 55 v rfl (adV h)) (Rel.nil _ W htab) oM.nil
 obtain⟨v1,vs1,d1,ds1,p1,ρ1,H1,sO,a1,e1,rfl,hA1,hw1,r1,f1,u1,i1,rv1,q1,w1⟩:=adj hA0 hw0 aun aum (r:=.any) (base:=base) (fun v h=>hval 1 27 v rfl (adV (by rw[e0]; exact h))) r0 f0
 obtain⟨en,rfl⟩:=amB hA1
 subst en
 obtain⟨NJ,aeb,aec,aed,aee,aef,aeg,aeh,rfl,XU,ao8,ao9,ao_,ao',apa,apb,apc⟩:=q0
 obtain⟨aei,aej,rfl,apd,ape⟩:=q1
 have hargs:bv ρ1 [(.agg [NJ.v,aeb.v,aec.v,aed.v,(.int .i64 a0.Source.Version),aee.v,(.int .i64 a0.Cache.Age),(.int .i64 a0.Now),aef.v,aeg.v,(.int .i64 a0.Spent),aeh.v].toArray),(.agg [aei.v,aej.v].toArray)] args.toList:=by
   rw[e0,e1]
   exact (.cons _ _ _ _ (rv0.up u1) (.cons _ _ _ _ rv1 .nil))
 obtain⟨fuel,awq⟩:=ahP w0 w1
 refine ((@ahG fuel a0 NJ aeb aec aed aee aef aeg aeh a1 aei aej true awq) H1 [] (Ctx.dup (Ctx.dup (Ctx.dup (Ctx.dup (Ctx.dup (Ctx.dup (Ctx.dup (Ctx.dup (Ctx.dup (Ctx.dup (Ctx.start _) ape rfl) apd rfl) (bE.up apc i1) rfl) (bE.up apb i1) rfl) (bE.up apa i1) rfl) (bE.up ao' i1) rfl) (bE.up ao_ i1) rfl) (bE.up ao9 i1) rfl) (bE.up ao8 i1) rfl) (bE.up XU i1) rfl) ρ1 W args r1 hargs).mono ?_
 rintro e w' ⟨v,r,ρ',H',rfl,h1,h2,h3,x,h5,-⟩
 have h6:r= .bool true:=h5
 subst h6
 refine⟨_,rfl,?_⟩
 rw[h1.bool_inv]
 refine amx hW' rfl laidOut (by kernel_rfl) rfl (by kernel_rfl) (fun d=>?_) (h3.below f1)
 by_cases hd:d=[d0,d1]
 · subst hd; exact .inl ⟨rfl,rfl,rfl⟩
 · exact .inr (by simpa using hd)
theorem named:Tryz.pinned.checked.prog.funcNamed Rows.fnExactPlanLineRow.func=some 4:=by kernel_rfl
set_option maxHeartbeats 10000000 in
theorem closed:joinedFacts Tryz.pinned.checked.prog 4 Tryz.f4 Rows.fnExactPlanLineSpec Rows.fnExactPlanLineRow=true:=by
 simp only[joinedFacts,Bool.and_eq_true]
 repeat' refine And.intro ?_ ?_
 all_goals (as_aux_lemma=>kernel_rfl)
theorem over:Rows.fnExactPlanLineRow.holds Tryz.pinned (OpenSpec.ofChange Rows.fnExactPlanLineSpec):=
 OpenClaim.holds_of_wide 4 Tryz.f4 rfl rfl rfl rfl rfl rfl rfl ⟨rfl,rfl,rfl,rfl,rfl⟩ rfl rfl rfl rfl rfl named Tryz.func4 closed
   (of_decide_eq_true (by kernel_rfl)) (by unfold Func.isWrapper; first|(rw[if_pos (by decide+kernel)]; kernel_rfl)|(rw[if_neg (by decide+kernel)]; exact⟨rfl,rfl⟩))
   (fun os started H enc _=>lifted os started H enc)
theorem proved:Rows.FnExactPlanLineCardSaid:=
 Claim7.holds_tied_plain_at .later [] [.data,.data,.data] true (true,"ef03683b5bbbe8c6a7054127f501ddc939323f22523163ef625262f2913f691b") false
   over (fun _ h=>by cases h) (by as_aux_lemma=>kernel_rfl) (fun _ h=>by cases h) fnExactPlanLine_row_tie rfl ⟨rfl,rfl⟩ (by as_aux_lemma=>kernel_rfl) rfl
   (fun f fn hf hfn=>by
     obtain rfl:f=4:=Option.some.inj ((show Tryz.prog.funcNamed "loop.example/g01989/laws.FnExactPlanLine" =some 4 by as_aux_lemma=>kernel_rfl).symm.trans hf) |>.symm
     obtain rfl:fn=Tryz.f4:=(Option.some.inj (Tryz.func4.symm.trans hfn)).symm
     exact⟨by as_aux_lemma=>kernel_rfl,fun j t ht=>by
       have hm:t∈[55,27]:=by simpa using (Array.mem_of_getElem? ht:t∈(#[55,27]:Array TypeId))
       have hall:([55,27].all fun u=>!Tryz.prog.wantsStandIn u)=true:=by as_aux_lemma=>kernel_rfl
       exact (show Tryz.prog.wantsStandIn t=false by simpa using List.all_eq_true.1 hall t hm)⟩)
   (by as_aux_lemma=>kernel_rfl)
end Go.Proofs.YtdmapdjncfkhhaaGreatDoor.fnExactPlanLine
