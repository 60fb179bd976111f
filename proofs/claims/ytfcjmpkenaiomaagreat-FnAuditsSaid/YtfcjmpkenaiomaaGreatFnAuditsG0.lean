/-
  Functions of the program as Lean functions, and that the calls return what these say: part 1. No conditions.
-/
import Derived.Test.YtfcjmpkenaiomaaGreatFc
import Derived.Test.YtfcjmpkenaiomaaGreatProg
import Derived.KernelRfl
set_option maxRecDepth 100000
set_option maxHeartbeats 1000000
set_option linter.unusedVariables false
namespace Go.Proofs.YtfcjmpkenaiomaaGreat
open Go Go.Fw

theorem iy{G:Prop}(h:G:=by (unfold FD; kernel_rfl)):G:=h
theorem lM{G:Prop}(h:G:=by (unfold AG; kernel_rfl)):G:=h
theorem uZ{G:Prop}(h:G:=by (unfold SL; kernel_rfl)):G:=h
theorem l5{G:Prop}(h:G:=by (unfold TY; kernel_rfl)):G:=h
instance:dD Tryz.prog:=⟨fun _=>True⟩
instance cf4:bf Tryz.prog 4:=⟨Tryz.call4⟩
instance aBK:qp Tryz.prog 22 5:=⟨uZ⟩
instance cf5:bf Tryz.prog 5:=⟨Tryz.call5⟩
structure Method where
 Rel:Int
 Inputs:List Int
 Limit:Int
 Cost:Int
 Quota:Int
structure df where
 From:Int
 To:Int
 Map:List Int
structure Fact where
 Rel:Int
 Values:List Int
structure Source where
 Facts:List Fact
 Version:Int
structure Access where
 Method:Int
 Values:List Int
structure cB where
 Access:Access
 Facts:List Fact
 At:Int
structure Cache where
 Entries:List cB
 Age:Int
structure aZ where
 Schema:List Int
 Methods:List Method
 Rules:List df
 Source:Source
 Cache:Cache
 Now:Int
 Log:List Access
 Times:List Int
 Spent:Int
 Results:List (List (List Int))
instance fG:jv Tryz.prog 36 12 224 (.agg [(.slice none 0 0),(.slice none 0 0),(.slice none 0 0),(.slice none 0 0),(.int .i64 0),(.slice none 0 0),(.int .i64 0),(.int .i64 0),(.slice none 0 0),(.slice none 0 0),(.int .i64 0),(.slice none 0 0)].toArray):=⟨l5⟩
instance aBL:bf Tryz.prog 25:=⟨Tryz.call25⟩
structure bv where
 b:List UInt8
 i:Int
 h:Int
instance ty5:jv Tryz.prog 5 1 1 (.int .u8 0):=⟨l5⟩
theorem ah_{a:UInt8}:∀H e,wH H e a->e.cells.toList[0]?=some (.int .u8 (a.toNat:Int)):=by
 intro H e h
 subst h
 rfl
instance ag5:jg Tryz.prog 5 false:=⟨lM⟩
theorem ik5:IK Tryz.prog 5 .u8:=by unfold IK; kernel_rfl
theorem ik3:IK Tryz.prog 3 .i64:=by unfold IK; kernel_rfl
instance av6:jv Tryz.prog 77 3 40 (.agg [(.slice none 0 0),(.int .i64 0),(.int .i64 0)].toArray):=⟨l5⟩
instance av7:bf Tryz.prog 24:=⟨Tryz.call24⟩
instance av8:bf Tryz.prog 50:=⟨Tryz.call50⟩
instance aBM:bf Tryz.prog 92:=⟨Tryz.call92⟩
instance dh:qp Tryz.prog 24 3:=⟨uZ⟩
instance dx:jv Tryz.prog 3 1 8 (.int .i64 0):=⟨l5⟩
instance Cj:bf Tryz.prog 51:=⟨Tryz.call51⟩
instance azF:bf Tryz.prog 103:=⟨Tryz.call103⟩
instance aza:ik Tryz.prog 77 2 2:=⟨iy⟩
instance pU:jg Tryz.prog 3 false:=⟨lM⟩
theorem mixed:Tryz.prog.follows .mixedOrders=true:=by kernel_rfl
instance azb:ik Tryz.prog 77 1 1:=⟨iy⟩
instance azc:ik Tryz.prog 77 0 0:=⟨iy⟩
instance ajc:jg Tryz.prog 22 false:=⟨lM⟩
instance aso:bf Tryz.prog 131:=⟨Tryz.call131⟩
theorem iQ:sM Tryz.prog 24:=.inr ⟨3,by kernel_rfl⟩
instance av9:bf Tryz.prog 93:=⟨Tryz.call93⟩
instance aBN:bf Tryz.prog 70:=⟨Tryz.call70⟩
instance aBO:bf Tryz.prog 75:=⟨Tryz.call75⟩
theorem dN{a:Int}:∀H e,az H e a->e.cells.toList[0]?=some (.int .i64 a):=by
 intro H e h
 subst h
 rfl
instance jl:jg Tryz.prog 36 true:=⟨lM⟩
def qK(H:aH)(v:Value)(a:Method):Prop:=∃v0:Sv,v= .agg [(.int .i64 a.Rel),v0.v,(.int .i64 a.Limit),(.int .i64 a.Cost),(.int .i64 a.Quota)].toArray/\(aD 3 az) H v0.v a.Inputs
instance:eB qK:=⟨fun h hi=>by
 obtain⟨v0,h,h0⟩:=h
 exact⟨v0,h,eB.up h0 hi⟩⟩
instance:Cells qK 5:=⟨fun h=>by
 obtain⟨v0,rfl,h0⟩:=h
 exact⟨rfl,rfl⟩⟩
def qL:iP Method:=fun F H v a=>∃(v0:Sv)(F0:List Nat),v= .agg [(.int .i64 a.Rel),v0.v,(.int .i64 a.Limit),(.int .i64 a.Cost),(.int .i64 a.Quota)].toArray/\F0=F/\(aF 3 (aC az)) F0 H v0.v a.Inputs
instance:ig qL:=⟨fun h hi hg=>by
 obtain⟨v0,F0,rfl,rfl,h0⟩:=h
 exact⟨v0,F0,rfl,rfl,ig.keep h0 hi (fun k hk=>hg k (by simp[hk]))⟩⟩
instance:Local qL:=⟨fun h hg=>by
 obtain⟨v0,F0,rfl,rfl,h0⟩:=h
 exact⟨v0,F0,rfl,rfl,Local.keep h0 (fun k hk=>hg k (by simp[hk]))⟩⟩
instance:lL qL:=⟨fun h k hk=>by
 obtain⟨v0,F0,rfl,rfl,h0⟩:=h
 exact lL.owns h0 k hk
⟩
instance:qa qL 5:=⟨fun h=>by
 obtain⟨v0,F0,rfl,rfl,h0⟩:=h
 exact⟨rfl,rfl⟩⟩
instance:lN qL qK:=⟨fun h hg=>by
 obtain⟨v0,F0,rfl,rfl,h0⟩:=h
 exact⟨v0,rfl,lN.frz h0 (fun k hk=>hg k (by simp[hk]))⟩⟩
def Ck(H:aH)(v:Value)(a:df):Prop:=∃v0:Sv,v= .agg [(.int .i64 a.From),(.int .i64 a.To),v0.v].toArray/\(aD 3 az) H v0.v a.Map
instance:eB Ck:=⟨fun h hi=>by
 obtain⟨v0,h,h0⟩:=h
 exact⟨v0,h,eB.up h0 hi⟩⟩
instance:Cells Ck 3:=⟨fun h=>by
 obtain⟨v0,rfl,h0⟩:=h
 exact⟨rfl,rfl⟩⟩
def oJ:iP df:=fun F H v a=>∃(v0:Sv)(F0:List Nat),v= .agg [(.int .i64 a.From),(.int .i64 a.To),v0.v].toArray/\F0=F/\(aF 3 (aC az)) F0 H v0.v a.Map
instance:ig oJ:=⟨fun h hi hg=>by
 obtain⟨v0,F0,rfl,rfl,h0⟩:=h
 exact⟨v0,F0,rfl,rfl,ig.keep h0 hi (fun k hk=>hg k (by simp[hk]))⟩⟩
instance:Local oJ:=⟨fun h hg=>by
 obtain⟨v0,F0,rfl,rfl,h0⟩:=h
 exact⟨v0,F0,rfl,rfl,Local.keep h0 (fun k hk=>hg k (by simp[hk]))⟩⟩
instance:lL oJ:=⟨fun h k hk=>by
 obtain⟨v0,F0,rfl,rfl,h0⟩:=h
 exact lL.owns h0 k hk
⟩
instance:qa oJ 3:=⟨fun h=>by
 obtain⟨v0,F0,rfl,rfl,h0⟩:=h
 exact⟨rfl,rfl⟩⟩
instance:lN oJ Ck:=⟨fun h hg=>by
 obtain⟨v0,F0,rfl,rfl,h0⟩:=h
 exact⟨v0,rfl,lN.frz h0 (fun k hk=>hg k (by simp[hk]))⟩⟩
def mI(H:aH)(v:Value)(a:Fact):Prop:=∃v0:Sv,v= .agg [(.int .i64 a.Rel),v0.v].toArray/\(aD 3 az) H v0.v a.Values
instance:eB mI:=⟨fun h hi=>by
 obtain⟨v0,h,h0⟩:=h
 exact⟨v0,h,eB.up h0 hi⟩⟩
instance:Cells mI 2:=⟨fun h=>by
 obtain⟨v0,rfl,h0⟩:=h
 exact⟨rfl,rfl⟩⟩
def gN:iP Fact:=fun F H v a=>∃(v0:Sv)(F0:List Nat),v= .agg [(.int .i64 a.Rel),v0.v].toArray/\F0=F/\(aF 3 (aC az)) F0 H v0.v a.Values
instance:ig gN:=⟨fun h hi hg=>by
 obtain⟨v0,F0,rfl,rfl,h0⟩:=h
 exact⟨v0,F0,rfl,rfl,ig.keep h0 hi (fun k hk=>hg k (by simp[hk]))⟩⟩
instance:Local gN:=⟨fun h hg=>by
 obtain⟨v0,F0,rfl,rfl,h0⟩:=h
 exact⟨v0,F0,rfl,rfl,Local.keep h0 (fun k hk=>hg k (by simp[hk]))⟩⟩
instance:lL gN:=⟨fun h k hk=>by
 obtain⟨v0,F0,rfl,rfl,h0⟩:=h
 exact lL.owns h0 k hk
⟩
instance:qa gN 2:=⟨fun h=>by
 obtain⟨v0,F0,rfl,rfl,h0⟩:=h
 exact⟨rfl,rfl⟩⟩
instance:lN gN mI:=⟨fun h hg=>by
 obtain⟨v0,F0,rfl,rfl,h0⟩:=h
 exact⟨v0,rfl,lN.frz h0 (fun k hk=>hg k (by simp[hk]))⟩⟩
def oK(H:aH)(v:Value)(a:cB):Prop:=∃v0 v1:Sv,v= .agg [(.int .i64 a.Access.Method),v0.v,v1.v,(.int .i64 a.At)].toArray/\(aD 3 az) H v0.v a.Access.Values/\(aD 70 mI) H v1.v a.Facts
instance:eB oK:=⟨fun h hi=>by
 obtain⟨v0,v1,h,h0,h1⟩:=h
 exact⟨v0,v1,h,eB.up h0 hi,eB.up h1 hi⟩⟩
instance:Cells oK 4:=⟨fun h=>by
 obtain⟨v0,v1,rfl,h0,h1⟩:=h
 exact⟨rfl,rfl⟩⟩
def qM:iP cB:=fun F H v a=>∃(v0 v1:Sv)(F0 F1:List Nat),v= .agg [(.int .i64 a.Access.Method),v0.v,v1.v,(.int .i64 a.At)].toArray/\F=(F0++F1)/\(aF 3 (aC az)) F0 H v0.v a.Access.Values/\(aF 70 gN) F1 H v1.v a.Facts
instance:ig qM:=⟨fun h hi hg=>by
 obtain⟨v0,v1,F0,F1,rfl,rfl,h0,h1⟩:=h
 exact⟨v0,v1,F0,F1,rfl,rfl,ig.keep h0 hi (fun k hk=>hg k (by simp[hk])),ig.keep h1 hi (fun k hk=>hg k (by simp[hk]))⟩⟩
instance:Local qM:=⟨fun h hg=>by
 obtain⟨v0,v1,F0,F1,rfl,rfl,h0,h1⟩:=h
 exact⟨v0,v1,F0,F1,rfl,rfl,Local.keep h0 (fun k hk=>hg k (by simp[hk])),Local.keep h1 (fun k hk=>hg k (by simp[hk]))⟩⟩
instance:lL qM:=⟨fun h k hk=>by
 obtain⟨v0,v1,F0,F1,rfl,rfl,h0,h1⟩:=h
 simp only[List.mem_append]at hk
 rcases hk with hk|hk
 · exact lL.owns h0 k hk
 · exact lL.owns h1 k hk
⟩
instance:qa qM 4:=⟨fun h=>by
 obtain⟨v0,v1,F0,F1,rfl,rfl,h0,h1⟩:=h
 exact⟨rfl,rfl⟩⟩
instance:lN qM oK:=⟨fun h hg=>by
 obtain⟨v0,v1,F0,F1,rfl,rfl,h0,h1⟩:=h
 exact⟨v0,v1,rfl,lN.frz h0 (fun k hk=>hg k (by simp[hk])),lN.frz h1 (fun k hk=>hg k (by simp[hk]))⟩⟩
def qN(H:aH)(v:Value)(a:Access):Prop:=∃v0:Sv,v= .agg [(.int .i64 a.Method),v0.v].toArray/\(aD 3 az) H v0.v a.Values
instance:eB qN:=⟨fun h hi=>by
 obtain⟨v0,h,h0⟩:=h
 exact⟨v0,h,eB.up h0 hi⟩⟩
instance:Cells qN 2:=⟨fun h=>by
 obtain⟨v0,rfl,h0⟩:=h
 exact⟨rfl,rfl⟩⟩
def mY:iP Access:=fun F H v a=>∃(v0:Sv)(F0:List Nat),v= .agg [(.int .i64 a.Method),v0.v].toArray/\F0=F/\(aF 3 (aC az)) F0 H v0.v a.Values
instance:ig mY:=⟨fun h hi hg=>by
 obtain⟨v0,F0,rfl,rfl,h0⟩:=h
 exact⟨v0,F0,rfl,rfl,ig.keep h0 hi (fun k hk=>hg k (by simp[hk]))⟩⟩
instance:Local mY:=⟨fun h hg=>by
 obtain⟨v0,F0,rfl,rfl,h0⟩:=h
 exact⟨v0,F0,rfl,rfl,Local.keep h0 (fun k hk=>hg k (by simp[hk]))⟩⟩
instance:lL mY:=⟨fun h k hk=>by
 obtain⟨v0,F0,rfl,rfl,h0⟩:=h
 exact lL.owns h0 k hk
⟩
instance:qa mY 2:=⟨fun h=>by
 obtain⟨v0,F0,rfl,rfl,h0⟩:=h
 exact⟨rfl,rfl⟩⟩
instance:lN mY qN:=⟨fun h hg=>by
 obtain⟨v0,F0,rfl,rfl,h0⟩:=h
 exact⟨v0,rfl,lN.frz h0 (fun k hk=>hg k (by simp[hk]))⟩⟩
instance oL:jv Tryz.prog 32 2 32 (.agg [(.slice none 0 0),(.int .i64 0)].toArray):=⟨l5⟩
instance av_:bf Tryz.prog 95:=⟨Tryz.call95⟩
instance qi:jv Tryz.prog 57 5 56 (.agg [(.int .i64 0),(.slice none 0 0),(.int .i64 0),(.int .i64 0),(.int .i64 0)].toArray):=⟨l5⟩
instance abL:bf Tryz.prog 52:=⟨Tryz.call52⟩
instance ap5:ik Tryz.prog 57 0 0:=⟨iy⟩
instance ahF:ik Tryz.prog 57 1 1:=⟨iy⟩
instance iA:jg Tryz.prog 24 false:=⟨lM⟩
instance pE:jv Tryz.prog 24 1 24 (.slice none 0 0):=⟨l5⟩
instance ajd:jg Tryz.prog 57 true:=⟨lM⟩
instance av':bf Tryz.prog 94:=⟨Tryz.call94⟩
instance azG:bf Tryz.prog 132:=⟨Tryz.call132⟩
instance PR:ik Tryz.prog 36 0 0:=⟨iy⟩
instance ahG:ik Tryz.prog 36 3 3:=⟨iy⟩
instance xP:jg Tryz.prog 29 true:=⟨lM⟩
instance u6:jv Tryz.prog 29 2 32 (.agg [(.slice none 0 0),(.int .i64 0)].toArray):=⟨l5⟩
instance VK:ik Tryz.prog 36 4 5:=⟨iy⟩
instance uu:jg Tryz.prog 32 true:=⟨lM⟩
instance ap6:ik Tryz.prog 36 5 7:=⟨iy⟩
instance aak:ik Tryz.prog 36 6 8:=⟨iy⟩
instance MJ:jg Tryz.prog 33 false:=⟨lM⟩
instance ahH:ik Tryz.prog 36 7 9:=⟨iy⟩
instance aal:ik Tryz.prog 36 8 10:=⟨iy⟩
instance asq:bf Tryz.prog 156:=⟨Tryz.call156⟩
instance ap7:ik Tryz.prog 29 0 0:=⟨iy⟩
instance xQ:jg Tryz.prog 27 false:=⟨lM⟩
instance azd:ik Tryz.prog 29 1 1:=⟨iy⟩
instance azH:bf Tryz.prog 182:=⟨Tryz.call182⟩
instance fH:qp Tryz.prog 27 70:=⟨uZ⟩
instance dZ:jv Tryz.prog 70 2 32 (.agg [(.int .i64 0),(.slice none 0 0)].toArray):=⟨l5⟩
instance ap8:ik Tryz.prog 70 0 0:=⟨iy⟩
theorem Bp{a:Fact}:∀H e,mI H e a->e.cells.toList[0]?=some (.int .i64 a.Rel):=by
 intro H e h
 obtain⟨_,rfl,_⟩:=h
 rfl
instance ahI:ik Tryz.prog 70 1 1:=⟨iy⟩
theorem Ey{a:Fact}:∀H e,mI H e a-> ∃w:Sv,e.cells.toList[1]?=some w.v/\(aD 3 az) H w.v a.Values:=by
 intro H e h
 obtain⟨v0,rfl,h0⟩:=h
 exact⟨v0,rfl,h0⟩
instance awc:bf Tryz.prog 78:=⟨Tryz.call78⟩
instance u7:jg Tryz.prog 70 true:=⟨lM⟩
theorem xR{a:Fact}{v0:Sv}{F0:List Nat}:Mk gN F0 (.agg [(.int .i64 a.Rel),v0.v].toArray) a [aU (aF 3 (aC az)) F0 v0.v a.Values]:=
 ⟨fun H h=>⟨v0,F0,rfl,rfl,h (aU (aF 3 (aC az)) F0 v0.v a.Values) (by simp)⟩,by simp[aU]⟩
theorem xS:sM Tryz.prog 27:=.inr ⟨70,by kernel_rfl⟩
instance asr:bf Tryz.prog 157:=⟨Tryz.call157⟩
instance aze:ik Tryz.prog 32 1 1:=⟨iy⟩
instance VL:ik Tryz.prog 32 0 0:=⟨iy⟩
instance awd:jg Tryz.prog 30 false:=⟨lM⟩
instance uw:qp Tryz.prog 30 47:=⟨uZ⟩
instance qj:jv Tryz.prog 47 4 64 (.agg [(.int .i64 0),(.slice none 0 0),(.slice none 0 0),(.int .i64 0)].toArray):=⟨l5⟩
def wu(a:cB)(p:Sv×Sv):List Value:=[(.int .i64 a.Access.Method),p.1.v,p.2.v,(.int .i64 a.At)]
theorem xk{a:cB}:∀H e,oK H e a-> ∃i:Sv×Sv,0+4<=e.cells.size/\(e.cells.toList.drop 0).take 4=wu a i/\ ∀c∈([bC (aD 3 az) i.1.v a.Access.Values,bC (aD 70 mI) i.2.v a.Facts]:List aL),c.P H/\c.F=[]:=by
 intro H e h
 obtain⟨v0,v1,rfl,h0,h1⟩:=h
 refine⟨(v0,v1),Nat.le_of_ble_eq_true rfl,rfl,fun c hc=>by
   simp only[List.mem_cons,List.not_mem_nil,or_false]at hc
   rcases hc with rfl|rfl
   · exact⟨h0,rfl⟩
   · exact⟨h1,rfl⟩
⟩
instance awe:jg Tryz.prog 47 true:=⟨lM⟩
instance azI:bf Tryz.prog 159:=⟨Tryz.call159⟩
instance azf:ik Tryz.prog 47 0 0:=⟨iy⟩
instance azg:ik Tryz.prog 45 0 0:=⟨iy⟩
instance azh:ik Tryz.prog 45 1 1:=⟨iy⟩
instance ap9:ik Tryz.prog 47 1 2:=⟨iy⟩
instance azi:ik Tryz.prog 47 2 3:=⟨iy⟩
instance aje:bf Tryz.prog 33:=⟨Tryz.call33⟩
instance kr:jv Tryz.prog 45 2 32 (.agg [(.int .i64 0),(.slice none 0 0)].toArray):=⟨l5⟩
instance u_:jg Tryz.prog 45 true:=⟨lM⟩
theorem WS{a:cB}{v0 v1:Sv}{F0 F1:List Nat}:Mk qM (F0++F1) (.agg [(.int .i64 a.Access.Method),v0.v,v1.v,(.int .i64 a.At)].toArray) a [aU (aF 3 (aC az)) F0 v0.v a.Access.Values,aU (aF 70 gN) F1 v1.v a.Facts]:=
 ⟨fun H h=>⟨v0,v1,F0,F1,rfl,rfl,h (aU (aF 3 (aC az)) F0 v0.v a.Access.Values) (by simp),h (aU (aF 70 gN) F1 v1.v a.Facts) (by simp)⟩,by simp[aU]⟩
theorem MK:sM Tryz.prog 30:=.inr ⟨47,by kernel_rfl⟩
instance aBP:jv Tryz.prog 30 1 24 (.slice none 0 0):=⟨l5⟩
instance ass:bf Tryz.prog 158:=⟨Tryz.call158⟩
instance pF:qp Tryz.prog 33 45:=⟨uZ⟩
theorem LZ{a:Access}:∀H e,qN H e a->e.cells.toList[0]?=some (.int .i64 a.Method):=by
 intro H e h
 obtain⟨_,rfl,_⟩:=h
 rfl
theorem ahJ{a:Access}:∀H e,qN H e a-> ∃w:Sv,e.cells.toList[1]?=some w.v/\(aD 3 az) H w.v a.Values:=by
 intro H e h
 obtain⟨v0,rfl,h0⟩:=h
 exact⟨v0,rfl,h0⟩
theorem WT{a:Access}{v0:Sv}{F0:List Nat}:Mk mY F0 (.agg [(.int .i64 a.Method),v0.v].toArray) a [aU (aF 3 (aC az)) F0 v0.v a.Values]:=
 ⟨fun H h=>⟨v0,F0,rfl,rfl,h (aU (aF 3 (aC az)) F0 v0.v a.Values) (by simp)⟩,by simp[aU]⟩
theorem Q3:sM Tryz.prog 33:=.inr ⟨45,by kernel_rfl⟩
instance aam:ik Tryz.prog 36 1 1:=⟨iy⟩
instance WU:jg Tryz.prog 25 false:=⟨lM⟩
instance Cn:qp Tryz.prog 25 57:=⟨uZ⟩
instance ap_:ik Tryz.prog 36 2 2:=⟨iy⟩
instance abM:jg Tryz.prog 26 false:=⟨lM⟩
instance EQ:qp Tryz.prog 26 98:=⟨uZ⟩
instance ap':ik Tryz.prog 36 9 11:=⟨iy⟩
instance ajf:jg Tryz.prog 34 false:=⟨lM⟩
instance Q4:qp Tryz.prog 34 152:=⟨uZ⟩
instance VU:jv Tryz.prog 152 1 24 (.slice none 0 0):=⟨l5⟩
theorem apq{a:List (List Int)}:∀H e,(aD 24 (aD 3 az)) H e a-> ∃w:Sv,e.cells.toList[0]?=some w.v/\(aD 24 (aD 3 az)) H w.v a:=by
 intro H e h
 obtain⟨a0,m,rfl⟩:=aD.len h
 exact⟨⟨a0,_,m⟩,rfl,h⟩
instance ah':jg Tryz.prog 152 false:=⟨lM⟩
instance ast:bf Tryz.prog 140:=⟨Tryz.call140⟩
instance uO:qp Tryz.prog 152 24:=⟨uZ⟩
theorem PS{a:List Int}:∀H e,(aD 3 az) H e a-> ∃w:Sv,e.cells.toList[0]?=some w.v/\(aD 3 az) H w.v a:=by
 intro H e h
 obtain⟨a0,m,rfl⟩:=aD.len h
 exact⟨⟨a0,_,m⟩,rfl,h⟩
theorem Qd:sM Tryz.prog 152:=.inr ⟨24,by kernel_rfl⟩
theorem ajg:sM Tryz.prog 34:=.inr ⟨152,by kernel_rfl⟩
instance awf:jv Tryz.prog 34 1 24 (.slice none 0 0):=⟨l5⟩
instance xU:jv Tryz.prog 98 3 40 (.agg [(.int .i64 0),(.int .i64 0),(.slice none 0 0)].toArray):=⟨l5⟩
instance azj:ik Tryz.prog 98 0 0:=⟨iy⟩
theorem ahK{a:df}:∀H e,Ck H e a->e.cells.toList[0]?=some (.int .i64 a.From):=by
 intro H e h
 obtain⟨_,rfl,_⟩:=h
 rfl
instance azk:ik Tryz.prog 98 1 1:=⟨iy⟩
theorem aqa{a:df}:∀H e,Ck H e a->e.cells.toList[1]?=some (.int .i64 a.To):=by
 intro H e h
 obtain⟨_,rfl,_⟩:=h
 rfl
instance azl:ik Tryz.prog 98 2 2:=⟨iy⟩
theorem aqb{a:df}:∀H e,Ck H e a-> ∃w:Sv,e.cells.toList[2]?=some w.v/\(aD 3 az) H w.v a.Map:=by
 intro H e h
 obtain⟨v0,rfl,h0⟩:=h
 exact⟨v0,rfl,h0⟩
theorem abN{a:df}{v0:Sv}{F0:List Nat}:Mk oJ F0 (.agg [(.int .i64 a.From),(.int .i64 a.To),v0.v].toArray) a [aU (aF 3 (aC az)) F0 v0.v a.Map]:=
 ⟨fun H h=>⟨v0,F0,rfl,rfl,h (aU (aF 3 (aC az)) F0 v0.v a.Map) (by simp)⟩,by simp[aU]⟩
theorem abO:sM Tryz.prog 26:=.inr ⟨98,by kernel_rfl⟩
instance ajh:jv Tryz.prog 26 1 24 (.slice none 0 0):=⟨l5⟩
def uf(a:Method)(p:Sv):List Value:=[(.int .i64 a.Rel),p.v,(.int .i64 a.Limit),(.int .i64 a.Cost),(.int .i64 a.Quota)]
theorem uH{a:Method}:∀H e,qK H e a-> ∃i:Sv,0+5<=e.cells.size/\(e.cells.toList.drop 0).take 5=uf a i/\ ∀c∈([bC (aD 3 az) i.v a.Inputs]:List aL),c.P H/\c.F=[]:=by
 intro H e h
 obtain⟨v0,rfl,h0⟩:=h
 refine⟨v0,Nat.le_of_ble_eq_true rfl,rfl,fun c hc=>by
   simp only[List.mem_cons,List.not_mem_nil,or_false]at hc
   rcases hc with rfl
   · exact⟨h0,rfl⟩
⟩
instance asu:bf Tryz.prog 133:=⟨Tryz.call133⟩
instance azm:ik Tryz.prog 57 2 2:=⟨iy⟩
instance azn:ik Tryz.prog 57 3 3:=⟨iy⟩
instance azo:ik Tryz.prog 57 4 4:=⟨iy⟩
theorem aji{a:Method}{v0:Sv}{F0:List Nat}:Mk qL F0 (.agg [(.int .i64 a.Rel),v0.v,(.int .i64 a.Limit),(.int .i64 a.Cost),(.int .i64 a.Quota)].toArray) a [aU (aF 3 (aC az)) F0 v0.v a.Inputs]:=
 ⟨fun H h=>⟨v0,F0,rfl,rfl,h (aU (aF 3 (aC az)) F0 v0.v a.Inputs) (by simp)⟩,by simp[aU]⟩
theorem WV:sM Tryz.prog 25:=.inr ⟨57,by kernel_rfl⟩
instance awg:jv Tryz.prog 25 1 24 (.slice none 0 0):=⟨l5⟩
instance aBQ:bf Tryz.prog 31:=⟨Tryz.call31⟩
instance aBR:bf Tryz.prog 71:=⟨Tryz.call71⟩
instance azJ:bf Tryz.prog 122:=⟨Tryz.call122⟩
instance aBS:bf Tryz.prog 72:=⟨Tryz.call72⟩
def Lg(a:df)(p:Sv):List Value:=[(.int .i64 a.From),(.int .i64 a.To),p.v]
theorem Pi{a:df}:∀H e,Ck H e a-> ∃i:Sv,0+3<=e.cells.size/\(e.cells.toList.drop 0).take 3=Lg a i/\ ∀c∈([bC (aD 3 az) i.v a.Map]:List aL),c.P H/\c.F=[]:=by
 intro H e h
 obtain⟨v0,rfl,h0⟩:=h
 refine⟨v0,Nat.le_of_ble_eq_true rfl,rfl,fun c hc=>by
   simp only[List.mem_cons,List.not_mem_nil,or_false]at hc
   rcases hc with rfl
   · exact⟨h0,rfl⟩
⟩
instance aBT:jg Tryz.prog 98 true:=⟨lM⟩
instance azK:bf Tryz.prog 123:=⟨Tryz.call123⟩
instance aBU:bf Tryz.prog 73:=⟨Tryz.call73⟩
instance aBV:bf Tryz.prog 49:=⟨Tryz.call49⟩
def lU(a:Fact)(p:Sv):List Value:=[(.int .i64 a.Rel),p.v]
theorem mf{a:Fact}:∀H e,mI H e a-> ∃i:Sv,0+2<=e.cells.size/\(e.cells.toList.drop 0).take 2=lU a i/\ ∀c∈([bC (aD 3 az) i.v a.Values]:List aL),c.P H/\c.F=[]:=by
 intro H e h
 obtain⟨v0,rfl,h0⟩:=h
 refine⟨v0,Nat.le_of_ble_eq_true rfl,rfl,fun c hc=>by
   simp only[List.mem_cons,List.not_mem_nil,or_false]at hc
   rcases hc with rfl
   · exact⟨h0,rfl⟩
⟩
instance aBW:bf Tryz.prog 91:=⟨Tryz.call91⟩
instance aBX:bf Tryz.prog 45:=⟨Tryz.call45⟩
instance aBY:bf Tryz.prog 74:=⟨Tryz.call74⟩
instance aBZ:bf Tryz.prog 48:=⟨Tryz.call48⟩
theorem PT{a:Method}:∀H e,qK H e a-> ∃w:Sv,e.cells.toList[1]?=some w.v/\(aD 3 az) H w.v a.Inputs:=by
 intro H e h
 obtain⟨v0,rfl,h0⟩:=h
 exact⟨v0,rfl,h0⟩
def Pj(a:cB)(p:Sv):List Value:=[(.int .i64 a.Access.Method),p.v]
theorem Va{a:cB}:∀H e,oK H e a-> ∃i:Sv,0+2<=e.cells.size/\(e.cells.toList.drop 0).take 2=Pj a i/\ ∀c∈([bC (aD 3 az) i.v a.Access.Values]:List aL),c.P H/\c.F=[]:=by
 intro H e h
 obtain⟨v0,v1,rfl,h0,h1⟩:=h
 refine⟨v0,Nat.le_of_ble_eq_true rfl,rfl,fun c hc=>by
   simp only[List.mem_cons,List.not_mem_nil,or_false]at hc
   rcases hc with rfl
   · exact⟨h0,rfl⟩
⟩
instance asv:bf Tryz.prog 124:=⟨Tryz.call124⟩
instance azL:bf Tryz.prog 153:=⟨Tryz.call153⟩
instance aB0:bf Tryz.prog 77:=⟨Tryz.call77⟩
instance aB1:bf Tryz.prog 76:=⟨Tryz.call76⟩
def xm(a:Access)(p:Sv):List Value:=[(.int .i64 a.Method),p.v]
theorem zb{a:Access}:∀H e,qN H e a-> ∃i:Sv,0+2<=e.cells.size/\(e.cells.toList.drop 0).take 2=xm a i/\ ∀c∈([bC (aD 3 az) i.v a.Values]:List aL),c.P H/\c.F=[]:=by
 intro H e h
 obtain⟨v0,rfl,h0⟩:=h
 refine⟨v0,Nat.le_of_ble_eq_true rfl,rfl,fun c hc=>by
   simp only[List.mem_cons,List.not_mem_nil,or_false]at hc
   rcases hc with rfl
   · exact⟨h0,rfl⟩
⟩
instance awh:bf Tryz.prog 96:=⟨Tryz.call96⟩
instance awi:bf Tryz.prog 97:=⟨Tryz.call97⟩
instance WW:bf Tryz.prog 99:=⟨Tryz.call99⟩
structure qb where
 Add:Bool
 Fact:Fact
instance L_:jv Tryz.prog 114 3 40 (.agg [(.bool false),(.int .i64 0),(.slice none 0 0)].toArray):=⟨l5⟩
instance aia:jg Tryz.prog 114 true:=⟨lM⟩
instance azM:bf Tryz.prog 135:=⟨Tryz.call135⟩
instance WX:bf Tryz.prog 98:=⟨Tryz.call98⟩
instance azN:bf Tryz.prog 134:=⟨Tryz.call134⟩
instance ayQ:ik Tryz.prog 114 1 1:=⟨iy⟩
instance ayR:ik Tryz.prog 114 0 0:=⟨iy⟩
instance ag4:jg Tryz.prog 4 false:=⟨lM⟩
instance awj:bf Tryz.prog 89:=⟨Tryz.call89⟩
instance Q5:bf Tryz.prog 90:=⟨Tryz.call90⟩
instance WY:jv Tryz.prog 27 1 24 (.slice none 0 0):=⟨l5⟩
instance VV:bf Tryz.prog 100:=⟨Tryz.call100⟩
instance asw:bf Tryz.prog 136:=⟨Tryz.call136⟩
instance azO:bf Tryz.prog 160:=⟨Tryz.call160⟩
instance VW:bf Tryz.prog 102:=⟨Tryz.call102⟩
structure Atom where
 Rel:Int
 Terms:List Int
structure Query where
 Head:List Int
 Atoms:List Atom
instance IL:jv Tryz.prog 120 2 48 (.agg [(.slice none 0 0),(.slice none 0 0)].toArray):=⟨l5⟩
instance qG:jv Tryz.prog 159 2 32 (.agg [(.int .i64 0),(.slice none 0 0)].toArray):=⟨l5⟩
instance ayS:ik Tryz.prog 159 0 0:=⟨iy⟩
instance apr:ik Tryz.prog 159 1 1:=⟨iy⟩
instance Z9:ik Tryz.prog 120 1 1:=⟨iy⟩
instance aay:jg Tryz.prog 118 false:=⟨lM⟩
instance VX:jg Tryz.prog 159 true:=⟨lM⟩
instance EC:qp Tryz.prog 118 159:=⟨uZ⟩
def BR(H:aH)(v:Value)(a:Atom):Prop:=∃v0:Sv,v= .agg [(.int .i64 a.Rel),v0.v].toArray/\(aD 3 az) H v0.v a.Terms
instance:eB BR:=⟨fun h hi=>by
 obtain⟨v0,h,h0⟩:=h
 exact⟨v0,h,eB.up h0 hi⟩⟩
instance:Cells BR 2:=⟨fun h=>by
 obtain⟨v0,rfl,h0⟩:=h
 exact⟨rfl,rfl⟩⟩
def nA:iP Atom:=fun F H v a=>∃(v0:Sv)(F0:List Nat),v= .agg [(.int .i64 a.Rel),v0.v].toArray/\F0=F/\(aF 3 (aC az)) F0 H v0.v a.Terms
instance:ig nA:=⟨fun h hi hg=>by
 obtain⟨v0,F0,rfl,rfl,h0⟩:=h
 exact⟨v0,F0,rfl,rfl,ig.keep h0 hi (fun k hk=>hg k (by simp[hk]))⟩⟩
instance:Local nA:=⟨fun h hg=>by
 obtain⟨v0,F0,rfl,rfl,h0⟩:=h
 exact⟨v0,F0,rfl,rfl,Local.keep h0 (fun k hk=>hg k (by simp[hk]))⟩⟩
instance:lL nA:=⟨fun h k hk=>by
 obtain⟨v0,F0,rfl,rfl,h0⟩:=h
 exact lL.owns h0 k hk
⟩
instance:qa nA 2:=⟨fun h=>by
 obtain⟨v0,F0,rfl,rfl,h0⟩:=h
 exact⟨rfl,rfl⟩⟩
instance:lN nA BR:=⟨fun h hg=>by
 obtain⟨v0,F0,rfl,rfl,h0⟩:=h
 exact⟨v0,rfl,lN.frz h0 (fun k hk=>hg k (by simp[hk]))⟩⟩
theorem VY{a:Atom}{v0:Sv}{F0:List Nat}:Mk nA F0 (.agg [(.int .i64 a.Rel),v0.v].toArray) a [aU (aF 3 (aC az)) F0 v0.v a.Terms]:=
 ⟨fun H h=>⟨v0,F0,rfl,rfl,h (aU (aF 3 (aC az)) F0 v0.v a.Terms) (by simp)⟩,by simp[aU]⟩
theorem VZ:sM Tryz.prog 118:=.inr ⟨159,by kernel_rfl⟩
instance aaz:jv Tryz.prog 118 1 24 (.slice none 0 0):=⟨l5⟩
instance asx:jg Tryz.prog 120 true:=⟨lM⟩
instance asy:bf Tryz.prog 141:=⟨Tryz.call141⟩
theorem zn{a:Atom}:∀H e,BR H e a-> ∃w:Sv,e.cells.toList[1]?=some w.v/\(aD 3 az) H w.v a.Terms:=by
 intro H e h
 obtain⟨v0,rfl,h0⟩:=h
 exact⟨v0,rfl,h0⟩
instance azP:bf Tryz.prog 176:=⟨Tryz.call176⟩
instance azQ:bf Tryz.prog 177:=⟨Tryz.call177⟩
instance V3:bf Tryz.prog 162:=⟨Tryz.call162⟩
theorem aaA{a:Int}:∀F H e,(aC az) F H e a->e.cells.toList[0]?=some (.int .i64 a):=by
 intro F H e h
 obtain⟨-,h⟩:=h
 subst h
 rfl
instance ayT:ik Tryz.prog 120 0 0:=⟨iy⟩
instance azR:bf Tryz.prog 101:=⟨Tryz.call101⟩
instance asz:bf Tryz.prog 137:=⟨Tryz.call137⟩
def D9(a:Atom)(p:Sv):List Value:=[(.int .i64 a.Rel),p.v]
theorem Hl{a:Atom}:∀H e,BR H e a-> ∃i:Sv,0+2<=e.cells.size/\(e.cells.toList.drop 0).take 2=D9 a i/\ ∀c∈([bC (aD 3 az) i.v a.Terms]:List aL),c.P H/\c.F=[]:=by
 intro H e h
 obtain⟨v0,rfl,h0⟩:=h
 refine⟨v0,Nat.le_of_ble_eq_true rfl,rfl,fun c hc=>by
   simp only[List.mem_cons,List.not_mem_nil,or_false]at hc
   rcases hc with rfl
   · exact⟨h0,rfl⟩
⟩
instance azS:bf Tryz.prog 161:=⟨Tryz.call161⟩
instance azT:bf Tryz.prog 183:=⟨Tryz.call183⟩
instance azU:bf Tryz.prog 138:=⟨Tryz.call138⟩
structure Step where
 Atom:Int
 Method:Int
structure Q6 where
 Query:Query
 Steps:List Step
 Cost:Int
instance V4:jv Tryz.prog 149 4 80 (.agg [(.slice none 0 0),(.slice none 0 0),(.slice none 0 0),(.int .i64 0)].toArray):=⟨l5⟩
instance azV:bf Tryz.prog 163:=⟨Tryz.call163⟩
instance aib:jg Tryz.prog 149 true:=⟨lM⟩
def qH(_:aH)(v:Value)(a:Step):Prop:=v= .agg [(.int .i64 a.Atom),(.int .i64 a.Method)].toArray
instance:Pure qH:=⟨fun h=>h⟩
instance:Cells qH 2:=⟨fun h=>by
 subst h
 exact⟨rfl,rfl⟩⟩
instance azW:bf Tryz.prog 164:=⟨Tryz.call164⟩
instance aaB:qp Tryz.prog 174 120:=⟨uZ⟩
def Qe(H:aH)(v:Value)(a:Query):Prop:=∃v0 v1:Sv,v= .agg [v0.v,v1.v].toArray/\(aD 3 az) H v0.v a.Head/\(aD 159 BR) H v1.v a.Atoms
instance:eB Qe:=⟨fun h hi=>by
 obtain⟨v0,v1,h,h0,h1⟩:=h
 exact⟨v0,v1,h,eB.up h0 hi,eB.up h1 hi⟩⟩
instance:Cells Qe 2:=⟨fun h=>by
 obtain⟨v0,v1,rfl,h0,h1⟩:=h
 exact⟨rfl,rfl⟩⟩
def zq:iP Query:=fun F H v a=>∃(v0 v1:Sv)(F0 F1:List Nat),v= .agg [v0.v,v1.v].toArray/\F=(F0++F1)/\(aF 3 (aC az)) F0 H v0.v a.Head/\(aF 159 nA) F1 H v1.v a.Atoms
instance:ig zq:=⟨fun h hi hg=>by
 obtain⟨v0,v1,F0,F1,rfl,rfl,h0,h1⟩:=h
 exact⟨v0,v1,F0,F1,rfl,rfl,ig.keep h0 hi (fun k hk=>hg k (by simp[hk])),ig.keep h1 hi (fun k hk=>hg k (by simp[hk]))⟩⟩
instance:Local zq:=⟨fun h hg=>by
 obtain⟨v0,v1,F0,F1,rfl,rfl,h0,h1⟩:=h
 exact⟨v0,v1,F0,F1,rfl,rfl,Local.keep h0 (fun k hk=>hg k (by simp[hk])),Local.keep h1 (fun k hk=>hg k (by simp[hk]))⟩⟩
instance:lL zq:=⟨fun h k hk=>by
 obtain⟨v0,v1,F0,F1,rfl,rfl,h0,h1⟩:=h
 simp only[List.mem_append]at hk
 rcases hk with hk|hk
 · exact lL.owns h0 k hk
 · exact lL.owns h1 k hk
⟩
instance:qa zq 2:=⟨fun h=>by
 obtain⟨v0,v1,F0,F1,rfl,rfl,h0,h1⟩:=h
 exact⟨rfl,rfl⟩⟩
instance:lN zq Qe:=⟨fun h hg=>by
 obtain⟨v0,v1,F0,F1,rfl,rfl,h0,h1⟩:=h
 exact⟨v0,v1,rfl,lN.frz h0 (fun k hk=>hg k (by simp[hk])),lN.frz h1 (fun k hk=>hg k (by simp[hk]))⟩⟩
instance asA:bf Tryz.prog 185:=⟨Tryz.call185⟩
instance azX:bf Tryz.prog 194:=⟨Tryz.call194⟩
structure bz where
 Vars:List Int
 Values:List Int
instance iI:jv Tryz.prog 183 2 48 (.agg [(.slice none 0 0),(.slice none 0 0)].toArray):=⟨l5⟩
instance azY:bf Tryz.prog 168:=⟨Tryz.call168⟩
theorem Z_{a:Atom}:∀H e,BR H e a->e.cells.toList[0]?=some (.int .i64 a.Rel):=by
 intro H e h
 obtain⟨_,rfl,_⟩:=h
 rfl
instance aic:bf Tryz.prog 184:=⟨Tryz.call184⟩
instance azZ:bf Tryz.prog 201:=⟨Tryz.call201⟩
instance asB:bf Tryz.prog 202:=⟨Tryz.call202⟩
instance rJ:jg Tryz.prog 183 true:=⟨lM⟩
instance aid:bf Tryz.prog 200:=⟨Tryz.call200⟩
instance ayU:ik Tryz.prog 183 0 0:=⟨iy⟩
instance ayV:ik Tryz.prog 183 1 1:=⟨iy⟩
instance aie:bf Tryz.prog 188:=⟨Tryz.call188⟩
theorem awk{a:Fact}{v0:Sv}:Mk (aC mI) [] (.agg [(.int .i64 a.Rel),v0.v].toArray) a [bC (aD 3 az) v0.v a.Values]:=
 ⟨fun H h=>⟨rfl,v0,rfl,h (bC (aD 3 az) v0.v a.Values) (by simp)⟩,by simp[bC]⟩
instance asC:bf Tryz.prog 196:=⟨Tryz.call196⟩
instance asD:bf Tryz.prog 195:=⟨Tryz.call195⟩
instance az0:bf Tryz.prog 203:=⟨Tryz.call203⟩
instance wD:qp Tryz.prog 184 183:=⟨uZ⟩
def BS(H:aH)(v:Value)(a:bz):Prop:=∃v0 v1:Sv,v= .agg [v0.v,v1.v].toArray/\(aD 3 az) H v0.v a.Vars/\(aD 3 az) H v1.v a.Values
instance:eB BS:=⟨fun h hi=>by
 obtain⟨v0,v1,h,h0,h1⟩:=h
 exact⟨v0,v1,h,eB.up h0 hi,eB.up h1 hi⟩⟩
instance:Cells BS 2:=⟨fun h=>by
 obtain⟨v0,v1,rfl,h0,h1⟩:=h
 exact⟨rfl,rfl⟩⟩
def rM:iP bz:=fun F H v a=>∃(v0 v1:Sv)(F0 F1:List Nat),v= .agg [v0.v,v1.v].toArray/\F=(F0++F1)/\(aF 3 (aC az)) F0 H v0.v a.Vars/\(aF 3 (aC az)) F1 H v1.v a.Values
instance:ig rM:=⟨fun h hi hg=>by
 obtain⟨v0,v1,F0,F1,rfl,rfl,h0,h1⟩:=h
 exact⟨v0,v1,F0,F1,rfl,rfl,ig.keep h0 hi (fun k hk=>hg k (by simp[hk])),ig.keep h1 hi (fun k hk=>hg k (by simp[hk]))⟩⟩
instance:Local rM:=⟨fun h hg=>by
 obtain⟨v0,v1,F0,F1,rfl,rfl,h0,h1⟩:=h
 exact⟨v0,v1,F0,F1,rfl,rfl,Local.keep h0 (fun k hk=>hg k (by simp[hk])),Local.keep h1 (fun k hk=>hg k (by simp[hk]))⟩⟩
instance:lL rM:=⟨fun h k hk=>by
 obtain⟨v0,v1,F0,F1,rfl,rfl,h0,h1⟩:=h
 simp only[List.mem_append]at hk
 rcases hk with hk|hk
 · exact lL.owns h0 k hk
 · exact lL.owns h1 k hk
⟩
instance:qa rM 2:=⟨fun h=>by
 obtain⟨v0,v1,F0,F1,rfl,rfl,h0,h1⟩:=h
 exact⟨rfl,rfl⟩⟩
instance:lN rM BS:=⟨fun h hg=>by
 obtain⟨v0,v1,F0,F1,rfl,rfl,h0,h1⟩:=h
 exact⟨v0,v1,rfl,lN.frz h0 (fun k hk=>hg k (by simp[hk])),lN.frz h1 (fun k hk=>hg k (by simp[hk]))⟩⟩
theorem aaC{a:bz}{v0 v1:Sv}{F0 F1:List Nat}:Mk rM (F0++F1) (.agg [v0.v,v1.v].toArray) a [aU (aF 3 (aC az)) F0 v0.v a.Vars,aU (aF 3 (aC az)) F1 v1.v a.Values]:=
 ⟨fun H h=>⟨v0,v1,F0,F1,rfl,rfl,h (aU (aF 3 (aC az)) F0 v0.v a.Vars) (by simp),h (aU (aF 3 (aC az)) F1 v1.v a.Values) (by simp)⟩,by simp[aU]⟩
instance V5:bf Tryz.prog 174:=⟨Tryz.call174⟩
def Ap(a:bz)(p:Sv×Sv):List Value:=[p.1.v,p.2.v]
theorem D_{a:bz}:∀H e,BS H e a-> ∃i:Sv×Sv,0+2<=e.cells.size/\(e.cells.toList.drop 0).take 2=Ap a i/\ ∀c∈([bC (aD 3 az) i.1.v a.Vars,bC (aD 3 az) i.2.v a.Values]:List aL),c.P H/\c.F=[]:=by
 intro H e h
 obtain⟨v0,v1,rfl,h0,h1⟩:=h
 refine⟨(v0,v1),Nat.le_of_ble_eq_true rfl,rfl,fun c hc=>by
   simp only[List.mem_cons,List.not_mem_nil,or_false]at hc
   rcases hc with rfl|rfl
   · exact⟨h0,rfl⟩
   · exact⟨h1,rfl⟩
⟩
instance asE:bf Tryz.prog 191:=⟨Tryz.call191⟩
instance az1:bf Tryz.prog 198:=⟨Tryz.call198⟩
instance asF:bf Tryz.prog 199:=⟨Tryz.call199⟩
theorem V6:sM Tryz.prog 184:=.inr ⟨183,by kernel_rfl⟩
instance awl:bf Tryz.prog 69:=⟨Tryz.call69⟩
theorem asG{a:Query}{v0 v1:Sv}{F0 F1:List Nat}:Mk zq (F0++F1) (.agg [v0.v,v1.v].toArray) a [aU (aF 3 (aC az)) F0 v0.v a.Head,aU (aF 159 nA) F1 v1.v a.Atoms]:=
 ⟨fun H h=>⟨v0,v1,F0,F1,rfl,rfl,h (aU (aF 3 (aC az)) F0 v0.v a.Head) (by simp),h (aU (aF 159 nA) F1 v1.v a.Atoms) (by simp)⟩,by simp[aU]⟩
theorem asH:sM Tryz.prog 174:=.inr ⟨120,by kernel_rfl⟩
def Zi(a:Query)(p:Sv×Sv):List Value:=[p.1.v,p.2.v]
theorem afP{a:Query}:∀H e,Qe H e a-> ∃i:Sv×Sv,0+2<=e.cells.size/\(e.cells.toList.drop 0).take 2=Zi a i/\ ∀c∈([bC (aD 3 az) i.1.v a.Head,bC (aD 159 BR) i.2.v a.Atoms]:List aL),c.P H/\c.F=[]:=by
 intro H e h
 obtain⟨v0,v1,rfl,h0,h1⟩:=h
 refine⟨(v0,v1),Nat.le_of_ble_eq_true rfl,rfl,fun c hc=>by
   simp only[List.mem_cons,List.not_mem_nil,or_false]at hc
   rcases hc with rfl|rfl
   · exact⟨h0,rfl⟩
   · exact⟨h1,rfl⟩
⟩
instance ED:qp Tryz.prog 147 186:=⟨uZ⟩
instance BU:jv Tryz.prog 186 2 16 (.agg [(.int .i64 0),(.int .i64 0)].toArray):=⟨l5⟩
instance asI:bf Tryz.prog 166:=⟨Tryz.call166⟩
theorem ajj{a:Method}{v0:Sv}:Mk (aC qK) [] (.agg [(.int .i64 a.Rel),v0.v,(.int .i64 a.Limit),(.int .i64 a.Cost),(.int .i64 a.Quota)].toArray) a [bC (aD 3 az) v0.v a.Inputs]:=
 ⟨fun H h=>⟨rfl,v0,rfl,h (bC (aD 3 az) v0.v a.Inputs) (by simp)⟩,by simp[bC]⟩
instance asJ:bf Tryz.prog 165:=⟨Tryz.call165⟩
instance az2:bf Tryz.prog 167:=⟨Tryz.call167⟩
instance ayW:ik Tryz.prog 186 1 1:=⟨iy⟩
theorem A7{a:Step}:∀H e,qH H e a->e.cells.toList[1]?=some (.int .i64 a.Method):=by
 intro H e h
 subst h
 rfl
theorem L6{a:Method}:∀H e,qK H e a->e.cells.toList[3]?=some (.int .i64 a.Cost):=by
 intro H e h
 obtain⟨_,rfl,_⟩:=h
 rfl
theorem aaD:sM Tryz.prog 147:=.inr ⟨186,by kernel_rfl⟩
instance asK:bf Tryz.prog 186:=⟨Tryz.call186⟩
instance aif:bf Tryz.prog 187:=⟨Tryz.call187⟩
instance ayX:ik Tryz.prog 186 0 0:=⟨iy⟩
theorem Iz{a:Step}:∀H e,qH H e a->e.cells.toList[0]?=some (.int .i64 a.Atom):=by
 intro H e h
 subst h
 rfl
instance ayY:ik Tryz.prog 149 2 3:=⟨iy⟩
instance ayZ:ik Tryz.prog 149 0 0:=⟨iy⟩
instance ay0:ik Tryz.prog 149 1 2:=⟨iy⟩
instance az3:jg Tryz.prog 147 false:=⟨lM⟩
instance az4:bf Tryz.prog 139:=⟨Tryz.call139⟩
structure Run where
 Answers:List (List Int)
 Log:List Access
 Got:List Fact
 Cost:Int
instance IM:jv Tryz.prog 154 4 80 (.agg [(.slice none 0 0),(.slice none 0 0),(.slice none 0 0),(.int .i64 0)].toArray):=⟨l5⟩
instance az5:bf Tryz.prog 169:=⟨Tryz.call169⟩
instance az6:bf Tryz.prog 170:=⟨Tryz.call170⟩
theorem PU{a:Method}:∀H e,qK H e a->e.cells.toList[2]?=some (.int .i64 a.Limit):=by
 intro H e h
 obtain⟨_,rfl,_⟩:=h
 rfl
instance V7:jg Tryz.prog 154 true:=⟨lM⟩
instance asL:bf Tryz.prog 175:=⟨Tryz.call175⟩
instance asM:bf Tryz.prog 192:=⟨Tryz.call192⟩
instance ay1:ik Tryz.prog 154 0 0:=⟨iy⟩
instance ay2:ik Tryz.prog 154 1 1:=⟨iy⟩
instance awm:bf Tryz.prog 35:=⟨Tryz.call35⟩
instance ay3:ik Tryz.prog 154 3 3:=⟨iy⟩
instance asN:bf Tryz.prog 171:=⟨Tryz.call171⟩
instance az7:bf Tryz.prog 172:=⟨Tryz.call172⟩
instance az8:bf Tryz.prog 189:=⟨Tryz.call189⟩
instance az9:bf Tryz.prog 197:=⟨Tryz.call197⟩
theorem ahL{a:Method}:∀H e,qK H e a->e.cells.toList[0]?=some (.int .i64 a.Rel):=by
 intro H e h
 obtain⟨_,rfl,_⟩:=h
 rfl
theorem ahM{a:cB}:∀H e,oK H e a-> ∃w:Sv,e.cells.toList[2]?=some w.v/\(aD 70 mI) H w.v a.Facts:=by
 intro H e h
 obtain⟨v0,v1,rfl,h0,h1⟩:=h
 exact⟨v1,rfl,h1⟩
instance az_:bf Tryz.prog 190:=⟨Tryz.call190⟩
instance awn:bf Tryz.prog 32:=⟨Tryz.call32⟩
instance awo:jv Tryz.prog 33 1 24 (.slice none 0 0):=⟨l5⟩
instance awp:bf Tryz.prog 22:=⟨Tryz.call22⟩
instance awq:bf Tryz.prog 30:=⟨Tryz.call30⟩
theorem awr{a:Access}{v0:Sv}:Mk (aC qN) [] (.agg [(.int .i64 a.Method),v0.v].toArray) a [bC (aD 3 az) v0.v a.Values]:=
 ⟨fun H h=>⟨rfl,v0,rfl,h (bC (aD 3 az) v0.v a.Values) (by simp)⟩,by simp[bC]⟩
instance az':bf Tryz.prog 173:=⟨Tryz.call173⟩
theorem ajk{a:cB}{v0 v1:Sv}:Mk (aC oK) [] (.agg [(.int .i64 a.Access.Method),v0.v,v1.v,(.int .i64 a.At)].toArray) a [bC (aD 3 az) v0.v a.Access.Values,bC (aD 70 mI) v1.v a.Facts]:=
 ⟨fun H h=>⟨rfl,v0,v1,rfl,h (bC (aD 3 az) v0.v a.Access.Values) (by simp),h (bC (aD 70 mI) v1.v a.Facts) (by simp)⟩,by simp[bC]⟩
theorem aaE{a:bz}{v0 v1:Sv}:Mk (aC BS) [] (.agg [v0.v,v1.v].toArray) a [bC (aD 3 az) v0.v a.Vars,bC (aD 3 az) v1.v a.Values]:=
 ⟨fun H h=>⟨rfl,v0,v1,rfl,h (bC (aD 3 az) v0.v a.Vars) (by simp),h (bC (aD 3 az) v1.v a.Values) (by simp)⟩,by simp[bC]⟩
instance ay4:ik Tryz.prog 154 2 2:=⟨iy⟩
instance cf6:bf Tryz.prog 6:=⟨Tryz.call6⟩
instance aB2:bf Tryz.prog 26:=⟨Tryz.call26⟩
instance aws:bf Tryz.prog 53:=⟨Tryz.call53⟩
instance aAa:bf Tryz.prog 104:=⟨Tryz.call104⟩
instance awt:bf Tryz.prog 61:=⟨Tryz.call61⟩
instance aB3:bf Tryz.prog 38:=⟨Tryz.call38⟩
instance aB4:bf Tryz.prog 81:=⟨Tryz.call81⟩
instance asO:bf Tryz.prog 142:=⟨Tryz.call142⟩
instance aAb:bf Tryz.prog 105:=⟨Tryz.call105⟩
instance aAc:bf Tryz.prog 143:=⟨Tryz.call143⟩
instance asP:bf Tryz.prog 106:=⟨Tryz.call106⟩
instance aAd:bf Tryz.prog 107:=⟨Tryz.call107⟩
instance aAe:bf Tryz.prog 144:=⟨Tryz.call144⟩
instance aAf:bf Tryz.prog 145:=⟨Tryz.call145⟩
instance aAg:bf Tryz.prog 178:=⟨Tryz.call178⟩
instance asQ:bf Tryz.prog 179:=⟨Tryz.call179⟩
instance aAh:bf Tryz.prog 125:=⟨Tryz.call125⟩
instance awu:bf Tryz.prog 54:=⟨Tryz.call54⟩
instance aAi:bf Tryz.prog 108:=⟨Tryz.call108⟩
instance aAj:bf Tryz.prog 146:=⟨Tryz.call146⟩
instance asR:bf Tryz.prog 109:=⟨Tryz.call109⟩
instance aAk:bf Tryz.prog 110:=⟨Tryz.call110⟩
instance aAl:bf Tryz.prog 147:=⟨Tryz.call147⟩
instance asS:bf Tryz.prog 180:=⟨Tryz.call180⟩
instance awv:bf Tryz.prog 55:=⟨Tryz.call55⟩
instance aAm:bf Tryz.prog 111:=⟨Tryz.call111⟩
instance aAn:bf Tryz.prog 148:=⟨Tryz.call148⟩
instance aAo:bf Tryz.prog 114:=⟨Tryz.call114⟩
instance asT:bf Tryz.prog 149:=⟨Tryz.call149⟩
instance aAp:bf Tryz.prog 150:=⟨Tryz.call150⟩
instance aB5:bf Tryz.prog 64:=⟨Tryz.call64⟩
instance aAq:bf Tryz.prog 118:=⟨Tryz.call118⟩
instance aAr:bf Tryz.prog 152:=⟨Tryz.call152⟩
instance aAs:bf Tryz.prog 119:=⟨Tryz.call119⟩
instance aig:bf Tryz.prog 117:=⟨Tryz.call117⟩
instance aww:bf Tryz.prog 56:=⟨Tryz.call56⟩
instance aAt:bf Tryz.prog 112:=⟨Tryz.call112⟩
instance aB6:bf Tryz.prog 59:=⟨Tryz.call59⟩
instance awx:bf Tryz.prog 28:=⟨Tryz.call28⟩
instance aB7:bf Tryz.prog 66:=⟨Tryz.call66⟩
instance aAu:bf Tryz.prog 121:=⟨Tryz.call121⟩
instance aB8:bf Tryz.prog 68:=⟨Tryz.call68⟩
instance aB9:bf Tryz.prog 65:=⟨Tryz.call65⟩
instance ajl:bf Tryz.prog 67:=⟨Tryz.call67⟩
instance aih:bf Tryz.prog 120:=⟨Tryz.call120⟩
instance awy:bf Tryz.prog 57:=⟨Tryz.call57⟩
instance aAv:bf Tryz.prog 113:=⟨Tryz.call113⟩
instance awz:bf Tryz.prog 36:=⟨Tryz.call36⟩
instance aB_:bf Tryz.prog 80:=⟨Tryz.call80⟩
instance awC:bf Tryz.prog 58:=⟨Tryz.call58⟩
instance awD:bf Tryz.prog 60:=⟨Tryz.call60⟩
instance aAw:bf Tryz.prog 115:=⟨Tryz.call115⟩
instance aAx:bf Tryz.prog 151:=⟨Tryz.call151⟩
instance asU:bf Tryz.prog 116:=⟨Tryz.call116⟩
instance awE:bf Tryz.prog 27:=⟨Tryz.call27⟩
instance aB':bf Tryz.prog 62:=⟨Tryz.call62⟩
instance awF:bf Tryz.prog 63:=⟨Tryz.call63⟩
instance aCa:bf Tryz.prog 29:=⟨Tryz.call29⟩
instance cf8:bf Tryz.prog 8:=⟨Tryz.call8⟩
instance abP:bf Tryz.prog 19:=⟨Tryz.call19⟩
instance cf7:bf Tryz.prog 7:=⟨Tryz.call7⟩
instance cf9:bf Tryz.prog 9:=⟨Tryz.call9⟩
instance awG:bf Tryz.prog 10:=⟨Tryz.call10⟩
instance awH:bf Tryz.prog 11:=⟨Tryz.call11⟩
instance aCb:bf Tryz.prog 34:=⟨Tryz.call34⟩
instance aCc:bf Tryz.prog 79:=⟨Tryz.call79⟩
instance awI:bf Tryz.prog 12:=⟨Tryz.call12⟩
instance awJ:bf Tryz.prog 13:=⟨Tryz.call13⟩
instance awK:bf Tryz.prog 37:=⟨Tryz.call37⟩
instance awL:bf Tryz.prog 39:=⟨Tryz.call39⟩
instance awM:bf Tryz.prog 14:=⟨Tryz.call14⟩
instance awN:bf Tryz.prog 15:=⟨Tryz.call15⟩
instance aCd:bf Tryz.prog 40:=⟨Tryz.call40⟩
instance aCe:bf Tryz.prog 82:=⟨Tryz.call82⟩
instance awO:bf Tryz.prog 41:=⟨Tryz.call41⟩
instance aCf:bf Tryz.prog 42:=⟨Tryz.call42⟩
instance aCg:bf Tryz.prog 43:=⟨Tryz.call43⟩
instance awP:bf Tryz.prog 83:=⟨Tryz.call83⟩
instance aCh:bf Tryz.prog 84:=⟨Tryz.call84⟩
instance aAy:bf Tryz.prog 126:=⟨Tryz.call126⟩
instance awQ:bf Tryz.prog 16:=⟨Tryz.call16⟩
instance aCi:bf Tryz.prog 44:=⟨Tryz.call44⟩
instance ajm:bf Tryz.prog 17:=⟨Tryz.call17⟩
instance ajn:bf Tryz.prog 18:=⟨Tryz.call18⟩
instance awR:bf Tryz.prog 20:=⟨Tryz.call20⟩
instance aCj:bf Tryz.prog 46:=⟨Tryz.call46⟩
instance aCk:bf Tryz.prog 85:=⟨Tryz.call85⟩
instance ajo:bf Tryz.prog 86:=⟨Tryz.call86⟩
instance aAz:bf Tryz.prog 127:=⟨Tryz.call127⟩
instance asV:bf Tryz.prog 128:=⟨Tryz.call128⟩
instance aCl:bf Tryz.prog 87:=⟨Tryz.call87⟩
instance asW:bf Tryz.prog 129:=⟨Tryz.call129⟩
instance aAA:bf Tryz.prog 130:=⟨Tryz.call130⟩
theorem aqc:∀args w,(callFunc 154 args).run Tryz.prog w=((Extern.SlicesOverlaps.overlaps #[27,27] #[4] args).run Tryz.prog w).andThen fun v w'=>.ok (.value v) w':=fun args w=>run_callFunc_extern Tryz.func154 (by kernel_rfl) (by kernel_rfl) (by kernel_rfl) (e:=Extern.SlicesOverlaps.overlaps #[27,27] #[4]) (by kernel_rfl) args w
instance awS:bf Tryz.prog 21:=⟨Tryz.call21⟩
instance aCm:bf Tryz.prog 47:=⟨Tryz.call47⟩
instance awT:bf Tryz.prog 88:=⟨Tryz.call88⟩
instance awU:bf Tryz.prog 23:=⟨Tryz.call23⟩
theorem zI{α β:Type}{l:List α}{i:Int}{f:α->Option β}{R:β}{G:Prop}(hF:(ix l i).bind f=some R)(k:∀x,0<=i->l[i.toNat]?=some x->f x=some R->G):G:=by
 obtain⟨x,h,e⟩:=Option.bind_eq_some_iff.1 hF
 obtain⟨h1,h2⟩:=Ev h
 exact k x h1 h2 e
theorem ky{G N:Prop}(k:N)(h:N->G:=by (intro k; (iterate 10 refine au ?_); exact k)):G:=h k
theorem BV{G N:Prop}(k:N)(h:N->G:=by (intro k; (iterate 11 refine au ?_); exact k)):G:=h k
theorem EE{G N:Prop}(k:N)(h:N->G:=by (intro k; (iterate 12 refine au ?_); exact k)):G:=h k
theorem asX{G N:Prop}(k:N)(h:N->G:=by (intro k; (iterate 13 refine au ?_); exact k)):G:=h k
theorem aii{G N:Prop}(k:N)(h:N->G:=by (intro k; (iterate 14 refine au ?_); exact k)):G:=h k
theorem asY{G N:Prop}(k:N)(h:N->G:=by (intro k; (iterate 15 refine au ?_); exact k)):G:=h k
theorem Qf{G N:Prop}(k:N)(h:N->G:=by (intro k; (iterate 16 refine au ?_); exact k)):G:=h k
theorem asZ{G N:Prop}(k:N)(h:N->G:=by (intro k; (iterate 17 refine au ?_); exact k)):G:=h k
theorem as0{G N:Prop}(k:N)(h:N->G:=by (intro k; (iterate 18 refine au ?_); exact k)):G:=h k
theorem aT{G N:Prop}(k:N)(h:N->G:=by (intro k; (iterate 2 refine au ?_); exact k)):G:=h k
theorem as1{G N:Prop}(k:N)(h:N->G:=by (intro k; (iterate 20 refine au ?_); exact k)):G:=h k
theorem bu{G N:Prop}(k:N)(h:N->G:=by (intro k; (iterate 3 refine au ?_); exact k)):G:=h k
theorem bg{G N:Prop}(k:N)(h:N->G:=by (intro k; (iterate 4 refine au ?_); exact k)):G:=h k
theorem aY{G N:Prop}(k:N)(h:N->G:=by (intro k; (iterate 5 refine au ?_); exact k)):G:=h k
theorem bB{G N:Prop}(k:N)(h:N->G:=by (intro k; (iterate 6 refine au ?_); exact k)):G:=h k
theorem bH{G N:Prop}(k:N)(h:N->G:=by (intro k; (iterate 7 refine au ?_); exact k)):G:=h k
theorem dL{G N:Prop}(k:N)(h:N->G:=by (intro k; (iterate 8 refine au ?_); exact k)):G:=h k
theorem gB{G N:Prop}(k:N)(h:N->G:=by (intro k; (iterate 9 refine au ?_); exact k)):G:=h k
theorem bE(b:Bool):b=true\/b=false:=Bool.eq_false_or_eq_true b
theorem aI{α:Sort _}{a b:α}:cond false a b=b:=rfl
theorem aJ{α:Sort _}{a b:α}:cond true a b=a:=rfl
theorem as2{G N:Prop}(k:N)(h:N->G:=by (intro k; (iterate 10 refine du ?_); exact k)):G:=h k
theorem bR{G N:Prop}(k:N)(h:N->G:=by (intro k; (iterate 2 refine du ?_); exact k)):G:=h k
theorem dm{G N:Prop}(k:N)(h:N->G:=by (intro k; (iterate 3 refine du ?_); exact k)):G:=h k
theorem nQ{G N:Prop}(k:N)(h:N->G:=by (intro k; (iterate 4 refine du ?_); exact k)):G:=h k
theorem sV{G N:Prop}(k:N)(h:N->G:=by (intro k; (iterate 5 refine du ?_); exact k)):G:=h k
theorem wK{G N:Prop}(k:N)(h:N->G:=by (intro k; (iterate 6 refine du ?_); exact k)):G:=h k
theorem abQ{G N:Prop}(k:N)(h:N->G:=by (intro k; (iterate 7 refine du ?_); exact k)):G:=h k
theorem abR{G N:Prop}(k:N)(h:N->G:=by (intro k; (iterate 8 refine du ?_); exact k)):G:=h k
theorem ze{G P:Prop}(hF:P)(h:P->G:=by (intro hF; (repeat refine au ?_); cases hF; exact Er ())):G:=h hF
theorem bJ{G P:Prop}(hF:P)(h:P->G:=by (intro hF; (repeat refine au ?_); cases hF; exact⟨_,_,rfl,aA,ay⟩)):G:=h hF
theorem ajp{G P:Prop}(hF:P)(h:P->G:=by (intro hF; (repeat refine au ?_); cases hF; exact⟨_,_,_,_,rfl,aA,ay⟩)):G:=h hF
theorem eu{G P:Prop}(hF:P)(h:P->G:=by (intro hF; (repeat refine du ?_); cases hF; exact⟨_,_,rfl,aA,ay⟩)):G:=h hF
abbrev zg(l:List Value):Value:=.agg l.toArray
abbrev zi(n:Int):Value:=.int .i64 n
theorem bX(n:Nat):n<n.succ:=Nat.lt_succ_self n
abbrev Ma(F:List Nat)(v:Sv):=aU (aF 120 zq) F v.v
abbrev qd(F:List Nat)(v:Sv):=aU (aF 159 nA) F v.v
abbrev sS(F:List Nat)(v:Sv):=aU (aF 183 rM) F v.v
abbrev kF(F:List Nat)(v:Sv):=aU (aF 45 mY) F v.v
abbrev ol(F:List Nat)(v:Sv):=aU (aF 47 qM) F v.v
abbrev nC(F:List Nat)(v:Sv):=aU (aF 57 qL) F v.v
abbrev eG(F:List Nat)(v:Sv):=aU (aF 70 gN) F v.v
abbrev mi(F:List Nat)(v:Sv):=aU (aF 98 oJ) F v.v
abbrev bI(F:List Nat)(v:Sv):=aU (aF 3 (aC az)) F v.v
abbrev ER(F:List Nat)(v:Sv):=aU (aF 45 (aC qN)) F v.v
abbrev abS(F:List Nat)(v:Sv):=aU (aF 47 (aC oK)) F v.v
abbrev abT(F:List Nat)(v:Sv):=aU (aF 57 (aC qK)) F v.v
abbrev abU(F:List Nat)(v:Sv):=aU (aF 70 (aC mI)) F v.v
abbrev aaF(v:Sv):=bC (aD 120 Qe) v.v
abbrev eQ(v:Sv):=bC (aD 159 BR) v.v
abbrev rO(v:Sv):=bC (aD 183 BS) v.v
abbrev iF(v:Sv):=bC (aD 186 qH) v.v
abbrev ah(v:Sv):=bC (aD 3 az) v.v
abbrev eD(v:Sv):=bC (aD 45 qN) v.v
abbrev dK(v:Sv):=bC (aD 47 oK) v.v
abbrev ku(v:Sv):=bC (aD 5 wH) v.v
abbrev bV(v:Sv):=bC (aD 57 qK) v.v
abbrev bG(v:Sv):=bC (aD 70 mI) v.v
abbrev eY(v:Sv):=bC (aD 98 Ck) v.v
theorem zx{G N:Prop}(k:N)(h:N->G:=by (intro k; exact aP (kv (.tmp rfl rfl) rfl) k)):G:=h k
theorem _root_.Go.Fw.Mem.q2{c d0 d1:aL}{l:List aL}:Fw.Mem c (d0::d1::c::l):=.t (.t .h)
theorem _root_.Go.Fw.Mem.q3{c d0 d1 d2:aL}{l:List aL}:Fw.Mem c (d0::d1::d2::c::l):=.t (.t (.t .h))
theorem _root_.Go.Fw.Mem.q4{c d0 d1 d2 d3:aL}{l:List aL}:Fw.Mem c (d0::d1::d2::d3::c::l):=.t (.t (.t (.t .h)))
theorem _root_.Go.Fw.Mem.q5{c d0 d1 d2 d3 d4:aL}{l:List aL}:Fw.Mem c (d0::d1::d2::d3::d4::c::l):=.t (.t (.t (.t (.t .h))))
theorem _root_.Go.Fw.Mem.q6{c d0 d1 d2 d3 d4 d5:aL}{l:List aL}:Fw.Mem c (d0::d1::d2::d3::d4::d5::c::l):=.t (.t (.t (.t (.t (.t .h)))))
theorem _root_.Go.Fw.Mem.q7{c d0 d1 d2 d3 d4 d5 d6:aL}{l:List aL}:Fw.Mem c (d0::d1::d2::d3::d4::d5::d6::c::l):=.t (.t (.t (.t (.t (.t (.t .h))))))
theorem _root_.Go.Fw.Mem.q8{c d0 d1 d2 d3 d4 d5 d6 d7:aL}{l:List aL}:Fw.Mem c (d0::d1::d2::d3::d4::d5::d6::d7::c::l):=.t (.t (.t (.t (.t (.t (.t (.t .h)))))))
theorem _root_.Go.Fw.Mem.q9{c d0 d1 d2 d3 d4 d5 d6 d7 d8:aL}{l:List aL}:Fw.Mem c (d0::d1::d2::d3::d4::d5::d6::d7::d8::c::l):=.t (.t (.t (.t (.t (.t (.t (.t (.t .h))))))))
theorem _root_.Go.Fw.Mem.q10{c d0 d1 d2 d3 d4 d5 d6 d7 d8 d9:aL}{l:List aL}:Fw.Mem c (d0::d1::d2::d3::d4::d5::d6::d7::d8::d9::c::l):=.t (.t (.t (.t (.t (.t (.t (.t (.t (.t .h)))))))))
theorem _root_.Go.Fw.Mem.q11{c d0 d1 d2 d3 d4 d5 d6 d7 d8 d9 pV:aL}{l:List aL}:Fw.Mem c (d0::d1::d2::d3::d4::d5::d6::d7::d8::d9::pV::c::l):=.t (.t (.t (.t (.t (.t (.t (.t (.t (.t (.t .h))))))))))
theorem _root_.Go.Fw.Mem.q12{c d0 d1 d2 d3 d4 d5 d6 d7 d8 d9 pV uC:aL}{l:List aL}:Fw.Mem c (d0::d1::d2::d3::d4::d5::d6::d7::d8::d9::pV::uC::c::l):=.t (.t (.t (.t (.t (.t (.t (.t (.t (.t (.t (.t .h)))))))))))
theorem _root_.Go.Fw.Mem.q13{c d0 d1 d2 d3 d4 d5 d6 d7 d8 d9 pV uC CX:aL}{l:List aL}:Fw.Mem c (d0::d1::d2::d3::d4::d5::d6::d7::d8::d9::pV::uC::CX::c::l):=.t (.t (.t (.t (.t (.t (.t (.t (.t (.t (.t (.t (.t .h))))))))))))
theorem _root_.Go.Fw.Mem.q14{c d0 d1 d2 d3 d4 d5 d6 d7 d8 d9 pV uC CX Yd:aL}{l:List aL}:Fw.Mem c (d0::d1::d2::d3::d4::d5::d6::d7::d8::d9::pV::uC::CX::Yd::c::l):=.t (.t (.t (.t (.t (.t (.t (.t (.t (.t (.t (.t (.t (.t .h)))))))))))))
theorem _root_.Go.Fw.Sel.q2{c d0 d1:aL}{l:List aL}:Fw.Sel (d0::d1::c::l) c (d0::d1::l):=.t (.t .h)
theorem _root_.Go.Fw.Sel.q3{c d0 d1 d2:aL}{l:List aL}:Fw.Sel (d0::d1::d2::c::l) c (d0::d1::d2::l):=.t (.t (.t .h))
theorem _root_.Go.Fw.Sel.q4{c d0 d1 d2 d3:aL}{l:List aL}:Fw.Sel (d0::d1::d2::d3::c::l) c (d0::d1::d2::d3::l):=.t (.t (.t (.t .h)))
theorem _root_.Go.Fw.Sel.q5{c d0 d1 d2 d3 d4:aL}{l:List aL}:Fw.Sel (d0::d1::d2::d3::d4::c::l) c (d0::d1::d2::d3::d4::l):=.t (.t (.t (.t (.t .h))))
theorem _root_.Go.Fw.Sel.q6{c d0 d1 d2 d3 d4 d5:aL}{l:List aL}:Fw.Sel (d0::d1::d2::d3::d4::d5::c::l) c (d0::d1::d2::d3::d4::d5::l):=.t (.t (.t (.t (.t (.t .h)))))
theorem _root_.Go.Fw.Sel.q7{c d0 d1 d2 d3 d4 d5 d6:aL}{l:List aL}:Fw.Sel (d0::d1::d2::d3::d4::d5::d6::c::l) c (d0::d1::d2::d3::d4::d5::d6::l):=.t (.t (.t (.t (.t (.t (.t .h))))))
theorem _root_.Go.Fw.Sel.q8{c d0 d1 d2 d3 d4 d5 d6 d7:aL}{l:List aL}:Fw.Sel (d0::d1::d2::d3::d4::d5::d6::d7::c::l) c (d0::d1::d2::d3::d4::d5::d6::d7::l):=.t (.t (.t (.t (.t (.t (.t (.t .h)))))))
theorem _root_.Go.Fw.Sel.q9{c d0 d1 d2 d3 d4 d5 d6 d7 d8:aL}{l:List aL}:Fw.Sel (d0::d1::d2::d3::d4::d5::d6::d7::d8::c::l) c (d0::d1::d2::d3::d4::d5::d6::d7::d8::l):=.t (.t (.t (.t (.t (.t (.t (.t (.t .h))))))))
theorem _root_.Go.Fw.Sel.q10{c d0 d1 d2 d3 d4 d5 d6 d7 d8 d9:aL}{l:List aL}:Fw.Sel (d0::d1::d2::d3::d4::d5::d6::d7::d8::d9::c::l) c (d0::d1::d2::d3::d4::d5::d6::d7::d8::d9::l):=.t (.t (.t (.t (.t (.t (.t (.t (.t (.t .h)))))))))
theorem _root_.Go.Fw.Sel.q11{c d0 d1 d2 d3 d4 d5 d6 d7 d8 d9 pV:aL}{l:List aL}:Fw.Sel (d0::d1::d2::d3::d4::d5::d6::d7::d8::d9::pV::c::l) c (d0::d1::d2::d3::d4::d5::d6::d7::d8::d9::pV::l):=.t (.t (.t (.t (.t (.t (.t (.t (.t (.t (.t .h))))))))))
theorem _root_.Go.Fw.Sel.q12{c d0 d1 d2 d3 d4 d5 d6 d7 d8 d9 pV uC:aL}{l:List aL}:Fw.Sel (d0::d1::d2::d3::d4::d5::d6::d7::d8::d9::pV::uC::c::l) c (d0::d1::d2::d3::d4::d5::d6::d7::d8::d9::pV::uC::l):=.t (.t (.t (.t (.t (.t (.t (.t (.t (.t (.t (.t .h)))))))))))
theorem _root_.Go.Fw.Sel.q13{c d0 d1 d2 d3 d4 d5 d6 d7 d8 d9 pV uC CX:aL}{l:List aL}:Fw.Sel (d0::d1::d2::d3::d4::d5::d6::d7::d8::d9::pV::uC::CX::c::l) c (d0::d1::d2::d3::d4::d5::d6::d7::d8::d9::pV::uC::CX::l):=.t (.t (.t (.t (.t (.t (.t (.t (.t (.t (.t (.t (.t .h))))))))))))
theorem _root_.Go.Fw.Sel.q14{c d0 d1 d2 d3 d4 d5 d6 d7 d8 d9 pV uC CX Yd:aL}{l:List aL}:Fw.Sel (d0::d1::d2::d3::d4::d5::d6::d7::d8::d9::pV::uC::CX::Yd::c::l) c (d0::d1::d2::d3::d4::d5::d6::d7::d8::d9::pV::uC::CX::Yd::l):=.t (.t (.t (.t (.t (.t (.t (.t (.t (.t (.t (.t (.t (.t .h)))))))))))))
def V8(j4:List UInt8):Option (Bool):=
 some (decide ((1048576:Int)<(j4.length:Int)))
theorem ao0{j4:List UInt8}{ae:Sv}{R:Bool}(hF:V8 j4=some R):
   Fw.Spec Tryz.prog 4 [ae.v] [ku ae j4] (fun _:Unit=>(.bool R)) (fun _=>[]):=by
 refine Se 6 Tryz.func4 [.tmp 2] ?_
 intro H0 F0
 unfold V8 at hF
 exact ze hF
def H5(j4:List UInt8):Nat->Int->Int->Option (bv)
 |0,_,_=>none
 |m3+1,c1,c2=>if ((decide ((c2:Int)<(j4.length:Int)))&&(decide ((c2:Int)<4000)))then (
     (ix j4 c2).bind fun oq=>
     H5 j4 m3 (xN .i64 (IntKind.i64.wrap ((IntKind.i64.wrap ((IntKind.i64.wrap (c1*131))+(oq.toNat:Int)))+7)) 1073741823) (IntKind.i64.wrap (c2+1)))
   else (
     some (⟨j4,0,c1⟩:bv))
def Vv(j4:List UInt8):Option (bv):=
 H5 j4 (((j4.length:Int)-0).toNat+2) (IntKind.i64.wrap (10101+(j4.length:Int))) 0
theorem aof{j4:List UInt8}{ae:Sv}{R:bv}(hF:Vv j4=some R):
   Fw.Spec Tryz.prog 25 [ae.v] [ku ae j4] (fun p:Nat×Sv=>(.pointer (some ⟨p.1,0,some 0⟩))) (fun p=>[aW p.1 77 (zg [p.2.v,(zi R.i),(zi R.h)]),ku p.2 R.b]):=by
 refine Se 32 Tryz.func25 [.tmp 2] ?_
 intro H0 F0
 unfold Vv at hF
 refine asX ?_
 refine bi (bT (m:=(((j4.length:Int)-0).toNat+2)) (fun m3 f' cs'=>∃(g:Fr)(c1 c2:Int),f'=aQ g [(0,ae.v),(3,(zi c1)),(4,(zi c2))]/\aN cs' [ku ae j4]/\H5 j4 m3 c1 c2=some R) ⟨_,_,_,aA,ay,hF⟩ ?_)
 rintro m3 _ _ ⟨g4,c1,c2,rfl,hE,hF⟩
 refine bq hE ?_
 rcases m3 with _|m3
 · rw[H5]at hF
   exact absurd hF (by simp)
 rw[H5]at hF
 refine aT ?_
 refine eX (fun f' cs'=>∃(g:Fr),f'=aQ g [(0,ae.v),(3,(zi c1)),(4,(zi c2)),(15,(.bool ((decide ((c2:Int)<(j4.length:Int)))&&(decide ((c2:Int)<4000)))))]/\aN cs' [ku ae j4]) ?_ ?_
 · refine aY ?_
   rcases bE (decide ((c2:Int)<(j4.length:Int)))with dQ|dQ
   · rw[dQ]
     try rw[dQ]at hF; dsimp only[aJ,aI]at hF
     refine bB ?_
     exact⟨_,aA,ay⟩
   rw[dQ]
   try rw[dQ]at hF; dsimp only[aJ,aI]at hF
   refine bg ?_
   exact⟨_,aA,ay⟩
 rintro _ _ ⟨g12,rfl,hE⟩
 refine bq hE ?_
 refine Ci hF (fun nD hF=>?_) (fun nD hF=>?_)
 · refine bH ?_
   refine zI hF fun oq WZ hx16 hF=>?_
   refine Ai hx16 (fun k17 JC=>?_)
   refine Al ah_ ?_
   refine aP (afn (u:=oq) ik5 ik3 (.tmp rfl rfl)) ?_
   refine aT ?_
   refine aP (VS (i:=(IntKind.i64.wrap ((IntKind.i64.wrap ((IntKind.i64.wrap (c1*131))+(oq.toNat:Int)))+7))) (j:=1073741823) (.tmp rfl rfl) (.int _ _)) ?_
   refine bH ?_
   exact⟨m3,bX _,_,_,_,aA,ay,hF⟩
 refine bH ?_
 refine aP (iB av6.h rfl (vs:=[ae.v,(zi c1)]) b_ (cells:=[ae.v,(zi 0),(zi c1)]) rfl) ?_
 refine AbW (fun k19=>?_)
 refine bu ?_
 cases hF
 exact Er (k19,ae)
def AP(ak:bv):Option (Int×bv):=
 (I4 .i64 (IntKind.i64.wrap ((IntKind.i64.wrap (ak.h*6364136223846793005))+1442695040888963407)) 33).bind fun x1=>
 (I4 .i64 (IntKind.i64.wrap ((IntKind.i64.wrap (ak.h*6364136223846793005))+1442695040888963407)) 45).bind fun x3=>
 if (decide ((ak.i:Int)<(ak.b.length:Int)))then (
   (ix ak.b ak.i).bind fun x5=>
   some ((xN .i64 (IntKind.i64.wrap ((xN .i64 (MH .i64 x1 x3) 255)+(x5.toNat:Int))) 255),(⟨ak.b,(IntKind.i64.wrap (ak.i+1)),(IntKind.i64.wrap ((IntKind.i64.wrap (ak.h*6364136223846793005))+1442695040888963407))⟩:bv)))
 else (
   some ((xN .i64 (MH .i64 x1 x3) 255),(⟨ak.b,ak.i,(IntKind.i64.wrap ((IntKind.i64.wrap (ak.h*6364136223846793005))+1442695040888963407))⟩:bv)))
theorem OC{cz:Nat}{ak:bv}{ae:Sv}{R:Int×bv}(hF:AP ak=some R):
   Fw.Spec Tryz.prog 103 [(pz cz)] [aW cz 77 (zg [ae.v,(zi ak.i),(zi ak.h)]),ku ae ak.b] (fun _:Unit=>(zi R.1)) (fun _=>[aW cz 77 (zg [ae.v,(zi R.2.i),(zi R.2.h)])]):=by
 refine Se 58 Tryz.func103 [.tmp 2] ?_
 intro H0 F0
 unfold AP at hF
 refine bB ?_
 refine aP (za (v:=(pz cz)) rfl (.tmp rfl rfl)) ?_
 refine bg ?_
 refine aP (za (v:=(pz cz)) rfl (.tmp rfl rfl)) ?_
 refine au ?_
 refine As (zg [ae.v,(zi ak.i),(zi (IntKind.i64.wrap ((IntKind.i64.wrap (ak.h*6364136223846793005))+1442695040888963407)))]) ?_
 refine au ?_
 refine dS [0,1,2,3,4,5,6,7,8,9,10,11,12] [0,1,3,7,15,0,32,96,224,480,1023,2047,4095] [] mixed (by decide+kernel) ?_
 refine du ?_
 refine bW rfl .no (fun ha=>za (v:=(pz cz)) rfl (EN ha (.tmp rfl rfl) rfl)) ?_
 refine du ?_
 refine dM rfl .no .h (fun ha hp=>fe (v:=(zi (IntKind.i64.wrap ((IntKind.i64.wrap (ak.h*6364136223846793005))+1442695040888963407)))) pU.h (EN ha (.tmp rfl rfl) rfl) hp.2 rfl rfl) ?_
 refine bnd hF fun x1 hx2 hF=>bW rfl .no (fun ha=>aax (i:=(IntKind.i64.wrap ((IntKind.i64.wrap (ak.h*6364136223846793005))+1442695040888963407))) (j:=33) (EN ha (.tmp rfl rfl) rfl) (EN ha (.int _ _) rfl) hx2) ?_
 refine du ?_
 refine bW rfl .no (fun ha=>za (v:=(pz cz)) rfl (EN ha (.tmp rfl rfl) rfl)) ?_
 refine du ?_
 refine dM rfl .no .h (fun ha hp=>fe (v:=(zi (IntKind.i64.wrap ((IntKind.i64.wrap (ak.h*6364136223846793005))+1442695040888963407)))) pU.h (EN ha (.tmp rfl rfl) rfl) hp.2 rfl rfl) ?_
 refine bnd hF fun x3 hx4 hF=>bW rfl .no (fun ha=>aax (i:=(IntKind.i64.wrap ((IntKind.i64.wrap (ak.h*6364136223846793005))+1442695040888963407))) (j:=45) (EN ha (.tmp rfl rfl) rfl) (EN ha (.int _ _) rfl) hx4) ?_
 refine bW rfl .no (fun ha=>arI (i:=x1) (j:=x3) (EN ha (.tmp rfl rfl) rfl) (EN ha (.tmp rfl rfl) rfl)) ?_
 refine bW rfl .no (fun ha=>VS (i:=(MH .i64 x1 x3)) (j:=255) (EN ha (.tmp rfl rfl) rfl) (EN ha (.int _ _) rfl)) ?_
 refine bR ?_
 refine au ?_
 refine dS [0,1,2,3,4,5,6,7,8,9] [0,1,3,7,0,16,48,112,240,511] [] mixed (by decide+kernel) ?_
 refine du ?_
 refine bW rfl .no (fun ha=>za (v:=(pz cz)) rfl (EN ha (.tmp rfl rfl) rfl)) ?_
 refine du ?_
 refine dM rfl .no .h (fun ha hp=>fe (v:=(zi ak.i)) pU.h (EN ha (.tmp rfl rfl) rfl) hp.2 rfl rfl) ?_
 refine du ?_
 refine bW rfl .no (fun ha=>za (v:=(pz cz)) rfl (EN ha (.tmp rfl rfl) rfl)) ?_
 refine du ?_
 refine dM rfl .no .h (fun ha hp=>fe (v:=ae.v) ajc.h (EN ha (.tmp rfl rfl) rfl) hp.2 rfl rfl) ?_
 refine dm ?_
 refine Ci hF (fun abV hF=>?_) (fun abV hF=>?_)
 · refine dS [0,1,2,3,4,5,6,7,8,9,10,11,12,13,14] [0,0,2,6,14,0,32,96,224,510,1022,2046,4095,8191,16383] [] mixed (by decide+kernel) ?_
   refine bR ?_
   refine bW rfl .no (fun ha=>za (v:=(pz cz)) rfl (EN ha (.tmp rfl rfl) rfl)) ?_
   refine du ?_
   refine dM rfl .no .h (fun ha hp=>fe (v:=ae.v) ajc.h (EN ha (.tmp rfl rfl) rfl) hp.2 rfl rfl) ?_
   refine du ?_
   refine bW rfl .no (fun ha=>za (v:=(pz cz)) rfl (EN ha (.tmp rfl rfl) rfl)) ?_
   refine du ?_
   refine dM rfl .no .h (fun ha hp=>fe (v:=(zi ak.i)) pU.h (EN ha (.tmp rfl rfl) rfl) hp.2 rfl rfl) ?_
   refine zI hF fun x5 hp7 tN hF=>?_
   refine Di tN (fun k9 j10=>?_)
   refine Dl ah_ ?_
   refine bW rfl .no (fun ha=>afn (u:=x5) ik5 ik3 (EN ha (.tmp rfl rfl) rfl)) ?_
   refine du ?_
   refine bW rfl .no (fun ha=>VS (i:=(IntKind.i64.wrap ((xN .i64 (MH .i64 x1 x3) 255)+(x5.toNat:Int)))) (j:=255) (EN ha (.tmp rfl rfl) rfl) (EN ha (.int _ _) rfl)) ?_
   refine bR ?_
   refine bu ?_
   refine aP (za (v:=(pz cz)) rfl (.tmp rfl rfl)) ?_
   refine bu ?_
   refine aP (za (v:=(pz cz)) rfl (.tmp rfl rfl)) ?_
   refine au ?_
   refine As (zg [ae.v,(zi (IntKind.i64.wrap (ak.i+1))),(zi (IntKind.i64.wrap ((IntKind.i64.wrap (ak.h*6364136223846793005))+1442695040888963407)))]) ?_
   exact ze hF
 exact ze hF
def kw(ak:bv)(gU:Int):Option (Int×bv):=
 if (decide ((gU:Int)<=0))then (
   some (0,ak))
 else (
   if (decide ((gU:Int)<=256))then (
     (AP ak).bind fun r1=>
     (MI r1.1 gU).bind fun x4=>
     some (x4,(⟨ak.b,r1.2.i,r1.2.h⟩:bv)))
   else (
     (AP ak).bind fun r6=>
     (AP (⟨ak.b,r6.2.i,r6.2.h⟩:bv)).bind fun r9=>
     (AP (⟨ak.b,r9.2.i,r9.2.h⟩:bv)).bind fun dC=>
     (AP (⟨ak.b,dC.2.i,dC.2.h⟩:bv)).bind fun fI=>
     (MI (IntKind.i64.wrap ((IntKind.i64.wrap ((IntKind.i64.wrap ((IntKind.i64.wrap (r6.1*16777216))+(IntKind.i64.wrap (r9.1*65536))))+(IntKind.i64.wrap (dC.1*256))))+fI.1)) gU).bind fun g_=>
     some (g_,(⟨ak.b,fI.2.i,fI.2.h⟩:bv))))
theorem kZ{cz:Nat}{ak:bv}{ae:Sv}{gU:Int}{R:Int×bv}(hF:kw ak gU=some R):
   Fw.Spec Tryz.prog 51 [(pz cz),(zi gU)] [aW cz 77 (zg [ae.v,(zi ak.i),(zi ak.h)]),ku ae ak.b] (fun _:Unit=>(zi R.1)) (fun _=>[aW cz 77 (zg [ae.v,(zi R.2.i),(zi R.2.h)])]):=by
 refine Se 37 Tryz.func51 [.tmp 4] ?_
 intro H0 F0
 unfold kw at hF
 refine dL ?_
 refine Ci hF (fun I5 hF=>?_) (fun I5 hF=>?_)
 · exact ze hF
 refine bB ?_
 refine Ci hF (fun nD hF=>?_) (fun nD hF=>?_)
 · refine aT ?_
   refine bnd hF fun r1 hx2 hF=>gy (OC hx2) (fun p3=>?_)
   refine au ?_
   refine bnd hF fun x4 hx5 hF=>aP (ahE (i:=r1.1) (j:=gU) (.tmp rfl rfl) (.tmp rfl rfl) hx5) ?_
   exact ze hF
 refine bu ?_
 refine bnd hF fun r6 hx7 hF=>gy (OC hx7) (fun p8=>?_)
 refine bg ?_
 refine bnd hF fun r9 jm hF=>gy (OC jm) (fun ou=>?_)
 refine bg ?_
 refine bnd hF fun dC iH hF=>gy (OC iH) (fun l9=>?_)
 refine bg ?_
 refine bnd hF fun fI hx16 hF=>gy (OC hx16) (fun m_=>?_)
 refine aii ?_
 refine bnd hF fun g_ kM hF=>aP (ahE (i:=(IntKind.i64.wrap ((IntKind.i64.wrap ((IntKind.i64.wrap ((IntKind.i64.wrap (r6.1*16777216))+(IntKind.i64.wrap (r9.1*65536))))+(IntKind.i64.wrap (dC.1*256))))+fI.1))) (j:=gU) (.tmp rfl rfl) (.tmp rfl rfl) kM) ?_
 exact ze hF
def Eo(ak:bv)(gU:Int):Option (Bool×bv):=
 (kw ak gU).bind fun r1=>
 some (((r1.1:Int)==0),(⟨ak.b,r1.2.i,r1.2.h⟩:bv))
theorem OD{cz:Nat}{ak:bv}{ae:Sv}{gU:Int}{R:Bool×bv}(hF:Eo ak gU=some R):
   Fw.Spec Tryz.prog 131 [(pz cz),(zi gU)] [aW cz 77 (zg [ae.v,(zi ak.i),(zi ak.h)]),ku ae ak.b] (fun _:Unit=>(.bool R.1)) (fun _=>[aW cz 77 (zg [ae.v,(zi R.2.i),(zi R.2.h)])]):=by
 refine Se 9 Tryz.func131 [.tmp 4] ?_
 intro H0 F0
 unfold Eo at hF
 refine bB ?_
 refine bnd hF fun r1 hx2 hF=>gy (kZ hx2) (fun p3=>?_)
 exact ze hF
def GA(ak:bv):Nat->Int->Int->(List Int)->Int->Option ((List Int)×bv)
 |0,_,_,_,_=>none
 |JD+1,kI,c40,lQ,nS=>if (decide ((0:Int)<nS))then (
     ((kw (⟨ak.b,kI,c40⟩:bv) 2).bind fun tO=>
       (Eo (⟨ak.b,tO.2.i,tO.2.h⟩:bv) 4).bind fun rY=>
       if rY.1 then (
         (app lQ ([3]:List Int)).bind fun z62=>
         some (rY.2.i,rY.2.h,z62))
       else (
         (app lQ ([(IntKind.i64.wrap (1+tO.1))]:List Int)).bind fun z66=>
         some (rY.2.i,rY.2.h,z66))).bind fun o53=>
     match o53 with
     |(c70,rz,c72)=>GA ak JD c70 rz c72 (IntKind.i64.wrap (nS-1)))
   else (
     some (lQ,(⟨ak.b,kI,c40⟩:bv)))
def U3(ak:bv):Option ((List Int)×bv):=
 (kw ak 3).bind fun r2=>
 GA ak (((IntKind.i64.wrap (1+r2.1))-0).toNat+2) r2.2.i r2.2.h ([]:List Int) (IntKind.i64.wrap (1+r2.1))
theorem amM{cz:Nat}{ak:bv}{ae:Sv}{R:(List Int)×bv}(hF:U3 ak=some R):
   Fw.Spec Tryz.prog 92 [(pz cz)] [aW cz 77 (zg [ae.v,(zi ak.i),(zi ak.h)]),ku ae ak.b] (fun p:Sv×List Nat=>p.1.v) (fun p=>[bI p.2 p.1 R.1,aW cz 77 (zg [ae.v,(zi R.2.i),(zi R.2.h)])]):=by
 refine Se 24 Tryz.func92 [.tmp 2] ?_
 intro H0 F0
 unfold U3 at hF
 refine bg ?_
 refine dF rfl (bO (g:=true) dh.h dx.h .nil (vs:=[]) rfl rfl rfl (by simp)) (fun k1=>?_)
 refine dP (.cons .h .nil) (bQ (Ro:=(aC az)) (E:=3) (F:=[]) (xs:=([]:List Int)) bP rfl rfl) ?_
 refine aY ?_
 refine bnd hF fun r2 hx3 hF=>gy (kZ hx3) (fun p4=>?_)
 refine bu ?_
 refine bi (bT (m:=(((IntKind.i64.wrap (1+r2.1))-0).toNat+2)) (fun JD f' cs'=>∃(g:Fr)(kI c40:Int)(lQ:List Int)(nS:Int)(v42:Sv)(wR:List Nat),f'=aQ g [(0,(pz cz)),(3,v42.v),(4,(zi nS))]/\aN cs' [aW cz 77 (zg [ae.v,(zi kI),(zi c40)]),ku ae ak.b,bI wR v42 lQ]/\GA ak JD kI c40 lQ nS=some R) ⟨_,_,_,_,_,⟨(some ⟨k1,0,none⟩),0,1⟩,(k1::[]),aA,ay,hF⟩ ?_)
 rintro JD _ _ ⟨g46,kI,c40,lQ,nS,v42,wR,rfl,hE,hF⟩
 refine bq hE ?_
 rcases JD with _|JD
 · rw[GA]at hF
   exact absurd hF (by simp)
 rw[GA]at hF
 refine aY ?_
 refine Ci hF (fun abW hF=>?_) (fun abW hF=>?_)
 · refine au ?_
   obtain⟨o53,as3,awV⟩:=bind_some hF
   refine iC (fun f' cs'=>∃(c70 rz:Int)(c72:List Int)(v73:Sv)(F74:List Nat)(g:Fr),o53=(c70,rz,c72)/\f'=aQ g [(0,(pz cz)),(3,v73.v),(4,(zi nS))]/\aN cs' [aW cz 77 (zg [ae.v,(zi c70),(zi rz)]),ku ae ak.b,bI F74 v73 c72]) ?_ ?_
   · replace hF:=as3
     refine bi (dY (Cm (pz cz) rfl rfl ?_))
     refine bnd hF fun tO Co hF=>gy (kZ Co) (fun p57=>?_)
     refine bB ?_
     refine bnd hF fun rY Cq hF=>gy (OD Cq) (fun p60=>?_)
     refine au ?_
     refine Ci hF (fun abX hF=>?_) (fun abX hF=>?_)
     · refine bB ?_
       refine dF rfl (bO (g:=true) dh.h dx.h b_ (vs:=[(zi 3)]) rfl rfl rfl (by intro v hv; simp at hv; rcases hv with rfl<;>rfl)) (fun k61=>?_)
       refine dP (.cons .h .nil) (bQ (Ro:=(aC az)) (E:=3) (F:=([]++[])) (xs:=([3]:List Int)) (d_ (jh (fun _=>rfl)) bP cK) rfl rfl) ?_
       refine bnd hF fun z62 Cr hF=>ed (.cons .q3 (.cons .h .nil)) (dV (Ro:=(aC az)) dh.h iQ dx.h rfl rfl rfl (.tmp rfl rfl) (.tmp rfl rfl) Cr fw) (fun p64=>?_)
       refine aT ?_
       cases hF
       exact⟨_,_,_,p64.1,p64.2,_,rfl,aA,ay⟩
     refine bg ?_
     refine dF rfl (bO (g:=true) dh.h dx.h b_ (vs:=[(zi (IntKind.i64.wrap (1+tO.1)))]) rfl rfl rfl (by intro v hv; simp at hv; rcases hv with rfl<;>rfl)) (fun k65=>?_)
     refine dP (.cons .h .nil) (bQ (Ro:=(aC az)) (E:=3) (F:=([]++[])) (xs:=([(IntKind.i64.wrap (1+tO.1))]:List Int)) (d_ (jh (fun _=>rfl)) bP cK) rfl rfl) ?_
     refine bnd hF fun z66 Q7 hF=>ed (.cons .q3 (.cons .h .nil)) (dV (Ro:=(aC az)) dh.h iQ dx.h rfl rfl rfl (.tmp rfl rfl) (.tmp rfl rfl) Q7 fw) (fun p68=>?_)
     refine aT ?_
     cases hF
     exact⟨_,_,_,p68.1,p68.2,_,rfl,aA,ay⟩
   rintro _ _ ⟨c70,rz,c72,v73,F74,g75,rfl,rfl,hE⟩
   replace hF:=awV
   try dsimp only at hF
   refine bq hE ?_
   refine aY ?_
   exact⟨JD,bX _,_,_,_,_,_,v73,F74,aA,ay,hF⟩
 refine gB ?_
 cases hF
 exact Er (v42,wR)
def iO(aS:Int)(uP:Int)(xy:Int):Option (Bool):=
 some ((decide ((uP:Int)<=aS))&&(decide ((aS:Int)<=xy)))
theorem jR{aS uP xy:Int}{R:Bool}(hF:iO aS uP xy=some R):
   Fw.Spec Tryz.prog 75 [(zi aS),(zi uP),(zi xy)] [] (fun _:Unit=>(.bool R)) (fun _=>[]):=by
 refine Se 15 Tryz.func75 [.tmp 6] ?_
 intro H0 F0
 unfold iO at hF
 refine bg ?_
 refine eX (fun f' cs'=>∃(g:Fr),f'=aQ g [(6,(.bool ((decide ((uP:Int)<=aS))&&(decide ((aS:Int)<=xy)))))]/\aN cs' []) ?_ ?_
 · refine bg ?_
   rcases bE (decide ((uP:Int)<=aS))with hg1|hg1
   · rw[hg1]
     try rw[hg1]at hF; dsimp only[aJ,aI]at hF
     refine gB ?_
     exact⟨_,aA,ay⟩
   rw[hg1]
   try rw[hg1]at hF; dsimp only[aJ,aI]at hF
   refine bB ?_
   exact⟨_,aA,ay⟩
 rintro _ _ ⟨g2,rfl,hE⟩
 refine bq hE ?_
 exact ze hF
def GD(ag:List Int):List Int->Nat->Option (Bool)
 |[],k4=>(iO (ag.length:Int) 1 3).bind fun oN=>
   some oN
 |x6::aM,k4=>(iO x6 1 3).bind fun ng=>
   if (!ng)then (
     some false)
   else (
     GD ag aM (k4+1))
def sw(ag:List Int):Option (Bool):=
 GD ag ag 0
theorem w_{ag:List Int}{ae:Sv}{R:Bool}(hF:sw ag=some R):
   Fw.Spec Tryz.prog 70 [ae.v] [ah ae ag] (fun _:Unit=>(.bool R)) (fun _=>[]):=by
 refine Se 19 Tryz.func70 [.tmp 2] ?_
 intro H0 F0
 unfold sw at hF
 refine bH ?_
 refine bi (bT (m:=ag.length) (fun m2 f' cs'=>∃(g:Fr)(k4:Nat)(aM:List Int),m2=aM.length/\f'=aQ g [(0,ae.v),(3,(zi (k4:Int)))]/\List.drop k4 ag=aM/\aN cs' [ah ae ag]/\GD ag aM k4=some R) ⟨_,0,_,rfl,aA,rfl,ay,hF⟩ ?_)
 rintro m2 _ _ ⟨g3,k4,aM,rfl,rfl,hd7,hE,hF⟩
 refine Kb hE ag (fun kT=>?_)
 rcases aM with _|⟨x6,aM⟩
 · have gF:=dn hd7
   rw[GD]at hF
   refine bH ?_
   refine dJ ?_
   refine bH ?_
   refine bnd hF fun oN j5 hF=>bD (jR j5) (fun _=>?_)
   exact ze hF
 obtain⟨gF,bY,gD⟩:=dz hd7
 rw[GD]at hF
 refine bH ?_
 refine dI ?_
 refine aY ?_
 refine Ai bY (fun k16 JE=>?_)
 refine Al dN ?_
 refine bnd hF fun ng kM hF=>bD (jR kM) (fun _=>?_)
 refine aT ?_
 refine Ci hF (fun ve hF=>?_) (fun ve hF=>?_)
 · exact ze hF
 refine bB ?_
 rw[wk k4]
 exact⟨_,bX _,_,k4+1,aM,rfl,aA,gD,ay,hF⟩
def N9(ag:List Int)(xB:Int):Option (aZ×Bool):=
 ((sw ag).bind fun r4=>
   bif (!r4)then (some true)
   else ((iO xB 0 100).bind fun r8=>
     some (!r8))).bind fun o2=>
 match o2 with
 |c11=>if c11 then (
     some ((⟨[],[],[],(⟨[],0⟩:Source),(⟨[],0⟩:Cache),0,[],[],0,[]⟩:aZ),false))
   else (
     (app ([]:List Int) ag).bind fun FE=>
     some ((⟨FE,[],[],(⟨[],0⟩:Source),(⟨[],xB⟩:Cache),0,[],[],0,[]⟩:aZ),true))
theorem alH{ag:List Int}{ae:Sv}{xB:Int}{R:aZ×Bool}(hF:N9 ag xB=some R):
   Fw.Spec Tryz.prog 93 [ae.v,(zi xB)] [ah ae ag] (fun p:Sv×List Nat×Sv×List Nat×Sv×List Nat×Sv×List Nat×Sv×List Nat×Sv×List Nat×Sv×List Nat×Sv×List Nat=>(.tuple [(zg [p.1.v,p.2.2.1.v,p.2.2.2.2.1.v,p.2.2.2.2.2.2.1.v,(zi R.1.Source.Version),p.2.2.2.2.2.2.2.2.1.v,(zi R.1.Cache.Age),(zi R.1.Now),p.2.2.2.2.2.2.2.2.2.2.1.v,p.2.2.2.2.2.2.2.2.2.2.2.2.1.v,(zi R.1.Spent),p.2.2.2.2.2.2.2.2.2.2.2.2.2.2.1.v]),(.bool R.2)].toArray)) (fun p=>[bI p.2.1 p.1 R.1.Schema,nC p.2.2.2.1 p.2.2.1 R.1.Methods,mi p.2.2.2.2.2.1 p.2.2.2.2.1 R.1.Rules,eG p.2.2.2.2.2.2.2.1 p.2.2.2.2.2.2.1 R.1.Source.Facts,ol p.2.2.2.2.2.2.2.2.2.1 p.2.2.2.2.2.2.2.2.1 R.1.Cache.Entries,kF p.2.2.2.2.2.2.2.2.2.2.2.1 p.2.2.2.2.2.2.2.2.2.2.1 R.1.Log,bI p.2.2.2.2.2.2.2.2.2.2.2.2.2.1 p.2.2.2.2.2.2.2.2.2.2.2.2.1 R.1.Times,aU (aF 152 (aF 24 (aF 3 (aC az)))) p.2.2.2.2.2.2.2.2.2.2.2.2.2.2.2 p.2.2.2.2.2.2.2.2.2.2.2.2.2.2.1.v R.1.Results]):=by
 refine Se 21 Tryz.func93 [.cell 4 36,.tmp 5] ?_
 intro H0 F0
 unfold N9 at hF
 refine au ?_
 refine dX (fun k1=>?_)
 refine bu ?_
 obtain⟨o2,fU,hO3⟩:=bind_some hF
 refine au ?_
 refine eX (fun f' cs'=>∃(c11:Bool)(g:Fr),c11=o2/\f'=aQ g [(0,ae.v),(1,(zi xB)),(4,(pz k1)),(13,(.bool c11))]/\aN cs' [ah ae ag,aW k1 36 (.agg ([(.slice none 0 0),(.slice none 0 0),(.slice none 0 0),(.slice none 0 0),(zi 0),(.slice none 0 0),(zi 0),(zi 0),(.slice none 0 0),(.slice none 0 0),(zi 0),(.slice none 0 0)]:List Value).toArray)]) ?_ ?_
 · replace hF:=fU
   refine au ?_
   refine bnd hF fun r4 hx5 hF=>bD (w_ hx5) (fun _=>?_)
   refine aT ?_
   rcases bE (!r4)with bn|bn
   · rw[bn]
     try rw[bn]at hF; dsimp only[aJ,aI]at hF
     exact bJ hF
   rw[bn]
   try rw[bn]at hF; dsimp only[aJ,aI]at hF
   refine bu ?_
   refine bnd hF fun r8 bY hF=>bD (jR bY) (fun _=>?_)
   exact bJ hF
 rintro _ _ ⟨c11,g17,rfl,rfl,hE⟩
 replace hF:=hO3
 try dsimp only at hF
 refine bq hE ?_
 refine Ci hF (fun Cs hF=>?_) (fun Cs hF=>?_)
 · refine au ?_
   refine aP (iB fG.h rfl (vs:=[]) .nil (cells:=[(.slice none 0 0),(.slice none 0 0),(.slice none 0 0),(.slice none 0 0),(zi 0),(.slice none 0 0),(zi 0),(zi 0),(.slice none 0 0),(.slice none 0 0),(zi 0),(.slice none 0 0)]) (by kernel_rfl)) ?_
   refine As (.agg ([(.slice none 0 0),(.slice none 0 0),(.slice none 0 0),(.slice none 0 0),(zi 0),(.slice none 0 0),(zi 0),(zi 0),(.slice none 0 0),(.slice none 0 0),(zi 0),(.slice none 0 0)]:List Value).toArray) ?_
   refine bu ?_
   cases hF
   exact gQ (⟨none,0,0⟩,[],⟨none,0,0⟩,[],⟨none,0,0⟩,[],⟨none,0,0⟩,[],⟨none,0,0⟩,[],⟨none,0,0⟩,[],⟨none,0,0⟩,[],⟨none,0,0⟩,[]) (.cellA rfl rfl .h rfl jl.h fG.h.sz rfl rfl (.tmp rfl rfl .nil)) rfl (.conv .nil (gT (Ro:=(aC az)) (E:=3)) (.cons .nil) (.conv .nil (gT (Ro:=qL) (E:=57)) (.cons .nil) (.conv .nil (gT (Ro:=oJ) (E:=98)) (.cons .nil) (.conv .nil (gT (Ro:=gN) (E:=70)) (.cons .nil) (.conv .nil (gT (Ro:=qM) (E:=47)) (.cons .nil) (.conv .nil (gT (Ro:=mY) (E:=45)) (.cons .nil) (.conv .nil (gT (Ro:=(aC az)) (E:=3)) (.cons .nil) (.conv .nil (gT (Ro:=(aF 24 (aF 3 (aC az)))) (E:=152)) (.cons .nil) (.sel (.cons .q7 (.cons .q6 (.cons .q5 (.cons .q4 (.cons .q3 (.cons .q2 (.cons (.t .h) (.cons .h .nil)))))))))))))))))
 refine aT ?_
 refine dF rfl (bO (g:=true) dh.h dx.h .nil (vs:=[]) rfl rfl rfl (by simp)) (fun k12=>?_)
 refine dP (.cons .h .nil) (bQ (Ro:=(aC az)) (E:=3) (F:=[]) (xs:=([]:List Int)) bP rfl rfl) ?_
 refine au ?_
 refine bnd hF fun FE j5 hF=>ed (.cons .h (.rd .h rfl .nil)) (dV (Ro:=(aC az)) dh.h iQ dx.h rfl rfl rfl (.tmp rfl rfl) (.tmp rfl rfl) j5 mg) (fun ni=>?_)
 refine au ?_
 refine aP (iB oL.h rfl (vs:=[(zi xB)]) b_ (cells:=[(.slice none 0 0),(zi xB)]) rfl) ?_
 refine aP (iB fG.h rfl (vs:=[ni.1.v,(zg [(.slice none 0 0),(zi xB)])]) b_ (cells:=[ni.1.v,(.slice none 0 0),(.slice none 0 0),(.slice none 0 0),(zi 0),(.slice none 0 0),(zi xB),(zi 0),(.slice none 0 0),(.slice none 0 0),(zi 0),(.slice none 0 0)]) (by kernel_rfl)) ?_
 refine As (zg [ni.1.v,(.slice none 0 0),(.slice none 0 0),(.slice none 0 0),(zi 0),(.slice none 0 0),(zi xB),(zi 0),(.slice none 0 0),(.slice none 0 0),(zi 0),(.slice none 0 0)]) ?_
 refine bu ?_
 cases hF
 exact gQ (ni.1,ni.2,⟨none,0,0⟩,[],⟨none,0,0⟩,[],⟨none,0,0⟩,[],⟨none,0,0⟩,[],⟨none,0,0⟩,[],⟨none,0,0⟩,[],⟨none,0,0⟩,[]) (.cellA rfl rfl .h rfl jl.h fG.h.sz rfl rfl (.tmp rfl rfl .nil)) rfl (.conv .nil (gT (Ro:=qL) (E:=57)) (.cons .nil) (.conv .nil (gT (Ro:=oJ) (E:=98)) (.cons .nil) (.conv .nil (gT (Ro:=gN) (E:=70)) (.cons .nil) (.conv .nil (gT (Ro:=qM) (E:=47)) (.cons .nil) (.conv .nil (gT (Ro:=mY) (E:=45)) (.cons .nil) (.conv .nil (gT (Ro:=(aC az)) (E:=3)) (.cons .nil) (.conv .nil (gT (Ro:=(aF 24 (aF 3 (aC az)))) (E:=152)) (.cons .nil) (.sel (.cons .q8 (.cons .q6 (.cons .q5 (.cons .q4 (.cons .q3 (.cons .q2 (.cons (.t .h) (.cons .h .nil))))))))))))))))
def KW(ak:bv)(PV:List Int):Option (Int×bv):=
 (kw ak (PV.length:Int)).bind fun r1=>
 (ix PV r1.1).bind fun x4=>
 some (x4,(⟨ak.b,r1.2.i,r1.2.h⟩:bv))
theorem YW{cz:Nat}{ak:bv}{ae:Sv}{PV:List Int}{ax:Sv}{R:Int×bv}(hF:KW ak PV=some R):
   Fw.Spec Tryz.prog 52 [(pz cz),ax.v] [aW cz 77 (zg [ae.v,(zi ak.i),(zi ak.h)]),ku ae ak.b,ah ax PV] (fun _:Unit=>(zi R.1)) (fun _=>[aW cz 77 (zg [ae.v,(zi R.2.i),(zi R.2.h)])]):=by
 refine Se 12 Tryz.func52 [.tmp 4] ?_
 intro H0 F0
 unfold KW at hF
 refine dL ?_
 refine bnd hF fun r1 hx2 hF=>gy (kZ hx2) (fun p3=>?_)
 refine zI hF fun x4 hp6 hx7 hF=>?_
 refine Ai hx7 (fun k8 j9=>?_)
 refine Al dN ?_
 exact ze hF
def GG(ak:bv)(ag:List Int)(r2:Int×bv)(r6:Int×bv)(r9:Int×bv)(dC:Int×bv):Nat->Int->Int->(List Int)->Int->Option (Method×bv)
 |0,_,_,_,_=>none
 |JF+1,c46,kJ,JG,c51=>(ix ag r2.1).bind fun zW=>
   if (decide ((c51:Int)<zW))then (
     ((Eo ({b:=ak.b,i:=c46,h:=kJ}:bv) 3).bind fun JH=>
       if JH.1 then (
         (app JG ([c51]:List Int)).bind fun z72=>
         some (JH.2.i,JH.2.h,z72))
       else (
         some (JH.2.i,JH.2.h,JG))).bind fun o66=>
     match o66 with
     |(c76,yQ,yR)=>GG ak ag r2 r6 r9 dC JF c76 yQ yR (IntKind.i64.wrap (c51+1)))
   else (
     some (({Rel:=r2.1,Inputs:=JG,Limit:=r6.1,Cost:=r9.1,Quota:=(IntKind.i64.wrap (1+dC.1))}:Method),({b:=ak.b,i:=c46,h:=kJ}:bv)))
def U4(fuel:Nat)(ak:bv)(ag:List Int):Option (Method×bv):=
 (kw ak (ag.length:Int)).bind fun r2=>
 (KW ({b:=ak.b,i:=r2.2.i,h:=r2.2.h}:bv) ([0,0,0,1,2]:List Int)).bind fun r6=>
 (kw ({b:=ak.b,i:=r6.2.i,h:=r6.2.h}:bv) 5).bind fun r9=>
 (kw ({b:=ak.b,i:=r9.2.i,h:=r9.2.h}:bv) 6).bind fun dC=>
 GG ak ag r2 r6 r9 dC fuel dC.2.i dC.2.h ([]:List Int) 0
theorem amN{fuel cz:Nat}{ak:bv}{ae:Sv}{ag:List Int}{ax:Sv}{R:Method×bv}(hF:U4 fuel ak ag=some R):
   Fw.Spec Tryz.prog 95 [(.pointer (some ⟨cz,0,some 0⟩)),ax.v] [aW cz 77 (.agg [ae.v,(.int .i64 ak.i),(.int .i64 ak.h)].toArray),bC (aD 5 wH) ae.v ak.b,bC (aD 3 az) ax.v ag] (fun p:Sv×List Nat=>(.agg [(.int .i64 R.1.Rel),p.1.v,(.int .i64 R.1.Limit),(.int .i64 R.1.Cost),(.int .i64 R.1.Quota)].toArray)) (fun p=>[aU (aF 3 (aC az)) p.2 p.1.v R.1.Inputs,aW cz 77 (.agg [ae.v,(.int .i64 R.2.i),(.int .i64 R.2.h)].toArray)]):=by
 refine HY (n:=38) Tryz.func95 rfl rfl (rs:=[.cell 4 57]) rfl rfl rfl ?_
 intro H0 F0
 unfold U4 at hF
 refine dY (dF rfl (sF (g:=true) qi.h rfl rfl) (fun k1=>?_))
 refine eT (dY (Cm (.pointer (some ⟨cz,0,some 0⟩)) rfl rfl ?_))
 refine Cm ax.v rfl rfl ?_
 refine fo (.t (.t (.t .h))) (fun hp=>sO (l:=ag.length) dh.h (.tmp rfl rfl) (zm hp)) ?_
 obtain⟨r2,hx3,hF⟩:=bind_some hF
 refine ed (.cons (.t .h) (.rd (.t .h) rfl .nil)) (bU Cj.h (.cons (.tmp rfl rfl) (.cons (.tmp rfl rfl) .nil)) (@kZ cz ak ae (ag.length:Int) _ hx3)) (fun p4=>?_)
 refine Cm (.pointer (some ⟨cz,0,some 0⟩)) rfl rfl ?_
 refine dF rfl (bO (g:=true) dh.h dx.h (.cons (.int _ _) (.cons (.int _ _) (.cons (.int _ _) (.cons (.int _ _) (.cons (.int _ _) .nil))))) (vs:=[(.int .i64 0),(.int .i64 0),(.int .i64 0),(.int .i64 1),(.int .i64 2)]) rfl rfl rfl (by intro v hv; simp at hv; rcases hv with rfl|rfl|rfl|rfl|rfl<;>rfl)) (fun k5=>?_)
 refine LX (.cons .h .nil) (bQ (Ro:=(aC az)) (E:=3) (F:=([]++([]++([]++([]++([]++[])))))) (xs:=([0,0,0,1,2]:List Int)) (d_ (jh (fun _=>rfl)) (d_ (jh (fun _=>rfl)) (d_ (jh (fun _=>rfl)) (d_ (jh (fun _=>rfl)) (d_ (jh (fun _=>rfl)) bP cK) cK) cK) cK) cK) rfl rfl) cK ?_
 obtain⟨r6,hx7,hF⟩:=bind_some hF
 refine uq (.cons .h (.cons .h (.rd (.t .h) rfl .nil))) (jT aG (fun _=>(.cons .nil)) (iV (.cons (.t .h) (.rd (.t .h) rfl (.rd .h rfl .nil))) (bU abL.h (.cons (.tmp rfl rfl) (.cons (.tmp rfl rfl) .nil)) (@YW cz ({b:=ak.b,i:=r2.2.i,h:=r2.2.h}:bv) ae ([0,0,0,1,2]:List Int) (⟨(some ⟨k5,0,none⟩),5,1⟩) _ hx7)))) (fun p8=>?_)
 refine Cm (.pointer (some ⟨cz,0,some 0⟩)) rfl rfl ?_
 obtain⟨r9,jm,hF⟩:=bind_some hF
 refine ed (.cons (.t .h) (.rd (.t (.t .h)) rfl .nil)) (bU Cj.h (.cons (.tmp rfl rfl) (.cons (.int _ _) .nil)) (@kZ cz ({b:=ak.b,i:=r6.2.i,h:=r6.2.h}:bv) ae 5 _ jm)) (fun ou=>?_)
 refine Cm (.pointer (some ⟨cz,0,some 0⟩)) rfl rfl ?_
 obtain⟨dC,iH,hF⟩:=bind_some hF
 refine ed (.cons .h (.rd (.t (.t .h)) rfl .nil)) (bU Cj.h (.cons (.tmp rfl rfl) (.cons (.int _ _) .nil)) (@kZ cz ({b:=ak.b,i:=r9.2.i,h:=r9.2.h}:bv) ae 6 _ iH)) (fun l9=>?_)
 refine aP (qF (i:=1) (j:=dC.1) (.int _ _) (.tmp rfl rfl)) ?_
 refine aP (iB qi.h rfl (vs:=[(.int .i64 r2.1),(.int .i64 r6.1),(.int .i64 r9.1),(.int .i64 (IntKind.i64.wrap (1+dC.1)))]) (.cons (.tmp rfl rfl) (.cons (.tmp rfl rfl) (.cons (.tmp rfl rfl) (.cons (.tmp rfl rfl) .nil)))) (cells:=[(.int .i64 r2.1),(.slice none 0 0),(.int .i64 r6.1),(.int .i64 r9.1),(.int .i64 (IntKind.i64.wrap (1+dC.1)))]) rfl) ?_
 refine dF rfl (sF (g:=true) qi.h rfl rfl) (fun k15=>?_)
 refine ed (.cons .h .nil) (gz (e':=(.agg [(.int .i64 r2.1),(.slice none 0 0),(.int .i64 r6.1),(.int .i64 r9.1),(.int .i64 (IntKind.i64.wrap (1+dC.1)))].toArray)) (v:=(.agg [(.int .i64 r2.1),(.slice none 0 0),(.int .i64 r6.1),(.int .i64 r9.1),(.int .i64 (IntKind.i64.wrap (1+dC.1)))].toArray)) qi.h.sz (.tmp rfl rfl) (.tmp rfl rfl) rfl rfl rfl rfl rfl) (fun _=>?_)
 refine eT (lX (dY (aP (jU (v:=(.int .i64 0)) (.int _ _)) ?_)))
 refine eT (bi (bT (m:=fuel) (fun JF f' cs'=>∃(g:Fr)(c46:Int)(kJ:Int)(JG:List Int)(c51:Int)(v49:Sv)(Ye:List Nat),f'=aQ g [(0,(.pointer (some ⟨cz,0,some 0⟩))),(1,ax.v),(4,(.pointer (some ⟨k1,0,some 0⟩))),(5,(.pointer (some ⟨k15,0,some 0⟩))),(6,(.int .i64 c51))]/\aN cs' [aW cz 77 (.agg [ae.v,(.int .i64 c46),(.int .i64 kJ)].toArray),bC (aD 5 wH) ae.v ak.b,bC (aD 3 az) ax.v ag,aW k1 57 (.agg [(.int .i64 0),(.slice none 0 0),(.int .i64 0),(.int .i64 0),(.int .i64 0)].toArray),aW k15 57 (.agg [(.int .i64 r2.1),v49.v,(.int .i64 r6.1),(.int .i64 r9.1),(.int .i64 (IntKind.i64.wrap (1+dC.1)))].toArray),aU (aF 3 (aC az)) Ye v49.v JG]/\GG ak ag r2 r6 r9 dC JF c46 kJ JG c51=some R) ⟨_,_,_,_,_,⟨none,0,0⟩,[],(bZ.cons rfl (bZ.cons rfl (bZ.cons rfl (bZ.cons rfl (bZ.cons rfl (bZ.nil)))))).eq,(.conv .nil (gT (Ro:=(aC az)) (E:=3)) (.cons .nil) (.sel (.cons (.t (.t .h)) (.rd (.t (.t (.t (.t .h)))) rfl (.rd (.t (.t (.t (.t (.t .h))))) rfl (.cons (.t (.t (.t .h))) (.cons (.t .h) (.cons .h .nil)))))))),hF⟩ ?_))
 clear hF
 rintro JF _ _ ⟨g53,c46,kJ,JG,c51,v49,Ye,rfl,hE,hF⟩
 refine bq hE ?_
 clear hE
 rcases JF with _|JF
 · rw[GG]at hF
   exact absurd hF (by simp)
 rw[GG]at hF
 refine lX (dY (Cm (.int .i64 c51) rfl rfl ?_))
 refine Cm ax.v rfl rfl ?_
 refine aP (iY (off:=0) ap5.h (.tmp rfl rfl)) ?_
 refine fo (.t (.t (.t (.t .h)))) (fun hp=>fe (v:=(.int .i64 r2.1)) pU.h (.tmp rfl rfl) hp.2 rfl rfl) ?_
 obtain⟨zW,awW,hF⟩:=bind_some hF
 obtain⟨ajq,Cr⟩:=Ev awW
 refine L8 (a:=zW) dh.h dx.h.sz (.tmp rfl rfl) (.tmp rfl rfl) (.t (.t .h)) ajq Cr (fun k64 j65=>?_)
 refine aav (w:=(.int .i64 zW)) pU.h (.tmp rfl rfl) .h dN ?_
 refine aP (EB (i:=c51) (j:=zW) (.tmp rfl rfl) (.tmp rfl rfl)) ?_
 refine eT (nY (b:=(decide ((c51:Int)<zW))) (.tmp rfl rfl) (fun Q8=>?_) (fun Q8=>?_))
 · rw[if_pos Q8]at hF
   refine rG ?_
   obtain⟨o66,as4,ajr⟩:=bind_some hF
   refine iC (fun f' cs'=>∃(c76:Int)(yQ:Int)(yR:List Int)(v79:Sv)(F80:List Nat)(g:Fr),o66=(c76,yQ,yR)/\f'=aQ g [(0,(.pointer (some ⟨cz,0,some 0⟩))),(1,ax.v),(4,(.pointer (some ⟨k1,0,some 0⟩))),(5,(.pointer (some ⟨k15,0,some 0⟩))),(6,(.int .i64 c51))]/\aN cs' [aW cz 77 (.agg [ae.v,(.int .i64 c76),(.int .i64 yQ)].toArray),bC (aD 5 wH) ae.v ak.b,bC (aD 3 az) ax.v ag,aW k1 57 (.agg [(.int .i64 0),(.slice none 0 0),(.int .i64 0),(.int .i64 0),(.int .i64 0)].toArray),aW k15 57 (.agg [(.int .i64 r2.1),v79.v,(.int .i64 r6.1),(.int .i64 r9.1),(.int .i64 (IntKind.i64.wrap (1+dC.1)))].toArray),aU (aF 3 (aC az)) F80 v79.v yR]) ?_ ?_
   · replace hF:=as4
     refine bi (dY (Cm (.pointer (some ⟨cz,0,some 0⟩)) rfl rfl ?_))
     obtain⟨JH,abY,hF⟩:=bind_some hF
     refine ed (.cons (.t .h) (.rd (.t .h) rfl .nil)) (bU aso.h (.cons (.tmp rfl rfl) (.cons (.int _ _) .nil)) (@OD cz ({b:=ak.b,i:=c46,h:=kJ}:bv) ae 3 _ abY)) (fun p70=>?_)
     refine eT (nY (b:=JH.1) (.tmp rfl rfl) (fun abZ=>?_) (fun abZ=>?_))
     · rw[if_pos abZ]at hF
       refine xh (aP (iY (off:=1) ahF.h (.tmp rfl rfl)) ?_)
       refine fo (.t (.t (.t (.t (.t .h))))) (fun hp=>fe (v:=v49.v) iA.h (.tmp rfl rfl) hp.2 rfl rfl) ?_
       refine Cm (.int .i64 c51) rfl rfl ?_
       refine dF rfl (bO (g:=true) dh.h dx.h (.cons (.tmp rfl rfl) .nil) (vs:=[(.int .i64 c51)]) rfl rfl rfl (by intro v hv; simp at hv; rcases hv with rfl<;>rfl)) (fun vP=>?_)
       refine LX (.cons .h .nil) (bQ (Ro:=(aC az)) (E:=3) (F:=([]++[])) (xs:=([c51]:List Int)) (d_ (jh (fun _=>rfl)) bP cK) rfl rfl) cK ?_
       obtain⟨z72,ab0,hF⟩:=bind_some hF
       refine ed (.cons (.t (.t (.t (.t (.t (.t (.t .h))))))) (.cons .h .nil)) (dV (Ro:=(aC az)) dh.h iQ dx.h rfl rfl rfl (.tmp rfl rfl) (.tmp rfl rfl) ab0 fw) (fun p74=>?_)
       refine aP (iY (off:=1) ahF.h (.tmp rfl rfl)) ?_
       refine ed (.cons (.t (.t (.t (.t (.t (.t .h)))))) .nil) (gz (e':=(.agg [(.int .i64 r2.1),p74.1.v,(.int .i64 r6.1),(.int .i64 r9.1),(.int .i64 (IntKind.i64.wrap (1+dC.1)))].toArray)) pE.h.sz (.tmp rfl rfl) (.tmp rfl rfl) rfl rfl rfl rfl rfl) (fun _=>?_)
       refine eT ?_
       obtain rfl:=Option.some.inj hF
       exact⟨_,_,_,p74.1,p74.2,_,rfl,(bZ.cons rfl (bZ.cons rfl (bZ.cons rfl (bZ.cons rfl (bZ.cons rfl (bZ.nil)))))).eq,(.sel (.cons (.t (.t .h)) (.rd (.t (.t (.t .h))) rfl (.rd (.t (.t (.t (.t .h)))) rfl (.cons (.t (.t (.t (.t (.t .h))))) (.cons .h (.cons .h .nil)))))))⟩
     rw[if_neg (by rw[abZ]; exact Bool.false_ne_true)]at hF
     refine rG ?_
     obtain rfl:=Option.some.inj hF
     exact⟨_,_,_,v49,Ye,_,rfl,(bZ.cons rfl (bZ.cons rfl (bZ.cons rfl (bZ.cons rfl (bZ.cons rfl (bZ.nil)))))).eq,(.sel (.cons .h (.rd (.t .h) rfl (.rd (.t (.t .h)) rfl (.cons (.t (.t (.t .h))) (.cons (.t (.t (.t .h))) (.cons (.t (.t (.t .h))) .nil)))))))⟩
   rintro _ _ ⟨c76,yQ,yR,v79,F80,g81,rfl,rfl,hE⟩
   replace hF:=ajr
   clear ajr
   try dsimp only at hF
   refine bq hE ?_
   refine xh (Cm (.int .i64 c51) rfl rfl ?_)
   refine aP (qF (i:=c51) (j:=1) (.tmp rfl rfl) (.int _ _)) ?_
   refine Ca (.int .i64 (IntKind.i64.wrap (c51+1))) rfl rfl ?_
   refine eT ?_
   exact⟨JF,Nat.lt_succ_self _,_,_,_,_,_,v79,F80,(bZ.cons rfl (bZ.cons rfl (bZ.cons rfl (bZ.cons rfl (bZ.cons rfl (bZ.nil)))))).eq,(.sel (.cons .h (.rd .h rfl (.rd (.t .h) rfl (.cons (.t (.t .h)) (.cons (.t (.t .h)) (.cons (.t (.t .h)) .nil))))))),hF⟩
 rw[if_neg (by rw[Q8]; exact Bool.false_ne_true)]at hF
 refine PH ?_
 iterate 2 refine K5 ?_
 refine Pv (dY (fo (.t (.t (.t (.t (.t .h))))) (fun hp=>h_ ajd.h qi.h.sz rfl (.tmp rfl rfl) hp.2 rfl) ?_))
 refine ed (.cons (.t (.t (.t (.t .h)))) .nil) (gz (e':=(.agg [(.int .i64 r2.1),v49.v,(.int .i64 r6.1),(.int .i64 r9.1),(.int .i64 (IntKind.i64.wrap (1+dC.1)))].toArray)) (v:=(.agg [(.int .i64 r2.1),v49.v,(.int .i64 r6.1),(.int .i64 r9.1),(.int .i64 (IntKind.i64.wrap (1+dC.1)))].toArray)) qi.h.sz (.tmp rfl rfl) (.tmp rfl rfl) rfl rfl rfl rfl rfl) (fun _=>?_)
 refine eT (sN ?_)
 obtain rfl:=Option.some.inj hF
 exact gQ (v49,Ye) (.cellA rfl rfl .h rfl ajd.h qi.h.sz rfl rfl .nil) rfl (.sel (.cons (.t (.t (.t (.t (.t (.t .h)))))) (.cons (.t (.t .h)) .nil)))
def wy(oH:Int)(kP:List Int):Option (Fact):=
 (app ([]:List Int) kP).bind fun z3=>
 some (⟨oH,z3⟩:Fact)
theorem Eg{oH:Int}{kP:List Int}{ax:Sv}{R:Fact}(hF:wy oH kP=some R):
   Fw.Spec Tryz.prog 78 [(zi oH),ax.v] [ah ax kP] (fun p:Sv×List Nat=>(zg [(zi R.Rel),p.1.v])) (fun p=>[bI p.2 p.1 R.Values]):=by
 refine Se 10 Tryz.func78 [.cell 4 70] ?_
 intro H0 F0
 unfold wy at hF
 refine au ?_
 refine dX (fun k1=>?_)
 refine bu ?_
 refine dF rfl (bO (g:=true) dh.h dx.h .nil (vs:=[]) rfl rfl rfl (by simp)) (fun k2=>?_)
 refine dP (.cons .h .nil) (bQ (Ro:=(aC az)) (E:=3) (F:=[]) (xs:=([]:List Int)) bP rfl rfl) ?_
 refine au ?_
 refine bnd hF fun z3 hx4 hF=>ed (.cons .h (.rd (.t .h) rfl .nil)) (dV (Ro:=(aC az)) dh.h iQ dx.h rfl rfl rfl (.tmp rfl rfl) (.tmp rfl rfl) hx4 mg) (fun p5=>?_)
 refine aP (iB dZ.h rfl (vs:=[(zi oH),p5.1.v]) b_ (cells:=[(zi oH),p5.1.v]) rfl) ?_
 refine As (zg [(zi oH),p5.1.v]) ?_
 refine aT ?_
 cases hF
 exact Er (p5.1,p5.2)
def Hm:List Fact->Nat->(List Fact)->Option ((List Fact))
 |[],k8,c2=>some c2
 |eU::fq,k8,c2=>(wy eU.Rel eU.Values).bind fun kX=>
   (app c2 ([kX]:List Fact)).bind fun z26=>
   Hm fq (k8+1) z26
def Lv(ai:List Fact):Option ((List Fact)):=
 Hm ai 0 ([]:List Fact)
theorem Zj{ai:List Fact}{ae:Sv}{R:(List Fact)}(hF:Lv ai=some R):
   Fw.Spec Tryz.prog 182 [ae.v] [bG ae ai] (fun p:Sv×List Nat=>p.1.v) (fun p=>[eG p.2 p.1 R]):=by
 refine Se 27 Tryz.func182 [.tmp 2] ?_
 intro H0 F0
 unfold Lv at hF
 refine bg ?_
 refine dF rfl (bO (g:=true) fH.h dZ.h .nil (vs:=[]) rfl rfl rfl (by simp)) (fun k1=>?_)
 refine dP (.cons .h .nil) (bQ (Ro:=gN) (E:=70) (F:=[]) (xs:=([]:List Fact)) bP rfl rfl) ?_
 refine bB ?_
 refine bi (bT (m:=ai.length) (fun m6 f' cs'=>∃(g:Fr)(k8:Nat)(fq c2:List Fact)(v3:Sv)(F4:List Nat),m6=fq.length/\f'=aQ g [(0,ae.v),(3,v3.v),(4,(zi (k8:Int)))]/\List.drop k8 ai=fq/\aN cs' [bG ae ai,eG F4 v3 c2]/\Hm fq k8 c2=some R) ⟨_,0,_,_,⟨(some ⟨k1,0,none⟩),0,1⟩,(k1::[]),rfl,aA,rfl,ay,hF⟩ ?_)
 rintro m6 _ _ ⟨g7,k8,fq,c2,v3,F4,rfl,rfl,jY,hE,hF⟩
 refine Kb hE ai (fun Mc=>?_)
 rcases fq with _|⟨eU,fq⟩
 · have vg:=dn jY
   rw[Hm]at hF
   refine bH ?_
   refine dJ ?_
   refine gB ?_
   cases hF
   exact Er (v3,F4)
 obtain⟨vg,iH,rT⟩:=dz jY
 rw[Hm]at hF
 refine bH ?_
 refine dI ?_
 refine aT ?_
 refine jf [0,1,2,3,4,5,6,7,8,9,10,11,12,13,14] [0,0,0,6,14,30,0,0,192,448,960,2046,4094,8191,16383] [11,13] mixed (by decide+kernel) ?_
 refine dm ?_
 refine Di iH (fun k17 JC=>?_)
 refine du ?_
 refine Dl Bp ?_
 refine bR ?_
 refine Di iH (fun k19 FH=>?_)
 refine du ?_
 refine n_ (R':=(aD 3 az)) iA.h rfl .no (.tmp rfl rfl) rfl .h Ey (fun w21=>?_)
 refine bnd hF fun kX sW hF=>qw (Eg sW) (fun nH=>?_)
 refine iq rfl .no rfl (fun ha=>bO (g:=true) (len:=1) (parts:=[(0,.tmp 23)]) fH.h dZ.h (.cons (EN ha (.tmp rfl rfl) rfl) .nil) (vs:=[(zg [(zi kX.Rel),nH.1.v])]) rfl rfl rfl (by intro v hv; simp at hv; rcases hv with rfl<;>rfl)) (fun k25=>?_)
 refine iR (.cons .h (.cons .h .nil)) (bQ (Ro:=gN) (E:=70) (F:=(nH.2++[])) (xs:=([kX]:List Fact)) (d_ xR bP cK) rfl rfl) ?_
 refine bnd hF fun z26 hx27 hF=>cO rfl rfl .no (.cons .q5 (.cons .h .nil)) (.dep rfl .nil) (fun ha=>dV (Ro:=gN) fH.h xS dZ.h rfl rfl rfl (EN ha (.tmp rfl rfl) rfl) (EN ha (.tmp rfl rfl) rfl) hx27 fw) (fun p28=>?_)
 refine bR ?_
 refine aY ?_
 rw[wk k8]
 exact⟨_,bX _,_,k8+1,fq,_,p28.1,p28.2,rfl,aA,rT,ay,hF⟩
def Lh(aS:Source):Option (Source):=
 (Lv aS.Facts).bind fun r3=>
 some (⟨r3,aS.Version⟩:Source)
theorem afp{aS:Source}{ae:Sv}{R:Source}(hF:Lh aS=some R):
   Fw.Spec Tryz.prog 156 [(zg [ae.v,(zi aS.Version)])] [bG ae aS.Facts] (fun p:Sv×List Nat=>(zg [p.1.v,(zi R.Version)])) (fun p=>[eG p.2 p.1 R.Facts]):=by
 refine Se 9 Tryz.func156 [.cell 2 29] ?_
 intro H0 F0
 unfold Lh at hF
 refine au ?_
 refine bN (fun k1=>?_)
 refine dX (fun k2=>?_)
 refine au ?_
 refine dS [0,1,3,4,2,5,6] [0,1,3,0,8,31,63] [2,6] mixed (by decide+kernel) ?_
 refine nQ ?_
 refine bnd hF fun r3 hx4 hF=>qw (Zj hx4) (fun p5=>?_)
 refine bW rfl .no (fun ha=>iB u6.h rfl (vs:=[p5.1.v,(zi aS.Version)]) (.cons (EN ha (.tmp rfl rfl) rfl) (.cons (EN ha (.tmp rfl rfl) rfl) .nil)) (cells:=[p5.1.v,(zi aS.Version)]) rfl) ?_
 refine cO rfl rfl .no (.cons (.t .h) .nil) .nil (fun ha=>gz (e':=(zg [p5.1.v,(zi aS.Version)])) (v:=(zg [p5.1.v,(zi aS.Version)])) u6.h.sz (EN ha (.tmp rfl rfl) rfl) (EN ha (.tmp rfl rfl) rfl) rfl rfl rfl rfl rfl) (fun _=>?_)
 refine du ?_
 refine au ?_
 cases hF
 exact Er (p5.1,p5.2)
def Au(aa:Int)(kP:List Int):Option (Access):=
 (app ([]:List Int) kP).bind fun z3=>
 some (⟨aa,z3⟩:Access)
theorem N_{aa:Int}{kP:List Int}{ax:Sv}{R:Access}(hF:Au aa kP=some R):
   Fw.Spec Tryz.prog 33 [(zi aa),ax.v] [ah ax kP] (fun p:Sv×List Nat=>(zg [(zi R.Method),p.1.v])) (fun p=>[bI p.2 p.1 R.Values]):=by
 refine Se 10 Tryz.func33 [.cell 4 45] ?_
 intro H0 F0
 unfold Au at hF
 refine au ?_
 refine dX (fun k1=>?_)
 refine bu ?_
 refine dF rfl (bO (g:=true) dh.h dx.h .nil (vs:=[]) rfl rfl rfl (by simp)) (fun k2=>?_)
 refine dP (.cons .h .nil) (bQ (Ro:=(aC az)) (E:=3) (F:=[]) (xs:=([]:List Int)) bP rfl rfl) ?_
 refine au ?_
 refine bnd hF fun z3 hx4 hF=>ed (.cons .h (.rd (.t .h) rfl .nil)) (dV (Ro:=(aC az)) dh.h iQ dx.h rfl rfl rfl (.tmp rfl rfl) (.tmp rfl rfl) hx4 mg) (fun p5=>?_)
 refine aP (iB kr.h rfl (vs:=[(zi aa),p5.1.v]) b_ (cells:=[(zi aa),p5.1.v]) rfl) ?_
 refine As (zg [(zi aa),p5.1.v]) ?_
 refine aT ?_
 cases hF
 exact Er (p5.1,p5.2)
def H6(lF:cB):Option (cB):=
 (Au lF.Access.Method lF.Access.Values).bind fun r3=>
 (Lv lF.Facts).bind fun r6=>
 some (⟨r3,r6,lF.At⟩:cB)
theorem Y7{lF:cB}{aO cu:Sv}{R:cB}(hF:H6 lF=some R):
   Fw.Spec Tryz.prog 159 [(zg [(zi lF.Access.Method),aO.v,cu.v,(zi lF.At)])] [ah aO lF.Access.Values,bG cu lF.Facts] (fun p:Sv×List Nat×Sv×List Nat=>(zg [(zi R.Access.Method),p.1.v,p.2.2.1.v,(zi R.At)])) (fun p=>[bI p.2.1 p.1 R.Access.Values,eG p.2.2.2 p.2.2.1 R.Facts]):=by
 refine Se 16 Tryz.func159 [.cell 2 47] ?_
 intro H0 F0
 unfold H6 at hF
 refine au ?_
 refine bN (fun k1=>?_)
 refine dX (fun k2=>?_)
 refine au ?_
 refine dS [0,1,2,3,4,5,7,8,10,11,6,9,12,13] [0,1,3,0,8,24,63,0,128,511,0,1024,4095,8191] [6,9,13] mixed (by decide+kernel) ?_
 refine as2 ?_
 refine bnd hF fun r3 hx4 hF=>qw (N_ hx4) (fun p5=>?_)
 refine bnd hF fun r6 hx7 hF=>qw (Zj hx7) (fun p8=>?_)
 refine bW rfl .no (fun ha=>iB qj.h rfl (vs:=[(zg [(zi r3.Method),p5.1.v]),p8.1.v,(zi lF.At)]) (.cons (EN ha (.tmp rfl rfl) rfl) (.cons (EN ha (.tmp rfl rfl) rfl) (.cons (EN ha (.tmp rfl rfl) rfl) .nil))) (cells:=[(zi r3.Method),p5.1.v,p8.1.v,(zi lF.At)]) rfl) ?_
 refine cO rfl rfl .no (.cons .q2 .nil) .nil (fun ha=>gz (e':=(zg [(zi r3.Method),p5.1.v,p8.1.v,(zi lF.At)])) (v:=(zg [(zi r3.Method),p5.1.v,p8.1.v,(zi lF.At)])) qj.h.sz (EN ha (.tmp rfl rfl) rfl) (EN ha (.tmp rfl rfl) rfl) rfl rfl rfl rfl rfl) (fun _=>?_)
 refine du ?_
 refine au ?_
 cases hF
 exact Er (p5.1,p5.2,p8.1,p8.2)
def GU(ak:Cache):List cB->Nat->(List cB)->Option (Cache)
 |[],wS,JI=>some (⟨JI,ak.Age⟩:Cache)
 |x35::Bq,wS,JI=>(H6 x35).bind fun rZ=>
   (app JI ([rZ]:List cB)).bind fun z50=>
   GU ak Bq (wS+1) z50
def Pk(ak:Cache):Option (Cache):=
 GU ak ak.Entries 0 ([]:List cB)
theorem afq{ak:Cache}{ae:Sv}{R:Cache}(hF:Pk ak=some R):
   Fw.Spec Tryz.prog 157 [(zg [ae.v,(zi ak.Age)])] [dK ae ak.Entries] (fun p:Sv×List Nat=>(zg [p.1.v,(zi R.Age)])) (fun p=>[ol p.2 p.1 R.Entries]):=by
 refine Se 29 Tryz.func157 [.cell 2 32] ?_
 intro H0 F0
 unfold Pk at hF
 refine au ?_
 refine bN (fun k1=>?_)
 refine dX (fun k2=>?_)
 refine bg ?_
 refine aP (iB oL.h rfl (vs:=[(zi ak.Age)]) b_ (cells:=[(.slice none 0 0),(zi ak.Age)]) rfl) ?_
 refine dX (fun k3=>?_)
 refine As (zg [(.slice none 0 0),(zi ak.Age)]) ?_
 refine aY ?_
 refine bi (bT (m:=ak.Entries.length) (fun m31 f' cs'=>∃(g:Fr)(wS:Nat)(Bq JI:List cB)(v28:Sv)(F29:List Nat),m31=Bq.length/\f'=aQ g [(1,(pz k1)),(2,(pz k2)),(3,(pz k3)),(4,(zi (wS:Int)))]/\List.drop wS ak.Entries=Bq/\aN cs' [aX k1 32 (zg [ae.v,(zi ak.Age)]),dK ae ak.Entries,aW k2 32 (zg [(.slice none 0 0),(zi 0)]),aW k3 32 (zg [v28.v,(zi ak.Age)]),ol F29 v28 JI]/\GU ak Bq wS JI=some R) ⟨_,0,_,_,⟨none,0,0⟩,[],rfl,aA,rfl,(.conv .nil (gT (Ro:=qM) (E:=47)) (.cons .nil) ay),hF⟩ ?_)
 rintro m31 _ _ ⟨g32,wS,Bq,JI,v28,F29,rfl,rfl,ajs,hE,hF⟩
 refine Kb hE ak.Entries (fun aAB=>?_)
 rcases Bq with _|⟨x35,Bq⟩
 · have awX:=dn ajs
   rw[GU]at hF
   refine dL ?_
   refine dJ ?_
   refine bB ?_
   refine As (zg [v28.v,(zi ak.Age)]) ?_
   refine aT ?_
   cases hF
   exact Er (v28,F29)
 obtain⟨awX,hx38,hd39⟩:=dz ajs
 rw[GU]at hF
 refine dL ?_
 refine dI ?_
 refine bB ?_
 refine Ai hx38 (fun Yf j43=>?_)
 refine xO (wu x35) xk (fun p44=>?_)
 refine bnd hF fun rZ ES hF=>zV (Y7 ES) (fun p47=>?_)
 refine dX (fun vQ=>?_)
 refine As (zg [(zi rZ.Access.Method),p47.1.v,p47.2.2.1.v,(zi rZ.At)]) ?_
 refine aY ?_
 refine dF rfl (bO (g:=true) uw.h qj.h b_ (vs:=[(zg [(zi rZ.Access.Method),p47.1.v,p47.2.2.1.v,(zi rZ.At)])]) rfl rfl rfl (by intro v hv; simp at hv; rcases hv with rfl<;>rfl)) (fun Tj=>?_)
 refine dP (.cons .h (.cons (.t .h) (.cons (.t .h) .nil))) (bQ (Ro:=qM) (E:=47) (F:=((p47.2.1++p47.2.2.2)++[])) (xs:=([rZ]:List cB)) (d_ WS bP cK) rfl rfl) ?_
 refine bnd hF fun z50 ab1 hF=>ed (.cons .q9 (.cons .h .nil)) (dV (Ro:=qM) uw.h MK qj.h rfl rfl rfl (.tmp rfl rfl) (.tmp rfl rfl) ab1 fw) (fun p52=>?_)
 refine au ?_
 refine As (zg [p52.1.v,(zi ak.Age)]) ?_
 refine bB ?_
 rw[wk wS]
 exact⟨_,bX _,_,wS+1,Bq,_,p52.1,p52.2,rfl,aA,hd39,ay,hF⟩
def H7:List Access->Nat->(List Access)->Option ((List Access))
 |[],k8,c2=>some c2
 |eU::fq,k8,c2=>(Au eU.Method eU.Values).bind fun kX=>
   (app c2 ([kX]:List Access)).bind fun z26=>
   H7 fq (k8+1) z26
def Vw(ai:List Access):Option ((List Access)):=
 H7 ai 0 ([]:List Access)
theorem aog{ai:List Access}{ae:Sv}{R:(List Access)}(hF:Vw ai=some R):
   Fw.Spec Tryz.prog 158 [ae.v] [eD ae ai] (fun p:Sv×List Nat=>p.1.v) (fun p=>[kF p.2 p.1 R]):=by
 refine Se 27 Tryz.func158 [.tmp 2] ?_
 intro H0 F0
 unfold Vw at hF
 refine bg ?_
 refine dF rfl (bO (g:=true) pF.h kr.h .nil (vs:=[]) rfl rfl rfl (by simp)) (fun k1=>?_)
 refine dP (.cons .h .nil) (bQ (Ro:=mY) (E:=45) (F:=[]) (xs:=([]:List Access)) bP rfl rfl) ?_
 refine bB ?_
 refine bi (bT (m:=ai.length) (fun m6 f' cs'=>∃(g:Fr)(k8:Nat)(fq c2:List Access)(v3:Sv)(F4:List Nat),m6=fq.length/\f'=aQ g [(0,ae.v),(3,v3.v),(4,(zi (k8:Int)))]/\List.drop k8 ai=fq/\aN cs' [eD ae ai,kF F4 v3 c2]/\H7 fq k8 c2=some R) ⟨_,0,_,_,⟨(some ⟨k1,0,none⟩),0,1⟩,(k1::[]),rfl,aA,rfl,ay,hF⟩ ?_)
 rintro m6 _ _ ⟨g7,k8,fq,c2,v3,F4,rfl,rfl,jY,hE,hF⟩
 refine Kb hE ai (fun Mc=>?_)
 rcases fq with _|⟨eU,fq⟩
 · have vg:=dn jY
   rw[H7]at hF
   refine bH ?_
   refine dJ ?_
   refine gB ?_
   cases hF
   exact Er (v3,F4)
 obtain⟨vg,iH,rT⟩:=dz jY
 rw[H7]at hF
 refine bH ?_
 refine dI ?_
 refine aT ?_
 refine jf [0,1,2,3,4,5,6,7,8,9,10,11,12,13,14] [0,0,0,6,14,30,0,0,192,448,960,2046,4094,8191,16383] [11,13] mixed (by decide+kernel) ?_
 refine dm ?_
 refine Di iH (fun k17 JC=>?_)
 refine du ?_
 refine Dl LZ ?_
 refine bR ?_
 refine Di iH (fun k19 FH=>?_)
 refine du ?_
 refine n_ (R':=(aD 3 az)) iA.h rfl .no (.tmp rfl rfl) rfl .h ahJ (fun w21=>?_)
 refine bnd hF fun kX sW hF=>qw (N_ sW) (fun nH=>?_)
 refine iq rfl .no rfl (fun ha=>bO (g:=true) (len:=1) (parts:=[(0,.tmp 23)]) pF.h kr.h (.cons (EN ha (.tmp rfl rfl) rfl) .nil) (vs:=[(zg [(zi kX.Method),nH.1.v])]) rfl rfl rfl (by intro v hv; simp at hv; rcases hv with rfl<;>rfl)) (fun k25=>?_)
 refine iR (.cons .h (.cons .h .nil)) (bQ (Ro:=mY) (E:=45) (F:=(nH.2++[])) (xs:=([kX]:List Access)) (d_ WT bP cK) rfl rfl) ?_
 refine bnd hF fun z26 hx27 hF=>cO rfl rfl .no (.cons .q5 (.cons .h .nil)) (.dep rfl .nil) (fun ha=>dV (Ro:=mY) pF.h Q3 kr.h rfl rfl rfl (EN ha (.tmp rfl rfl) rfl) (EN ha (.tmp rfl rfl) rfl) hx27 fw) (fun p28=>?_)
 refine bR ?_
 refine aY ?_
 rw[wk k8]
 exact⟨_,bX _,_,k8+1,fq,_,p28.1,p28.2,rfl,aA,rT,ay,hF⟩
def Gr:List (List Int)->Nat->(List (List Int))->Option ((List (List Int)))
 |[],k8,c2=>some c2
 |eU::fq,k8,c2=>(app ([]:List Int) eU).bind fun z21=>
   (app c2 ([z21]:List (List Int))).bind fun z25=>
   Gr fq (k8+1) z25
def OE(ai:List (List Int)):Option ((List (List Int))):=
 Gr ai 0 ([]:List (List Int))
theorem aeR{ai:List (List Int)}{ae:Sv}{R:(List (List Int))}(hF:OE ai=some R):
   Fw.Spec Tryz.prog 140 [ae.v] [bC (aD 24 (aD 3 az)) ae.v ai] (fun p:Sv×List Nat=>p.1.v) (fun p=>[aU (aF 24 (aF 3 (aC az))) p.2 p.1.v R]):=by
 refine Se 22 Tryz.func140 [.tmp 2] ?_
 intro H0 F0
 unfold OE at hF
 refine bg ?_
 refine dF rfl (bO (g:=true) uO.h pE.h .nil (vs:=[]) rfl rfl rfl (by simp)) (fun k1=>?_)
 refine dP (.cons .h .nil) (bQ (Ro:=(aF 3 (aC az))) (E:=24) (F:=[]) (xs:=([]:List (List Int))) bP rfl rfl) ?_
 refine bB ?_
 refine bi (bT (m:=ai.length) (fun m6 f' cs'=>∃(g:Fr)(k8:Nat)(fq c2:List (List Int))(v3:Sv)(F4:List Nat),m6=fq.length/\f'=aQ g [(0,ae.v),(3,v3.v),(4,(zi (k8:Int)))]/\List.drop k8 ai=fq/\aN cs' [bC (aD 24 (aD 3 az)) ae.v ai,aU (aF 24 (aF 3 (aC az))) F4 v3.v c2]/\Gr fq k8 c2=some R) ⟨_,0,_,_,⟨(some ⟨k1,0,none⟩),0,1⟩,(k1::[]),rfl,aA,rfl,ay,hF⟩ ?_)
 rintro m6 _ _ ⟨g7,k8,fq,c2,v3,F4,rfl,rfl,jY,hE,hF⟩
 refine Kb hE ai (fun Mc=>?_)
 rcases fq with _|⟨eU,fq⟩
 · have vg:=dn jY
   rw[Gr]at hF
   refine bH ?_
   refine dJ ?_
   refine gB ?_
   cases hF
   exact Er (v3,F4)
 obtain⟨vg,iH,rT⟩:=dz jY
 rw[Gr]at hF
 refine bH ?_
 refine dI ?_
 refine bg ?_
 refine dF rfl (bO (g:=true) dh.h dx.h .nil (vs:=[]) rfl rfl rfl (by simp)) (fun k17=>?_)
 refine dP (.cons .h .nil) (bQ (Ro:=(aC az)) (E:=3) (F:=[]) (xs:=([]:List Int)) bP rfl rfl) ?_
 refine aT ?_
 refine Ai iH (fun k18 j19=>?_)
 refine uL (R':=(aD 3 az)) iA.h (.tmp rfl rfl) .h PS (fun w20=>?_)
 refine bnd hF fun z21 sZ hF=>ed (.cons .q2 (.rd .h rfl .nil)) (dV (Ro:=(aC az)) dh.h iQ dx.h rfl rfl rfl (.tmp rfl rfl) (.tmp rfl rfl) sZ mg) (fun oO=>?_)
 refine dF rfl (bO (g:=true) uO.h pE.h b_ (vs:=[oO.1.v]) rfl rfl rfl (by intro v hv; simp at hv; rcases hv with rfl<;>rfl)) (fun k24=>?_)
 refine dP (.cons .h (.cons .h .nil)) (bQ (Ro:=(aF 3 (aC az))) (E:=24) (F:=(oO.2++[])) (xs:=([z21]:List (List Int))) (d_ IB bP cK) rfl rfl) ?_
 refine bnd hF fun z25 nE hF=>ed (.cons .q4 (.cons .h .nil)) (dV (Ro:=(aF 3 (aC az))) uO.h Qd pE.h rfl rfl rfl (.tmp rfl rfl) (.tmp rfl rfl) nE fw) (fun p27=>?_)
 refine bH ?_
 rw[wk k8]
 exact⟨_,bX _,_,k8+1,fq,_,p27.1,p27.2,rfl,aA,rT,ay,hF⟩
def KX(aS:Method):Option (Method):=
 (app ([]:List Int) aS.Inputs).bind fun z4=>
 some (⟨aS.Rel,z4,aS.Limit,aS.Cost,aS.Quota⟩:Method)
theorem aeS{aS:Method}{aO:Sv}{R:Method}(hF:KX aS=some R):
   Fw.Spec Tryz.prog 133 [(zg [(zi aS.Rel),aO.v,(zi aS.Limit),(zi aS.Cost),(zi aS.Quota)])] [ah aO aS.Inputs] (fun p:Sv×List Nat=>(zg [(zi R.Rel),p.1.v,(zi R.Limit),(zi R.Cost),(zi R.Quota)])) (fun p=>[bI p.2 p.1 R.Inputs]):=by
 refine Se 16 Tryz.func133 [.cell 2 57] ?_
 intro H0 F0
 unfold KX at hF
 refine au ?_
 refine bN (fun k1=>?_)
 refine dX (fun k2=>?_)
 refine au ?_
 refine dS [0,1,2,3,4,6,7,8,9,10,11,5,12,13] [0,1,0,0,8,28,0,64,0,256,0,1024,4095,8191] [5,13] mixed (by decide+kernel) ?_
 refine bR ?_
 refine iq rfl .no rfl (fun ha=>bO (g:=true) (len:=0) (parts:=[]) dh.h dx.h .nil (vs:=[]) rfl rfl rfl (by simp)) (fun k3=>?_)
 refine iR (.cons .h .nil) (bQ (Ro:=(aC az)) (E:=3) (F:=[]) (xs:=([]:List Int)) bP rfl rfl) ?_
 refine abR ?_
 refine bnd hF fun z4 hx5 hF=>cO rfl rfl .no (.cons .h (.rd .q2 rfl .nil)) (.dep rfl .nil) (fun ha=>dV (Ro:=(aC az)) dh.h iQ dx.h rfl rfl rfl (EN ha (.tmp rfl rfl) rfl) (EN ha (.tmp rfl rfl) rfl) hx5 mg) (fun p6=>?_)
 refine bW rfl .no (fun ha=>iB qi.h rfl (vs:=[(zi aS.Rel),p6.1.v,(zi aS.Limit),(zi aS.Cost),(zi aS.Quota)]) (.cons (EN ha (.tmp rfl rfl) rfl) (.cons (EN ha (.tmp rfl rfl) rfl) (.cons (EN ha (.tmp rfl rfl) rfl) (.cons (EN ha (.tmp rfl rfl) rfl) (.cons (EN ha (.tmp rfl rfl) rfl) .nil))))) (cells:=[(zi aS.Rel),p6.1.v,(zi aS.Limit),(zi aS.Cost),(zi aS.Quota)]) rfl) ?_
 refine cO rfl rfl .no (.cons (.t .h) .nil) (.dep rfl .nil) (fun ha=>gz (e':=(zg [(zi aS.Rel),p6.1.v,(zi aS.Limit),(zi aS.Cost),(zi aS.Quota)])) (v:=(zg [(zi aS.Rel),p6.1.v,(zi aS.Limit),(zi aS.Cost),(zi aS.Quota)])) qi.h.sz (EN ha (.tmp rfl rfl) rfl) (EN ha (.tmp rfl rfl) rfl) rfl rfl rfl rfl rfl) (fun _=>?_)
 refine du ?_
 refine au ?_
 cases hF
 exact Er (p6.1,p6.2)
def DV(aa:aZ)(z6:List Int)(r9:Source)(dC:Cache)(fI:(List Access))(rA:List Int)(c198:List Method)(wL:List df):List (List (List Int))->Nat->(List (List (List Int)))->Option (aZ)
 |[],Ct,I6=>some (⟨z6,c198,wL,r9,dC,aa.Now,fI,rA,aa.Spent,I6⟩:aZ)
 |ajt::A8,Ct,I6=>(OE ajt).bind fun ab2=>
   (app I6 ([ab2]:List (List (List Int)))).bind fun aju=>
   DV aa z6 r9 dC fI rA c198 wL A8 (Ct+1) aju
def DW(aa:aZ)(z6:List Int)(r9:Source)(dC:Cache)(fI:(List Access))(rA:List Int)(c198:List Method):List df->Nat->(List df)->Option (aZ)
 |[],Cu,wL=>DV aa z6 r9 dC fI rA c198 wL aa.Results 0 ([]:List (List (List Int)))
 |uy::A9,Cu,wL=>(app ([]:List Int) uy.Map).bind fun W9=>
   (app wL ([(⟨uy.From,uy.To,W9⟩:df)]:List df)).bind fun ajv=>
   DW aa z6 r9 dC fI rA c198 A9 (Cu+1) ajv
def GV(aa:aZ)(z6:List Int)(r9:Source)(dC:Cache)(fI:(List Access))(rA:List Int):List Method->Nat->(List Method)->Option (aZ)
 |[],wM,c198=>DW aa z6 r9 dC fI rA c198 aa.Rules 0 ([]:List df)
 |ab3::A_,wM,c198=>(KX ab3).bind fun xV=>
   (app c198 ([xV]:List Method)).bind fun ajw=>
   GV aa z6 r9 dC fI rA A_ (wM+1) ajw
def AB(aa:aZ):Option (aZ):=
 (app ([]:List Int) aa.Schema).bind fun z6=>
 (Lh aa.Source).bind fun r9=>
 (Pk aa.Cache).bind fun dC=>
 (Vw aa.Log).bind fun fI=>
 (app ([]:List Int) aa.Times).bind fun rA=>
 GV aa z6 r9 dC fI rA aa.Methods 0 ([]:List Method)
theorem Oq{aa:aZ}{ae aO cu dA dw dB dE dG:Sv}{R:aZ}(hF:AB aa=some R):
   Fw.Spec Tryz.prog 132 [(zg [ae.v,aO.v,cu.v,dA.v,(zi aa.Source.Version),dw.v,(zi aa.Cache.Age),(zi aa.Now),dB.v,dE.v,(zi aa.Spent),dG.v])] [ah ae aa.Schema,bV aO aa.Methods,eY cu aa.Rules,bG dA aa.Source.Facts,dK dw aa.Cache.Entries,eD dB aa.Log,ah dE aa.Times,bC (aD 152 (aD 24 (aD 3 az))) dG.v aa.Results] (fun p:Sv×List Nat×Sv×List Nat×Sv×List Nat×Sv×List Nat×Sv×List Nat×Sv×List Nat×Sv×List Nat×Sv×List Nat=>(zg [p.1.v,p.2.2.1.v,p.2.2.2.2.1.v,p.2.2.2.2.2.2.1.v,(zi R.Source.Version),p.2.2.2.2.2.2.2.2.1.v,(zi R.Cache.Age),(zi R.Now),p.2.2.2.2.2.2.2.2.2.2.1.v,p.2.2.2.2.2.2.2.2.2.2.2.2.1.v,(zi R.Spent),p.2.2.2.2.2.2.2.2.2.2.2.2.2.2.1.v])) (fun p=>[bI p.2.1 p.1 R.Schema,nC p.2.2.2.1 p.2.2.1 R.Methods,mi p.2.2.2.2.2.1 p.2.2.2.2.1 R.Rules,eG p.2.2.2.2.2.2.2.1 p.2.2.2.2.2.2.1 R.Source.Facts,ol p.2.2.2.2.2.2.2.2.2.1 p.2.2.2.2.2.2.2.2.1 R.Cache.Entries,kF p.2.2.2.2.2.2.2.2.2.2.2.1 p.2.2.2.2.2.2.2.2.2.2.1 R.Log,bI p.2.2.2.2.2.2.2.2.2.2.2.2.2.1 p.2.2.2.2.2.2.2.2.2.2.2.2.1 R.Times,aU (aF 152 (aF 24 (aF 3 (aC az)))) p.2.2.2.2.2.2.2.2.2.2.2.2.2.2.2 p.2.2.2.2.2.2.2.2.2.2.2.2.2.2.1.v R.Results]):=by
 refine Se 103 Tryz.func132 [.cell 2 36] ?_
 intro H0 F0
 unfold AB at hF
 refine au ?_
 refine bN (fun k1=>?_)
 refine dX (fun k2=>?_)
 refine au ?_
 refine dS [0,1,2,4,5,7,8,10,11,12,13,15,16,17,19,20,22,3,6,9,14,18,21,23] [0,0,2,7,0,16,63,0,128,511,0,1024,0,4096,13311,0,0,65536,259071,0,524288,2097151,0,8388607] [3,6,9,14,18,23] mixed (by decide+kernel) ?_
 refine iq rfl .no rfl (fun ha=>bO (g:=true) (len:=0) (parts:=[]) dh.h dx.h .nil (vs:=[]) rfl rfl rfl (by simp)) (fun k3=>?_)
 refine iR (.cons .h .nil) (bQ (Ro:=(aC az)) (E:=3) (F:=[]) (xs:=([]:List Int)) bP rfl rfl) ?_
 refine dm ?_
 refine wJ rfl .no .q2 rfl (fun ha hp=>j3 (s:=2) (l:=[dA.v,(zi aa.Source.Version)]) xP.h u6.h.sz (EN ha (.tmp rfl rfl) rfl) hp.2 rfl (by decide) (Nat.le_of_ble_eq_true rfl) rfl) ?_
 refine du ?_
 refine wJ rfl .no .q2 rfl (fun ha hp=>j3 (s:=2) (l:=[dw.v,(zi aa.Cache.Age)]) uu.h oL.h.sz (EN ha (.tmp rfl rfl) rfl) hp.2 rfl (by decide) (Nat.le_of_ble_eq_true rfl) rfl) ?_
 refine nQ ?_
 refine iq rfl .no rfl (fun ha=>bO (g:=true) (len:=0) (parts:=[]) dh.h dx.h .nil (vs:=[]) rfl rfl rfl (by simp)) (fun k4=>?_)
 refine iR (.cons .h .nil) (bQ (Ro:=(aC az)) (E:=3) (F:=[]) (xs:=([]:List Int)) bP rfl rfl) ?_
 refine nQ ?_
 refine iq rfl .no rfl (fun ha=>sF (g:=true) fG.h rfl rfl) (fun k5=>?_)
 refine bnd hF fun z6 hx7 hF=>cO rfl rfl .no (.cons .q2 (.rd .q4 rfl .nil)) (.own .h (fun _ h=>h) (.own (.t .h) (by simp[aU]) (.dep rfl .nil))) (fun ha=>dV (Ro:=(aC az)) dh.h iQ dx.h rfl rfl rfl (EN ha (.tmp rfl rfl) rfl) (EN ha (.tmp rfl rfl) rfl) hx7 mg) (fun p8=>?_)
 refine bnd hF fun r9 jm hF=>cO rfl rfl .no (.rd .q8 rfl .nil) (.own (.t .h) (fun _ h=>h) (.own .q2 (by simp[aU]) (.dep rfl .nil))) (fun ha=>bU asq.h (.cons (EN ha (.tmp rfl rfl) rfl) .nil) (afp jm)) (fun ou=>?_)
 refine bnd hF fun dC iH hF=>cO rfl rfl .no (.rd .q10 rfl .nil) (.own .q2 (fun _ h=>h) (.own .q3 (by simp[aU]) (.dep rfl .nil))) (fun ha=>bU asr.h (.cons (EN ha (.tmp rfl rfl) rfl) .nil) (afq iH)) (fun l9=>?_)
 refine bnd hF fun fI hx16 hF=>cO rfl rfl .no (.rd .q12 rfl .nil) (.own .q3 (fun _ h=>h) (.own .q4 (by simp[aU]) (.dep rfl .nil))) (fun ha=>bU ass.h (.cons (EN ha (.tmp rfl rfl) rfl) .nil) (aog hx16)) (fun m_=>?_)
 refine bnd hF fun rA kM hF=>cO rfl rfl .no (.cons .q5 (.rd .q13 rfl .nil)) (.own .q4 (fun _ h=>h) (.dep rfl (.dep rfl .nil))) (fun ha=>dV (Ro:=(aC az)) dh.h iQ dx.h rfl rfl rfl (EN ha (.tmp rfl rfl) rfl) (EN ha (.tmp rfl rfl) rfl) kM mg) (fun l_=>?_)
 refine bW rfl .no (fun ha=>iB fG.h rfl (vs:=[p8.1.v,(zg [ou.1.v,(zi r9.Version)]),(zg [l9.1.v,(zi dC.Age)]),(zi aa.Now),m_.1.v,l_.1.v,(zi aa.Spent)]) (.cons (EN ha (.tmp rfl rfl) rfl) (.cons (EN ha (.tmp rfl rfl) rfl) (.cons (EN ha (.tmp rfl rfl) rfl) (.cons (EN ha (.tmp rfl rfl) rfl) (.cons (EN ha (.tmp rfl rfl) rfl) (.cons (EN ha (.tmp rfl rfl) rfl) (.cons (EN ha (.tmp rfl rfl) rfl) .nil))))))) (cells:=[p8.1.v,(.slice none 0 0),(.slice none 0 0),ou.1.v,(zi r9.Version),l9.1.v,(zi dC.Age),(zi aa.Now),m_.1.v,l_.1.v,(zi aa.Spent),(.slice none 0 0)]) (by kernel_rfl)) ?_
 refine cO rfl rfl .no (.cons .q5 .nil) (.dep rfl (.dep rfl (.dep rfl .nil))) (fun ha=>gz (e':=(zg [p8.1.v,(.slice none 0 0),(.slice none 0 0),ou.1.v,(zi r9.Version),l9.1.v,(zi dC.Age),(zi aa.Now),m_.1.v,l_.1.v,(zi aa.Spent),(.slice none 0 0)])) (v:=(zg [p8.1.v,(.slice none 0 0),(.slice none 0 0),ou.1.v,(zi r9.Version),l9.1.v,(zi dC.Age),(zi aa.Now),m_.1.v,l_.1.v,(zi aa.Spent),(.slice none 0 0)])) fG.h.sz (EN ha (.tmp rfl rfl) rfl) (EN ha (.tmp rfl rfl) rfl) rfl rfl rfl rfl rfl) (fun _=>?_)
 refine du ?_
 refine bg ?_
 refine bi (bT (m:=aa.Methods.length) (fun ajx f' cs'=>∃(g:Fr)(wM:Nat)(A_ c198:List Method)(xW:Sv)(Q9:List Nat),ajx=A_.length/\f'=aQ g [(1,(pz k1)),(2,(pz k2)),(3,(pz k5)),(4,(zi (wM:Int)))]/\List.drop wM aa.Methods=A_/\aN cs' [aX k1 36 (zg [ae.v,aO.v,cu.v,dA.v,(zi aa.Source.Version),dw.v,(zi aa.Cache.Age),(zi aa.Now),dB.v,dE.v,(zi aa.Spent),dG.v]),ah ae aa.Schema,bV aO aa.Methods,eY cu aa.Rules,bG dA aa.Source.Facts,dK dw aa.Cache.Entries,eD dB aa.Log,ah dE aa.Times,bC (aD 152 (aD 24 (aD 3 az))) dG.v aa.Results,aW k2 36 (.agg ([(.slice none 0 0),(.slice none 0 0),(.slice none 0 0),(.slice none 0 0),(zi 0),(.slice none 0 0),(zi 0),(zi 0),(.slice none 0 0),(.slice none 0 0),(zi 0),(.slice none 0 0)]:List Value).toArray),aW k5 36 (zg [p8.1.v,xW.v,(.slice none 0 0),ou.1.v,(zi r9.Version),l9.1.v,(zi dC.Age),(zi aa.Now),m_.1.v,l_.1.v,(zi aa.Spent),(.slice none 0 0)]),bI p8.2 p8.1 z6,nC Q9 xW c198,eG ou.2 ou.1 r9.Facts,ol l9.2 l9.1 dC.Entries,kF m_.2 m_.1 fI,bI l_.2 l_.1 rA]/\GV aa z6 r9 dC fI rA A_ wM c198=some R) ⟨_,0,_,_,⟨none,0,0⟩,[],rfl,aA,rfl,(.conv .nil (gT (Ro:=qL) (E:=57)) (.cons .nil) ay),hF⟩ ?_)
 rintro ajx _ _ ⟨aCn,wM,A_,c198,xW,Q9,rfl,rfl,aij,hE,hF⟩
 refine Kb hE aa.Methods (fun azp=>?_)
 rcases A_ with _|⟨ab3,A_⟩
 · have as5:=dn aij
   rw[GV]at hF
   refine dL ?_
   refine dJ ?_
   refine dL ?_
   refine bi (bT (m:=aa.Rules.length) (fun ajy f' cs'=>∃(g:Fr)(Cu:Nat)(A9 wL:List df)(Cv:Sv)(W_:List Nat),ajy=A9.length/\f'=aQ g [(1,(pz k1)),(2,(pz k2)),(3,(pz k5)),(6,(zi (Cu:Int)))]/\List.drop Cu aa.Rules=A9/\aN cs' [aX k1 36 (zg [ae.v,aO.v,cu.v,dA.v,(zi aa.Source.Version),dw.v,(zi aa.Cache.Age),(zi aa.Now),dB.v,dE.v,(zi aa.Spent),dG.v]),ah ae aa.Schema,bV aO aa.Methods,eY cu aa.Rules,bG dA aa.Source.Facts,dK dw aa.Cache.Entries,eD dB aa.Log,ah dE aa.Times,bC (aD 152 (aD 24 (aD 3 az))) dG.v aa.Results,aW k2 36 (.agg ([(.slice none 0 0),(.slice none 0 0),(.slice none 0 0),(.slice none 0 0),(zi 0),(.slice none 0 0),(zi 0),(zi 0),(.slice none 0 0),(.slice none 0 0),(zi 0),(.slice none 0 0)]:List Value).toArray),aW k5 36 (zg [p8.1.v,xW.v,Cv.v,ou.1.v,(zi r9.Version),l9.1.v,(zi dC.Age),(zi aa.Now),m_.1.v,l_.1.v,(zi aa.Spent),(.slice none 0 0)]),bI p8.2 p8.1 z6,nC Q9 xW c198,mi W_ Cv wL,eG ou.2 ou.1 r9.Facts,ol l9.2 l9.1 dC.Entries,kF m_.2 m_.1 fI,bI l_.2 l_.1 rA]/\DW aa z6 r9 dC fI rA c198 A9 Cu wL=some R) ⟨_,0,_,_,⟨none,0,0⟩,[],rfl,aA,rfl,(.conv .nil (gT (Ro:=oJ) (E:=98)) (.cons .nil) ay),hF⟩ ?_)
   rintro ajy _ _ ⟨aCo,Cu,A9,wL,Cv,W_,rfl,rfl,aik,hE,hF⟩
   refine Kb hE aa.Rules (fun azq=>?_)
   rcases A9 with _|⟨uy,A9⟩
   · have as6:=dn aik
     rw[DW]at hF
     refine dL ?_
     refine dJ ?_
     refine dL ?_
     refine bi (bT (m:=aa.Results.length) (fun ajz f' cs'=>∃(g:Fr)(Ct:Nat)(A8 I6:List (List (List Int)))(Q_:Sv)(ab4:List Nat),ajz=A8.length/\f'=aQ g [(1,(pz k1)),(2,(pz k2)),(3,(pz k5)),(7,(zi (Ct:Int)))]/\List.drop Ct aa.Results=A8/\aN cs' [aX k1 36 (zg [ae.v,aO.v,cu.v,dA.v,(zi aa.Source.Version),dw.v,(zi aa.Cache.Age),(zi aa.Now),dB.v,dE.v,(zi aa.Spent),dG.v]),ah ae aa.Schema,bV aO aa.Methods,eY cu aa.Rules,bG dA aa.Source.Facts,dK dw aa.Cache.Entries,eD dB aa.Log,ah dE aa.Times,bC (aD 152 (aD 24 (aD 3 az))) dG.v aa.Results,aW k2 36 (.agg ([(.slice none 0 0),(.slice none 0 0),(.slice none 0 0),(.slice none 0 0),(zi 0),(.slice none 0 0),(zi 0),(zi 0),(.slice none 0 0),(.slice none 0 0),(zi 0),(.slice none 0 0)]:List Value).toArray),aW k5 36 (zg [p8.1.v,xW.v,Cv.v,ou.1.v,(zi r9.Version),l9.1.v,(zi dC.Age),(zi aa.Now),m_.1.v,l_.1.v,(zi aa.Spent),Q_.v]),bI p8.2 p8.1 z6,nC Q9 xW c198,mi W_ Cv wL,eG ou.2 ou.1 r9.Facts,ol l9.2 l9.1 dC.Entries,kF m_.2 m_.1 fI,bI l_.2 l_.1 rA,aU (aF 152 (aF 24 (aF 3 (aC az)))) ab4 Q_.v I6]/\DV aa z6 r9 dC fI rA c198 wL A8 Ct I6=some R) ⟨_,0,_,_,⟨none,0,0⟩,[],rfl,aA,rfl,(.conv .nil (gT (Ro:=(aF 24 (aF 3 (aC az)))) (E:=152)) (.cons .nil) ay),hF⟩ ?_)
     rintro ajz _ _ ⟨awY,Ct,A8,I6,Q_,ab4,rfl,rfl,ail,hE,hF⟩
     refine Kb hE aa.Results (fun azr=>?_)
     rcases A8 with _|⟨ajt,A8⟩
     · have as7:=dn ail
       rw[DV]at hF
       refine dL ?_
       refine dJ ?_
       refine bB ?_
       refine As (zg [p8.1.v,xW.v,Cv.v,ou.1.v,(zi r9.Version),l9.1.v,(zi dC.Age),(zi aa.Now),m_.1.v,l_.1.v,(zi aa.Spent),Q_.v]) ?_
       refine aT ?_
       cases hF
       exact Er (p8.1,p8.2,xW,Q9,Cv,W_,ou.1,ou.2,l9.1,l9.2,m_.1,m_.2,l_.1,l_.2,Q_,ab4)
     obtain⟨as7,as8,as9⟩:=dz ail
     rw[DV]at hF
     refine dL ?_
     refine dI ?_
     refine bB ?_
     refine Ai as8 (fun awZ aw0=>?_)
     refine uL (R':=(aD 24 (aD 3 az))) ah'.h (.tmp rfl rfl) .h apq (fun aCp=>?_)
     refine bnd hF fun ab2 aaG hF=>gy (aeR aaG) (fun ML=>?_)
     refine bB ?_
     refine dF rfl (bO (g:=true) Q4.h VU.h b_ (vs:=[ML.1.v]) rfl rfl rfl (by intro v hv; simp at hv; rcases hv with rfl<;>rfl)) (fun aCq=>?_)
     refine dP (.cons .h (.cons .h .nil)) (bQ (Ro:=(aF 24 (aF 3 (aC az)))) (E:=152) (F:=(ML.2++[])) (xs:=([ab2]:List (List (List Int)))) (d_ IB bP cK) rfl rfl) ?_
     refine bnd hF fun aju as_ hF=>ed (.cons (.t (.t (.t (.t (.t (.t (.t (.t (.t (.t (.t (.t (.t (.t (.t (.t (.t (.t (.t (.t (.t .h))))))))))))))))))))) (.cons .h .nil)) (dV (Ro:=(aF 24 (aF 3 (aC az)))) Q4.h ajg VU.h rfl rfl rfl (.tmp rfl rfl) (.tmp rfl rfl) as_ fw) (fun ab5=>?_)
     refine au ?_
     refine As (zg [p8.1.v,xW.v,Cv.v,ou.1.v,(zi r9.Version),l9.1.v,(zi dC.Age),(zi aa.Now),m_.1.v,l_.1.v,(zi aa.Spent),ab5.1.v]) ?_
     refine bB ?_
     rw[wk Ct]
     exact⟨_,bX _,_,Ct+1,A8,_,ab5.1,ab5.2,rfl,aA,as9,ay,hF⟩
   obtain⟨as6,aaH,ata⟩:=dz aik
   rw[DW]at hF
   refine dL ?_
   refine dI ?_
   refine aT ?_
   refine jf [0,1,2,3,4,5,6,7,8,9,10,11,12,13,14,15,16,17,18,19,20,21,22,23,24,25,26] [0,1,0,4,0,28,60,124,0,256,0,1792,3840,7936,0,0,32768,0,229376,491520,1015808,2080768,4194300,8388604,16777215,33554431,67108863] [21,24,26] mixed (by decide+kernel) ?_
   refine du ?_
   refine dM rfl .no .q10 (fun ha hp=>fe (v:=Cv.v) abM.h (EN ha (.tmp rfl rfl) rfl) hp.2 rfl rfl) ?_
   refine dm ?_
   refine Di aaH (fun aCr aCs=>?_)
   refine du ?_
   refine Dl ahK ?_
   refine dm ?_
   refine Di aaH (fun aCt aCu=>?_)
   refine du ?_
   refine Dl aqa ?_
   refine iq rfl .no rfl (fun ha=>bO (g:=true) (len:=0) (parts:=[]) dh.h dx.h .nil (vs:=[]) rfl rfl rfl (by simp)) (fun aCv=>?_)
   refine iR (.cons .h .nil) (bQ (Ro:=(aC az)) (E:=3) (F:=[]) (xs:=([]:List Int)) bP rfl rfl) ?_
   refine dm ?_
   refine Di aaH (fun aCw aCx=>?_)
   refine du ?_
   refine n_ (R':=(aD 3 az)) iA.h rfl .no (.tmp rfl rfl) rfl .h aqb (fun aCy=>?_)
   refine bnd hF fun W9 atb hF=>cO rfl rfl .no (.cons .q2 (.rd .h rfl .nil)) (.dep rfl (.own .q14 (fun _ h=>h) .nil)) (fun ha=>dV (Ro:=(aC az)) dh.h iQ dx.h rfl rfl rfl (EN ha (.tmp rfl rfl) rfl) (EN ha (.tmp rfl rfl) rfl) atb mg) (fun Xa=>?_)
   refine bW rfl .no (fun ha=>iB xU.h rfl (vs:=[(zi uy.From),(zi uy.To),Xa.1.v]) (.cons (EN ha (.tmp rfl rfl) rfl) (.cons (EN ha (.tmp rfl rfl) rfl) (.cons (EN ha (.tmp rfl rfl) rfl) .nil))) (cells:=[(zi uy.From),(zi uy.To),Xa.1.v]) rfl) ?_
   refine iq rfl .no rfl (fun ha=>bO (g:=true) (len:=1) (parts:=[(0,.tmp 79)]) EQ.h xU.h (.cons (EN ha (.tmp rfl rfl) rfl) .nil) (vs:=[(zg [(zi uy.From),(zi uy.To),Xa.1.v])]) rfl rfl rfl (by intro v hv; simp at hv; rcases hv with rfl<;>rfl)) (fun aCz=>?_)
   refine iR (.cons .h (.cons .h .nil)) (bQ (Ro:=oJ) (E:=98) (F:=(Xa.2++[])) (xs:=([(⟨uy.From,uy.To,W9⟩:df)]:List df)) (d_ (abN (a:=(⟨uy.From,uy.To,W9⟩:df))) bP cK) rfl rfl) ?_
   refine bnd hF fun ajv atc hF=>cO rfl rfl .no (.cons (.t (.t (.t (.t (.t (.t (.t (.t (.t (.t (.t (.t (.t (.t (.t (.t (.t (.t .h)))))))))))))))))) (.cons .h .nil)) (.dep rfl (.dep rfl (.dep rfl .nil))) (fun ha=>dV (Ro:=oJ) EQ.h abO xU.h rfl rfl rfl (EN ha (.tmp rfl rfl) rfl) (EN ha (.tmp rfl rfl) rfl) atc fw) (fun ab6=>?_)
   refine du ?_
   refine cO rfl rfl .no (.cons (.t (.t (.t (.t (.t (.t (.t (.t (.t (.t (.t (.t (.t (.t (.t .h))))))))))))))) .nil) (.dep rfl (.dep rfl (.dep rfl .nil))) (fun ha=>gz (e':=(zg [p8.1.v,xW.v,ab6.1.v,ou.1.v,(zi r9.Version),l9.1.v,(zi dC.Age),(zi aa.Now),m_.1.v,l_.1.v,(zi aa.Spent),(.slice none 0 0)])) ajh.h.sz (EN ha (.tmp rfl rfl) rfl) (EN ha (.tmp rfl rfl) rfl) rfl rfl rfl rfl rfl) (fun _=>?_)
   refine du ?_
   refine aY ?_
   rw[wk Cu]
   exact⟨_,bX _,_,Cu+1,A9,_,ab6.1,ab6.2,rfl,aA,ata,ay,hF⟩
 obtain⟨as5,aaI,atd⟩:=dz aij
 rw[GV]at hF
 refine dL ?_
 refine dI ?_
 refine bB ?_
 refine Ai aaI (fun aCA aCB=>?_)
 refine mX (uf ab3) uH (fun aCC=>?_)
 refine bnd hF fun xV ate hF=>gy (aeS ate) (fun ab7=>?_)
 refine dX (fun aCD=>?_)
 refine As (zg [(zi xV.Rel),ab7.1.v,(zi xV.Limit),(zi xV.Cost),(zi xV.Quota)]) ?_
 refine aY ?_
 refine dF rfl (bO (g:=true) Cn.h qi.h b_ (vs:=[(zg [(zi xV.Rel),ab7.1.v,(zi xV.Limit),(zi xV.Cost),(zi xV.Quota)])]) rfl rfl rfl (by intro v hv; simp at hv; rcases hv with rfl<;>rfl)) (fun aCE=>?_)
 refine dP (.cons .h (.cons (.t .h) .nil)) (bQ (Ro:=qL) (E:=57) (F:=(ab7.2++[])) (xs:=([xV]:List Method)) (d_ aji bP cK) rfl rfl) ?_
 refine bnd hF fun ajw atf hF=>ed (.cons (.t (.t (.t (.t (.t (.t (.t (.t (.t (.t (.t (.t (.t (.t (.t (.t .h)))))))))))))))) (.cons .h .nil)) (dV (Ro:=qL) Cn.h WV qi.h rfl rfl rfl (.tmp rfl rfl) (.tmp rfl rfl) atf fw) (fun ab8=>?_)
 refine au ?_
 refine As (zg [p8.1.v,ab8.1.v,(.slice none 0 0),ou.1.v,(zi r9.Version),l9.1.v,(zi dC.Age),(zi aa.Now),m_.1.v,l_.1.v,(zi aa.Spent),(.slice none 0 0)]) ?_
 refine bB ?_
 rw[wk wM]
 exact⟨_,bX _,_,wM+1,A_,_,ab8.1,ab8.2,rfl,aA,atd,ay,hF⟩
def Ae(ag:List Int)(aa:Method):List Int->Nat->Option (Bool)
 |[],k27=>some true
 |x29::lh,k27=>((ix ag aa.Rel).bind fun x40=>
     (iO x29 0 (IntKind.i64.wrap (x40-1))).bind fun wT=>
     bif (!wT)then (some true)
     else (bif (decide ((0:Int)<(k27:Int)))then ((ix aa.Inputs (IntKind.i64.wrap ((k27:Int)-1))).bind fun Tk=>
         some (decide ((x29:Int)<=Tk)))
       else (some false))).bind fun JJ=>
   match JJ with
   |c59=>if c59 then (
       some false)
     else (
       Ae ag aa lh (k27+1))
def H8(ag:List Int)(aa:Method):Option (Bool):=
 ((sw ag).bind fun r4=>
   bif (!r4)then (some true)
   else ((iO aa.Rel 0 (IntKind.i64.wrap ((ag.length:Int)-1))).bind fun r8=>
     bif (!r8)then (some true)
     else ((iO aa.Limit 0 9).bind fun dC=>
       bif (!dC)then (some true)
       else ((iO aa.Cost 0 99).bind fun r16=>
         bif (!r16)then (some true)
         else ((iO aa.Quota 1 99).bind fun jM=>
           some (!jM)))))).bind fun o2=>
 match o2 with
 |c23=>if c23 then (
     some false)
   else (
     Ae ag aa aa.Inputs 0)
theorem ae7{ag:List Int}{ae:Sv}{aa:Method}{aV:Sv}{R:Bool}(hF:H8 ag aa=some R):
   Fw.Spec Tryz.prog 122 [ae.v,(zg [(zi aa.Rel),aV.v,(zi aa.Limit),(zi aa.Cost),(zi aa.Quota)])] [ah ae ag,ah aV aa.Inputs] (fun _:Unit=>(.bool R)) (fun _=>[]):=by
 refine Se 74 Tryz.func122 [.tmp 4] ?_
 intro H0 F0
 unfold H8 at hF
 refine au ?_
 refine bN (fun k1=>?_)
 refine bu ?_
 obtain⟨o2,fU,hO3⟩:=bind_some hF
 refine au ?_
 refine eX (fun f' cs'=>∃(c23:Bool)(g:Fr),c23=o2/\f'=aQ g [(0,ae.v),(3,(pz k1)),(35,(.bool c23))]/\aN cs' [ah ae ag,aX k1 57 (zg [(zi aa.Rel),aV.v,(zi aa.Limit),(zi aa.Cost),(zi aa.Quota)]),ah aV aa.Inputs]) ?_ ?_
 · replace hF:=fU
   refine au ?_
   refine bnd hF fun r4 hx5 hF=>bD (w_ hx5) (fun _=>?_)
   refine aT ?_
   rcases bE (!r4)with bn|bn
   · rw[bn]
     try rw[bn]at hF; dsimp only[aJ,aI]at hF
     exact bJ hF
   rw[bn]
   try rw[bn]at hF; dsimp only[aJ,aI]at hF
   refine BV ?_
   refine bnd hF fun r8 bY hF=>bD (jR bY) (fun _=>?_)
   refine bg ?_
   rcases bE (!r8)with dQ|dQ
   · rw[dQ]
     try rw[dQ]at hF; dsimp only[aJ,aI]at hF
     exact bJ hF
   rw[dQ]
   try rw[dQ]at hF; dsimp only[aJ,aI]at hF
   refine aY ?_
   refine bnd hF fun dC iH hF=>bD (jR iH) (fun _=>?_)
   refine bg ?_
   rcases bE (!dC)with jo|jo
   · rw[jo]
     try rw[jo]at hF; dsimp only[aJ,aI]at hF
     exact bJ hF
   rw[jo]
   try rw[jo]at hF; dsimp only[aJ,aI]at hF
   refine aY ?_
   refine bnd hF fun r16 jF hF=>bD (jR jF) (fun _=>?_)
   refine bg ?_
   rcases bE (!r16)with iK|iK
   · rw[iK]
     try rw[iK]at hF; dsimp only[aJ,aI]at hF
     exact bJ hF
   rw[iK]
   try rw[iK]at hF; dsimp only[aJ,aI]at hF
   refine aY ?_
   refine bnd hF fun jM lv hF=>bD (jR lv) (fun _=>?_)
   exact bJ hF
 rintro _ _ ⟨c23,g64,rfl,rfl,hE⟩
 replace hF:=hO3
 try dsimp only at hF
 refine bq hE ?_
 refine Ci hF (fun aw1 hF=>?_) (fun aw1 hF=>?_)
 · exact ze hF
 refine aY ?_
 refine bi (bT (m:=aa.Inputs.length) (fun FI f' cs'=>∃(g:Fr)(k27:Nat)(lh:List Int),FI=lh.length/\f'=aQ g [(0,ae.v),(3,(pz k1)),(5,(zi (k27:Int)))]/\List.drop k27 aa.Inputs=lh/\aN cs' [ah ae ag,aX k1 57 (zg [(zi aa.Rel),aV.v,(zi aa.Limit),(zi aa.Cost),(zi aa.Quota)]),ah aV aa.Inputs]/\Ae ag aa lh k27=some R) ⟨_,0,_,rfl,aA,rfl,ay,hF⟩ ?_)
 rintro FI _ _ ⟨g26,k27,lh,rfl,rfl,zK,hE,hF⟩
 refine Kb hE aa.Inputs (fun aim=>?_)
 rcases lh with _|⟨x29,lh⟩
 · have hk31:=dn zK
   rw[Ae]at hF
   refine dL ?_
   refine dJ ?_
   exact ze hF
 obtain⟨hk31,hx32,Ra⟩:=dz zK
 rw[Ae]at hF
 refine dL ?_
 refine dI ?_
 refine aT ?_
 obtain⟨JJ,aaJ,ab9⟩:=bind_some hF
 refine dS [0,1,2,3,4,5,6,7,8,9,10,11,12,13,14,15,16,17,18,19,20,21,22,23,24,25,26,27,28,29,30] [0,1,0,7,15,0,0,64,224,480,992,2047,4095,8191,16383,32767,65535,131071,262143,131071,1048575,2097151,131071,4325375,131071,16908287,63045631,130154495,268435455,536870911,1073741823] [11] mixed (by decide+kernel) ?_
 refine kS (fun f' cs'=>∃(c59:Bool)(g:Fr),c59=JJ/\f'=aQ g [(0,ae.v),(3,(pz k1)),(5,(zi (k27:Int))),(73,(.bool c59))]/\aN cs' [ah ae ag,aX k1 57 (zg [(zi aa.Rel),aV.v,(zi aa.Limit),(zi aa.Cost),(zi aa.Quota)]),ah aV aa.Inputs]) ?_ ?_
 · replace hF:=aaJ
   refine dm ?_
   refine Di hx32 (fun nI j39=>?_)
   refine Dl dN ?_
   refine dm ?_
   refine zI hF fun x40 ajA ql hF=>?_
   refine Di ql (fun Yg Yh=>?_)
   refine Dl dN ?_
   refine du ?_
   refine bnd hF fun wT Cw hF=>eZ (jR Cw) (fun _=>?_)
   refine bR ?_
   rcases bE (!wT)with Rb|Rb
   · rw[Rb]
     try rw[Rb]at hF; dsimp only[aJ,aI]at hF
     exact eu hF
   rw[Rb]
   try rw[Rb]at hF; dsimp only[aJ,aI]at hF
   refine dm ?_
   rcases bE (decide ((0:Int)<(k27:Int)))with xX|xX
   · rw[xX]
     try rw[xX]at hF; dsimp only[aJ,aI]at hF
     refine dm ?_
     refine Di hx32 (fun tQ j52=>?_)
     refine Dl dN ?_
     refine nQ ?_
     refine zI hF fun Tk aCF Co hF=>?_
     refine Di Co (fun k57 j58=>?_)
     refine Dl dN ?_
     exact eu hF
   rw[xX]
   try rw[xX]at hF; dsimp only[aJ,aI]at hF
   exact eu hF
 rintro _ _ ⟨c59,g62,rfl,rfl,hE⟩
 replace hF:=ab9
 try dsimp only at hF
 refine bq hE ?_
 refine Ci hF (fun I7 hF=>?_) (fun I7 hF=>?_)
 · exact ze hF
 refine bB ?_
 rw[wk k27]
 exact⟨_,bX _,_,k27+1,lh,rfl,aA,Ra,ay,hF⟩
def Gl(ag:List Int)(ai:List Method):List Method->Nat->Option (Bool)
 |[],k4=>((sw ag).bind fun fI=>
     bif fI then (some (decide (((ai.length:Int):Int)<=5)))
     else (some false)).bind fun ma=>
   match ma with
   |c19=>some c19
 |x6::aM,k4=>(H8 ag x6).bind fun CY=>
   if (!CY)then (
     some false)
   else (
     Gl ag ai aM (k4+1))
def DX(ag:List Int)(ai:List Method):Option (Bool):=
 Gl ag ai ai 0
theorem Ux{ag:List Int}{ae:Sv}{ai:List Method}{ax:Sv}{R:Bool}(hF:DX ag ai=some R):
   Fw.Spec Tryz.prog 71 [ae.v,ax.v] [ah ae ag,bV ax ai] (fun _:Unit=>(.bool R)) (fun _=>[]):=by
 refine Se 26 Tryz.func71 [.tmp 4] ?_
 intro H0 F0
 unfold DX at hF
 refine bH ?_
 refine bi (bT (m:=ai.length) (fun m2 f' cs'=>∃(g:Fr)(k4:Nat)(aM:List Method),m2=aM.length/\f'=aQ g [(0,ae.v),(1,ax.v),(5,(zi (k4:Int)))]/\List.drop k4 ai=aM/\aN cs' [ah ae ag,bV ax ai]/\Gl ag ai aM k4=some R) ⟨_,0,_,rfl,aA,rfl,ay,hF⟩ ?_)
 rintro m2 _ _ ⟨g3,k4,aM,rfl,rfl,hd7,hE,hF⟩
 refine Kb hE ai (fun kT=>?_)
 rcases aM with _|⟨x6,aM⟩
 · have gF:=dn hd7
   rw[Gl]at hF
   refine bH ?_
   refine dJ ?_
   refine bg ?_
   obtain⟨ma,uQ,vo⟩:=bind_some hF
   refine au ?_
   refine eX (fun f' cs'=>∃(c19:Bool)(g:Fr),c19=ma/\f'=aQ g [(4,(.bool c19))]/\aN cs' []) ?_ ?_
   · replace hF:=uQ
     refine au ?_
     refine bnd hF fun fI hx16 hF=>bD (w_ hx16) (fun _=>?_)
     refine au ?_
     rcases bE fI with jq|jq
     · rw[jq]
       try rw[jq]at hF; dsimp only[aJ,aI]at hF
       exact bJ hF
     rw[jq]
     try rw[jq]at hF; dsimp only[aJ,aI]at hF
     exact bJ hF
   rintro _ _ ⟨c19,g20,rfl,rfl,hE⟩
   replace hF:=vo
   try dsimp only at hF
   refine bq hE ?_
   exact ze hF
 obtain⟨gF,bY,gD⟩:=dz hd7
 rw[Gl]at hF
 refine bH ?_
 refine dI ?_
 refine bB ?_
 refine Ai bY (fun k21 Nn=>?_)
 refine mX (uf x6) uH (fun oO=>?_)
 refine bnd hF fun CY hx25 hF=>bD (ae7 hx25) (fun _=>?_)
 refine aT ?_
 refine Ci hF (fun xY hF=>?_) (fun xY hF=>?_)
 · exact ze hF
 refine bB ?_
 rw[wk k4]
 exact⟨_,bX _,_,k4+1,aM,rfl,aA,gD,ay,hF⟩
def Ea(ag:List Int)(di:df):List Int->Nat->Option (Bool)
 |[],k26=>some true
 |x28::oW,k26=>(ix ag di.From).bind fun wU=>
   (iO x28 0 (IntKind.i64.wrap (wU-1))).bind fun Tm=>
   if (!Tm)then (
     some false)
   else (
     Ea ag di oW (k26+1))
def Ir(ag:List Int)(di:df):Option (Bool):=
 ((sw ag).bind fun r4=>
   bif (!r4)then (some true)
   else ((iO di.From 0 (IntKind.i64.wrap ((ag.length:Int)-1))).bind fun r8=>
     bif (!r8)then (some true)
     else ((iO di.To 0 (IntKind.i64.wrap ((ag.length:Int)-1))).bind fun dC=>
       bif (!dC)then (some true)
       else ((ix ag di.To).bind fun nT=>
         some (((di.Map.length:Int):Int)!=nT))))).bind fun o2=>
 match o2 with
 |Tn=>if Tn then (
     some false)
   else (
     Ea ag di di.Map 0)
theorem afQ{ag:List Int}{ae:Sv}{di:df}{nG:Sv}{R:Bool}(hF:Ir ag di=some R):
   Fw.Spec Tryz.prog 123 [ae.v,(zg [(zi di.From),(zi di.To),nG.v])] [ah ae ag,ah nG di.Map] (fun _:Unit=>(.bool R)) (fun _=>[]):=by
 refine Se 58 Tryz.func123 [.tmp 4] ?_
 intro H0 F0
 unfold Ir at hF
 refine au ?_
 refine bN (fun k1=>?_)
 refine bu ?_
 obtain⟨o2,fU,hO3⟩:=bind_some hF
 refine dS [0,1,2,3,4,5,6,7,8,9,10,11,12,13,14,15,16,17,18,19,20,21,22,23,24,25,26,27,28,29,30,31] [0,1,3,7,15,31,15,79,207,511,1023,2047,4095,8191,16383,8191,40959,106495,262143,524287,1048575,2097151,4194303,8388607,16777215,4194303,4194303,71303167,239075327,507510783,1073741823,2147483647] [1,9,18] mixed (by decide+kernel) ?_
 refine kS (fun f' cs'=>∃(Tn:Bool)(g:Fr),Tn=o2/\f'=aQ g [(0,ae.v),(3,(pz k1)),(37,(.bool Tn))]/\aN cs' [ah ae ag,aX k1 98 (zg [(zi di.From),(zi di.To),nG.v]),ah nG di.Map]) ?_ ?_
 · replace hF:=fU
   refine du ?_
   refine bnd hF fun r4 hx5 hF=>eZ (w_ hx5) (fun _=>?_)
   refine bR ?_
   rcases bE (!r4)with bn|bn
   · rw[bn]
     try rw[bn]at hF; dsimp only[aJ,aI]at hF
     exact eu hF
   rw[bn]
   try rw[bn]at hF; dsimp only[aJ,aI]at hF
   refine sV ?_
   refine bnd hF fun r8 bY hF=>eZ (jR bY) (fun _=>?_)
   refine dm ?_
   rcases bE (!r8)with dQ|dQ
   · rw[dQ]
     try rw[dQ]at hF; dsimp only[aJ,aI]at hF
     exact eu hF
   rw[dQ]
   try rw[dQ]at hF; dsimp only[aJ,aI]at hF
   refine sV ?_
   refine bnd hF fun dC iH hF=>eZ (jR iH) (fun _=>?_)
   refine dm ?_
   rcases bE (!dC)with jo|jo
   · rw[jo]
     try rw[jo]at hF; dsimp only[aJ,aI]at hF
     exact eu hF
   rw[jo]
   try rw[jo]at hF; dsimp only[aJ,aI]at hF
   refine wK ?_
   refine zI hF fun nT MM kM hF=>?_
   refine Di kM (fun k20 CZ=>?_)
   refine Dl dN ?_
   exact eu hF
 rintro _ _ ⟨Tn,g49,rfl,rfl,hE⟩
 replace hF:=hO3
 try dsimp only at hF
 refine bq hE ?_
 refine Ci hF (fun hb48 hF=>?_) (fun hb48 hF=>?_)
 · exact ze hF
 refine aY ?_
 refine bi (bT (m:=di.Map.length) (fun m24 f' cs'=>∃(g:Fr)(k26:Nat)(oW:List Int),m24=oW.length/\f'=aQ g [(0,ae.v),(3,(pz k1)),(5,(zi (k26:Int)))]/\List.drop k26 di.Map=oW/\aN cs' [ah ae ag,aX k1 98 (zg [(zi di.From),(zi di.To),nG.v]),ah nG di.Map]/\Ea ag di oW k26=some R) ⟨_,0,_,rfl,aA,rfl,ay,hF⟩ ?_)
 rintro m24 _ _ ⟨Tp,k26,oW,rfl,rfl,hd29,hE,hF⟩
 refine Kb hE di.Map (fun atg=>?_)
 rcases oW with _|⟨x28,oW⟩
 · have ab_:=dn hd29
   rw[Ea]at hF
   refine dL ?_
   refine dJ ?_
   exact ze hF
 obtain⟨ab_,hx31,hd32⟩:=dz hd29
 rw[Ea]at hF
 refine dL ?_
 refine dI ?_
 refine aT ?_
 refine dS [0,1,2,3,4,5,6,7,8,9,10,11,12] [0,1,0,7,15,0,0,64,224,480,992,2047,4095] [11] mixed (by decide+kernel) ?_
 refine dm ?_
 refine Di hx31 (fun nk j36=>?_)
 refine Dl dN ?_
 refine dm ?_
 refine zI hF fun wU aw2 tq hF=>?_
 refine Di tq (fun wV j42=>?_)
 refine Dl dN ?_
 refine du ?_
 refine bnd hF fun Tm Rc hF=>eZ (jR Rc) (fun _=>?_)
 refine bR ?_
 refine Ci hF (fun ab' hF=>?_) (fun ab' hF=>?_)
 · exact ze hF
 refine bB ?_
 rw[wk k26]
 exact⟨_,bX _,_,k26+1,oW,rfl,aA,hd32,ay,hF⟩
def GH(ag:List Int)(ai:List df):List df->Nat->Option (Bool)
 |[],k4=>((sw ag).bind fun fI=>
     bif fI then (some (decide (((ai.length:Int):Int)<=4)))
     else (some false)).bind fun ma=>
   match ma with
   |c19=>some c19
 |x6::aM,k4=>(Ir ag x6).bind fun CY=>
   if (!CY)then (
     some false)
   else (
     GH ag ai aM (k4+1))
def OY(ag:List Int)(ai:List df):Option (Bool):=
 GH ag ai ai 0
theorem amO{ag:List Int}{ae:Sv}{ai:List df}{ax:Sv}{R:Bool}(hF:OY ag ai=some R):
   Fw.Spec Tryz.prog 72 [ae.v,ax.v] [ah ae ag,eY ax ai] (fun _:Unit=>(.bool R)) (fun _=>[]):=by
 refine Se 26 Tryz.func72 [.tmp 4] ?_
 intro H0 F0
 unfold OY at hF
 refine bH ?_
 refine bi (bT (m:=ai.length) (fun m2 f' cs'=>∃(g:Fr)(k4:Nat)(aM:List df),m2=aM.length/\f'=aQ g [(0,ae.v),(1,ax.v),(5,(zi (k4:Int)))]/\List.drop k4 ai=aM/\aN cs' [ah ae ag,eY ax ai]/\GH ag ai aM k4=some R) ⟨_,0,_,rfl,aA,rfl,ay,hF⟩ ?_)
 rintro m2 _ _ ⟨g3,k4,aM,rfl,rfl,hd7,hE,hF⟩
 refine Kb hE ai (fun kT=>?_)
 rcases aM with _|⟨x6,aM⟩
 · have gF:=dn hd7
   rw[GH]at hF
   refine bH ?_
   refine dJ ?_
   refine bg ?_
   obtain⟨ma,uQ,vo⟩:=bind_some hF
   refine au ?_
   refine eX (fun f' cs'=>∃(c19:Bool)(g:Fr),c19=ma/\f'=aQ g [(4,(.bool c19))]/\aN cs' []) ?_ ?_
   · replace hF:=uQ
     refine au ?_
     refine bnd hF fun fI hx16 hF=>bD (w_ hx16) (fun _=>?_)
     refine au ?_
     rcases bE fI with jq|jq
     · rw[jq]
       try rw[jq]at hF; dsimp only[aJ,aI]at hF
       exact bJ hF
     rw[jq]
     try rw[jq]at hF; dsimp only[aJ,aI]at hF
     exact bJ hF
   rintro _ _ ⟨c19,g20,rfl,rfl,hE⟩
   replace hF:=vo
   try dsimp only at hF
   refine bq hE ?_
   exact ze hF
 obtain⟨gF,bY,gD⟩:=dz hd7
 rw[GH]at hF
 refine bH ?_
 refine dI ?_
 refine bB ?_
 refine Ai bY (fun k21 Nn=>?_)
 refine mX (Lg x6) Pi (fun oO=>?_)
 refine bnd hF fun CY hx25 hF=>bD (afQ hx25) (fun _=>?_)
 refine aT ?_
 refine Ci hF (fun xY hF=>?_) (fun xY hF=>?_)
 · exact ze hF
 refine bB ?_
 rw[wk k4]
 exact⟨_,bX _,_,k4+1,aM,rfl,aA,gD,ay,hF⟩
def Ho:List Int->Nat->Option (Bool)
 |[],k22=>some true
 |x24::ll,k22=>(iO x24 0 9).bind fun qx=>
   if (!qx)then (
     some false)
   else (
     Ho ll (k22+1))
def Lx(ag:List Int)(bF:Fact):Option (Bool):=
 ((sw ag).bind fun r4=>
   bif (!r4)then (some true)
   else ((iO bF.Rel 0 (IntKind.i64.wrap ((ag.length:Int)-1))).bind fun r8=>
     bif (!r8)then (some true)
     else ((ix ag bF.Rel).bind fun nU=>
       some (((bF.Values.length:Int):Int)!=nU)))).bind fun o2=>
 match o2 with
 |c18=>if c18 then (
     some false)
   else (
     Ho bF.Values 0)
theorem afR{ag:List Int}{ae:Sv}{bF:Fact}{aV:Sv}{R:Bool}(hF:Lx ag bF=some R):
   Fw.Spec Tryz.prog 91 [ae.v,(zg [(zi bF.Rel),aV.v])] [ah ae ag,ah aV bF.Values] (fun _:Unit=>(.bool R)) (fun _=>[]):=by
 refine Se 43 Tryz.func91 [.tmp 4] ?_
 intro H0 F0
 unfold Lx at hF
 refine au ?_
 refine bN (fun k1=>?_)
 refine bu ?_
 obtain⟨o2,fU,hO3⟩:=bind_some hF
 refine dS [0,1,2,3,4,5,6,7,8,9,10,11,12,13,14,15,16,17,18,19,20,21,22] [0,1,3,7,15,31,15,79,207,511,1023,2047,4095,8191,16383,32767,8191,8191,139263,466943,991231,2097151,4194303] [1,9] mixed (by decide+kernel) ?_
 refine kS (fun f' cs'=>∃(c18:Bool)(g:Fr),c18=o2/\f'=aQ g [(3,(pz k1)),(28,(.bool c18))]/\aN cs' [aX k1 70 (zg [(zi bF.Rel),aV.v]),ah aV bF.Values]) ?_ ?_
 · replace hF:=fU
   refine du ?_
   refine bnd hF fun r4 hx5 hF=>eZ (w_ hx5) (fun _=>?_)
   refine bR ?_
   rcases bE (!r4)with bn|bn
   · rw[bn]
     try rw[bn]at hF; dsimp only[aJ,aI]at hF
     exact eu hF
   rw[bn]
   try rw[bn]at hF; dsimp only[aJ,aI]at hF
   refine sV ?_
   refine bnd hF fun r8 bY hF=>eZ (jR bY) (fun _=>?_)
   refine dm ?_
   rcases bE (!r8)with dQ|dQ
   · rw[dQ]
     try rw[dQ]at hF; dsimp only[aJ,aI]at hF
     exact eu hF
   rw[dQ]
   try rw[dQ]at hF; dsimp only[aJ,aI]at hF
   refine wK ?_
   refine zI hF fun nU Re kz hF=>?_
   refine Di kz (fun k16 JE=>?_)
   refine Dl dN ?_
   exact eu hF
 rintro _ _ ⟨c18,g39,rfl,rfl,hE⟩
 replace hF:=hO3
 try dsimp only at hF
 refine bq hE ?_
 refine Ci hF (fun I8 hF=>?_) (fun I8 hF=>?_)
 · exact ze hF
 refine aY ?_
 refine bi (bT (m:=bF.Values.length) (fun m20 f' cs'=>∃(g:Fr)(k22:Nat)(ll:List Int),m20=ll.length/\f'=aQ g [(3,(pz k1)),(5,(zi (k22:Int)))]/\List.drop k22 bF.Values=ll/\aN cs' [aX k1 70 (zg [(zi bF.Rel),aV.v]),ah aV bF.Values]/\Ho ll k22=some R) ⟨_,0,_,rfl,aA,rfl,ay,hF⟩ ?_)
 rintro m20 _ _ ⟨g21,k22,ll,rfl,rfl,hd25,hE,hF⟩
 refine Kb hE bF.Values (fun ain=>?_)
 rcases ll with _|⟨x24,ll⟩
 · have Rh:=dn hd25
   rw[Ho]at hF
   refine dL ?_
   refine dJ ?_
   exact ze hF
 obtain⟨Rh,hx27,hd28⟩:=dz hd25
 rw[Ho]at hF
 refine dL ?_
 refine dI ?_
 refine bB ?_
 refine Ai hx27 (fun FJ Yi=>?_)
 refine Al dN ?_
 refine bnd hF fun qx hx34 hF=>bD (jR hx34) (fun _=>?_)
 refine aT ?_
 refine Ci hF (fun Ri hF=>?_) (fun Ri hF=>?_)
 · exact ze hF
 refine bB ?_
 rw[wk k22]
 exact⟨_,bX _,_,k22+1,ll,rfl,aA,hd28,ay,hF⟩
def Dg(aB:Fact)(aR:Fact):Nat->Int->Option (Int)
 |0,_=>none
 |m5+1,c4=>if ((decide ((c4:Int)<(aB.Values.length:Int)))&&(decide ((c4:Int)<(aR.Values.length:Int))))then (
     (ix aB.Values c4).bind fun nu=>
     (ix aR.Values c4).bind fun x21=>
     if (decide ((nu:Int)<x21))then (
       some (-1))
     else (
       (ix aB.Values c4).bind fun x27=>
       (ix aR.Values c4).bind fun Tq=>
       if (decide ((Tq:Int)<x27))then (
         some 1)
       else (
         Dg aB aR m5 (IntKind.i64.wrap (c4+1)))))
   else (
     if (decide (((aB.Values.length:Int):Int)<(aR.Values.length:Int)))then (
       some (-1))
     else (
       if (decide (((aR.Values.length:Int):Int)<(aB.Values.length:Int)))then (
         some 1)
       else (
         some 0)))
def w9(aB:Fact)(aR:Fact):Option (Int):=
 if ((aB.Rel:Int)!=aR.Rel)then (
   if (decide ((aB.Rel:Int)<aR.Rel))then (
     some (-1))
   else (
     some 1))
 else (
   Dg aB aR (((aB.Values.length:Int)-0).toNat+2) 0)
theorem NM{aB:Fact}{aO:Sv}{aR:Fact}{aV:Sv}{R:Int}(hF:w9 aB aR=some R):
   Fw.Spec Tryz.prog 45 [(zg [(zi aB.Rel),aO.v]),(zg [(zi aR.Rel),aV.v])] [ah aO aB.Values,ah aV aR.Values] (fun _:Unit=>(zi R)) (fun _=>[]):=by
 refine Se 66 Tryz.func45 [.tmp 4] ?_
 intro H0 F0
 unfold w9 at hF
 refine au ?_
 refine bN (fun k1=>?_)
 refine bN (fun k2=>?_)
 refine ky ?_
 refine Ci hF (fun I9 hF=>?_) (fun I9 hF=>?_)
 · refine dL ?_
   refine Ci hF (fun hb3 hF=>?_) (fun hb3 hF=>?_)
   · exact ze hF
   exact ze hF
 refine aY ?_
 refine bi (bT (m:=(((aB.Values.length:Int)-0).toNat+2)) (fun m5 f' cs'=>∃(g:Fr)(c4:Int),f'=aQ g [(2,(pz k1)),(3,(pz k2)),(5,(zi c4))]/\aN cs' [aX k1 70 (zg [(zi aB.Rel),aO.v]),ah aO aB.Values,aX k2 70 (zg [(zi aR.Rel),aV.v]),ah aV aR.Values]/\Dg aB aR m5 c4=some R) ⟨_,_,aA,ay,hF⟩ ?_)
 rintro m5 _ _ ⟨g6,c4,rfl,hE,hF⟩
 refine bq hE ?_
 rcases m5 with _|m5
 · rw[Dg]at hF
   exact absurd hF (by simp)
 rw[Dg]at hF
 refine aT ?_
 refine eX (fun f' cs'=>∃(g:Fr),f'=aQ g [(2,(pz k1)),(3,(pz k2)),(5,(zi c4)),(27,(.bool ((decide ((c4:Int)<(aB.Values.length:Int)))&&(decide ((c4:Int)<(aR.Values.length:Int))))))]/\aN cs' [aX k1 70 (zg [(zi aB.Rel),aO.v]),ah aO aB.Values,aX k2 70 (zg [(zi aR.Rel),aV.v]),ah aV aR.Values]) ?_ ?_
 · refine bB ?_
   rcases bE (decide ((c4:Int)<(aB.Values.length:Int)))with jr|jr
   · rw[jr]
     try rw[jr]at hF; dsimp only[aJ,aI]at hF
     refine EE ?_
     exact⟨_,aA,ay⟩
   rw[jr]
   try rw[jr]at hF; dsimp only[aJ,aI]at hF
   refine bH ?_
   exact⟨_,aA,ay⟩
 rintro _ _ ⟨g14,rfl,hE⟩
 refine bq hE ?_
 refine Ci hF (fun aw3 hF=>?_) (fun aw3 hF=>?_)
 · refine bu ?_
   refine dS [0,1,2,3,4,5,6,7,8,9,10] [0,1,0,7,15,0,32,0,224,480,1023] [] mixed (by decide+kernel) ?_
   refine dm ?_
   refine zI hF fun nu aca mJ hF=>?_
   refine Di mJ (fun k19 FH=>?_)
   refine Dl dN ?_
   refine dm ?_
   refine zI hF fun x21 aCG hx24 hF=>?_
   refine Di hx24 (fun k25 j26=>?_)
   refine Dl dN ?_
   refine bR ?_
   refine Ci hF (fun Rj hF=>?_) (fun Rj hF=>?_)
   · exact ze hF
   refine au ?_
   refine dS [0,1,2,3,4,5,6,7,8,9,10] [0,1,0,7,15,0,32,0,224,480,1023] [] mixed (by decide+kernel) ?_
   refine dm ?_
   refine zI hF fun x27 aCH Xb hF=>?_
   refine Di Xb (fun FJ Yi=>?_)
   refine Dl dN ?_
   refine dm ?_
   refine zI hF fun Tq aw4 I_ hF=>?_
   refine Di I_ (fun Tt Tu=>?_)
   refine Dl dN ?_
   refine bR ?_
   refine Ci hF (fun Cx hF=>?_) (fun Cx hF=>?_)
   · exact ze hF
   refine bB ?_
   exact⟨m5,bX _,_,_,aA,ay,hF⟩
 refine aii ?_
 refine Ci hF (fun acb hF=>?_) (fun acb hF=>?_)
 · exact ze hF
 refine BV ?_
 refine Ci hF (fun acd hF=>?_) (fun acd hF=>?_)
 · exact ze hF
 exact ze hF
def Af(ag:List Int)(ai:List Fact):List Fact->Nat->Option (Bool)
 |[],k4=>((sw ag).bind fun fI=>
     bif fI then (some (decide (((ai.length:Int):Int)<=24)))
     else (some false)).bind fun ma=>
   match ma with
   |c19=>some c19
 |x6::aM,k4=>((Lx ag x6).bind fun r26=>
     bif (!r26)then (some true)
     else (bif (decide ((0:Int)<(k4:Int)))then ((ix ai (IntKind.i64.wrap ((k4:Int)-1))).bind fun x31=>
         (w9 x31 x6).bind fun vR=>
         some (decide ((0:Int)<=vR)))
       else (some false))).bind fun yS=>
   match yS with
   |nS=>if nS then (
       some false)
     else (
       Af ag ai aM (k4+1))
def H9(ag:List Int)(ai:List Fact):Option (Bool):=
 Af ag ai ai 0
theorem UF{ag:List Int}{ae:Sv}{ai:List Fact}{ax:Sv}{R:Bool}(hF:H9 ag ai=some R):
   Fw.Spec Tryz.prog 49 [ae.v,ax.v] [ah ae ag,bG ax ai] (fun _:Unit=>(.bool R)) (fun _=>[]):=by
 refine Se 43 Tryz.func49 [.tmp 4] ?_
 intro H0 F0
 unfold H9 at hF
 refine bH ?_
 refine bi (bT (m:=ai.length) (fun m2 f' cs'=>∃(g:Fr)(k4:Nat)(aM:List Fact),m2=aM.length/\f'=aQ g [(0,ae.v),(1,ax.v),(5,(zi (k4:Int)))]/\List.drop k4 ai=aM/\aN cs' [ah ae ag,bG ax ai]/\Af ag ai aM k4=some R) ⟨_,0,_,rfl,aA,rfl,ay,hF⟩ ?_)
 rintro m2 _ _ ⟨g3,k4,aM,rfl,rfl,hd7,hE,hF⟩
 refine Kb hE ai (fun kT=>?_)
 rcases aM with _|⟨x6,aM⟩
 · have gF:=dn hd7
   rw[Af]at hF
   refine bH ?_
   refine dJ ?_
   refine bg ?_
   obtain⟨ma,uQ,vo⟩:=bind_some hF
   refine au ?_
   refine eX (fun f' cs'=>∃(c19:Bool)(g:Fr),c19=ma/\f'=aQ g [(4,(.bool c19))]/\aN cs' []) ?_ ?_
   · replace hF:=uQ
     refine au ?_
     refine bnd hF fun fI hx16 hF=>bD (w_ hx16) (fun _=>?_)
     refine au ?_
     rcases bE fI with jq|jq
     · rw[jq]
       try rw[jq]at hF; dsimp only[aJ,aI]at hF
       exact bJ hF
     rw[jq]
     try rw[jq]at hF; dsimp only[aJ,aI]at hF
     exact bJ hF
   rintro _ _ ⟨c19,g20,rfl,rfl,hE⟩
   replace hF:=vo
   try dsimp only at hF
   refine bq hE ?_
   exact ze hF
 obtain⟨gF,bY,gD⟩:=dz hd7
 rw[Af]at hF
 refine bH ?_
 refine dI ?_
 refine aT ?_
 obtain⟨yS,Qg,Rk⟩:=bind_some hF
 refine dS [0,1,2,3,4,5,6,7,8,9,10,11,12,13,14,15,16,17,18,19,20,21,22,23] [0,0,0,6,14,31,63,127,255,511,1023,2047,2047,6143,16383,32767,2047,2047,198655,460799,1048575,2097151,4194303,8388607] [5,20] mixed (by decide+kernel) ?_
 refine kS (fun f' cs'=>∃(nS:Bool)(g:Fr),nS=yS/\f'=aQ g [(0,ae.v),(1,ax.v),(5,(zi (k4:Int))),(35,(.bool nS))]/\aN cs' [ah ae ag,bG ax ai]) ?_ ?_
 · replace hF:=Qg
   refine dm ?_
   refine Di bY (fun k23 Yj=>?_)
   refine jP (lU x6) mf (fun p25=>?_)
   refine bnd hF fun r26 hx27 hF=>eZ (afR hx27) (fun _=>?_)
   refine bR ?_
   rcases bE (!r26)with qO|qO
   · rw[qO]
     try rw[qO]at hF; dsimp only[aJ,aI]at hF
     exact eu hF
   rw[qO]
   try rw[qO]at hF; dsimp only[aJ,aI]at hF
   refine dm ?_
   rcases bE (decide ((0:Int)<(k4:Int)))with xZ|xZ
   · rw[xZ]
     try rw[xZ]at hF; dsimp only[aJ,aI]at hF
     refine dm ?_
     refine zI hF fun x31 aCI hx34 hF=>?_
     refine Di hx34 (fun nk j36=>?_)
     refine jP (lU x31) mf (fun p37=>?_)
     refine bR ?_
     refine Di bY (fun nI j39=>?_)
     refine jP (lU x6) mf (fun p40=>?_)
     refine bnd hF fun vR Rl hF=>eZ (NM Rl) (fun _=>?_)
     exact eu hF
   rw[xZ]
   try rw[xZ]at hF; dsimp only[aJ,aI]at hF
   exact eu hF
 rintro _ _ ⟨nS,g47,rfl,rfl,hE⟩
 replace hF:=Rk
 try dsimp only at hF
 refine bq hE ?_
 refine Ci hF (fun ace hF=>?_) (fun ace hF=>?_)
 · exact ze hF
 refine bB ?_
 rw[wk k4]
 exact⟨_,bX _,_,k4+1,aM,rfl,aA,gD,ay,hF⟩
def K6(ag:List Int)(aS:Source):Option (Bool):=
 ((H9 ag aS.Facts).bind fun r4=>
   bif r4 then ((iO aS.Version 0 1000).bind fun r8=>
     some r8)
   else (some false)).bind fun o2=>
 match o2 with
 |c11=>some c11
theorem ae8{ag:List Int}{ae:Sv}{aS:Source}{ax:Sv}{R:Bool}(hF:K6 ag aS=some R):
   Fw.Spec Tryz.prog 73 [ae.v,(zg [ax.v,(zi aS.Version)])] [ah ae ag,bG ax aS.Facts] (fun _:Unit=>(.bool R)) (fun _=>[]):=by
 refine Se 14 Tryz.func73 [.tmp 4] ?_
 intro H0 F0
 unfold K6 at hF
 refine au ?_
 refine bN (fun k1=>?_)
 refine aT ?_
 obtain⟨o2,fU,hO3⟩:=bind_some hF
 refine au ?_
 refine eX (fun f' cs'=>∃(c11:Bool)(g:Fr),c11=o2/\f'=aQ g [(4,(.bool c11))]/\aN cs' []) ?_ ?_
 · replace hF:=fU
   refine bu ?_
   refine bnd hF fun r4 hx5 hF=>bD (UF hx5) (fun _=>?_)
   refine au ?_
   rcases bE r4 with bn|bn
   · rw[bn]
     try rw[bn]at hF; dsimp only[aJ,aI]at hF
     refine aY ?_
     refine bnd hF fun r8 bY hF=>bD (jR bY) (fun _=>?_)
     exact bJ hF
   rw[bn]
   try rw[bn]at hF; dsimp only[aJ,aI]at hF
   exact bJ hF
 rintro _ _ ⟨c11,g12,rfl,rfl,hE⟩
 replace hF:=hO3
 try dsimp only at hF
 refine bq hE ?_
 exact ze hF
def GI:List Int->Nat->Option (Bool)
 |[],k23=>some true
 |x25::oZ,k23=>(iO x25 0 9).bind fun qy=>
   if (!qy)then (
     some false)
   else (
     GI oZ (k23+1))
def Av(ag:List Int)(ai:List Method)(aB:Access):Option (Bool):=
 ((DX ag ai).bind fun r4=>
   bif (!r4)then (some true)
   else ((iO aB.Method 0 (IntKind.i64.wrap ((ai.length:Int)-1))).bind fun r8=>
     bif (!r8)then (some true)
     else ((ix ai aB.Method).bind fun nU=>
       some (((aB.Values.length:Int):Int)!=(nU.Inputs.length:Int))))).bind fun o2=>
 match o2 with
 |c19=>if c19 then (
     some false)
   else (
     GI aB.Values 0)
theorem UG{ag:List Int}{ae:Sv}{ai:List Method}{ax:Sv}{aB:Access}{dH:Sv}{R:Bool}(hF:Av ag ai aB=some R):
   Fw.Spec Tryz.prog 48 [ae.v,ax.v,(zg [(zi aB.Method),dH.v])] [ah ae ag,bV ax ai,ah dH aB.Values] (fun _:Unit=>(.bool R)) (fun _=>[]):=by
 refine Se 48 Tryz.func48 [.tmp 6] ?_
 intro H0 F0
 unfold Av at hF
 refine au ?_
 refine bN (fun k1=>?_)
 refine bu ?_
 obtain⟨o2,fU,hO3⟩:=bind_some hF
 refine dS [0,1,2,3,4,5,6,7,8,9,10,11,12,13,14,15,16,17,18,19,20,21,22,23,24,25] [0,0,3,7,15,31,63,31,159,415,1023,2047,4095,8191,16383,32767,65535,16383,16383,278527,933887,1982463,4079615,8273919,16777215,33554431] [2,10] mixed (by decide+kernel) ?_
 refine kS (fun f' cs'=>∃(c19:Bool)(g:Fr),c19=o2/\f'=aQ g [(5,(pz k1)),(33,(.bool c19))]/\aN cs' [aX k1 45 (zg [(zi aB.Method),dH.v]),ah dH aB.Values]) ?_ ?_
 · replace hF:=fU
   refine bR ?_
   refine bnd hF fun r4 hx5 hF=>eZ (Ux hx5) (fun _=>?_)
   refine bR ?_
   rcases bE (!r4)with bn|bn
   · rw[bn]
     try rw[bn]at hF; dsimp only[aJ,aI]at hF
     exact eu hF
   rw[bn]
   try rw[bn]at hF; dsimp only[aJ,aI]at hF
   refine sV ?_
   refine bnd hF fun r8 bY hF=>eZ (jR bY) (fun _=>?_)
   refine dm ?_
   rcases bE (!r8)with dQ|dQ
   · rw[dQ]
     try rw[dQ]at hF; dsimp only[aJ,aI]at hF
     exact eu hF
   rw[dQ]
   try rw[dQ]at hF; dsimp only[aJ,aI]at hF
   refine wK ?_
   refine zI hF fun nU Re kz hF=>?_
   refine Di kz (fun k16 JE=>?_)
   refine du ?_
   refine n_ (R':=(aD 3 az)) iA.h rfl (.on 21 rfl rfl rfl) (.tmp rfl rfl) rfl .h PT (fun w18=>?_)
   exact eu hF
 rintro _ _ ⟨c19,Yk,rfl,rfl,hE⟩
 replace hF:=hO3
 try dsimp only at hF
 refine bq hE ?_
 refine Ci hF (fun Cx hF=>?_) (fun Cx hF=>?_)
 · exact ze hF
 refine aY ?_
 refine bi (bT (m:=aB.Values.length) (fun m21 f' cs'=>∃(g:Fr)(k23:Nat)(oZ:List Int),m21=oZ.length/\f'=aQ g [(5,(pz k1)),(7,(zi (k23:Int)))]/\List.drop k23 aB.Values=oZ/\aN cs' [aX k1 45 (zg [(zi aB.Method),dH.v]),ah dH aB.Values]/\GI oZ k23=some R) ⟨_,0,_,rfl,aA,rfl,ay,hF⟩ ?_)
 rintro m21 _ _ ⟨g22,k23,oZ,rfl,rfl,x9,hE,hF⟩
 refine Kb hE aB.Values (fun ath=>?_)
 rcases oZ with _|⟨x25,oZ⟩
 · have acf:=dn x9
   rw[GI]at hF
   refine dL ?_
   refine dJ ?_
   exact ze hF
 obtain⟨acf,hx28,hd29⟩:=dz x9
 rw[GI]at hF
 refine dL ?_
 refine dI ?_
 refine bB ?_
 refine Ai hx28 (fun Tv j33=>?_)
 refine Al dN ?_
 refine bnd hF fun qy x_ hF=>bD (jR x_) (fun _=>?_)
 refine aT ?_
 refine Ci hF (fun I8 hF=>?_) (fun I8 hF=>?_)
 · exact ze hF
 refine bB ?_
 rw[wk k23]
 exact⟨_,bX _,_,k23+1,oZ,rfl,aA,hd29,ay,hF⟩
def Hq(aB:List Int)(aR:List Int):Nat->Int->Option (Bool)
 |0,_=>none
 |m2+1,c1=>if ((decide ((c1:Int)<(aB.length:Int)))&&(decide ((c1:Int)<(aR.length:Int))))then (
     (ix aB c1).bind fun nU=>
     (ix aR c1).bind fun g_=>
     if ((nU:Int)!=g_)then (
       (ix aB c1).bind fun x24=>
       (ix aR c1).bind fun x30=>
       some (decide ((x24:Int)<x30)))
     else (
       Hq aB aR m2 (IntKind.i64.wrap (c1+1))))
   else (
     some (decide (((aB.length:Int):Int)<(aR.length:Int))))
def LA(aB:List Int)(aR:List Int):Option (Bool):=
 Hq aB aR (((aB.length:Int)-0).toNat+2) 0
theorem afS{aB:List Int}{ae:Sv}{aR:List Int}{ax:Sv}{R:Bool}(hF:LA aB aR=some R):
   Fw.Spec Tryz.prog 153 [ae.v,ax.v] [ah ae aB,ah ax aR] (fun _:Unit=>(.bool R)) (fun _=>[]):=by
 refine Se 41 Tryz.func153 [.tmp 4] ?_
 intro H0 F0
 unfold LA at hF
 refine bH ?_
 refine bi (bT (m:=(((aB.length:Int)-0).toNat+2)) (fun m2 f' cs'=>∃(g:Fr)(c1:Int),f'=aQ g [(0,ae.v),(1,ax.v),(5,(zi c1))]/\aN cs' [ah ae aB,ah ax aR]/\Hq aB aR m2 c1=some R) ⟨_,_,aA,ay,hF⟩ ?_)
 rintro m2 _ _ ⟨g3,c1,rfl,hE,hF⟩
 refine bq hE ?_
 rcases m2 with _|m2
 · rw[Hq]at hF
   exact absurd hF (by simp)
 rw[Hq]at hF
 refine aT ?_
 refine eX (fun f' cs'=>∃(g:Fr),f'=aQ g [(0,ae.v),(1,ax.v),(5,(zi c1)),(15,(.bool ((decide ((c1:Int)<(aB.length:Int)))&&(decide ((c1:Int)<(aR.length:Int))))))]/\aN cs' [ah ae aB,ah ax aR]) ?_ ?_
 · refine aY ?_
   rcases bE (decide ((c1:Int)<(aB.length:Int)))with qP|qP
   · rw[qP]
     try rw[qP]at hF; dsimp only[aJ,aI]at hF
     refine ky ?_
     exact⟨_,aA,ay⟩
   rw[qP]
   try rw[qP]at hF; dsimp only[aJ,aI]at hF
   refine bB ?_
   exact⟨_,aA,ay⟩
 rintro _ _ ⟨g11,rfl,hE⟩
 refine bq hE ?_
 refine Ci hF (fun Ri hF=>?_) (fun Ri hF=>?_)
 · refine aT ?_
   refine dS [0,1,2,3,4,5,6,7,8] [0,0,3,7,0,0,48,112,255] [] mixed (by decide+kernel) ?_
   refine bR ?_
   refine zI hF fun nU Re kz hF=>?_
   refine Di kz (fun k16 JE=>?_)
   refine Dl dN ?_
   refine bR ?_
   refine zI hF fun g_ ajB lv hF=>?_
   refine Di lv (fun k22 j23=>?_)
   refine Dl dN ?_
   refine bR ?_
   refine Ci hF (fun aw5 hF=>?_) (fun aw5 hF=>?_)
   · refine dS [0,1,2,3,4,5,6,7,8,9] [0,0,3,7,0,0,48,112,255,511] [] mixed (by decide+kernel) ?_
     refine bR ?_
     refine zI hF fun x24 ajC hx27 hF=>?_
     refine Di hx27 (fun k28 Yl=>?_)
     refine Dl dN ?_
     refine bR ?_
     refine zI hF fun x30 aCJ vv hF=>?_
     refine Di vv (fun k34 j35=>?_)
     refine Dl dN ?_
     refine dm ?_
     exact ze hF
   refine bB ?_
   exact⟨m2,bX _,_,_,aA,ay,hF⟩
 exact ze hF
def Li(aB:Access)(aR:Access):Option (Bool):=
 if ((aB.Method:Int)!=aR.Method)then (
   some (decide ((aB.Method:Int)<aR.Method)))
 else (
   (LA aB.Values aR.Values).bind fun r3=>
   some r3)
theorem afr{aB:Access}{aO:Sv}{aR:Access}{aV:Sv}{R:Bool}(hF:Li aB aR=some R):
   Fw.Spec Tryz.prog 124 [(zg [(zi aB.Method),aO.v]),(zg [(zi aR.Method),aV.v])] [ah aO aB.Values,ah aV aR.Values] (fun _:Unit=>(.bool R)) (fun _=>[]):=by
 refine Se 20 Tryz.func124 [.tmp 4] ?_
 intro H0 F0
 unfold Li at hF
 refine au ?_
 refine bN (fun k1=>?_)
 refine bN (fun k2=>?_)
 refine ky ?_
 refine Ci hF (fun hb6 hF=>?_) (fun hb6 hF=>?_)
 · exact ze hF
 refine bB ?_
 refine bnd hF fun r3 hx4 hF=>bD (afS hx4) (fun _=>?_)
 exact ze hF
def Hr(kP:List Int)(bF:Fact):List Int->Nat->Option (Bool)
 |[],k6=>some true
 |x8::jO,k6=>(ix bF.Values x8).bind fun zX=>
   (ix kP (k6:Int)).bind fun Tw=>
   if ((zX:Int)!=Tw)then (
     some false)
   else (
     Hr kP bF jO (k6+1))
def LB(aa:Method)(kP:List Int)(bF:Fact):Option (Bool):=
 if ((bF.Rel:Int)!=aa.Rel)then (
   some false)
 else (
   Hr kP bF aa.Inputs 0)
theorem afT{aa:Method}{aO:Sv}{kP:List Int}{ax:Sv}{bF:Fact}{dH:Sv}{R:Bool}(hF:LB aa kP bF=some R):
   Fw.Spec Tryz.prog 77 [(zg [(zi aa.Rel),aO.v,(zi aa.Limit),(zi aa.Cost),(zi aa.Quota)]),ax.v,(zg [(zi bF.Rel),dH.v])] [ah aO aa.Inputs,ah ax kP,ah dH bF.Values] (fun _:Unit=>(.bool R)) (fun _=>[]):=by
 refine Se 34 Tryz.func77 [.tmp 6] ?_
 intro H0 F0
 unfold LB at hF
 refine au ?_
 refine bN (fun k1=>?_)
 refine bN (fun k2=>?_)
 refine ky ?_
 refine Ci hF (fun Rm hF=>?_) (fun Rm hF=>?_)
 · exact ze hF
 refine aY ?_
 refine bi (bT (m:=aa.Inputs.length) (fun m4 f' cs'=>∃(g:Fr)(k6:Nat)(jO:List Int),m4=jO.length/\f'=aQ g [(1,ax.v),(3,(pz k1)),(5,(pz k2)),(7,(zi (k6:Int)))]/\List.drop k6 aa.Inputs=jO/\aN cs' [ah ax kP,aX k1 57 (zg [(zi aa.Rel),aO.v,(zi aa.Limit),(zi aa.Cost),(zi aa.Quota)]),ah aO aa.Inputs,aX k2 70 (zg [(zi bF.Rel),dH.v]),ah dH bF.Values]/\Hr kP bF jO k6=some R) ⟨_,0,_,rfl,aA,rfl,ay,hF⟩ ?_)
 rintro m4 _ _ ⟨g5,k6,jO,rfl,rfl,yT,hE,hF⟩
 refine Kb hE aa.Inputs (fun aaK=>?_)
 rcases jO with _|⟨x8,jO⟩
 · have hk10:=dn yT
   rw[Hr]at hF
   refine dL ?_
   refine dJ ?_
   exact ze hF
 obtain⟨hk10,kW,mK⟩:=dz yT
 rw[Hr]at hF
 refine dL ?_
 refine dI ?_
 refine aT ?_
 refine dS [0,1,2,3,4,5,6,7,8,9,10,11,12,13] [0,1,0,4,0,28,60,127,255,0,0,1536,3584,8191] [] mixed (by decide+kernel) ?_
 refine sV ?_
 refine Di kW (fun k15 Ym=>?_)
 refine Dl dN ?_
 refine zI hF fun zX ajD vw hF=>?_
 refine Di vw (fun k21 Nn=>?_)
 refine Dl dN ?_
 refine bR ?_
 refine zI hF fun Tw aw6 nE hF=>?_
 refine Di nE (fun k27 j28=>?_)
 refine Dl dN ?_
 refine bR ?_
 refine Ci hF (fun Ja hF=>?_) (fun Ja hF=>?_)
 · exact ze hF
 refine bB ?_
 rw[wk k6]
 exact⟨_,bX _,_,k6+1,jO,rfl,aA,mK,ay,hF⟩
def DY(ai:List Method)(g_:cB):List Fact->Nat->Option (Sum (Bool) (Unit))
 |[],yU=>some (.inr ())
 |JK::Br,yU=>(ix ai g_.Access.Method).bind fun x69=>
   (LB x69 g_.Access.Values JK).bind fun r79=>
   if (!r79)then (
     some (.inl false))
   else (
     DY ai g_ Br (yU+1))
def Ak(ag:List Int)(ai:List Method)(ak:Cache):List cB->Nat->Option (Bool)
 |[],k16=>some true
 |g_::Bt,k16=>((((Av ag ai g_.Access).bind fun qx=>
       bif (!qx)then (some true)
       else ((H9 ag g_.Facts).bind fun zY=>
         bif (!zY)then (some true)
         else ((iO g_.At 0 10000).bind fun vR=>
           bif (!vR)then (some true)
           else (bif (decide ((0:Int)<(k16:Int)))then ((ix ak.Entries (IntKind.i64.wrap ((k16:Int)-1))).bind fun vS=>
               (Li vS.Access g_.Access).bind fun vT=>
               some (!vT))
             else (some false))))).bind fun o31=>
     match o31 with
     |Tx=>if Tx then (
         some (.inl false))
       else (
         DY ai g_ g_.Facts 0)):Option (Sum (Bool) (Unit))).bind fun FK=>
   match FK with
   | .inl r=>some r
   | .inr _=>Ak ag ai ak Bt (k16+1)
def Ih(ag:List Int)(ai:List Method)(ak:Cache):Option (Bool):=
 ((DX ag ai).bind fun r4=>
   bif (!r4)then (some true)
   else ((iO ak.Age 0 100).bind fun r8=>
     bif (!r8)then (some true)
     else (some (decide ((100:Int)<(ak.Entries.length:Int)))))).bind fun o2=>
 match o2 with
 |c12=>if c12 then (
     some false)
   else (
     Ak ag ai ak ak.Entries 0)
theorem Zb{ag:List Int}{ae:Sv}{ai:List Method}{ax:Sv}{ak:Cache}{bL:Sv}{R:Bool}(hF:Ih ag ai ak=some R):
   Fw.Spec Tryz.prog 74 [ae.v,ax.v,(zg [bL.v,(zi ak.Age)])] [ah ae ag,bV ax ai,dK bL ak.Entries] (fun _:Unit=>(.bool R)) (fun _=>[]):=by
 refine Se 97 Tryz.func74 [.tmp 6] ?_
 intro H0 F0
 unfold Ih at hF
 refine au ?_
 refine bN (fun k1=>?_)
 refine bu ?_
 obtain⟨o2,fU,hO3⟩:=bind_some hF
 refine au ?_
 refine eX (fun f' cs'=>∃(c12:Bool)(g:Fr),c12=o2/\f'=aQ g [(0,ae.v),(1,ax.v),(5,(pz k1)),(25,(.bool c12))]/\aN cs' [ah ae ag,bV ax ai,aX k1 32 (zg [bL.v,(zi ak.Age)]),dK bL ak.Entries]) ?_ ?_
 · replace hF:=fU
   refine aT ?_
   refine bnd hF fun r4 hx5 hF=>bD (Ux hx5) (fun _=>?_)
   refine aT ?_
   rcases bE (!r4)with bn|bn
   · rw[bn]
     try rw[bn]at hF; dsimp only[aJ,aI]at hF
     exact bJ hF
   rw[bn]
   try rw[bn]at hF; dsimp only[aJ,aI]at hF
   refine aY ?_
   refine bnd hF fun r8 bY hF=>bD (jR bY) (fun _=>?_)
   refine bg ?_
   rcases bE (!r8)with dQ|dQ
   · rw[dQ]
     try rw[dQ]at hF; dsimp only[aJ,aI]at hF
     exact bJ hF
   rw[dQ]
   try rw[dQ]at hF; dsimp only[aJ,aI]at hF
   exact bJ hF
 rintro _ _ ⟨c12,g89,rfl,rfl,hE⟩
 replace hF:=hO3
 try dsimp only at hF
 refine bq hE ?_
 refine Ci hF (fun aw7 hF=>?_) (fun aw7 hF=>?_)
 · exact ze hF
 refine aY ?_
 refine bi (bT (m:=ak.Entries.length) (fun m14 f' cs'=>∃(g:Fr)(k16:Nat)(Bt:List cB),m14=Bt.length/\f'=aQ g [(0,ae.v),(1,ax.v),(5,(pz k1)),(7,(zi (k16:Int)))]/\List.drop k16 ak.Entries=Bt/\aN cs' [ah ae ag,bV ax ai,aX k1 32 (zg [bL.v,(zi ak.Age)]),dK bL ak.Entries]/\Ak ag ai ak Bt k16=some R) ⟨_,0,_,rfl,aA,rfl,ay,hF⟩ ?_)
 rintro m14 _ _ ⟨g15,k16,Bt,rfl,rfl,Xc,hE,hF⟩
 refine Kb hE ak.Entries (fun aAC=>?_)
 rcases Bt with _|⟨g_,Bt⟩
 · have aw8:=dn Xc
   rw[Ak]at hF
   refine dL ?_
   refine dJ ?_
   exact ze hF
 obtain⟨aw8,lv,aw9⟩:=dz Xc
 rw[Ak]at hF
 refine dL ?_
 refine dI ?_
 refine au ?_
 obtain⟨FK,aaL,Rn⟩:=bind_some hF
 refine iC (fun f' cs'=>∃(g:Fr),FK= .inr ()/\f'=aQ g [(0,ae.v),(1,ax.v),(5,(pz k1)),(7,(zi (k16:Int)))]/\aN cs' [ah ae ag,bV ax ai,aX k1 32 (zg [bL.v,(zi ak.Age)]),dK bL ak.Entries]) ?_ ?_
 · replace hF:=aaL
   refine bi (dY (aP (iY (off:=0) VL.h (.tmp rfl rfl)) ?_))
   refine aT ?_
   refine Ai lv (fun k27 j28=>?_)
   refine xO (wu g_) xk (fun p29=>?_)
   refine dX (fun FL=>?_)
   refine As (zg [(zi g_.Access.Method),p29.1.v,p29.2.v,(zi g_.At)]) ?_
   refine aT ?_
   obtain⟨o31,ati,aw_⟩:=bind_some hF
   refine dS [0,1,2,3,4,5,6,7,8,9,10,11,12,13,14,15,16,17,18,19,20,21,22,23,24,25,26,27,28,29,30,31,32,33,34,35] [0,0,0,4,15,31,63,127,127,383,1023,2047,4095,8191,16383,32767,65535,131071,262143,524287,1048575,2097151,4194303,8388607,16777215,8388607,41943039,134217727,268435455,536870911,8388607,1082130431,4294967295,8589934591,17179869183,34359738367] [4,10,16,32] mixed (by decide+kernel) ?_
   refine kS (fun f' cs'=>∃(Tx:Bool)(g:Fr),Tx=o31/\f'=aQ g [(0,ae.v),(1,ax.v),(5,(pz k1)),(7,(zi (k16:Int))),(8,(pz FL)),(73,(.bool Tx))]/\aN cs' [ah ae ag,bV ax ai,aX k1 32 (zg [bL.v,(zi ak.Age)]),dK bL ak.Entries,aW FL 47 (zg [(zi g_.Access.Method),p29.1.v,p29.2.v,(zi g_.At)]),ah p29.1 g_.Access.Values,bG p29.2 g_.Facts]) ?_ ?_
   · replace hF:=ati
     refine dm ?_
     refine dM rfl .no .h (fun ha hp=>j3 (s:=2) (l:=[(zi g_.Access.Method),p29.1.v]) u_.h kr.h.sz (EN ha (.tmp rfl rfl) rfl) hp.2 rfl (by decide) (Nat.le_of_ble_eq_true rfl) rfl) ?_
     refine bnd hF fun qx hx34 hF=>eZ (UG hx34) (fun _=>?_)
     refine bR ?_
     rcases bE (!qx)with qQ|qQ
     · rw[qQ]
       try rw[qQ]at hF; dsimp only[aJ,aI]at hF
       exact eu hF
     rw[qQ]
     try rw[qQ]at hF; dsimp only[aJ,aI]at hF
     refine bR ?_
     refine dM rfl (.on 44 rfl rfl rfl) .h (fun ha hp=>fe (v:=p29.2.v) xQ.h (EN ha (.tmp rfl rfl) rfl) hp.2 rfl rfl) ?_
     refine bnd hF fun zY hx38 hF=>eZ (UF hx38) (fun _=>?_)
     refine dm ?_
     rcases bE (!zY)with yc|yc
     · rw[yc]
       try rw[yc]at hF; dsimp only[aJ,aI]at hF
       exact eu hF
     rw[yc]
     try rw[yc]at hF; dsimp only[aJ,aI]at hF
     refine du ?_
     refine dM rfl (.on 51 rfl rfl rfl) .h (fun ha hp=>fe (v:=(zi g_.At)) pU.h (EN ha (.tmp rfl rfl) rfl) hp.2 rfl rfl) ?_
     refine bnd hF fun vR Rl hF=>eZ (jR Rl) (fun _=>?_)
     refine dm ?_
     rcases bE (!vR)with yf|yf
     · rw[yf]
       try rw[yf]at hF; dsimp only[aJ,aI]at hF
       exact eu hF
     rw[yf]
     try rw[yf]at hF; dsimp only[aJ,aI]at hF
     refine dm ?_
     rcases bE (decide ((0:Int)<(k16:Int)))with Rp|Rp
     · rw[Rp]
       try rw[Rp]at hF; dsimp only[aJ,aI]at hF
       refine nQ ?_
       refine zI hF fun vS ajE qR hF=>?_
       refine Di qR (fun Yn Yo=>?_)
       refine du ?_
       refine jP (Pj vS) Va (fun p52=>?_)
       refine du ?_
       refine dM rfl (.on 60 rfl rfl rfl) .q2 (fun ha hp=>j3 (s:=2) (l:=[(zi g_.Access.Method),p29.1.v]) u_.h kr.h.sz (EN ha (.tmp rfl rfl) rfl) hp.2 rfl (by decide) (Nat.le_of_ble_eq_true rfl) rfl) ?_
       refine bnd hF fun vT tu hF=>eZ (afr tu) (fun _=>?_)
       exact eu hF
     rw[Rp]
     try rw[Rp]at hF; dsimp only[aJ,aI]at hF
     exact eu hF
   rintro _ _ ⟨Tx,g85,rfl,rfl,hE⟩
   replace hF:=aw_
   try dsimp only at hF
   refine bq hE ?_
   refine Ci hF (fun aw' hF=>?_) (fun aw' hF=>?_)
   · refine bg ?_
     cases hF
     replace hF:=Rn
     try dsimp only at hF
     exact ze hF
   refine bg ?_
   refine bi (bT (m:=g_.Facts.length) (fun m58 f' cs'=>∃(g:Fr)(yU:Nat)(Br:List Fact),m58=Br.length/\f'=aQ g [(0,ae.v),(1,ax.v),(5,(pz k1)),(7,(zi (k16:Int))),(8,(pz FL)),(9,(zi (yU:Int)))]/\List.drop yU g_.Facts=Br/\aN cs' [ah ae ag,bV ax ai,aX k1 32 (zg [bL.v,(zi ak.Age)]),dK bL ak.Entries,aW FL 47 (zg [(zi g_.Access.Method),p29.1.v,p29.2.v,(zi g_.At)]),ah p29.1 g_.Access.Values,bG p29.2 g_.Facts]/\DY ai g_ Br yU=some FK) ⟨_,0,_,rfl,aA,rfl,ay,hF⟩ ?_)
   rintro m58 _ _ ⟨g59,yU,Br,rfl,rfl,ajF,hE,hF⟩
   refine Kb hE g_.Facts (fun aAD=>?_)
   rcases Br with _|⟨JK,Br⟩
   · have axa:=dn ajF
     rw[DY]at hF
     refine dL ?_
     refine dJ ?_
     refine bg ?_
     cases hF
     exact⟨_,rfl,aA,ay⟩
   obtain⟨axa,Rq,axb⟩:=dz ajF
   rw[DY]at hF
   refine dL ?_
   refine dI ?_
   refine aT ?_
   refine dS [0,1,2,3,4,5,6,7,8,9,10,11,12,13,14,15] [0,0,2,6,15,31,0,64,192,0,512,0,3584,7680,16383,32767] [14] mixed (by decide+kernel) ?_
   refine dm ?_
   refine dM rfl .no .q4 (fun ha hp=>fe (v:=(zi g_.Access.Method)) pU.h (EN ha (.tmp rfl rfl) rfl) hp.2 rfl rfl) ?_
   refine zI hF fun x69 axc Rs hF=>?_
   refine Di Rs (fun k73 j74=>?_)
   refine jP (uf x69) uH (fun p75=>?_)
   refine bR ?_
   refine dM rfl .no .q6 (fun ha hp=>fe (v:=p29.1.v) iA.h (EN ha (.tmp rfl rfl) rfl) hp.2 rfl rfl) ?_
   refine du ?_
   refine dM rfl .no .q6 (fun ha hp=>fe (v:=p29.2.v) xQ.h (EN ha (.tmp rfl rfl) rfl) hp.2 rfl rfl) ?_
   refine du ?_
   refine Di Rq (fun k76 j77=>?_)
   refine jP (lU JK) mf (fun p78=>?_)
   refine bnd hF fun r79 Rt hF=>eZ (afT Rt) (fun _=>?_)
   refine bR ?_
   refine Ci hF (fun axd hF=>?_) (fun axd hF=>?_)
   · refine bg ?_
     cases hF
     replace hF:=Rn
     try dsimp only at hF
     exact ze hF
   refine bB ?_
   rw[wk yU]
   exact⟨_,bX _,_,yU+1,Br,rfl,aA,axb,ay,hF⟩
 rintro _ _ ⟨g87,rfl,rfl,hE⟩
 replace hF:=Rn
 try dsimp only at hF
 refine bq hE ?_
 refine aY ?_
 rw[wk k16]
 exact⟨_,bX _,_,k16+1,Bt,rfl,aA,aw9,ay,hF⟩
def Dz(sH:List Int):List Int->Nat->Option (Bool)
 |[],k4=>some (decide (((sH.length:Int):Int)<=1000))
 |x6::aM,k4=>((iO x6 0 10000).bind fun oP=>
     bif (!oP)then (some true)
     else (bif (decide ((0:Int)<(k4:Int)))then ((ix sH (IntKind.i64.wrap ((k4:Int)-1))).bind fun x24=>
         some (decide ((x6:Int)<x24)))
       else (some false))).bind fun ma=>
   match ma with
   |qz=>if qz then (
       some false)
     else (
       Dz sH aM (k4+1))
def OZ(sH:List Int):Option (Bool):=
 Dz sH sH 0
theorem amP{sH:List Int}{ae:Sv}{R:Bool}(hF:OZ sH=some R):
   Fw.Spec Tryz.prog 76 [ae.v] [ah ae sH] (fun _:Unit=>(.bool R)) (fun _=>[]):=by
 refine Se 35 Tryz.func76 [.tmp 2] ?_
 intro H0 F0
 unfold OZ at hF
 refine bH ?_
 refine bi (bT (m:=sH.length) (fun m2 f' cs'=>∃(g:Fr)(k4:Nat)(aM:List Int),m2=aM.length/\f'=aQ g [(0,ae.v),(3,(zi (k4:Int)))]/\List.drop k4 sH=aM/\aN cs' [ah ae sH]/\Dz sH aM k4=some R) ⟨_,0,_,rfl,aA,rfl,ay,hF⟩ ?_)
 rintro m2 _ _ ⟨g3,k4,aM,rfl,rfl,hd7,hE,hF⟩
 refine Kb hE sH (fun kT=>?_)
 rcases aM with _|⟨x6,aM⟩
 · have gF:=dn hd7
   rw[Dz]at hF
   refine bH ?_
   refine dJ ?_
   exact ze hF
 obtain⟨gF,bY,gD⟩:=dz hd7
 rw[Dz]at hF
 refine bH ?_
 refine dI ?_
 refine aT ?_
 obtain⟨ma,uQ,vo⟩:=bind_some hF
 refine dS [0,1,2,3,4,5,6,7,8,9,10,11,12,13,14,15,16,17,18,19,20,21] [0,0,3,7,15,31,63,127,255,511,1023,1023,4095,8191,1023,1023,33791,115711,246783,524287,1048575,2097151] [4] mixed (by decide+kernel) ?_
 refine kS (fun f' cs'=>∃(qz:Bool)(g:Fr),qz=ma/\f'=aQ g [(0,ae.v),(3,(zi (k4:Int))),(31,(.bool qz))]/\aN cs' [ah ae sH]) ?_ ?_
 · replace hF:=uQ
   refine bR ?_
   refine Di bY (fun k15 Ym=>?_)
   refine Dl dN ?_
   refine bnd hF fun oP mJ hF=>eZ (jR mJ) (fun _=>?_)
   refine bR ?_
   rcases bE (!oP)with qU|qU
   · rw[qU]
     try rw[qU]at hF; dsimp only[aJ,aI]at hF
     exact eu hF
   rw[qU]
   try rw[qU]at hF; dsimp only[aJ,aI]at hF
   refine dm ?_
   rcases bE (decide ((0:Int)<(k4:Int)))with Ru|Ru
   · rw[Ru]
     try rw[Ru]at hF; dsimp only[aJ,aI]at hF
     refine bR ?_
     refine Di bY (fun k22 j23=>?_)
     refine Dl dN ?_
     refine dm ?_
     refine zI hF fun x24 ajC hx27 hF=>?_
     refine Di hx27 (fun k28 Yl=>?_)
     refine Dl dN ?_
     exact eu hF
   rw[Ru]
   try rw[Ru]at hF; dsimp only[aJ,aI]at hF
   exact eu hF
 rintro _ _ ⟨qz,g33,rfl,rfl,hE⟩
 replace hF:=vo
 try dsimp only at hF
 refine bq hE ?_
 refine Ci hF (fun axe hF=>?_) (fun axe hF=>?_)
 · exact ze hF
 refine bB ?_
 rw[wk k4]
 exact⟨_,bX _,_,k4+1,aM,rfl,aA,gD,ay,hF⟩
def Dr(aa:aZ):List Access->Nat->Option (Bool)
 |[],k27=>((iO aa.Now 0 10000).bind fun Np=>
     bif Np then (bif (decide (((aa.Log.length:Int):Int)<=1000))then (bif (((aa.Times.length:Int):Int)==(aa.Log.length:Int))then ((OZ aa.Times).bind fun jQ=>
           bif jQ then ((iO aa.Spent 0 1000000).bind fun nV=>
             bif nV then (some (decide (((aa.Results.length:Int):Int)<=100)))
             else (some false))
           else (some false))
         else (some false))
       else (some false))
     else (some false)).bind fun JJ=>
   match JJ with
   |rC=>some rC
 |x29::lh,k27=>(Av aa.Schema aa.Methods x29).bind fun r57=>
   if (!r57)then (
     some false)
   else (
     Dr aa lh (k27+1))
def qC(aa:aZ):Option (Bool):=
 ((sw aa.Schema).bind fun r4=>
   bif (!r4)then (some true)
   else ((DX aa.Schema aa.Methods).bind fun r8=>
     bif (!r8)then (some true)
     else ((OY aa.Schema aa.Rules).bind fun dC=>
       bif (!dC)then (some true)
       else ((K6 aa.Schema aa.Source).bind fun r16=>
         bif (!r16)then (some true)
         else ((Ih aa.Schema aa.Methods aa.Cache).bind fun jM=>
           some (!jM)))))).bind fun o2=>
 match o2 with
 |c23=>if c23 then (
     some false)
   else (
     Dr aa aa.Log 0)
theorem uG{aa:aZ}{ae aO cu dA dw dB dE dG:Sv}{R:Bool}(hF:qC aa=some R):
   Fw.Spec Tryz.prog 31 [(zg [ae.v,aO.v,cu.v,dA.v,(zi aa.Source.Version),dw.v,(zi aa.Cache.Age),(zi aa.Now),dB.v,dE.v,(zi aa.Spent),dG.v])] [ah ae aa.Schema,bV aO aa.Methods,eY cu aa.Rules,bG dA aa.Source.Facts,dK dw aa.Cache.Entries,eD dB aa.Log,ah dE aa.Times,bC (aD 152 (aD 24 (aD 3 az))) dG.v aa.Results] (fun _:Unit=>(.bool R)) (fun _=>[]):=by
 refine Se 94 Tryz.func31 [.tmp 2] ?_
 intro H0 F0
 unfold qC at hF
 refine au ?_
 refine bN (fun k1=>?_)
 refine bu ?_
 obtain⟨o2,fU,hO3⟩:=bind_some hF
 refine au ?_
 refine eX (fun f' cs'=>∃(c23:Bool)(g:Fr),c23=o2/\f'=aQ g [(1,(pz k1)),(41,(.bool c23))]/\aN cs' [aX k1 36 (zg [ae.v,aO.v,cu.v,dA.v,(zi aa.Source.Version),dw.v,(zi aa.Cache.Age),(zi aa.Now),dB.v,dE.v,(zi aa.Spent),dG.v]),ah ae aa.Schema,bV aO aa.Methods,eY cu aa.Rules,bG dA aa.Source.Facts,dK dw aa.Cache.Entries,eD dB aa.Log,ah dE aa.Times,bC (aD 152 (aD 24 (aD 3 az))) dG.v aa.Results]) ?_ ?_
 · replace hF:=fU
   refine aT ?_
   refine bnd hF fun r4 hx5 hF=>bD (w_ hx5) (fun _=>?_)
   refine aT ?_
   rcases bE (!r4)with bn|bn
   · rw[bn]
     try rw[bn]at hF; dsimp only[aJ,aI]at hF
     exact bJ hF
   rw[bn]
   try rw[bn]at hF; dsimp only[aJ,aI]at hF
   refine gB ?_
   refine bnd hF fun r8 bY hF=>bD (Ux bY) (fun _=>?_)
   refine bg ?_
   rcases bE (!r8)with dQ|dQ
   · rw[dQ]
     try rw[dQ]at hF; dsimp only[aJ,aI]at hF
     exact bJ hF
   rw[dQ]
   try rw[dQ]at hF; dsimp only[aJ,aI]at hF
   refine gB ?_
   refine bnd hF fun dC iH hF=>bD (amO iH) (fun _=>?_)
   refine bg ?_
   rcases bE (!dC)with jo|jo
   · rw[jo]
     try rw[jo]at hF; dsimp only[aJ,aI]at hF
     exact bJ hF
   rw[jo]
   try rw[jo]at hF; dsimp only[aJ,aI]at hF
   refine bH ?_
   refine fo .h (fun hp=>j3 (s:=2) (l:=[dA.v,(zi aa.Source.Version)]) xP.h u6.h.sz (.tmp rfl rfl) hp.2 rfl (by decide) (Nat.le_of_ble_eq_true rfl) rfl) ?_
   refine au ?_
   refine bnd hF fun r16 jF hF=>bD (ae8 jF) (fun _=>?_)
   refine bg ?_
   rcases bE (!r16)with iK|iK
   · rw[iK]
     try rw[iK]at hF; dsimp only[aJ,aI]at hF
     exact bJ hF
   rw[iK]
   try rw[iK]at hF; dsimp only[aJ,aI]at hF
   refine BV ?_
   refine fo .h (fun hp=>j3 (s:=2) (l:=[dw.v,(zi aa.Cache.Age)]) uu.h oL.h.sz (.tmp rfl rfl) hp.2 rfl (by decide) (Nat.le_of_ble_eq_true rfl) rfl) ?_
   refine au ?_
   refine bnd hF fun jM lv hF=>bD (Zb lv) (fun _=>?_)
   exact bJ hF
 rintro _ _ ⟨c23,g63,rfl,rfl,hE⟩
 replace hF:=hO3
 try dsimp only at hF
 refine bq hE ?_
 refine Ci hF (fun axf hF=>?_) (fun axf hF=>?_)
 · exact ze hF
 refine aY ?_
 refine bi (bT (m:=aa.Log.length) (fun FI f' cs'=>∃(g:Fr)(k27:Nat)(lh:List Access),FI=lh.length/\f'=aQ g [(1,(pz k1)),(3,(zi (k27:Int)))]/\List.drop k27 aa.Log=lh/\aN cs' [aX k1 36 (zg [ae.v,aO.v,cu.v,dA.v,(zi aa.Source.Version),dw.v,(zi aa.Cache.Age),(zi aa.Now),dB.v,dE.v,(zi aa.Spent),dG.v]),ah ae aa.Schema,bV aO aa.Methods,eY cu aa.Rules,bG dA aa.Source.Facts,dK dw aa.Cache.Entries,eD dB aa.Log,ah dE aa.Times,bC (aD 152 (aD 24 (aD 3 az))) dG.v aa.Results]/\Dr aa lh k27=some R) ⟨_,0,_,rfl,aA,rfl,ay,hF⟩ ?_)
 rintro FI _ _ ⟨g26,k27,lh,rfl,rfl,zK,hE,hF⟩
 refine Kb hE aa.Log (fun aim=>?_)
 rcases lh with _|⟨x29,lh⟩
 · have hk31:=dn zK
   rw[Dr]at hF
   refine dL ?_
   refine dJ ?_
   refine bg ?_
   obtain⟨JJ,aaJ,ab9⟩:=bind_some hF
   refine au ?_
   refine eX (fun f' cs'=>∃(rC:Bool)(g:Fr),rC=JJ/\f'=aQ g [(2,(.bool rC))]/\aN cs' []) ?_ ?_
   · replace hF:=aaJ
     refine aT ?_
     refine bnd hF fun Np hx39 hF=>bD (jR hx39) (fun _=>?_)
     refine au ?_
     rcases bE Np with Rv|Rv
     · rw[Rv]
       try rw[Rv]at hF; dsimp only[aJ,aI]at hF
       refine ky ?_
       rcases bE (decide (((aa.Log.length:Int):Int)<=1000))with qV|qV
       · rw[qV]
         try rw[qV]at hF; dsimp only[aJ,aI]at hF
         refine Qf ?_
         rcases bE (((aa.Times.length:Int):Int)==(aa.Log.length:Int))with yg|yg
         · rw[yg]
           try rw[yg]at hF; dsimp only[aJ,aI]at hF
           refine aY ?_
           refine bnd hF fun jQ vz hF=>bD (amP vz) (fun _=>?_)
           refine aT ?_
           rcases bE jQ with yh|yh
           · rw[yh]
             try rw[yh]at hF; dsimp only[aJ,aI]at hF
             refine aY ?_
             refine bnd hF fun nV qR hF=>bD (jR qR) (fun _=>?_)
             refine aT ?_
             rcases bE nV with Rw|Rw
             · rw[Rw]
               try rw[Rw]at hF; dsimp only[aJ,aI]at hF
               exact bJ hF
             rw[Rw]
             try rw[Rw]at hF; dsimp only[aJ,aI]at hF
             exact bJ hF
           rw[yh]
           try rw[yh]at hF; dsimp only[aJ,aI]at hF
           exact bJ hF
         rw[yg]
         try rw[yg]at hF; dsimp only[aJ,aI]at hF
         exact bJ hF
       rw[qV]
       try rw[qV]at hF; dsimp only[aJ,aI]at hF
       exact bJ hF
     rw[Rv]
     try rw[Rv]at hF; dsimp only[aJ,aI]at hF
     exact bJ hF
   rintro _ _ ⟨rC,g53,rfl,rfl,hE⟩
   replace hF:=ab9
   try dsimp only at hF
   refine bq hE ?_
   exact ze hF
 obtain⟨hk31,hx32,Ra⟩:=dz zK
 rw[Dr]at hF
 refine dL ?_
 refine dI ?_
 refine aT ?_
 refine dS [0,1,2,3,4,5,6,7,8,9,10] [0,1,0,4,0,16,0,112,240,511,1023] [9] mixed (by decide+kernel) ?_
 refine abQ ?_
 refine Di hx32 (fun k54 j55=>?_)
 refine jP (xm x29) zb (fun p56=>?_)
 refine bnd hF fun r57 acg hF=>eZ (UG acg) (fun _=>?_)
 refine bR ?_
 refine Ci hF (fun I7 hF=>?_) (fun I7 hF=>?_)
 · exact ze hF
 refine bB ?_
 rw[wk k27]
 exact⟨_,bX _,_,k27+1,lh,rfl,aA,Ra,ay,hF⟩
def OG(aa:aZ)(aS:Method):Option (aZ×Bool):=
 (AB aa).bind fun r4=>
 ((qC aa).bind fun lS=>
   bif (!lS)then (some true)
   else ((H8 aa.Schema aS).bind fun jW=>
     bif (!jW)then (some true)
     else (some (decide ((5:Int)<=(aa.Methods.length:Int)))))).bind fun o8=>
 match o8 with
 |c18=>if c18 then (
     some (r4,false))
   else (
     (KX aS).bind fun qA=>
     (app r4.Methods ([qA]:List Method)).bind fun z23=>
     some ((⟨r4.Schema,z23,r4.Rules,r4.Source,r4.Cache,r4.Now,r4.Log,r4.Times,r4.Spent,r4.Results⟩:aZ),true))
theorem amm{aa:aZ}{ae aO cu dA dw dB dE dG:Sv}{aS:Method}{aV:Sv}{R:aZ×Bool}(hF:OG aa aS=some R):
   Fw.Spec Tryz.prog 94 [(zg [ae.v,aO.v,cu.v,dA.v,(zi aa.Source.Version),dw.v,(zi aa.Cache.Age),(zi aa.Now),dB.v,dE.v,(zi aa.Spent),dG.v]),(zg [(zi aS.Rel),aV.v,(zi aS.Limit),(zi aS.Cost),(zi aS.Quota)])] [ah ae aa.Schema,bV aO aa.Methods,eY cu aa.Rules,bG dA aa.Source.Facts,dK dw aa.Cache.Entries,eD dB aa.Log,ah dE aa.Times,bC (aD 152 (aD 24 (aD 3 az))) dG.v aa.Results,ah aV aS.Inputs] (fun p:Sv×List Nat×Sv×List Nat×Sv×List Nat×Sv×List Nat×Sv×List Nat×Sv×List Nat×Sv×List Nat×Sv×List Nat=>(.tuple [(zg [p.1.v,p.2.2.1.v,p.2.2.2.2.1.v,p.2.2.2.2.2.2.1.v,(zi R.1.Source.Version),p.2.2.2.2.2.2.2.2.1.v,(zi R.1.Cache.Age),(zi R.1.Now),p.2.2.2.2.2.2.2.2.2.2.1.v,p.2.2.2.2.2.2.2.2.2.2.2.2.1.v,(zi R.1.Spent),p.2.2.2.2.2.2.2.2.2.2.2.2.2.2.1.v]),(.bool R.2)].toArray)) (fun p=>[bI p.2.1 p.1 R.1.Schema,nC p.2.2.2.1 p.2.2.1 R.1.Methods,mi p.2.2.2.2.2.1 p.2.2.2.2.1 R.1.Rules,eG p.2.2.2.2.2.2.2.1 p.2.2.2.2.2.2.1 R.1.Source.Facts,ol p.2.2.2.2.2.2.2.2.2.1 p.2.2.2.2.2.2.2.2.1 R.1.Cache.Entries,kF p.2.2.2.2.2.2.2.2.2.2.2.1 p.2.2.2.2.2.2.2.2.2.2.1 R.1.Log,bI p.2.2.2.2.2.2.2.2.2.2.2.2.2.1 p.2.2.2.2.2.2.2.2.2.2.2.2.1 R.1.Times,aU (aF 152 (aF 24 (aF 3 (aC az)))) p.2.2.2.2.2.2.2.2.2.2.2.2.2.2.2 p.2.2.2.2.2.2.2.2.2.2.2.2.2.2.1.v R.1.Results]):=by
 refine Se 34 Tryz.func94 [.cell 4 36,.tmp 5] ?_
 intro H0 F0
 unfold OG at hF
 refine au ?_
 refine bN (fun k1=>?_)
 refine bN (fun k2=>?_)
 refine dX (fun k3=>?_)
 refine bg ?_
 refine bnd hF fun r4 hx5 hF=>Ti (Oq hx5) (fun p6=>?_)
 refine dX (fun k7=>?_)
 refine As (zg [p6.1.v,p6.2.2.1.v,p6.2.2.2.2.1.v,p6.2.2.2.2.2.2.1.v,(zi r4.Source.Version),p6.2.2.2.2.2.2.2.2.1.v,(zi r4.Cache.Age),(zi r4.Now),p6.2.2.2.2.2.2.2.2.2.2.1.v,p6.2.2.2.2.2.2.2.2.2.2.2.2.1.v,(zi r4.Spent),p6.2.2.2.2.2.2.2.2.2.2.2.2.2.2.1.v]) ?_
 refine aT ?_
 obtain⟨o8,Jb,JL⟩:=bind_some hF
 refine au ?_
 refine eX (fun f' cs'=>∃(c18:Bool)(g:Fr),c18=o8/\f'=aQ g [(3,(pz k2)),(4,(pz k3)),(6,(pz k7)),(24,(.bool c18))]/\aN cs' [aX k2 57 (zg [(zi aS.Rel),aV.v,(zi aS.Limit),(zi aS.Cost),(zi aS.Quota)]),ah aV aS.Inputs,aW k3 36 (.agg ([(.slice none 0 0),(.slice none 0 0),(.slice none 0 0),(.slice none 0 0),(zi 0),(.slice none 0 0),(zi 0),(zi 0),(.slice none 0 0),(.slice none 0 0),(zi 0),(.slice none 0 0)]:List Value).toArray),aW k7 36 (zg [p6.1.v,p6.2.2.1.v,p6.2.2.2.2.1.v,p6.2.2.2.2.2.2.1.v,(zi r4.Source.Version),p6.2.2.2.2.2.2.2.2.1.v,(zi r4.Cache.Age),(zi r4.Now),p6.2.2.2.2.2.2.2.2.2.2.1.v,p6.2.2.2.2.2.2.2.2.2.2.2.2.1.v,(zi r4.Spent),p6.2.2.2.2.2.2.2.2.2.2.2.2.2.2.1.v]),bI p6.2.1 p6.1 r4.Schema,nC p6.2.2.2.1 p6.2.2.1 r4.Methods,mi p6.2.2.2.2.2.1 p6.2.2.2.2.1 r4.Rules,eG p6.2.2.2.2.2.2.2.1 p6.2.2.2.2.2.2.1 r4.Source.Facts,ol p6.2.2.2.2.2.2.2.2.2.1 p6.2.2.2.2.2.2.2.2.1 r4.Cache.Entries,kF p6.2.2.2.2.2.2.2.2.2.2.2.1 p6.2.2.2.2.2.2.2.2.2.2.1 r4.Log,bI p6.2.2.2.2.2.2.2.2.2.2.2.2.2.1 p6.2.2.2.2.2.2.2.2.2.2.2.2.1 r4.Times,aU (aF 152 (aF 24 (aF 3 (aC az)))) p6.2.2.2.2.2.2.2.2.2.2.2.2.2.2.2 p6.2.2.2.2.2.2.2.2.2.2.2.2.2.2.1.v r4.Results]) ?_ ?_
 · replace hF:=Jb
   refine au ?_
   refine bnd hF fun lS kW hF=>bD (uG kW) (fun _=>?_)
   refine aT ?_
   rcases bE (!lS)with jr|jr
   · rw[jr]
     try rw[jr]at hF; dsimp only[aJ,aI]at hF
     exact bJ hF
   rw[jr]
   try rw[jr]at hF; dsimp only[aJ,aI]at hF
   refine bH ?_
   refine bnd hF fun jW kz hF=>bD (ae7 kz) (fun _=>?_)
   refine bg ?_
   rcases bE (!jW)with lw|lw
   · rw[lw]
     try rw[lw]at hF; dsimp only[aJ,aI]at hF
     exact bJ hF
   rw[lw]
   try rw[lw]at hF; dsimp only[aJ,aI]at hF
   exact bJ hF
 rintro _ _ ⟨c18,g27,rfl,rfl,hE⟩
 replace hF:=JL
 try dsimp only at hF
 refine bq hE ?_
 refine Ci hF (fun Cy hF=>?_) (fun Cy hF=>?_)
 · refine aT ?_
   refine As (zg [p6.1.v,p6.2.2.1.v,p6.2.2.2.2.1.v,p6.2.2.2.2.2.2.1.v,(zi r4.Source.Version),p6.2.2.2.2.2.2.2.2.1.v,(zi r4.Cache.Age),(zi r4.Now),p6.2.2.2.2.2.2.2.2.2.2.1.v,p6.2.2.2.2.2.2.2.2.2.2.2.2.1.v,(zi r4.Spent),p6.2.2.2.2.2.2.2.2.2.2.2.2.2.2.1.v]) ?_
   refine bu ?_
   cases hF
   exact gQ (p6.1,p6.2.1,p6.2.2.1,p6.2.2.2.1,p6.2.2.2.2.1,p6.2.2.2.2.2.1,p6.2.2.2.2.2.2.1,p6.2.2.2.2.2.2.2.1,p6.2.2.2.2.2.2.2.2.1,p6.2.2.2.2.2.2.2.2.2.1,p6.2.2.2.2.2.2.2.2.2.2.1,p6.2.2.2.2.2.2.2.2.2.2.2.1,p6.2.2.2.2.2.2.2.2.2.2.2.2.1,p6.2.2.2.2.2.2.2.2.2.2.2.2.2.1,p6.2.2.2.2.2.2.2.2.2.2.2.2.2.2.1,p6.2.2.2.2.2.2.2.2.2.2.2.2.2.2.2) (.cellA rfl rfl .h rfl jl.h fG.h.sz rfl rfl (.tmp rfl rfl .nil)) rfl (.sel (.cons .q4 (.cons .q4 (.cons .q4 (.cons .q4 (.cons .q4 (.cons .q4 (.cons .q4 (.cons .q4 .nil)))))))))
 refine au ?_
 refine dS [0,1,2,3,4,5,6,7] [0,1,0,4,12,31,63,127] [3,5,7] mixed (by decide+kernel) ?_
 refine du ?_
 refine dM rfl .no .q3 (fun ha hp=>fe (v:=p6.2.2.1.v) WU.h (EN ha (.tmp rfl rfl) rfl) hp.2 rfl rfl) ?_
 refine du ?_
 refine bnd hF fun qA vw hF=>cO rfl rfl .no (.rd (.t .h) rfl .nil) (.own .q3 (fun _ h=>h) .nil) (fun ha=>bU asu.h (.cons (EN ha (.tmp rfl rfl) rfl) .nil) (aeS vw)) (fun mP=>?_)
 refine iq rfl .no rfl (fun ha=>bO (g:=true) (len:=1) (parts:=[(0,.tmp 29)]) Cn.h qi.h (.cons (EN ha (.tmp rfl rfl) rfl) .nil) (vs:=[(zg [(zi qA.Rel),mP.1.v,(zi qA.Limit),(zi qA.Cost),(zi qA.Quota)])]) rfl rfl rfl (by intro v hv; simp at hv; rcases hv with rfl<;>rfl)) (fun k22=>?_)
 refine iR (.cons .h (.cons .h .nil)) (bQ (Ro:=qL) (E:=57) (F:=(mP.2++[])) (xs:=([qA]:List Method)) (d_ aji bP cK) rfl rfl) ?_
 refine bnd hF fun z23 hx24 hF=>cO rfl rfl .no (.cons .q6 (.cons .h .nil)) (.dep rfl (.dep rfl .nil)) (fun ha=>dV (Ro:=qL) Cn.h WV qi.h rfl rfl rfl (EN ha (.tmp rfl rfl) rfl) (EN ha (.tmp rfl rfl) rfl) hx24 fw) (fun p25=>?_)
 refine du ?_
 refine cO rfl rfl .no (.cons .q4 .nil) (.dep rfl (.dep rfl .nil)) (fun ha=>gz (e':=(zg [p6.1.v,p25.1.v,p6.2.2.2.2.1.v,p6.2.2.2.2.2.2.1.v,(zi r4.Source.Version),p6.2.2.2.2.2.2.2.2.1.v,(zi r4.Cache.Age),(zi r4.Now),p6.2.2.2.2.2.2.2.2.2.2.1.v,p6.2.2.2.2.2.2.2.2.2.2.2.2.1.v,(zi r4.Spent),p6.2.2.2.2.2.2.2.2.2.2.2.2.2.2.1.v])) awg.h.sz (EN ha (.tmp rfl rfl) rfl) (EN ha (.tmp rfl rfl) rfl) rfl rfl rfl rfl rfl) (fun _=>?_)
 refine du ?_
 refine aT ?_
 refine As (zg [p6.1.v,p25.1.v,p6.2.2.2.2.1.v,p6.2.2.2.2.2.2.1.v,(zi r4.Source.Version),p6.2.2.2.2.2.2.2.2.1.v,(zi r4.Cache.Age),(zi r4.Now),p6.2.2.2.2.2.2.2.2.2.2.1.v,p6.2.2.2.2.2.2.2.2.2.2.2.2.1.v,(zi r4.Spent),p6.2.2.2.2.2.2.2.2.2.2.2.2.2.2.1.v]) ?_
 refine bu ?_
 cases hF
 exact gQ (p6.1,p6.2.1,p25.1,p25.2,p6.2.2.2.2.1,p6.2.2.2.2.2.1,p6.2.2.2.2.2.2.1,p6.2.2.2.2.2.2.2.1,p6.2.2.2.2.2.2.2.2.1,p6.2.2.2.2.2.2.2.2.2.1,p6.2.2.2.2.2.2.2.2.2.2.1,p6.2.2.2.2.2.2.2.2.2.2.2.1,p6.2.2.2.2.2.2.2.2.2.2.2.2.1,p6.2.2.2.2.2.2.2.2.2.2.2.2.2.1,p6.2.2.2.2.2.2.2.2.2.2.2.2.2.2.1,p6.2.2.2.2.2.2.2.2.2.2.2.2.2.2.2) (.cellA rfl rfl .h rfl jl.h fG.h.sz rfl rfl (.tmp rfl rfl .nil)) rfl (.sel (.cons .q5 (.cons .q2 (.cons .q4 (.cons .q4 (.cons .q4 (.cons .q4 (.cons .q4 (.cons .q4 .nil)))))))))
def GJ(ak:bv)(ag:List Int)(lG:List df)(qW:Int×bv)(qX:Int×bv):Nat->Int->Int->(List Int)->Int->Option (Int×Int×(List df))
 |0,_,_,_,_=>none
 |Jc+1,c148,MN,ET,vB=>(ix ag qX.1).bind fun ajG=>
   if (decide ((vB:Int)<ajG))then (
     (ix ag qW.1).bind fun x168=>
     (kw (⟨ak.b,c148,MN⟩:bv) x168).bind fun MO=>
     (app ET ([MO.1]:List Int)).bind fun ajH=>
     GJ ak ag lG qW qX Jc MO.2.i MO.2.h ajH (IntKind.i64.wrap (vB+1)))
   else (
     (app lG ([(⟨qW.1,qX.1,ET⟩:df)]:List df)).bind fun z182=>
     some (c148,MN,z182))
def GK(ak:bv)(ag:List Int)(fuel:Nat):Nat->Int->Int->(List df)->Int->Option ((List df)×bv)
 |0,_,_,_,_=>none
 |Jd+1,wW,Nq,lG,EU=>if (decide ((0:Int)<EU))then (
     ((kw (⟨ak.b,wW,Nq⟩:bv) (ag.length:Int)).bind fun qW=>
       (kw (⟨ak.b,qW.2.i,qW.2.h⟩:bv) (ag.length:Int)).bind fun qX=>
       GJ ak ag lG qW qX fuel qX.2.i qX.2.h ([]:List Int) 0).bind fun o111=>
     match o111 with
     |(Rx,Ry,Rz)=>GK ak ag fuel Jd Rx Ry Rz (IntKind.i64.wrap (EU-1)))
   else (
     some (lG,(⟨ak.b,wW,Nq⟩:bv)))
def U5(fuel:Nat)(ak:bv)(ag:List Int):Option ((List df)×bv):=
 (kw ak 4).bind fun r2=>
 GK ak ag fuel ((r2.1-0).toNat+2) r2.2.i r2.2.h ([]:List df) r2.1
theorem amQ{fuel cz:Nat}{ak:bv}{ae:Sv}{ag:List Int}{ax:Sv}{R:(List df)×bv}(hF:U5 fuel ak ag=some R):
   Fw.Spec Tryz.prog 96 [(pz cz),ax.v] [aW cz 77 (zg [ae.v,(zi ak.i),(zi ak.h)]),ku ae ak.b,ah ax ag] (fun p:Sv×List Nat=>p.1.v) (fun p=>[mi p.2 p.1 R.1,aW cz 77 (zg [ae.v,(zi R.2.i),(zi R.2.h)])]):=by
 refine Se 53 Tryz.func96 [.tmp 4] ?_
 intro H0 F0
 unfold U5 at hF
 refine bg ?_
 refine dF rfl (bO (g:=true) EQ.h xU.h .nil (vs:=[]) rfl rfl rfl (by simp)) (fun k1=>?_)
 refine dP (.cons .h .nil) (bQ (Ro:=oJ) (E:=98) (F:=[]) (xs:=([]:List df)) bP rfl rfl) ?_
 refine aY ?_
 refine bnd hF fun r2 hx3 hF=>gy (kZ hx3) (fun p4=>?_)
 refine aT ?_
 refine bi (bT (m:=((r2.1-0).toNat+2)) (fun Jd f' cs'=>∃(g:Fr)(wW Nq:Int)(lG:List df)(EU:Int)(yj:Sv)(Xd:List Nat),f'=aQ g [(0,(pz cz)),(1,ax.v),(5,yj.v),(6,(zi EU))]/\aN cs' [aW cz 77 (zg [ae.v,(zi wW),(zi Nq)]),ku ae ak.b,ah ax ag,mi Xd yj lG]/\GK ak ag fuel Jd wW Nq lG EU=some R) ⟨_,_,_,_,_,⟨(some ⟨k1,0,none⟩),0,1⟩,(k1::[]),aA,ay,hF⟩ ?_)
 rintro Jd _ _ ⟨aCK,wW,Nq,lG,EU,yj,Xd,rfl,hE,hF⟩
 refine bq hE ?_
 rcases Jd with _|Jd
 · rw[GK]at hF
   exact absurd hF (by simp)
 rw[GK]at hF
 refine aY ?_
 refine Ci hF (fun atj hF=>?_) (fun atj hF=>?_)
 · refine au ?_
   obtain⟨o111,aqd,atl⟩:=bind_some hF
   refine iC (fun f' cs'=>∃(Rx Ry:Int)(Rz:List df)(Xe:Sv)(ach:List Nat)(g:Fr),o111=(Rx,Ry,Rz)/\f'=aQ g [(0,(pz cz)),(1,ax.v),(5,Xe.v),(6,(zi EU))]/\aN cs' [aW cz 77 (zg [ae.v,(zi Rx),(zi Ry)]),ku ae ak.b,ah ax ag,mi ach Xe Rz]) ?_ ?_
   · replace hF:=aqd
     refine bi (dY (Cm (pz cz) rfl rfl ?_))
     refine aT ?_
     refine bnd hF fun qW hx114 hF=>gy (kZ hx114) (fun aCL=>?_)
     refine bu ?_
     refine bnd hF fun qX atm hF=>gy (kZ atm) (fun aCM=>?_)
     refine aP (iB xU.h rfl (vs:=[(zi qW.1),(zi qX.1)]) b_ (cells:=[(zi qW.1),(zi qX.1),(.slice none 0 0)]) rfl) ?_
     refine dX (fun ajI=>?_)
     refine As (zg [(zi qW.1),(zi qX.1),(.slice none 0 0)]) ?_
     refine aY ?_
     refine bi (bT (m:=fuel) (fun Jc f' cs'=>∃(g:Fr)(c148 MN:Int)(ET:List Int)(vB:Int)(Xf:Sv)(aci:List Nat),f'=aQ g [(0,(pz cz)),(1,ax.v),(5,yj.v),(6,(zi EU)),(7,(pz ajI)),(8,(zi vB))]/\aN cs' [aW cz 77 (zg [ae.v,(zi c148),(zi MN)]),ku ae ak.b,ah ax ag,mi Xd yj lG,aW ajI 98 (zg [(zi qW.1),(zi qX.1),Xf.v]),bI aci Xf ET]/\GJ ak ag lG qW qX Jc c148 MN ET vB=some o111) ⟨_,_,_,_,_,⟨none,0,0⟩,[],aA,(.conv .nil (gT (Ro:=(aC az)) (E:=3)) (.cons .nil) ay),hF⟩ ?_)
     rintro Jc _ _ ⟨aCN,c148,MN,ET,vB,Xf,aci,rfl,hE,hF⟩
     refine bq hE ?_
     rcases Jc with _|Jc
     · rw[GJ]at hF
       exact absurd hF (by simp)
     rw[GJ]at hF
     refine bB ?_
     refine zI hF fun ajG aAE atn hF=>?_
     refine Ai atn (fun aCO aCP=>?_)
     refine Al dN ?_
     refine aT ?_
     refine Ci hF (fun ato hF=>?_) (fun ato hF=>?_)
     · refine bH ?_
       refine zI hF fun x168 aAF atp hF=>?_
       refine Ai atp (fun aCQ aCR=>?_)
       refine Al dN ?_
       refine bnd hF fun MO atq hF=>gy (kZ atq) (fun aCS=>?_)
       refine bB ?_
       refine dF rfl (bO (g:=true) dh.h dx.h b_ (vs:=[(zi MO.1)]) rfl rfl rfl (by intro v hv; simp at hv; rcases hv with rfl<;>rfl)) (fun aCT=>?_)
       refine dP (.cons .h .nil) (bQ (Ro:=(aC az)) (E:=3) (F:=([]++[])) (xs:=([MO.1]:List Int)) (d_ (jh (fun _=>rfl)) bP cK) rfl rfl) ?_
       refine bnd hF fun ajH atr hF=>ed (.cons .q8 (.cons .h .nil)) (dV (Ro:=(aC az)) dh.h iQ dx.h rfl rfl rfl (.tmp rfl rfl) (.tmp rfl rfl) atr fw) (fun acj=>?_)
       refine au ?_
       refine As (zg [(zi qW.1),(zi qX.1),acj.1.v]) ?_
       refine bB ?_
       exact⟨Jc,bX _,_,_,_,_,_,acj.1,acj.2,aA,ay,hF⟩
     refine bH ?_
     refine dF rfl (bO (g:=true) EQ.h xU.h b_ (vs:=[(zg [(zi qW.1),(zi qX.1),Xf.v])]) rfl rfl rfl (by intro v hv; simp at hv; rcases hv with rfl<;>rfl)) (fun aCU=>?_)
     refine dP (.cons .h (.cons .q6 .nil)) (bQ (Ro:=oJ) (E:=98) (F:=(aci++[])) (xs:=([(⟨qW.1,qX.1,ET⟩:df)]:List df)) (d_ (abN (a:=(⟨qW.1,qX.1,ET⟩:df))) bP cK) rfl rfl) ?_
     refine bnd hF fun z182 att hF=>ed (.cons .q5 (.cons .h .nil)) (dV (Ro:=oJ) EQ.h abO xU.h rfl rfl rfl (.tmp rfl rfl) (.tmp rfl rfl) att fw) (fun ajJ=>?_)
     refine aT ?_
     cases hF
     exact⟨_,_,_,ajJ.1,ajJ.2,_,rfl,aA,ay⟩
   rintro _ _ ⟨Rx,Ry,Rz,Xe,ach,aCV,rfl,rfl,hE⟩
   replace hF:=atl
   try dsimp only at hF
   refine bq hE ?_
   refine aY ?_
   exact⟨Jd,bX _,_,_,_,_,_,Xe,ach,aA,ay,hF⟩
 refine gB ?_
 cases hF
 exact Er (yj,Xd)
def Pm(aa:aZ)(di:df):Option (aZ×Bool):=
 (AB aa).bind fun r4=>
 ((qC aa).bind fun lS=>
   bif (!lS)then (some true)
   else ((Ir aa.Schema di).bind fun jW=>
     bif (!jW)then (some true)
     else (some (decide ((4:Int)<=(aa.Rules.length:Int)))))).bind fun o8=>
 match o8 with
 |c18=>if c18 then (
     some (r4,false))
   else (
     (app ([]:List Int) di.Map).bind fun z20=>
     (app r4.Rules ([(⟨di.From,di.To,z20⟩:df)]:List df)).bind fun z24=>
     some ((⟨r4.Schema,r4.Methods,z24,r4.Source,r4.Cache,r4.Now,r4.Log,r4.Times,r4.Spent,r4.Results⟩:aZ),true))
theorem ant{aa:aZ}{ae aO cu dA dw dB dE dG:Sv}{di:df}{nG:Sv}{R:aZ×Bool}(hF:Pm aa di=some R):
   Fw.Spec Tryz.prog 97 [(zg [ae.v,aO.v,cu.v,dA.v,(zi aa.Source.Version),dw.v,(zi aa.Cache.Age),(zi aa.Now),dB.v,dE.v,(zi aa.Spent),dG.v]),(zg [(zi di.From),(zi di.To),nG.v])] [ah ae aa.Schema,bV aO aa.Methods,eY cu aa.Rules,bG dA aa.Source.Facts,dK dw aa.Cache.Entries,eD dB aa.Log,ah dE aa.Times,bC (aD 152 (aD 24 (aD 3 az))) dG.v aa.Results,ah nG di.Map] (fun p:Sv×List Nat×Sv×List Nat×Sv×List Nat×Sv×List Nat×Sv×List Nat×Sv×List Nat×Sv×List Nat×Sv×List Nat=>(.tuple [(zg [p.1.v,p.2.2.1.v,p.2.2.2.2.1.v,p.2.2.2.2.2.2.1.v,(zi R.1.Source.Version),p.2.2.2.2.2.2.2.2.1.v,(zi R.1.Cache.Age),(zi R.1.Now),p.2.2.2.2.2.2.2.2.2.2.1.v,p.2.2.2.2.2.2.2.2.2.2.2.2.1.v,(zi R.1.Spent),p.2.2.2.2.2.2.2.2.2.2.2.2.2.2.1.v]),(.bool R.2)].toArray)) (fun p=>[bI p.2.1 p.1 R.1.Schema,nC p.2.2.2.1 p.2.2.1 R.1.Methods,mi p.2.2.2.2.2.1 p.2.2.2.2.1 R.1.Rules,eG p.2.2.2.2.2.2.2.1 p.2.2.2.2.2.2.1 R.1.Source.Facts,ol p.2.2.2.2.2.2.2.2.2.1 p.2.2.2.2.2.2.2.2.1 R.1.Cache.Entries,kF p.2.2.2.2.2.2.2.2.2.2.2.1 p.2.2.2.2.2.2.2.2.2.2.1 R.1.Log,bI p.2.2.2.2.2.2.2.2.2.2.2.2.2.1 p.2.2.2.2.2.2.2.2.2.2.2.2.1 R.1.Times,aU (aF 152 (aF 24 (aF 3 (aC az)))) p.2.2.2.2.2.2.2.2.2.2.2.2.2.2.2 p.2.2.2.2.2.2.2.2.2.2.2.2.2.2.1.v R.1.Results]):=by
 refine Se 41 Tryz.func97 [.cell 4 36,.tmp 5] ?_
 intro H0 F0
 unfold Pm at hF
 refine au ?_
 refine bN (fun k1=>?_)
 refine bN (fun k2=>?_)
 refine dX (fun k3=>?_)
 refine bg ?_
 refine bnd hF fun r4 hx5 hF=>Ti (Oq hx5) (fun p6=>?_)
 refine dX (fun k7=>?_)
 refine As (zg [p6.1.v,p6.2.2.1.v,p6.2.2.2.2.1.v,p6.2.2.2.2.2.2.1.v,(zi r4.Source.Version),p6.2.2.2.2.2.2.2.2.1.v,(zi r4.Cache.Age),(zi r4.Now),p6.2.2.2.2.2.2.2.2.2.2.1.v,p6.2.2.2.2.2.2.2.2.2.2.2.2.1.v,(zi r4.Spent),p6.2.2.2.2.2.2.2.2.2.2.2.2.2.2.1.v]) ?_
 refine aT ?_
 obtain⟨o8,Jb,JL⟩:=bind_some hF
 refine au ?_
 refine eX (fun f' cs'=>∃(c18:Bool)(g:Fr),c18=o8/\f'=aQ g [(3,(pz k2)),(4,(pz k3)),(6,(pz k7)),(24,(.bool c18))]/\aN cs' [aX k2 98 (zg [(zi di.From),(zi di.To),nG.v]),ah nG di.Map,aW k3 36 (.agg ([(.slice none 0 0),(.slice none 0 0),(.slice none 0 0),(.slice none 0 0),(zi 0),(.slice none 0 0),(zi 0),(zi 0),(.slice none 0 0),(.slice none 0 0),(zi 0),(.slice none 0 0)]:List Value).toArray),aW k7 36 (zg [p6.1.v,p6.2.2.1.v,p6.2.2.2.2.1.v,p6.2.2.2.2.2.2.1.v,(zi r4.Source.Version),p6.2.2.2.2.2.2.2.2.1.v,(zi r4.Cache.Age),(zi r4.Now),p6.2.2.2.2.2.2.2.2.2.2.1.v,p6.2.2.2.2.2.2.2.2.2.2.2.2.1.v,(zi r4.Spent),p6.2.2.2.2.2.2.2.2.2.2.2.2.2.2.1.v]),bI p6.2.1 p6.1 r4.Schema,nC p6.2.2.2.1 p6.2.2.1 r4.Methods,mi p6.2.2.2.2.2.1 p6.2.2.2.2.1 r4.Rules,eG p6.2.2.2.2.2.2.2.1 p6.2.2.2.2.2.2.1 r4.Source.Facts,ol p6.2.2.2.2.2.2.2.2.2.1 p6.2.2.2.2.2.2.2.2.1 r4.Cache.Entries,kF p6.2.2.2.2.2.2.2.2.2.2.2.1 p6.2.2.2.2.2.2.2.2.2.2.1 r4.Log,bI p6.2.2.2.2.2.2.2.2.2.2.2.2.2.1 p6.2.2.2.2.2.2.2.2.2.2.2.2.1 r4.Times,aU (aF 152 (aF 24 (aF 3 (aC az)))) p6.2.2.2.2.2.2.2.2.2.2.2.2.2.2.2 p6.2.2.2.2.2.2.2.2.2.2.2.2.2.2.1.v r4.Results]) ?_ ?_
 · replace hF:=Jb
   refine au ?_
   refine bnd hF fun lS kW hF=>bD (uG kW) (fun _=>?_)
   refine aT ?_
   rcases bE (!lS)with jr|jr
   · rw[jr]
     try rw[jr]at hF; dsimp only[aJ,aI]at hF
     exact bJ hF
   rw[jr]
   try rw[jr]at hF; dsimp only[aJ,aI]at hF
   refine bH ?_
   refine bnd hF fun jW kz hF=>bD (afQ kz) (fun _=>?_)
   refine bg ?_
   rcases bE (!jW)with lw|lw
   · rw[lw]
     try rw[lw]at hF; dsimp only[aJ,aI]at hF
     exact bJ hF
   rw[lw]
   try rw[lw]at hF; dsimp only[aJ,aI]at hF
   exact bJ hF
 rintro _ _ ⟨c18,g28,rfl,rfl,hE⟩
 replace hF:=JL
 try dsimp only at hF
 refine bq hE ?_
 refine Ci hF (fun Je hF=>?_) (fun Je hF=>?_)
 · refine aT ?_
   refine As (zg [p6.1.v,p6.2.2.1.v,p6.2.2.2.2.1.v,p6.2.2.2.2.2.2.1.v,(zi r4.Source.Version),p6.2.2.2.2.2.2.2.2.1.v,(zi r4.Cache.Age),(zi r4.Now),p6.2.2.2.2.2.2.2.2.2.2.1.v,p6.2.2.2.2.2.2.2.2.2.2.2.2.1.v,(zi r4.Spent),p6.2.2.2.2.2.2.2.2.2.2.2.2.2.2.1.v]) ?_
   refine bu ?_
   cases hF
   exact gQ (p6.1,p6.2.1,p6.2.2.1,p6.2.2.2.1,p6.2.2.2.2.1,p6.2.2.2.2.2.1,p6.2.2.2.2.2.2.1,p6.2.2.2.2.2.2.2.1,p6.2.2.2.2.2.2.2.2.1,p6.2.2.2.2.2.2.2.2.2.1,p6.2.2.2.2.2.2.2.2.2.2.1,p6.2.2.2.2.2.2.2.2.2.2.2.1,p6.2.2.2.2.2.2.2.2.2.2.2.2.1,p6.2.2.2.2.2.2.2.2.2.2.2.2.2.1,p6.2.2.2.2.2.2.2.2.2.2.2.2.2.2.1,p6.2.2.2.2.2.2.2.2.2.2.2.2.2.2.2) (.cellA rfl rfl .h rfl jl.h fG.h.sz rfl rfl (.tmp rfl rfl .nil)) rfl (.sel (.cons .q4 (.cons .q4 (.cons .q4 (.cons .q4 (.cons .q4 (.cons .q4 (.cons .q4 (.cons .q4 .nil)))))))))
 refine au ?_
 refine dS [0,1,2,3,4,5,6,7,8,9,10,11,12,13,14] [0,1,0,4,0,16,0,0,128,448,1020,2044,4095,8191,16383] [9,12,14] mixed (by decide+kernel) ?_
 refine du ?_
 refine dM rfl .no .q3 (fun ha hp=>fe (v:=p6.2.2.2.2.1.v) abM.h (EN ha (.tmp rfl rfl) rfl) hp.2 rfl rfl) ?_
 refine nQ ?_
 refine iq rfl .no rfl (fun ha=>bO (g:=true) (len:=0) (parts:=[]) dh.h dx.h .nil (vs:=[]) rfl rfl rfl (by simp)) (fun k19=>?_)
 refine iR (.cons .h .nil) (bQ (Ro:=(aC az)) (E:=3) (F:=[]) (xs:=([]:List Int)) bP rfl rfl) ?_
 refine bR ?_
 refine bnd hF fun z20 lv hF=>cO rfl rfl .no (.cons .h (.rd (.t .h) rfl .nil)) (.dep rfl (.own .q3 (fun _ h=>h) .nil)) (fun ha=>dV (Ro:=(aC az)) dh.h iQ dx.h rfl rfl rfl (EN ha (.tmp rfl rfl) rfl) (EN ha (.tmp rfl rfl) rfl) lv mg) (fun zZ=>?_)
 refine bW rfl .no (fun ha=>iB xU.h rfl (vs:=[(zi di.From),(zi di.To),zZ.1.v]) (.cons (EN ha (.tmp rfl rfl) rfl) (.cons (EN ha (.tmp rfl rfl) rfl) (.cons (EN ha (.tmp rfl rfl) rfl) .nil))) (cells:=[(zi di.From),(zi di.To),zZ.1.v]) rfl) ?_
 refine iq rfl .no rfl (fun ha=>bO (g:=true) (len:=1) (parts:=[(0,.tmp 36)]) EQ.h xU.h (.cons (EN ha (.tmp rfl rfl) rfl) .nil) (vs:=[(zg [(zi di.From),(zi di.To),zZ.1.v])]) rfl rfl rfl (by intro v hv; simp at hv; rcases hv with rfl<;>rfl)) (fun k23=>?_)
 refine iR (.cons .h (.cons .h .nil)) (bQ (Ro:=oJ) (E:=98) (F:=(zZ.2++[])) (xs:=([(⟨di.From,di.To,z20⟩:df)]:List df)) (d_ (abN (a:=(⟨di.From,di.To,z20⟩:df))) bP cK) rfl rfl) ?_
 refine bnd hF fun z24 hx25 hF=>cO rfl rfl .no (.cons .q7 (.cons .h .nil)) (.dep rfl (.dep rfl (.dep rfl .nil))) (fun ha=>dV (Ro:=oJ) EQ.h abO xU.h rfl rfl rfl (EN ha (.tmp rfl rfl) rfl) (EN ha (.tmp rfl rfl) rfl) hx25 fw) (fun p26=>?_)
 refine du ?_
 refine cO rfl rfl .no (.cons .q4 .nil) (.dep rfl (.dep rfl (.dep rfl .nil))) (fun ha=>gz (e':=(zg [p6.1.v,p6.2.2.1.v,p26.1.v,p6.2.2.2.2.2.2.1.v,(zi r4.Source.Version),p6.2.2.2.2.2.2.2.2.1.v,(zi r4.Cache.Age),(zi r4.Now),p6.2.2.2.2.2.2.2.2.2.2.1.v,p6.2.2.2.2.2.2.2.2.2.2.2.2.1.v,(zi r4.Spent),p6.2.2.2.2.2.2.2.2.2.2.2.2.2.2.1.v])) ajh.h.sz (EN ha (.tmp rfl rfl) rfl) (EN ha (.tmp rfl rfl) rfl) rfl rfl rfl rfl rfl) (fun _=>?_)
 refine du ?_
 refine aT ?_
 refine As (zg [p6.1.v,p6.2.2.1.v,p26.1.v,p6.2.2.2.2.2.2.1.v,(zi r4.Source.Version),p6.2.2.2.2.2.2.2.2.1.v,(zi r4.Cache.Age),(zi r4.Now),p6.2.2.2.2.2.2.2.2.2.2.1.v,p6.2.2.2.2.2.2.2.2.2.2.2.2.1.v,(zi r4.Spent),p6.2.2.2.2.2.2.2.2.2.2.2.2.2.2.1.v]) ?_
 refine bu ?_
 cases hF
 exact gQ (p6.1,p6.2.1,p6.2.2.1,p6.2.2.2.1,p26.1,p26.2,p6.2.2.2.2.2.2.1,p6.2.2.2.2.2.2.2.1,p6.2.2.2.2.2.2.2.2.1,p6.2.2.2.2.2.2.2.2.2.1,p6.2.2.2.2.2.2.2.2.2.2.1,p6.2.2.2.2.2.2.2.2.2.2.2.1,p6.2.2.2.2.2.2.2.2.2.2.2.2.1,p6.2.2.2.2.2.2.2.2.2.2.2.2.2.1,p6.2.2.2.2.2.2.2.2.2.2.2.2.2.2.1,p6.2.2.2.2.2.2.2.2.2.2.2.2.2.2.2) (.cellA rfl rfl .h rfl jl.h fG.h.sz rfl rfl (.tmp rfl rfl .nil)) rfl (.sel (.cons .q5 (.cons .q5 (.cons .q2 (.cons .q4 (.cons .q4 (.cons .q4 (.cons .q4 (.cons .q4 .nil)))))))))
def Ht(ak:bv)(ag:List Int)(xz:Int)(r2:Int×bv):Nat->Int->Int->(List Int)->Int->Option (Fact×bv)
 |0,_,_,_,_=>none
 |z_+1,c28,lH,qz,j_=>(ix ag r2.1).bind fun Nr=>
   if (decide ((j_:Int)<Nr))then (
     (kw ({b:=ak.b,i:=c28,h:=lH}:bv) xz).bind fun nV=>
     (app qz ([nV.1]:List Int)).bind fun z52=>
     Ht ak ag xz r2 z_ nV.2.i nV.2.h z52 (IntKind.i64.wrap (j_+1)))
   else (
     some (({Rel:=r2.1,Values:=qz}:Fact),({b:=ak.b,i:=c28,h:=lH}:bv)))
def Vk(fuel:Nat)(ak:bv)(ag:List Int)(xz:Int):Option (Fact×bv):=
 (kw ak (ag.length:Int)).bind fun r2=>
 Ht ak ag xz r2 fuel r2.2.i r2.2.h ([]:List Int) 0
theorem anQ{fuel cz:Nat}{ak:bv}{ae:Sv}{ag:List Int}{ax:Sv}{xz:Int}{R:Fact×bv}(hF:Vk fuel ak ag xz=some R):
   Fw.Spec Tryz.prog 135 [(.pointer (some ⟨cz,0,some 0⟩)),ax.v,(.int .i64 xz)] [aW cz 77 (.agg [ae.v,(.int .i64 ak.i),(.int .i64 ak.h)].toArray),bC (aD 5 wH) ae.v ak.b,bC (aD 3 az) ax.v ag] (fun p:Sv×List Nat=>(.agg [(.int .i64 R.1.Rel),p.1.v].toArray)) (fun p=>[aU (aF 3 (aC az)) p.2 p.1.v R.1.Values,aW cz 77 (.agg [ae.v,(.int .i64 R.2.i),(.int .i64 R.2.h)].toArray)]):=by
 refine HY (n:=34) Tryz.func135 rfl rfl (rs:=[.cell 6 70]) rfl rfl rfl ?_
 intro H0 F0
 unfold Vk at hF
 refine dY (dF rfl (sF (g:=true) dZ.h rfl rfl) (fun k1=>?_))
 refine eT (dY (Cm (.pointer (some ⟨cz,0,some 0⟩)) rfl rfl ?_))
 refine Cm ax.v rfl rfl ?_
 refine fo (.t (.t (.t .h))) (fun hp=>sO (l:=ag.length) dh.h (.tmp rfl rfl) (zm hp)) ?_
 obtain⟨r2,hx3,hF⟩:=bind_some hF
 refine ed (.cons (.t .h) (.rd (.t .h) rfl .nil)) (bU Cj.h (.cons (.tmp rfl rfl) (.cons (.tmp rfl rfl) .nil)) (@kZ cz ak ae (ag.length:Int) _ hx3)) (fun p4=>?_)
 refine aP (iB dZ.h rfl (vs:=[(.int .i64 r2.1)]) (.cons (.tmp rfl rfl) .nil) (cells:=[(.int .i64 r2.1),(.slice none 0 0)]) rfl) ?_
 refine dF rfl (sF (g:=true) dZ.h rfl rfl) (fun k5=>?_)
 refine ed (.cons .h .nil) (gz (e':=(.agg [(.int .i64 r2.1),(.slice none 0 0)].toArray)) (v:=(.agg [(.int .i64 r2.1),(.slice none 0 0)].toArray)) dZ.h.sz (.tmp rfl rfl) (.tmp rfl rfl) rfl rfl rfl rfl rfl) (fun _=>?_)
 refine eT (lX (dY (aP (jU (v:=(.int .i64 0)) (.int _ _)) ?_)))
 refine eT (bi (bT (m:=fuel) (fun z_ f' cs'=>∃(g:Fr)(c28:Int)(lH:Int)(qz:List Int)(j_:Int)(v31:Sv)(F32:List Nat),f'=aQ g [(0,(.pointer (some ⟨cz,0,some 0⟩))),(1,ax.v),(2,(.int .i64 xz)),(6,(.pointer (some ⟨k1,0,some 0⟩))),(7,(.pointer (some ⟨k5,0,some 0⟩))),(8,(.int .i64 j_))]/\aN cs' [aW cz 77 (.agg [ae.v,(.int .i64 c28),(.int .i64 lH)].toArray),bC (aD 5 wH) ae.v ak.b,bC (aD 3 az) ax.v ag,aW k1 70 (.agg [(.int .i64 0),(.slice none 0 0)].toArray),aW k5 70 (.agg [(.int .i64 r2.1),v31.v].toArray),aU (aF 3 (aC az)) F32 v31.v qz]/\Ht ak ag xz r2 z_ c28 lH qz j_=some R) ⟨_,_,_,_,_,⟨none,0,0⟩,[],(bZ.cons rfl (bZ.cons rfl (bZ.cons rfl (bZ.cons rfl (bZ.cons rfl (bZ.cons rfl (bZ.nil))))))).eq,(.conv .nil (gT (Ro:=(aC az)) (E:=3)) (.cons .nil) (.sel (.cons (.t (.t .h)) (.rd (.t (.t (.t .h))) rfl (.rd (.t (.t (.t (.t .h)))) rfl (.cons (.t (.t .h)) (.cons (.t .h) (.cons .h .nil)))))))),hF⟩ ?_))
 clear hF
 rintro z_ _ _ ⟨g35,c28,lH,qz,j_,v31,F32,rfl,hE,hF⟩
 refine bq hE ?_
 clear hE
 rcases z_ with _|z_
 · rw[Ht]at hF
   exact absurd hF (by simp)
 rw[Ht]at hF
 refine lX (dY (Cm (.int .i64 j_) rfl rfl ?_))
 refine Cm ax.v rfl rfl ?_
 refine aP (iY (off:=0) ap8.h (.tmp rfl rfl)) ?_
 refine fo (.t (.t (.t (.t .h)))) (fun hp=>fe (v:=(.int .i64 r2.1)) pU.h (.tmp rfl rfl) hp.2 rfl rfl) ?_
 obtain⟨Nr,ql,hF⟩:=bind_some hF
 obtain⟨axg,vz⟩:=Ev ql
 refine L8 (a:=Nr) dh.h dx.h.sz (.tmp rfl rfl) (.tmp rfl rfl) (.t (.t .h)) axg vz (fun k46 j47=>?_)
 refine aav (w:=(.int .i64 Nr)) pU.h (.tmp rfl rfl) .h dN ?_
 refine aP (EB (i:=j_) (j:=Nr) (.tmp rfl rfl) (.tmp rfl rfl)) ?_
 refine eT (nY (b:=(decide ((j_:Int)<Nr))) (.tmp rfl rfl) (fun RA=>?_) (fun RA=>?_))
 · rw[if_pos RA]at hF
   refine rG (Vr (dY (Cm (.pointer (some ⟨cz,0,some 0⟩)) rfl rfl ?_)))
   refine Cm (.int .i64 xz) rfl rfl ?_
   obtain⟨nV,qR,hF⟩:=bind_some hF
   refine ed (.cons (.t .h) (.rd (.t .h) rfl .nil)) (bU Cj.h (.cons (.tmp rfl rfl) (.cons (.tmp rfl rfl) .nil)) (@kZ cz ({b:=ak.b,i:=c28,h:=lH}:bv) ae xz _ qR)) (fun p50=>?_)
   refine Ca (.int .i64 nV.1) rfl rfl ?_
   refine eT (xh (aP (iY (off:=1) ahI.h (.tmp rfl rfl)) ?_))
   refine fo (.t (.t (.t (.t (.t .h))))) (fun hp=>fe (v:=v31.v) iA.h (.tmp rfl rfl) hp.2 rfl rfl) ?_
   refine Cm (.int .i64 nV.1) rfl rfl ?_
   refine dF rfl (bO (g:=true) dh.h dx.h (.cons (.tmp rfl rfl) .nil) (vs:=[(.int .i64 nV.1)]) rfl rfl rfl (by intro v hv; simp at hv; rcases hv with rfl<;>rfl)) (fun tQ=>?_)
   refine LX (.cons .h .nil) (bQ (Ro:=(aC az)) (E:=3) (F:=([]++[])) (xs:=([nV.1]:List Int)) (d_ (jh (fun _=>rfl)) bP cK) rfl rfl) cK ?_
   obtain⟨z52,MP,hF⟩:=bind_some hF
   refine ed (.cons (.t (.t (.t (.t (.t (.t (.t .h))))))) (.cons .h .nil)) (dV (Ro:=(aC az)) dh.h iQ dx.h rfl rfl rfl (.tmp rfl rfl) (.tmp rfl rfl) MP fw) (fun p54=>?_)
   refine aP (iY (off:=1) ahI.h (.tmp rfl rfl)) ?_
   refine ed (.cons (.t (.t (.t (.t (.t (.t .h)))))) .nil) (gz (e':=(.agg [(.int .i64 r2.1),p54.1.v].toArray)) pE.h.sz (.tmp rfl rfl) (.tmp rfl rfl) rfl rfl rfl rfl rfl) (fun _=>?_)
   refine eT (xh (Cm (.int .i64 j_) rfl rfl ?_))
   refine aP (qF (i:=j_) (j:=1) (.tmp rfl rfl) (.int _ _)) ?_
   refine Ca (.int .i64 (IntKind.i64.wrap (j_+1))) rfl rfl ?_
   refine eT ?_
   exact⟨z_,Nat.lt_succ_self _,_,_,_,_,_,p54.1,p54.2,(bZ.cons rfl (bZ.cons rfl (bZ.cons rfl (bZ.cons rfl (bZ.cons rfl (bZ.cons rfl (bZ.nil))))))).eq,(.sel (.cons (.t (.t .h)) (.rd (.t (.t (.t .h))) rfl (.rd (.t (.t (.t (.t .h)))) rfl (.cons (.t (.t (.t (.t (.t .h))))) (.cons .h (.cons .h .nil))))))),hF⟩
 rw[if_neg (by rw[RA]; exact Bool.false_ne_true)]at hF
 refine PH ?_
 iterate 2 refine K5 ?_
 refine Pv (dY (fo (.t (.t (.t (.t (.t .h))))) (fun hp=>h_ u7.h dZ.h.sz rfl (.tmp rfl rfl) hp.2 rfl) ?_))
 refine ed (.cons (.t (.t (.t (.t .h)))) .nil) (gz (e':=(.agg [(.int .i64 r2.1),v31.v].toArray)) (v:=(.agg [(.int .i64 r2.1),v31.v].toArray)) dZ.h.sz (.tmp rfl rfl) (.tmp rfl rfl) rfl rfl rfl rfl rfl) (fun _=>?_)
 refine eT (sN ?_)
 obtain rfl:=Option.some.inj hF
 exact gQ (v31,F32) (.cellA rfl rfl .h rfl u7.h dZ.h.sz rfl rfl .nil) rfl (.sel (.cons (.t (.t (.t (.t (.t (.t .h)))))) (.cons (.t (.t .h)) .nil)))
def Eb(fuel:Nat)(ak:bv)(ag:List Int)(aS:Source):Option (qb×bv):=
 (bif (decide ((0:Int)<(aS.Facts.length:Int)))then ((Eo ak 2).bind fun r6=>
     some (r6.2.i,r6.2.h,r6.1))
   else (some (ak.i,ak.h,false))).bind fun o3=>
 match o3 with
 |(c9,c10,c11)=>if c11 then (
     (kw (⟨ak.b,c9,c10⟩:bv) (aS.Facts.length:Int)).bind fun dC=>
     (ix aS.Facts dC.1).bind fun nu=>
     some ((⟨false,nu⟩:qb),(⟨ak.b,dC.2.i,dC.2.h⟩:bv)))
   else (
     (sw ag).bind fun kX=>
     if (!kX)then (
       some ((⟨true,(⟨0,[]⟩:Fact)⟩:qb),(⟨ak.b,c9,c10⟩:bv)))
     else (
       (Vk fuel (⟨ak.b,c9,c10⟩:bv) ag 4).bind fun gV=>
       some ((⟨true,gV.1⟩:qb),(⟨ak.b,gV.2.i,gV.2.h⟩:bv))))
theorem UC{fuel cz:Nat}{ak:bv}{ae:Sv}{ag:List Int}{ax:Sv}{aS:Source}{bL:Sv}{R:qb×bv}(hF:Eb fuel ak ag aS=some R):
   Fw.Spec Tryz.prog 99 [(pz cz),ax.v,(zg [bL.v,(zi aS.Version)])] [aW cz 77 (zg [ae.v,(zi ak.i),(zi ak.h)]),ku ae ak.b,ah ax ag,bG bL aS.Facts] (fun p:Sv=>(zg [(.bool R.1.Add),(zi R.1.Fact.Rel),p.v])) (fun p=>[ah p R.1.Fact.Values,aW cz 77 (zg [ae.v,(zi R.2.i),(zi R.2.h)])]):=by
 refine Se 33 Tryz.func99 [.cell 6 114] ?_
 intro H0 F0
 unfold Eb at hF
 refine au ?_
 refine bN (fun k1=>?_)
 refine dX (fun k2=>?_)
 refine aT ?_
 obtain⟨o3,vC,hO4⟩:=bind_some hF
 refine au ?_
 refine eX (fun f' cs'=>∃(c9 c10:Int)(c11:Bool)(g:Fr),o3=(c9,c10,c11)/\f'=aQ g [(0,(pz cz)),(1,ax.v),(5,(pz k1)),(6,(pz k2)),(14,(.bool c11))]/\aN cs' [aW cz 77 (zg [ae.v,(zi c9),(zi c10)]),ku ae ak.b,ah ax ag,aX k1 29 (zg [bL.v,(zi aS.Version)]),bG bL aS.Facts,aW k2 114 (zg [(.bool false),(zi 0),(.slice none 0 0)])]) ?_ ?_
 · replace hF:=vC
   refine aY ?_
   rcases bE (decide ((0:Int)<(aS.Facts.length:Int)))with hg5|hg5
   · rw[hg5]
     try rw[hg5]at hF; dsimp only[aJ,aI]at hF
     refine bu ?_
     refine bnd hF fun r6 hx7 hF=>gy (OD hx7) (fun p8=>?_)
     exact ajp hF
   rw[hg5]
   try rw[hg5]at hF; dsimp only[aJ,aI]at hF
   exact ajp hF
 rintro _ _ ⟨c9,c10,c11,g30,rfl,rfl,hE⟩
 replace hF:=hO4
 try dsimp only at hF
 refine bq hE ?_
 refine Ci hF (fun Cz hF=>?_) (fun Cz hF=>?_)
 · refine dS [0,1,2,3,4,5,6,7,8,9,10] [0,1,0,0,8,24,60,127,255,511,1023] [6,10] mixed (by decide+kernel) ?_
   refine wK ?_
   refine bnd hF fun dC iH hF=>qw (kZ iH) (fun l9=>?_)
   refine zI hF fun nu aca mJ hF=>?_
   refine Di mJ (fun k19 FH=>?_)
   refine jP (lU nu) mf (fun mP=>?_)
   refine bW rfl .no (fun ha=>iB L_.h rfl (vs:=[(zg [(zi nu.Rel),mP.v])]) (.cons (EN ha (.tmp rfl rfl) rfl) .nil) (cells:=[(.bool false),(zi nu.Rel),mP.v]) rfl) ?_
   refine cO rfl rfl .no (.cons .q7 .nil) .nil (fun ha=>gz (e':=(zg [(.bool false),(zi nu.Rel),mP.v])) (v:=(zg [(.bool false),(zi nu.Rel),mP.v])) L_.h.sz (EN ha (.tmp rfl rfl) rfl) (EN ha (.tmp rfl rfl) rfl) rfl rfl rfl rfl rfl) (fun _=>?_)
   refine du ?_
   refine au ?_
   cases hF
   exact Er mP
 refine bg ?_
 refine bnd hF fun kX sW hF=>bD (w_ sW) (fun _=>?_)
 refine aT ?_
 refine Ci hF (fun xY hF=>?_) (fun xY hF=>?_)
 · refine au ?_
   refine aP (iB L_.h rfl (vs:=[(.bool true)]) (.cons (.bool _) .nil) (cells:=[(.bool true),(zi 0),(.slice none 0 0)]) rfl) ?_
   refine As (zg [(.bool true),(zi 0),(.slice none 0 0)]) ?_
   refine aT ?_
   cases hF
   exact gQ (⟨none,0,0⟩) (.cellA rfl rfl .h rfl aia.h L_.h.sz rfl rfl .nil) rfl (.conv .nil (PM (R:=az) (E:=3)) (.cons .nil) (.sel (.rd .h rfl (.cons .q2 .nil))))
 refine bg ?_
 refine bnd hF fun gV nE hF=>zV (anQ nE) (fun p27=>?_)
 refine aP (iB L_.h rfl (vs:=[(.bool true),(zg [(zi gV.1.Rel),p27.1.v])]) (.cons (.bool _) b_) (cells:=[(.bool true),(zi gV.1.Rel),p27.1.v]) rfl) ?_
 refine As (zg [(.bool true),(zi gV.1.Rel),p27.1.v]) ?_
 refine aT ?_
 cases hF
 exact gQ p27.1 (.cellA rfl rfl .h rfl aia.h L_.h.sz rfl rfl .nil) rfl (.frz (.t .h) aG (.sel (.rd .h rfl (.cons .q2 .nil))))
def KL(bF:Fact):List Fact->Nat->Option (Bool)
 |[],k5=>some false
 |x7::eH,k5=>(w9 x7 bF).bind fun oP=>
   if ((oP:Int)==0)then (
     some true)
   else (
     KL bF eH (k5+1))
def Ej(ai:List Fact)(bF:Fact):Option (Bool):=
 KL bF ai 0
theorem Zc{ai:List Fact}{ae:Sv}{bF:Fact}{aV:Sv}{R:Bool}(hF:Ej ai bF=some R):
   Fw.Spec Tryz.prog 89 [ae.v,(zg [(zi bF.Rel),aV.v])] [bG ae ai,ah aV bF.Values] (fun _:Unit=>(.bool R)) (fun _=>[]):=by
 refine Se 19 Tryz.func89 [.tmp 4] ?_
 intro H0 F0
 unfold Ej at hF
 refine au ?_
 refine bN (fun k1=>?_)
 refine bB ?_
 refine bi (bT (m:=ai.length) (fun m3 f' cs'=>∃(g:Fr)(k5:Nat)(eH:List Fact),m3=eH.length/\f'=aQ g [(0,ae.v),(3,(pz k1)),(5,(zi (k5:Int)))]/\List.drop k5 ai=eH/\aN cs' [bG ae ai,aX k1 70 (zg [(zi bF.Rel),aV.v]),ah aV bF.Values]/\KL bF eH k5=some R) ⟨_,0,_,rfl,aA,rfl,ay,hF⟩ ?_)
 rintro m3 _ _ ⟨g4,k5,eH,rfl,rfl,nJ,hE,hF⟩
 refine Kb hE ai (fun IP=>?_)
 rcases eH with _|⟨x7,eH⟩
 · have tT:=dn nJ
   rw[KL]at hF
   refine bH ?_
   refine dJ ?_
   exact ze hF
 obtain⟨tT,jm,jY⟩:=dz nJ
 rw[KL]at hF
 refine bH ?_
 refine dI ?_
 refine aT ?_
 refine dS [0,1,2,3,4,5,6] [0,0,3,7,0,31,63] [5] mixed (by decide+kernel) ?_
 refine bR ?_
 refine Di jm (fun k14 Ty=>?_)
 refine jP (lU x7) mf (fun p16=>?_)
 refine du ?_
 refine bnd hF fun oP mJ hF=>eZ (NM mJ) (fun _=>?_)
 refine bR ?_
 refine Ci hF (fun I5 hF=>?_) (fun I5 hF=>?_)
 · exact ze hF
 refine bB ?_
 rw[wk k5]
 exact⟨_,bX _,_,k5+1,eH,rfl,aA,jY,ay,hF⟩
end Go.Proofs.YtfcjmpkenaiomaaGreat
