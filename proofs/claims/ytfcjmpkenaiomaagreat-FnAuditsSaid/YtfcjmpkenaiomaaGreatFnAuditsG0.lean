/-
  Functions of the program as Lean functions, and that the calls return what these say: part 1. No conditions.
-/
import Derived.Test.YtfcjmpkenaiomaaGreatFc
import Derived.Test.YtfcjmpkenaiomaaGreatProg
import Derived.KernelRfl
set_option maxRecDepth 100000
set_option maxHeartbeats 1000000
set_option linter.unusedVariables false
namespace Go.Proofs.YtfcjmpkenaiomaaGreat
open Go Go.Fw

theorem iB{G:Prop}(h:G:=by (unfold FD; kernel_rfl)):G:=h
theorem lU{G:Prop}(h:G:=by (unfold AG; kernel_rfl)):G:=h
theorem vV{G:Prop}(h:G:=by (unfold SL; kernel_rfl)):G:=h
theorem l_{G:Prop}(h:G:=by (unfold TY; kernel_rfl)):G:=h
instance:dF Tryz.prog:=⟨fun _=>True⟩
instance cf4:bf Tryz.prog 4:=⟨Tryz.call4⟩
instance aBM:qD Tryz.prog 22 5:=⟨vV⟩
instance cf5:bf Tryz.prog 5:=⟨Tryz.call5⟩
structure Method where
 Rel:Int
 Inputs:List Int
 Limit:Int
 Cost:Int
 Quota:Int
structure dh where
 From:Int
 To:Int
 Map:List Int
structure Fact where
 Rel:Int
 Values:List Int
structure Source where
 Facts:List Fact
 Version:Int
structure Access where
 Method:Int
 Values:List Int
structure cB where
 Access:Access
 Facts:List Fact
 At:Int
structure Cache where
 Entries:List cB
 Age:Int
structure aY where
 Schema:List Int
 Methods:List Method
 Rules:List dh
 Source:Source
 Cache:Cache
 Now:Int
 Log:List Access
 Times:List Int
 Spent:Int
 Results:List (List (List Int))
instance eG:jM Tryz.prog 36 12 224 (.agg [(.slice none 0 0),(.slice none 0 0),(.slice none 0 0),(.slice none 0 0),(.int .i64 0),(.slice none 0 0),(.int .i64 0),(.int .i64 0),(.slice none 0 0),(.slice none 0 0),(.int .i64 0),(.slice none 0 0)].toArray):=⟨l_⟩
instance aBN:bf Tryz.prog 25:=⟨Tryz.call25⟩
structure bg where
 b:List UInt8
 i:Int
 h:Int
instance ty5:jM Tryz.prog 5 1 1 (.int .u8 0):=⟨l_⟩
theorem aim{a:UInt8}:∀H e,xh H e a->e.cells.toList[0]?=some (.int .u8 (a.toNat:Int)):=by
 intro H e h
 subst h
 rfl
instance ag5:jE Tryz.prog 5 false:=⟨lU⟩
theorem ik5:IK Tryz.prog 5 .u8:=by unfold IK; kernel_rfl
theorem ik3:IK Tryz.prog 3 .i64:=by unfold IK; kernel_rfl
instance av8:jM Tryz.prog 77 3 40 (.agg [(.slice none 0 0),(.int .i64 0),(.int .i64 0)].toArray):=⟨l_⟩
instance av9:bf Tryz.prog 24:=⟨Tryz.call24⟩
instance av_:bf Tryz.prog 50:=⟨Tryz.call50⟩
instance aBO:bf Tryz.prog 92:=⟨Tryz.call92⟩
instance di:qD Tryz.prog 24 3:=⟨vV⟩
instance dx:jM Tryz.prog 3 1 8 (.int .i64 0):=⟨l_⟩
instance CR:bf Tryz.prog 51:=⟨Tryz.call51⟩
instance azJ:bf Tryz.prog 103:=⟨Tryz.call103⟩
instance aze:il Tryz.prog 77 2 2:=⟨iB⟩
instance qd:jE Tryz.prog 3 false:=⟨lU⟩
theorem mixed:Tryz.prog.follows .mixedOrders=true:=by kernel_rfl
instance azf:il Tryz.prog 77 1 1:=⟨iB⟩
instance azg:il Tryz.prog 77 0 0:=⟨iB⟩
instance ajq:jE Tryz.prog 22 false:=⟨lU⟩
instance asv:bf Tryz.prog 131:=⟨Tryz.call131⟩
theorem jc:tF Tryz.prog 24:=.inr ⟨3,by kernel_rfl⟩
instance av':bf Tryz.prog 93:=⟨Tryz.call93⟩
instance aBP:bf Tryz.prog 70:=⟨Tryz.call70⟩
instance aBQ:bf Tryz.prog 75:=⟨Tryz.call75⟩
theorem dP{a:Int}:∀H e,az H e a->e.cells.toList[0]?=some (.int .i64 a):=by
 intro H e h
 subst h
 rfl
instance gP:jE Tryz.prog 36 true:=⟨lU⟩
def qW(H:aH)(v:Value)(a:Method):Prop:=∃v0:Sv,v= .agg [(.int .i64 a.Rel),v0.v,(.int .i64 a.Limit),(.int .i64 a.Cost),(.int .i64 a.Quota)].toArray/\(aD 3 az) H v0.v a.Inputs
instance:eF qW:=⟨fun h hi=>by
 obtain⟨v0,h,h0⟩:=h
 exact⟨v0,h,eF.up h0 hi⟩⟩
instance:Cells qW 5:=⟨fun h=>by
 obtain⟨v0,rfl,h0⟩:=h
 exact⟨rfl,rfl⟩⟩
def qX:jb Method:=fun F H v a=>∃(v0:Sv)(F0:List Nat),v= .agg [(.int .i64 a.Rel),v0.v,(.int .i64 a.Limit),(.int .i64 a.Cost),(.int .i64 a.Quota)].toArray/\F0=F/\(aF 3 (aC az)) F0 H v0.v a.Inputs
instance:ik qX:=⟨fun h hi hg=>by
 obtain⟨v0,F0,rfl,rfl,h0⟩:=h
 exact⟨v0,F0,rfl,rfl,ik.keep h0 hi (fun k hk=>hg k (by simp[hk]))⟩⟩
instance:Local qX:=⟨fun h hg=>by
 obtain⟨v0,F0,rfl,rfl,h0⟩:=h
 exact⟨v0,F0,rfl,rfl,Local.keep h0 (fun k hk=>hg k (by simp[hk]))⟩⟩
instance:lT qX:=⟨fun h k hk=>by
 obtain⟨v0,F0,rfl,rfl,h0⟩:=h
 exact lT.owns h0 k hk
⟩
instance:qj qX 5:=⟨fun h=>by
 obtain⟨v0,F0,rfl,rfl,h0⟩:=h
 exact⟨rfl,rfl⟩⟩
instance:lV qX qW:=⟨fun h hg=>by
 obtain⟨v0,F0,rfl,rfl,h0⟩:=h
 exact⟨v0,rfl,lV.frz h0 (fun k hk=>hg k (by simp[hk]))⟩⟩
def CS(H:aH)(v:Value)(a:dh):Prop:=∃v0:Sv,v= .agg [(.int .i64 a.From),(.int .i64 a.To),v0.v].toArray/\(aD 3 az) H v0.v a.Map
instance:eF CS:=⟨fun h hi=>by
 obtain⟨v0,h,h0⟩:=h
 exact⟨v0,h,eF.up h0 hi⟩⟩
instance:Cells CS 3:=⟨fun h=>by
 obtain⟨v0,rfl,h0⟩:=h
 exact⟨rfl,rfl⟩⟩
def oU:jb dh:=fun F H v a=>∃(v0:Sv)(F0:List Nat),v= .agg [(.int .i64 a.From),(.int .i64 a.To),v0.v].toArray/\F0=F/\(aF 3 (aC az)) F0 H v0.v a.Map
instance:ik oU:=⟨fun h hi hg=>by
 obtain⟨v0,F0,rfl,rfl,h0⟩:=h
 exact⟨v0,F0,rfl,rfl,ik.keep h0 hi (fun k hk=>hg k (by simp[hk]))⟩⟩
instance:Local oU:=⟨fun h hg=>by
 obtain⟨v0,F0,rfl,rfl,h0⟩:=h
 exact⟨v0,F0,rfl,rfl,Local.keep h0 (fun k hk=>hg k (by simp[hk]))⟩⟩
instance:lT oU:=⟨fun h k hk=>by
 obtain⟨v0,F0,rfl,rfl,h0⟩:=h
 exact lT.owns h0 k hk
⟩
instance:qj oU 3:=⟨fun h=>by
 obtain⟨v0,F0,rfl,rfl,h0⟩:=h
 exact⟨rfl,rfl⟩⟩
instance:lV oU CS:=⟨fun h hg=>by
 obtain⟨v0,F0,rfl,rfl,h0⟩:=h
 exact⟨v0,rfl,lV.frz h0 (fun k hk=>hg k (by simp[hk]))⟩⟩
def mP(H:aH)(v:Value)(a:Fact):Prop:=∃v0:Sv,v= .agg [(.int .i64 a.Rel),v0.v].toArray/\(aD 3 az) H v0.v a.Values
instance:eF mP:=⟨fun h hi=>by
 obtain⟨v0,h,h0⟩:=h
 exact⟨v0,h,eF.up h0 hi⟩⟩
instance:Cells mP 2:=⟨fun h=>by
 obtain⟨v0,rfl,h0⟩:=h
 exact⟨rfl,rfl⟩⟩
def gQ:jb Fact:=fun F H v a=>∃(v0:Sv)(F0:List Nat),v= .agg [(.int .i64 a.Rel),v0.v].toArray/\F0=F/\(aF 3 (aC az)) F0 H v0.v a.Values
instance:ik gQ:=⟨fun h hi hg=>by
 obtain⟨v0,F0,rfl,rfl,h0⟩:=h
 exact⟨v0,F0,rfl,rfl,ik.keep h0 hi (fun k hk=>hg k (by simp[hk]))⟩⟩
instance:Local gQ:=⟨fun h hg=>by
 obtain⟨v0,F0,rfl,rfl,h0⟩:=h
 exact⟨v0,F0,rfl,rfl,Local.keep h0 (fun k hk=>hg k (by simp[hk]))⟩⟩
instance:lT gQ:=⟨fun h k hk=>by
 obtain⟨v0,F0,rfl,rfl,h0⟩:=h
 exact lT.owns h0 k hk
⟩
instance:qj gQ 2:=⟨fun h=>by
 obtain⟨v0,F0,rfl,rfl,h0⟩:=h
 exact⟨rfl,rfl⟩⟩
instance:lV gQ mP:=⟨fun h hg=>by
 obtain⟨v0,F0,rfl,rfl,h0⟩:=h
 exact⟨v0,rfl,lV.frz h0 (fun k hk=>hg k (by simp[hk]))⟩⟩
def oV(H:aH)(v:Value)(a:cB):Prop:=∃v0 v1:Sv,v= .agg [(.int .i64 a.Access.Method),v0.v,v1.v,(.int .i64 a.At)].toArray/\(aD 3 az) H v0.v a.Access.Values/\(aD 70 mP) H v1.v a.Facts
instance:eF oV:=⟨fun h hi=>by
 obtain⟨v0,v1,h,h0,h1⟩:=h
 exact⟨v0,v1,h,eF.up h0 hi,eF.up h1 hi⟩⟩
instance:Cells oV 4:=⟨fun h=>by
 obtain⟨v0,v1,rfl,h0,h1⟩:=h
 exact⟨rfl,rfl⟩⟩
def qY:jb cB:=fun F H v a=>∃(v0 v1:Sv)(F0 F1:List Nat),v= .agg [(.int .i64 a.Access.Method),v0.v,v1.v,(.int .i64 a.At)].toArray/\F=(F0++F1)/\(aF 3 (aC az)) F0 H v0.v a.Access.Values/\(aF 70 gQ) F1 H v1.v a.Facts
instance:ik qY:=⟨fun h hi hg=>by
 obtain⟨v0,v1,F0,F1,rfl,rfl,h0,h1⟩:=h
 exact⟨v0,v1,F0,F1,rfl,rfl,ik.keep h0 hi (fun k hk=>hg k (by simp[hk])),ik.keep h1 hi (fun k hk=>hg k (by simp[hk]))⟩⟩
instance:Local qY:=⟨fun h hg=>by
 obtain⟨v0,v1,F0,F1,rfl,rfl,h0,h1⟩:=h
 exact⟨v0,v1,F0,F1,rfl,rfl,Local.keep h0 (fun k hk=>hg k (by simp[hk])),Local.keep h1 (fun k hk=>hg k (by simp[hk]))⟩⟩
instance:lT qY:=⟨fun h k hk=>by
 obtain⟨v0,v1,F0,F1,rfl,rfl,h0,h1⟩:=h
 simp only[List.mem_append]at hk
 rcases hk with hk|hk
 · exact lT.owns h0 k hk
 · exact lT.owns h1 k hk
⟩
instance:qj qY 4:=⟨fun h=>by
 obtain⟨v0,v1,F0,F1,rfl,rfl,h0,h1⟩:=h
 exact⟨rfl,rfl⟩⟩
instance:lV qY oV:=⟨fun h hg=>by
 obtain⟨v0,v1,F0,F1,rfl,rfl,h0,h1⟩:=h
 exact⟨v0,v1,rfl,lV.frz h0 (fun k hk=>hg k (by simp[hk])),lV.frz h1 (fun k hk=>hg k (by simp[hk]))⟩⟩
def qZ(H:aH)(v:Value)(a:Access):Prop:=∃v0:Sv,v= .agg [(.int .i64 a.Method),v0.v].toArray/\(aD 3 az) H v0.v a.Values
instance:eF qZ:=⟨fun h hi=>by
 obtain⟨v0,h,h0⟩:=h
 exact⟨v0,h,eF.up h0 hi⟩⟩
instance:Cells qZ 2:=⟨fun h=>by
 obtain⟨v0,rfl,h0⟩:=h
 exact⟨rfl,rfl⟩⟩
def nk:jb Access:=fun F H v a=>∃(v0:Sv)(F0:List Nat),v= .agg [(.int .i64 a.Method),v0.v].toArray/\F0=F/\(aF 3 (aC az)) F0 H v0.v a.Values
instance:ik nk:=⟨fun h hi hg=>by
 obtain⟨v0,F0,rfl,rfl,h0⟩:=h
 exact⟨v0,F0,rfl,rfl,ik.keep h0 hi (fun k hk=>hg k (by simp[hk]))⟩⟩
instance:Local nk:=⟨fun h hg=>by
 obtain⟨v0,F0,rfl,rfl,h0⟩:=h
 exact⟨v0,F0,rfl,rfl,Local.keep h0 (fun k hk=>hg k (by simp[hk]))⟩⟩
instance:lT nk:=⟨fun h k hk=>by
 obtain⟨v0,F0,rfl,rfl,h0⟩:=h
 exact lT.owns h0 k hk
⟩
instance:qj nk 2:=⟨fun h=>by
 obtain⟨v0,F0,rfl,rfl,h0⟩:=h
 exact⟨rfl,rfl⟩⟩
instance:lV nk qZ:=⟨fun h hg=>by
 obtain⟨v0,F0,rfl,rfl,h0⟩:=h
 exact⟨v0,rfl,lV.frz h0 (fun k hk=>hg k (by simp[hk]))⟩⟩
instance oW:jM Tryz.prog 32 2 32 (.agg [(.slice none 0 0),(.int .i64 0)].toArray):=⟨l_⟩
instance awc:bf Tryz.prog 95:=⟨Tryz.call95⟩
instance qy:jM Tryz.prog 57 5 56 (.agg [(.int .i64 0),(.slice none 0 0),(.int .i64 0),(.int .i64 0),(.int .i64 0)].toArray):=⟨l_⟩
instance ab0:bf Tryz.prog 52:=⟨Tryz.call52⟩
instance aqh:il Tryz.prog 57 0 0:=⟨iB⟩
instance ahU:il Tryz.prog 57 1 1:=⟨iB⟩
instance iC:jE Tryz.prog 24 false:=⟨lU⟩
instance pQ:jM Tryz.prog 24 1 24 (.slice none 0 0):=⟨l_⟩
instance ajr:jE Tryz.prog 57 true:=⟨lU⟩
instance awd:bf Tryz.prog 94:=⟨Tryz.call94⟩
instance azK:bf Tryz.prog 132:=⟨Tryz.call132⟩
instance PZ:il Tryz.prog 36 0 0:=⟨iB⟩
instance Mx:il Tryz.prog 36 3 3:=⟨iB⟩
instance yl:jE Tryz.prog 29 true:=⟨lU⟩
instance vW:jM Tryz.prog 29 2 32 (.agg [(.slice none 0 0),(.int .i64 0)].toArray):=⟨l_⟩
instance VW:il Tryz.prog 36 4 5:=⟨iB⟩
instance u7:jE Tryz.prog 32 true:=⟨lU⟩
instance aqi:il Tryz.prog 36 5 7:=⟨iB⟩
instance aan:il Tryz.prog 36 6 8:=⟨iB⟩
instance M6:jE Tryz.prog 33 false:=⟨lU⟩
instance ahV:il Tryz.prog 36 7 9:=⟨iB⟩
instance aao:il Tryz.prog 36 8 10:=⟨iB⟩
instance asw:bf Tryz.prog 156:=⟨Tryz.call156⟩
instance aqj:il Tryz.prog 29 0 0:=⟨iB⟩
instance ym:jE Tryz.prog 27 false:=⟨lU⟩
instance azh:il Tryz.prog 29 1 1:=⟨iB⟩
instance azL:bf Tryz.prog 182:=⟨Tryz.call182⟩
instance gq:qD Tryz.prog 27 70:=⟨vV⟩
instance dZ:jM Tryz.prog 70 2 32 (.agg [(.int .i64 0),(.slice none 0 0)].toArray):=⟨l_⟩
instance aqk:il Tryz.prog 70 0 0:=⟨iB⟩
theorem BR{a:Fact}:∀H e,mP H e a->e.cells.toList[0]?=some (.int .i64 a.Rel):=by
 intro H e h
 obtain⟨_,rfl,_⟩:=h
 rfl
instance ahW:il Tryz.prog 70 1 1:=⟨iB⟩
theorem E_{a:Fact}:∀H e,mP H e a-> ∃w:Sv,e.cells.toList[1]?=some w.v/\(aD 3 az) H w.v a.Values:=by
 intro H e h
 obtain⟨v0,rfl,h0⟩:=h
 exact⟨v0,rfl,h0⟩
instance awe:bf Tryz.prog 78:=⟨Tryz.call78⟩
instance vX:jE Tryz.prog 70 true:=⟨lU⟩
theorem yn{a:Fact}{v0:Sv}{F0:List Nat}:Mk gQ F0 (.agg [(.int .i64 a.Rel),v0.v].toArray) a [aT (aF 3 (aC az)) F0 v0.v a.Values]:=
 ⟨fun H h=>⟨v0,F0,rfl,rfl,h (aT (aF 3 (aC az)) F0 v0.v a.Values) (by simp)⟩,by simp[aT]⟩
theorem yo:tF Tryz.prog 27:=.inr ⟨70,by kernel_rfl⟩
instance asx:bf Tryz.prog 157:=⟨Tryz.call157⟩
instance azi:il Tryz.prog 32 1 1:=⟨iB⟩
instance VX:il Tryz.prog 32 0 0:=⟨iB⟩
instance awf:jE Tryz.prog 30 false:=⟨lU⟩
instance u_:qD Tryz.prog 30 47:=⟨vV⟩
instance qz:jM Tryz.prog 47 4 64 (.agg [(.int .i64 0),(.slice none 0 0),(.slice none 0 0),(.int .i64 0)].toArray):=⟨l_⟩
def wV(a:cB)(p:Sv×Sv):List Value:=[(.int .i64 a.Access.Method),p.1.v,p.2.v,(.int .i64 a.At)]
theorem xQ{a:cB}:∀H e,oV H e a-> ∃i:Sv×Sv,0+4<=e.cells.size/\(e.cells.toList.drop 0).take 4=wV a i/\ ∀c∈([bB (aD 3 az) i.1.v a.Access.Values,bB (aD 70 mP) i.2.v a.Facts]:List aL),c.P H/\c.F=[]:=by
 intro H e h
 obtain⟨v0,v1,rfl,h0,h1⟩:=h
 refine⟨(v0,v1),Nat.le_of_ble_eq_true rfl,rfl,fun c hc=>by
   simp only[List.mem_cons,List.not_mem_nil,or_false]at hc
   rcases hc with rfl|rfl
   · exact⟨h0,rfl⟩
   · exact⟨h1,rfl⟩
⟩
instance awg:jE Tryz.prog 47 true:=⟨lU⟩
instance azM:bf Tryz.prog 159:=⟨Tryz.call159⟩
instance azj:il Tryz.prog 47 0 0:=⟨iB⟩
instance azk:il Tryz.prog 45 0 0:=⟨iB⟩
instance azl:il Tryz.prog 45 1 1:=⟨iB⟩
instance aql:il Tryz.prog 47 1 2:=⟨iB⟩
instance azm:il Tryz.prog 47 2 3:=⟨iB⟩
instance ajs:bf Tryz.prog 33:=⟨Tryz.call33⟩
instance ky:jM Tryz.prog 45 2 32 (.agg [(.int .i64 0),(.slice none 0 0)].toArray):=⟨l_⟩
instance vY:jE Tryz.prog 45 true:=⟨lU⟩
theorem W9{a:cB}{v0 v1:Sv}{F0 F1:List Nat}:Mk qY (F0++F1) (.agg [(.int .i64 a.Access.Method),v0.v,v1.v,(.int .i64 a.At)].toArray) a [aT (aF 3 (aC az)) F0 v0.v a.Access.Values,aT (aF 70 gQ) F1 v1.v a.Facts]:=
 ⟨fun H h=>⟨v0,v1,F0,F1,rfl,rfl,h (aT (aF 3 (aC az)) F0 v0.v a.Access.Values) (by simp),h (aT (aF 70 gQ) F1 v1.v a.Facts) (by simp)⟩,by simp[aT]⟩
theorem M7:tF Tryz.prog 30:=.inr ⟨47,by kernel_rfl⟩
instance aBR:jM Tryz.prog 30 1 24 (.slice none 0 0):=⟨l_⟩
instance asy:bf Tryz.prog 158:=⟨Tryz.call158⟩
instance pR:qD Tryz.prog 33 45:=⟨vV⟩
theorem MB{a:Access}:∀H e,qZ H e a->e.cells.toList[0]?=some (.int .i64 a.Method):=by
 intro H e h
 obtain⟨_,rfl,_⟩:=h
 rfl
theorem ahX{a:Access}:∀H e,qZ H e a-> ∃w:Sv,e.cells.toList[1]?=some w.v/\(aD 3 az) H w.v a.Values:=by
 intro H e h
 obtain⟨v0,rfl,h0⟩:=h
 exact⟨v0,rfl,h0⟩
theorem W_{a:Access}{v0:Sv}{F0:List Nat}:Mk nk F0 (.agg [(.int .i64 a.Method),v0.v].toArray) a [aT (aF 3 (aC az)) F0 v0.v a.Values]:=
 ⟨fun H h=>⟨v0,F0,rfl,rfl,h (aT (aF 3 (aC az)) F0 v0.v a.Values) (by simp)⟩,by simp[aT]⟩
theorem Rc:tF Tryz.prog 33:=.inr ⟨45,by kernel_rfl⟩
instance aap:il Tryz.prog 36 1 1:=⟨iB⟩
instance Xa:jE Tryz.prog 25 false:=⟨lU⟩
instance CU:qD Tryz.prog 25 57:=⟨vV⟩
instance aqm:il Tryz.prog 36 2 2:=⟨iB⟩
instance ab1:jE Tryz.prog 26 false:=⟨lU⟩
instance CV:qD Tryz.prog 26 98:=⟨vV⟩
instance aqn:il Tryz.prog 36 9 11:=⟨iB⟩
instance ajt:jE Tryz.prog 34 false:=⟨lU⟩
instance Re:qD Tryz.prog 34 152:=⟨vV⟩
instance V9:jM Tryz.prog 152 1 24 (.slice none 0 0):=⟨l_⟩
theorem apE{a:List (List Int)}:∀H e,(aD 24 (aD 3 az)) H e a-> ∃w:Sv,e.cells.toList[0]?=some w.v/\(aD 24 (aD 3 az)) H w.v a:=by
 intro H e h
 obtain⟨a0,m,rfl⟩:=aD.len h
 exact⟨⟨a0,_,m⟩,rfl,h⟩
instance ain:jE Tryz.prog 152 false:=⟨lU⟩
instance asz:bf Tryz.prog 140:=⟨Tryz.call140⟩
instance vN:qD Tryz.prog 152 24:=⟨vV⟩
theorem P5{a:List Int}:∀H e,(aD 3 az) H e a-> ∃w:Sv,e.cells.toList[0]?=some w.v/\(aD 3 az) H w.v a:=by
 intro H e h
 obtain⟨a0,m,rfl⟩:=aD.len h
 exact⟨⟨a0,_,m⟩,rfl,h⟩
theorem Ql:tF Tryz.prog 152:=.inr ⟨24,by kernel_rfl⟩
theorem aju:tF Tryz.prog 34:=.inr ⟨152,by kernel_rfl⟩
instance awh:jM Tryz.prog 34 1 24 (.slice none 0 0):=⟨l_⟩
instance yt:jM Tryz.prog 98 3 40 (.agg [(.int .i64 0),(.int .i64 0),(.slice none 0 0)].toArray):=⟨l_⟩
instance azn:il Tryz.prog 98 0 0:=⟨iB⟩
theorem ahY{a:dh}:∀H e,CS H e a->e.cells.toList[0]?=some (.int .i64 a.From):=by
 intro H e h
 obtain⟨_,rfl,_⟩:=h
 rfl
instance azo:il Tryz.prog 98 1 1:=⟨iB⟩
theorem aqo{a:dh}:∀H e,CS H e a->e.cells.toList[1]?=some (.int .i64 a.To):=by
 intro H e h
 obtain⟨_,rfl,_⟩:=h
 rfl
instance azp:il Tryz.prog 98 2 2:=⟨iB⟩
theorem aqp{a:dh}:∀H e,CS H e a-> ∃w:Sv,e.cells.toList[2]?=some w.v/\(aD 3 az) H w.v a.Map:=by
 intro H e h
 obtain⟨v0,rfl,h0⟩:=h
 exact⟨v0,rfl,h0⟩
theorem ab2{a:dh}{v0:Sv}{F0:List Nat}:Mk oU F0 (.agg [(.int .i64 a.From),(.int .i64 a.To),v0.v].toArray) a [aT (aF 3 (aC az)) F0 v0.v a.Map]:=
 ⟨fun H h=>⟨v0,F0,rfl,rfl,h (aT (aF 3 (aC az)) F0 v0.v a.Map) (by simp)⟩,by simp[aT]⟩
theorem ab3:tF Tryz.prog 26:=.inr ⟨98,by kernel_rfl⟩
instance ajv:jM Tryz.prog 26 1 24 (.slice none 0 0):=⟨l_⟩
def uO(a:Method)(p:Sv):List Value:=[(.int .i64 a.Rel),p.v,(.int .i64 a.Limit),(.int .i64 a.Cost),(.int .i64 a.Quota)]
theorem vH{a:Method}:∀H e,qW H e a-> ∃i:Sv,0+5<=e.cells.size/\(e.cells.toList.drop 0).take 5=uO a i/\ ∀c∈([bB (aD 3 az) i.v a.Inputs]:List aL),c.P H/\c.F=[]:=by
 intro H e h
 obtain⟨v0,rfl,h0⟩:=h
 refine⟨v0,Nat.le_of_ble_eq_true rfl,rfl,fun c hc=>by
   simp only[List.mem_cons,List.not_mem_nil,or_false]at hc
   rcases hc with rfl
   · exact⟨h0,rfl⟩
⟩
instance asA:bf Tryz.prog 133:=⟨Tryz.call133⟩
instance azq:il Tryz.prog 57 2 2:=⟨iB⟩
instance azr:il Tryz.prog 57 3 3:=⟨iB⟩
instance azs:il Tryz.prog 57 4 4:=⟨iB⟩
theorem ajw{a:Method}{v0:Sv}{F0:List Nat}:Mk qX F0 (.agg [(.int .i64 a.Rel),v0.v,(.int .i64 a.Limit),(.int .i64 a.Cost),(.int .i64 a.Quota)].toArray) a [aT (aF 3 (aC az)) F0 v0.v a.Inputs]:=
 ⟨fun H h=>⟨v0,F0,rfl,rfl,h (aT (aF 3 (aC az)) F0 v0.v a.Inputs) (by simp)⟩,by simp[aT]⟩
theorem Xb:tF Tryz.prog 25:=.inr ⟨57,by kernel_rfl⟩
instance awi:jM Tryz.prog 25 1 24 (.slice none 0 0):=⟨l_⟩
instance aBS:bf Tryz.prog 31:=⟨Tryz.call31⟩
instance aBT:bf Tryz.prog 71:=⟨Tryz.call71⟩
instance azN:bf Tryz.prog 122:=⟨Tryz.call122⟩
instance aBU:bf Tryz.prog 72:=⟨Tryz.call72⟩
def LM(a:dh)(p:Sv):List Value:=[(.int .i64 a.From),(.int .i64 a.To),p.v]
theorem Pv{a:dh}:∀H e,CS H e a-> ∃i:Sv,0+3<=e.cells.size/\(e.cells.toList.drop 0).take 3=LM a i/\ ∀c∈([bB (aD 3 az) i.v a.Map]:List aL),c.P H/\c.F=[]:=by
 intro H e h
 obtain⟨v0,rfl,h0⟩:=h
 refine⟨v0,Nat.le_of_ble_eq_true rfl,rfl,fun c hc=>by
   simp only[List.mem_cons,List.not_mem_nil,or_false]at hc
   rcases hc with rfl
   · exact⟨h0,rfl⟩
⟩
instance aBV:jE Tryz.prog 98 true:=⟨lU⟩
instance azO:bf Tryz.prog 123:=⟨Tryz.call123⟩
instance aBW:bf Tryz.prog 73:=⟨Tryz.call73⟩
instance aBX:bf Tryz.prog 49:=⟨Tryz.call49⟩
def lZ(a:Fact)(p:Sv):List Value:=[(.int .i64 a.Rel),p.v]
theorem mq{a:Fact}:∀H e,mP H e a-> ∃i:Sv,0+2<=e.cells.size/\(e.cells.toList.drop 0).take 2=lZ a i/\ ∀c∈([bB (aD 3 az) i.v a.Values]:List aL),c.P H/\c.F=[]:=by
 intro H e h
 obtain⟨v0,rfl,h0⟩:=h
 refine⟨v0,Nat.le_of_ble_eq_true rfl,rfl,fun c hc=>by
   simp only[List.mem_cons,List.not_mem_nil,or_false]at hc
   rcases hc with rfl
   · exact⟨h0,rfl⟩
⟩
instance aBY:bf Tryz.prog 91:=⟨Tryz.call91⟩
instance aBZ:bf Tryz.prog 45:=⟨Tryz.call45⟩
instance aB0:bf Tryz.prog 74:=⟨Tryz.call74⟩
instance aB1:bf Tryz.prog 48:=⟨Tryz.call48⟩
theorem P6{a:Method}:∀H e,qW H e a-> ∃w:Sv,e.cells.toList[1]?=some w.v/\(aD 3 az) H w.v a.Inputs:=by
 intro H e h
 obtain⟨v0,rfl,h0⟩:=h
 exact⟨v0,rfl,h0⟩
def Pw(a:cB)(p:Sv):List Value:=[(.int .i64 a.Access.Method),p.v]
theorem Vo{a:cB}:∀H e,oV H e a-> ∃i:Sv,0+2<=e.cells.size/\(e.cells.toList.drop 0).take 2=Pw a i/\ ∀c∈([bB (aD 3 az) i.v a.Access.Values]:List aL),c.P H/\c.F=[]:=by
 intro H e h
 obtain⟨v0,v1,rfl,h0,h1⟩:=h
 refine⟨v0,Nat.le_of_ble_eq_true rfl,rfl,fun c hc=>by
   simp only[List.mem_cons,List.not_mem_nil,or_false]at hc
   rcases hc with rfl
   · exact⟨h0,rfl⟩
⟩
instance asB:bf Tryz.prog 124:=⟨Tryz.call124⟩
instance azP:bf Tryz.prog 153:=⟨Tryz.call153⟩
instance aB2:bf Tryz.prog 77:=⟨Tryz.call77⟩
instance aB3:bf Tryz.prog 76:=⟨Tryz.call76⟩
def xR(a:Access)(p:Sv):List Value:=[(.int .i64 a.Method),p.v]
theorem zu{a:Access}:∀H e,qZ H e a-> ∃i:Sv,0+2<=e.cells.size/\(e.cells.toList.drop 0).take 2=xR a i/\ ∀c∈([bB (aD 3 az) i.v a.Values]:List aL),c.P H/\c.F=[]:=by
 intro H e h
 obtain⟨v0,rfl,h0⟩:=h
 refine⟨v0,Nat.le_of_ble_eq_true rfl,rfl,fun c hc=>by
   simp only[List.mem_cons,List.not_mem_nil,or_false]at hc
   rcases hc with rfl
   · exact⟨h0,rfl⟩
⟩
instance awj:bf Tryz.prog 96:=⟨Tryz.call96⟩
instance awk:bf Tryz.prog 97:=⟨Tryz.call97⟩
instance Xc:bf Tryz.prog 99:=⟨Tryz.call99⟩
structure ql where
 Add:Bool
 Fact:Fact
instance MH:jM Tryz.prog 114 3 40 (.agg [(.bool false),(.int .i64 0),(.slice none 0 0)].toArray):=⟨l_⟩
instance aio:jE Tryz.prog 114 true:=⟨lU⟩
instance azQ:bf Tryz.prog 135:=⟨Tryz.call135⟩
instance Xd:bf Tryz.prog 98:=⟨Tryz.call98⟩
instance azR:bf Tryz.prog 134:=⟨Tryz.call134⟩
instance ayU:il Tryz.prog 114 1 1:=⟨iB⟩
instance ayV:il Tryz.prog 114 0 0:=⟨iB⟩
instance ag4:jE Tryz.prog 4 false:=⟨lU⟩
instance awl:bf Tryz.prog 89:=⟨Tryz.call89⟩
instance Rh:bf Tryz.prog 90:=⟨Tryz.call90⟩
instance Xe:jM Tryz.prog 27 1 24 (.slice none 0 0):=⟨l_⟩
instance V_:bf Tryz.prog 100:=⟨Tryz.call100⟩
instance asC:bf Tryz.prog 136:=⟨Tryz.call136⟩
instance azS:bf Tryz.prog 160:=⟨Tryz.call160⟩
instance Wd:bf Tryz.prog 102:=⟨Tryz.call102⟩
structure Atom where
 Rel:Int
 Terms:List Int
structure Query where
 Head:List Int
 Atoms:List Atom
instance Ji:jM Tryz.prog 120 2 48 (.agg [(.slice none 0 0),(.slice none 0 0)].toArray):=⟨l_⟩
instance qO:jM Tryz.prog 159 2 32 (.agg [(.int .i64 0),(.slice none 0 0)].toArray):=⟨l_⟩
instance ayW:il Tryz.prog 159 0 0:=⟨iB⟩
instance apF:il Tryz.prog 159 1 1:=⟨iB⟩
instance aab:il Tryz.prog 120 1 1:=⟨iB⟩
instance aaH:jE Tryz.prog 118 false:=⟨lU⟩
instance We:jE Tryz.prog 159 true:=⟨lU⟩
instance Fp:qD Tryz.prog 118 159:=⟨vV⟩
def Cx(H:aH)(v:Value)(a:Atom):Prop:=∃v0:Sv,v= .agg [(.int .i64 a.Rel),v0.v].toArray/\(aD 3 az) H v0.v a.Terms
instance:eF Cx:=⟨fun h hi=>by
 obtain⟨v0,h,h0⟩:=h
 exact⟨v0,h,eF.up h0 hi⟩⟩
instance:Cells Cx 2:=⟨fun h=>by
 obtain⟨v0,rfl,h0⟩:=h
 exact⟨rfl,rfl⟩⟩
def nH:jb Atom:=fun F H v a=>∃(v0:Sv)(F0:List Nat),v= .agg [(.int .i64 a.Rel),v0.v].toArray/\F0=F/\(aF 3 (aC az)) F0 H v0.v a.Terms
instance:ik nH:=⟨fun h hi hg=>by
 obtain⟨v0,F0,rfl,rfl,h0⟩:=h
 exact⟨v0,F0,rfl,rfl,ik.keep h0 hi (fun k hk=>hg k (by simp[hk]))⟩⟩
instance:Local nH:=⟨fun h hg=>by
 obtain⟨v0,F0,rfl,rfl,h0⟩:=h
 exact⟨v0,F0,rfl,rfl,Local.keep h0 (fun k hk=>hg k (by simp[hk]))⟩⟩
instance:lT nH:=⟨fun h k hk=>by
 obtain⟨v0,F0,rfl,rfl,h0⟩:=h
 exact lT.owns h0 k hk
⟩
instance:qj nH 2:=⟨fun h=>by
 obtain⟨v0,F0,rfl,rfl,h0⟩:=h
 exact⟨rfl,rfl⟩⟩
instance:lV nH Cx:=⟨fun h hg=>by
 obtain⟨v0,F0,rfl,rfl,h0⟩:=h
 exact⟨v0,rfl,lV.frz h0 (fun k hk=>hg k (by simp[hk]))⟩⟩
theorem Wh{a:Atom}{v0:Sv}{F0:List Nat}:Mk nH F0 (.agg [(.int .i64 a.Rel),v0.v].toArray) a [aT (aF 3 (aC az)) F0 v0.v a.Terms]:=
 ⟨fun H h=>⟨v0,F0,rfl,rfl,h (aT (aF 3 (aC az)) F0 v0.v a.Terms) (by simp)⟩,by simp[aT]⟩
theorem Wi:tF Tryz.prog 118:=.inr ⟨159,by kernel_rfl⟩
instance aaI:jM Tryz.prog 118 1 24 (.slice none 0 0):=⟨l_⟩
instance asD:jE Tryz.prog 120 true:=⟨lU⟩
instance asE:bf Tryz.prog 141:=⟨Tryz.call141⟩
theorem zC{a:Atom}:∀H e,Cx H e a-> ∃w:Sv,e.cells.toList[1]?=some w.v/\(aD 3 az) H w.v a.Terms:=by
 intro H e h
 obtain⟨v0,rfl,h0⟩:=h
 exact⟨v0,rfl,h0⟩
instance azT:bf Tryz.prog 176:=⟨Tryz.call176⟩
instance azU:bf Tryz.prog 177:=⟨Tryz.call177⟩
instance Wj:bf Tryz.prog 162:=⟨Tryz.call162⟩
theorem aaJ{a:Int}:∀F H e,(aC az) F H e a->e.cells.toList[0]?=some (.int .i64 a):=by
 intro F H e h
 obtain⟨-,h⟩:=h
 subst h
 rfl
instance ayX:il Tryz.prog 120 0 0:=⟨iB⟩
instance azV:bf Tryz.prog 101:=⟨Tryz.call101⟩
instance asF:bf Tryz.prog 137:=⟨Tryz.call137⟩
def EC(a:Atom)(p:Sv):List Value:=[(.int .i64 a.Rel),p.v]
theorem Ij{a:Atom}:∀H e,Cx H e a-> ∃i:Sv,0+2<=e.cells.size/\(e.cells.toList.drop 0).take 2=EC a i/\ ∀c∈([bB (aD 3 az) i.v a.Terms]:List aL),c.P H/\c.F=[]:=by
 intro H e h
 obtain⟨v0,rfl,h0⟩:=h
 refine⟨v0,Nat.le_of_ble_eq_true rfl,rfl,fun c hc=>by
   simp only[List.mem_cons,List.not_mem_nil,or_false]at hc
   rcases hc with rfl
   · exact⟨h0,rfl⟩
⟩
instance azW:bf Tryz.prog 161:=⟨Tryz.call161⟩
instance azX:bf Tryz.prog 183:=⟨Tryz.call183⟩
instance azY:bf Tryz.prog 138:=⟨Tryz.call138⟩
structure Step where
 Atom:Int
 Method:Int
structure Ri where
 Query:Query
 Steps:List Step
 Cost:Int
instance Wl:jM Tryz.prog 149 4 80 (.agg [(.slice none 0 0),(.slice none 0 0),(.slice none 0 0),(.int .i64 0)].toArray):=⟨l_⟩
instance azZ:bf Tryz.prog 163:=⟨Tryz.call163⟩
instance aip:jE Tryz.prog 149 true:=⟨lU⟩
def qP(_:aH)(v:Value)(a:Step):Prop:=v= .agg [(.int .i64 a.Atom),(.int .i64 a.Method)].toArray
instance:Pure qP:=⟨fun h=>h⟩
instance:Cells qP 2:=⟨fun h=>by
 subst h
 exact⟨rfl,rfl⟩⟩
instance az0:bf Tryz.prog 164:=⟨Tryz.call164⟩
instance aaK:qD Tryz.prog 174 120:=⟨vV⟩
def Qm(H:aH)(v:Value)(a:Query):Prop:=∃v0 v1:Sv,v= .agg [v0.v,v1.v].toArray/\(aD 3 az) H v0.v a.Head/\(aD 159 Cx) H v1.v a.Atoms
instance:eF Qm:=⟨fun h hi=>by
 obtain⟨v0,v1,h,h0,h1⟩:=h
 exact⟨v0,v1,h,eF.up h0 hi,eF.up h1 hi⟩⟩
instance:Cells Qm 2:=⟨fun h=>by
 obtain⟨v0,v1,rfl,h0,h1⟩:=h
 exact⟨rfl,rfl⟩⟩
def zF:jb Query:=fun F H v a=>∃(v0 v1:Sv)(F0 F1:List Nat),v= .agg [v0.v,v1.v].toArray/\F=(F0++F1)/\(aF 3 (aC az)) F0 H v0.v a.Head/\(aF 159 nH) F1 H v1.v a.Atoms
instance:ik zF:=⟨fun h hi hg=>by
 obtain⟨v0,v1,F0,F1,rfl,rfl,h0,h1⟩:=h
 exact⟨v0,v1,F0,F1,rfl,rfl,ik.keep h0 hi (fun k hk=>hg k (by simp[hk])),ik.keep h1 hi (fun k hk=>hg k (by simp[hk]))⟩⟩
instance:Local zF:=⟨fun h hg=>by
 obtain⟨v0,v1,F0,F1,rfl,rfl,h0,h1⟩:=h
 exact⟨v0,v1,F0,F1,rfl,rfl,Local.keep h0 (fun k hk=>hg k (by simp[hk])),Local.keep h1 (fun k hk=>hg k (by simp[hk]))⟩⟩
instance:lT zF:=⟨fun h k hk=>by
 obtain⟨v0,v1,F0,F1,rfl,rfl,h0,h1⟩:=h
 simp only[List.mem_append]at hk
 rcases hk with hk|hk
 · exact lT.owns h0 k hk
 · exact lT.owns h1 k hk
⟩
instance:qj zF 2:=⟨fun h=>by
 obtain⟨v0,v1,F0,F1,rfl,rfl,h0,h1⟩:=h
 exact⟨rfl,rfl⟩⟩
instance:lV zF Qm:=⟨fun h hg=>by
 obtain⟨v0,v1,F0,F1,rfl,rfl,h0,h1⟩:=h
 exact⟨v0,v1,rfl,lV.frz h0 (fun k hk=>hg k (by simp[hk])),lV.frz h1 (fun k hk=>hg k (by simp[hk]))⟩⟩
instance asG:bf Tryz.prog 185:=⟨Tryz.call185⟩
instance az1:bf Tryz.prog 194:=⟨Tryz.call194⟩
structure bz where
 Vars:List Int
 Values:List Int
instance iL:jM Tryz.prog 183 2 48 (.agg [(.slice none 0 0),(.slice none 0 0)].toArray):=⟨l_⟩
instance az2:bf Tryz.prog 168:=⟨Tryz.call168⟩
theorem aac{a:Atom}:∀H e,Cx H e a->e.cells.toList[0]?=some (.int .i64 a.Rel):=by
 intro H e h
 obtain⟨_,rfl,_⟩:=h
 rfl
instance aiq:bf Tryz.prog 184:=⟨Tryz.call184⟩
instance az3:bf Tryz.prog 201:=⟨Tryz.call201⟩
instance asH:bf Tryz.prog 202:=⟨Tryz.call202⟩
instance si:jE Tryz.prog 183 true:=⟨lU⟩
instance air:bf Tryz.prog 200:=⟨Tryz.call200⟩
instance ayY:il Tryz.prog 183 0 0:=⟨iB⟩
instance ayZ:il Tryz.prog 183 1 1:=⟨iB⟩
instance ais:bf Tryz.prog 188:=⟨Tryz.call188⟩
theorem awm{a:Fact}{v0:Sv}:Mk (aC mP) [] (.agg [(.int .i64 a.Rel),v0.v].toArray) a [bB (aD 3 az) v0.v a.Values]:=
 ⟨fun H h=>⟨rfl,v0,rfl,h (bB (aD 3 az) v0.v a.Values) (by simp)⟩,by simp[bB]⟩
instance asI:bf Tryz.prog 196:=⟨Tryz.call196⟩
instance asJ:bf Tryz.prog 195:=⟨Tryz.call195⟩
instance az4:bf Tryz.prog 203:=⟨Tryz.call203⟩
instance w_:qD Tryz.prog 184 183:=⟨vV⟩
def Cy(H:aH)(v:Value)(a:bz):Prop:=∃v0 v1:Sv,v= .agg [v0.v,v1.v].toArray/\(aD 3 az) H v0.v a.Vars/\(aD 3 az) H v1.v a.Values
instance:eF Cy:=⟨fun h hi=>by
 obtain⟨v0,v1,h,h0,h1⟩:=h
 exact⟨v0,v1,h,eF.up h0 hi,eF.up h1 hi⟩⟩
instance:Cells Cy 2:=⟨fun h=>by
 obtain⟨v0,v1,rfl,h0,h1⟩:=h
 exact⟨rfl,rfl⟩⟩
def sj:jb bz:=fun F H v a=>∃(v0 v1:Sv)(F0 F1:List Nat),v= .agg [v0.v,v1.v].toArray/\F=(F0++F1)/\(aF 3 (aC az)) F0 H v0.v a.Vars/\(aF 3 (aC az)) F1 H v1.v a.Values
instance:ik sj:=⟨fun h hi hg=>by
 obtain⟨v0,v1,F0,F1,rfl,rfl,h0,h1⟩:=h
 exact⟨v0,v1,F0,F1,rfl,rfl,ik.keep h0 hi (fun k hk=>hg k (by simp[hk])),ik.keep h1 hi (fun k hk=>hg k (by simp[hk]))⟩⟩
instance:Local sj:=⟨fun h hg=>by
 obtain⟨v0,v1,F0,F1,rfl,rfl,h0,h1⟩:=h
 exact⟨v0,v1,F0,F1,rfl,rfl,Local.keep h0 (fun k hk=>hg k (by simp[hk])),Local.keep h1 (fun k hk=>hg k (by simp[hk]))⟩⟩
instance:lT sj:=⟨fun h k hk=>by
 obtain⟨v0,v1,F0,F1,rfl,rfl,h0,h1⟩:=h
 simp only[List.mem_append]at hk
 rcases hk with hk|hk
 · exact lT.owns h0 k hk
 · exact lT.owns h1 k hk
⟩
instance:qj sj 2:=⟨fun h=>by
 obtain⟨v0,v1,F0,F1,rfl,rfl,h0,h1⟩:=h
 exact⟨rfl,rfl⟩⟩
instance:lV sj Cy:=⟨fun h hg=>by
 obtain⟨v0,v1,F0,F1,rfl,rfl,h0,h1⟩:=h
 exact⟨v0,v1,rfl,lV.frz h0 (fun k hk=>hg k (by simp[hk])),lV.frz h1 (fun k hk=>hg k (by simp[hk]))⟩⟩
theorem aaL{a:bz}{v0 v1:Sv}{F0 F1:List Nat}:Mk sj (F0++F1) (.agg [v0.v,v1.v].toArray) a [aT (aF 3 (aC az)) F0 v0.v a.Vars,aT (aF 3 (aC az)) F1 v1.v a.Values]:=
 ⟨fun H h=>⟨v0,v1,F0,F1,rfl,rfl,h (aT (aF 3 (aC az)) F0 v0.v a.Vars) (by simp),h (aT (aF 3 (aC az)) F1 v1.v a.Values) (by simp)⟩,by simp[aT]⟩
instance Wm:bf Tryz.prog 174:=⟨Tryz.call174⟩
def A9(a:bz)(p:Sv×Sv):List Value:=[p.1.v,p.2.v]
theorem ED{a:bz}:∀H e,Cy H e a-> ∃i:Sv×Sv,0+2<=e.cells.size/\(e.cells.toList.drop 0).take 2=A9 a i/\ ∀c∈([bB (aD 3 az) i.1.v a.Vars,bB (aD 3 az) i.2.v a.Values]:List aL),c.P H/\c.F=[]:=by
 intro H e h
 obtain⟨v0,v1,rfl,h0,h1⟩:=h
 refine⟨(v0,v1),Nat.le_of_ble_eq_true rfl,rfl,fun c hc=>by
   simp only[List.mem_cons,List.not_mem_nil,or_false]at hc
   rcases hc with rfl|rfl
   · exact⟨h0,rfl⟩
   · exact⟨h1,rfl⟩
⟩
instance asK:bf Tryz.prog 191:=⟨Tryz.call191⟩
instance az5:bf Tryz.prog 198:=⟨Tryz.call198⟩
instance asL:bf Tryz.prog 199:=⟨Tryz.call199⟩
theorem Wn:tF Tryz.prog 184:=.inr ⟨183,by kernel_rfl⟩
instance awn:bf Tryz.prog 69:=⟨Tryz.call69⟩
theorem asM{a:Query}{v0 v1:Sv}{F0 F1:List Nat}:Mk zF (F0++F1) (.agg [v0.v,v1.v].toArray) a [aT (aF 3 (aC az)) F0 v0.v a.Head,aT (aF 159 nH) F1 v1.v a.Atoms]:=
 ⟨fun H h=>⟨v0,v1,F0,F1,rfl,rfl,h (aT (aF 3 (aC az)) F0 v0.v a.Head) (by simp),h (aT (aF 159 nH) F1 v1.v a.Atoms) (by simp)⟩,by simp[aT]⟩
theorem asN:tF Tryz.prog 174:=.inr ⟨120,by kernel_rfl⟩
def Zl(a:Query)(p:Sv×Sv):List Value:=[p.1.v,p.2.v]
theorem af4{a:Query}:∀H e,Qm H e a-> ∃i:Sv×Sv,0+2<=e.cells.size/\(e.cells.toList.drop 0).take 2=Zl a i/\ ∀c∈([bB (aD 3 az) i.1.v a.Head,bB (aD 159 Cx) i.2.v a.Atoms]:List aL),c.P H/\c.F=[]:=by
 intro H e h
 obtain⟨v0,v1,rfl,h0,h1⟩:=h
 refine⟨(v0,v1),Nat.le_of_ble_eq_true rfl,rfl,fun c hc=>by
   simp only[List.mem_cons,List.not_mem_nil,or_false]at hc
   rcases hc with rfl|rfl
   · exact⟨h0,rfl⟩
   · exact⟨h1,rfl⟩
⟩
instance Fq:qD Tryz.prog 147 186:=⟨vV⟩
instance Cz:jM Tryz.prog 186 2 16 (.agg [(.int .i64 0),(.int .i64 0)].toArray):=⟨l_⟩
instance asO:bf Tryz.prog 166:=⟨Tryz.call166⟩
theorem ajx{a:Method}{v0:Sv}:Mk (aC qW) [] (.agg [(.int .i64 a.Rel),v0.v,(.int .i64 a.Limit),(.int .i64 a.Cost),(.int .i64 a.Quota)].toArray) a [bB (aD 3 az) v0.v a.Inputs]:=
 ⟨fun H h=>⟨rfl,v0,rfl,h (bB (aD 3 az) v0.v a.Inputs) (by simp)⟩,by simp[bB]⟩
instance asP:bf Tryz.prog 165:=⟨Tryz.call165⟩
instance az6:bf Tryz.prog 167:=⟨Tryz.call167⟩
instance ay0:il Tryz.prog 186 1 1:=⟨iB⟩
theorem Bz{a:Step}:∀H e,qP H e a->e.cells.toList[1]?=some (.int .i64 a.Method):=by
 intro H e h
 subst h
 rfl
theorem MC{a:Method}:∀H e,qW H e a->e.cells.toList[3]?=some (.int .i64 a.Cost):=by
 intro H e h
 obtain⟨_,rfl,_⟩:=h
 rfl
theorem aaM:tF Tryz.prog 147:=.inr ⟨186,by kernel_rfl⟩
instance asQ:bf Tryz.prog 186:=⟨Tryz.call186⟩
instance ait:bf Tryz.prog 187:=⟨Tryz.call187⟩
instance ay1:il Tryz.prog 186 0 0:=⟨iB⟩
theorem I_{a:Step}:∀H e,qP H e a->e.cells.toList[0]?=some (.int .i64 a.Atom):=by
 intro H e h
 subst h
 rfl
instance ay2:il Tryz.prog 149 2 3:=⟨iB⟩
instance ay3:il Tryz.prog 149 0 0:=⟨iB⟩
instance ay4:il Tryz.prog 149 1 2:=⟨iB⟩
instance az7:jE Tryz.prog 147 false:=⟨lU⟩
instance az8:bf Tryz.prog 139:=⟨Tryz.call139⟩
structure Run where
 Answers:List (List Int)
 Log:List Access
 Got:List Fact
 Cost:Int
instance Jj:jM Tryz.prog 154 4 80 (.agg [(.slice none 0 0),(.slice none 0 0),(.slice none 0 0),(.int .i64 0)].toArray):=⟨l_⟩
instance az9:bf Tryz.prog 169:=⟨Tryz.call169⟩
instance az_:bf Tryz.prog 170:=⟨Tryz.call170⟩
theorem P7{a:Method}:∀H e,qW H e a->e.cells.toList[2]?=some (.int .i64 a.Limit):=by
 intro H e h
 obtain⟨_,rfl,_⟩:=h
 rfl
instance Wo:jE Tryz.prog 154 true:=⟨lU⟩
instance asR:bf Tryz.prog 175:=⟨Tryz.call175⟩
instance asS:bf Tryz.prog 192:=⟨Tryz.call192⟩
instance ay5:il Tryz.prog 154 0 0:=⟨iB⟩
instance ay6:il Tryz.prog 154 1 1:=⟨iB⟩
instance awo:bf Tryz.prog 35:=⟨Tryz.call35⟩
instance ay7:il Tryz.prog 154 3 3:=⟨iB⟩
instance asT:bf Tryz.prog 171:=⟨Tryz.call171⟩
instance az':bf Tryz.prog 172:=⟨Tryz.call172⟩
instance aAa:bf Tryz.prog 189:=⟨Tryz.call189⟩
instance aAb:bf Tryz.prog 197:=⟨Tryz.call197⟩
theorem ahZ{a:Method}:∀H e,qW H e a->e.cells.toList[0]?=some (.int .i64 a.Rel):=by
 intro H e h
 obtain⟨_,rfl,_⟩:=h
 rfl
theorem ah0{a:cB}:∀H e,oV H e a-> ∃w:Sv,e.cells.toList[2]?=some w.v/\(aD 70 mP) H w.v a.Facts:=by
 intro H e h
 obtain⟨v0,v1,rfl,h0,h1⟩:=h
 exact⟨v1,rfl,h1⟩
instance aAc:bf Tryz.prog 190:=⟨Tryz.call190⟩
instance awp:bf Tryz.prog 32:=⟨Tryz.call32⟩
instance awq:jM Tryz.prog 33 1 24 (.slice none 0 0):=⟨l_⟩
instance awr:bf Tryz.prog 22:=⟨Tryz.call22⟩
instance aws:bf Tryz.prog 30:=⟨Tryz.call30⟩
theorem awt{a:Access}{v0:Sv}:Mk (aC qZ) [] (.agg [(.int .i64 a.Method),v0.v].toArray) a [bB (aD 3 az) v0.v a.Values]:=
 ⟨fun H h=>⟨rfl,v0,rfl,h (bB (aD 3 az) v0.v a.Values) (by simp)⟩,by simp[bB]⟩
instance aAd:bf Tryz.prog 173:=⟨Tryz.call173⟩
theorem ajy{a:cB}{v0 v1:Sv}:Mk (aC oV) [] (.agg [(.int .i64 a.Access.Method),v0.v,v1.v,(.int .i64 a.At)].toArray) a [bB (aD 3 az) v0.v a.Access.Values,bB (aD 70 mP) v1.v a.Facts]:=
 ⟨fun H h=>⟨rfl,v0,v1,rfl,h (bB (aD 3 az) v0.v a.Access.Values) (by simp),h (bB (aD 70 mP) v1.v a.Facts) (by simp)⟩,by simp[bB]⟩
theorem aaN{a:bz}{v0 v1:Sv}:Mk (aC Cy) [] (.agg [v0.v,v1.v].toArray) a [bB (aD 3 az) v0.v a.Vars,bB (aD 3 az) v1.v a.Values]:=
 ⟨fun H h=>⟨rfl,v0,v1,rfl,h (bB (aD 3 az) v0.v a.Vars) (by simp),h (bB (aD 3 az) v1.v a.Values) (by simp)⟩,by simp[bB]⟩
instance ay8:il Tryz.prog 154 2 2:=⟨iB⟩
instance cf6:bf Tryz.prog 6:=⟨Tryz.call6⟩
instance aB4:bf Tryz.prog 26:=⟨Tryz.call26⟩
instance awu:bf Tryz.prog 53:=⟨Tryz.call53⟩
instance aAe:bf Tryz.prog 104:=⟨Tryz.call104⟩
instance awv:bf Tryz.prog 61:=⟨Tryz.call61⟩
instance aB5:bf Tryz.prog 38:=⟨Tryz.call38⟩
instance aB6:bf Tryz.prog 81:=⟨Tryz.call81⟩
instance asU:bf Tryz.prog 142:=⟨Tryz.call142⟩
instance aAf:bf Tryz.prog 105:=⟨Tryz.call105⟩
instance aAg:bf Tryz.prog 143:=⟨Tryz.call143⟩
instance asV:bf Tryz.prog 106:=⟨Tryz.call106⟩
instance aAh:bf Tryz.prog 107:=⟨Tryz.call107⟩
instance aAi:bf Tryz.prog 144:=⟨Tryz.call144⟩
instance aAj:bf Tryz.prog 145:=⟨Tryz.call145⟩
instance aAk:bf Tryz.prog 178:=⟨Tryz.call178⟩
instance asW:bf Tryz.prog 179:=⟨Tryz.call179⟩
instance aAl:bf Tryz.prog 125:=⟨Tryz.call125⟩
instance aww:bf Tryz.prog 54:=⟨Tryz.call54⟩
instance aAm:bf Tryz.prog 108:=⟨Tryz.call108⟩
instance aAn:bf Tryz.prog 146:=⟨Tryz.call146⟩
instance asX:bf Tryz.prog 109:=⟨Tryz.call109⟩
instance aAo:bf Tryz.prog 110:=⟨Tryz.call110⟩
instance aAp:bf Tryz.prog 147:=⟨Tryz.call147⟩
instance asY:bf Tryz.prog 180:=⟨Tryz.call180⟩
instance awx:bf Tryz.prog 55:=⟨Tryz.call55⟩
instance aAq:bf Tryz.prog 111:=⟨Tryz.call111⟩
instance aAr:bf Tryz.prog 148:=⟨Tryz.call148⟩
instance aAs:bf Tryz.prog 114:=⟨Tryz.call114⟩
instance asZ:bf Tryz.prog 149:=⟨Tryz.call149⟩
instance aAt:bf Tryz.prog 150:=⟨Tryz.call150⟩
instance aB7:bf Tryz.prog 64:=⟨Tryz.call64⟩
instance aAu:bf Tryz.prog 118:=⟨Tryz.call118⟩
instance aAv:bf Tryz.prog 152:=⟨Tryz.call152⟩
instance aAw:bf Tryz.prog 119:=⟨Tryz.call119⟩
instance aiu:bf Tryz.prog 117:=⟨Tryz.call117⟩
instance awy:bf Tryz.prog 56:=⟨Tryz.call56⟩
instance aAx:bf Tryz.prog 112:=⟨Tryz.call112⟩
instance aB8:bf Tryz.prog 59:=⟨Tryz.call59⟩
instance awz:bf Tryz.prog 28:=⟨Tryz.call28⟩
instance aB9:bf Tryz.prog 66:=⟨Tryz.call66⟩
instance aAy:bf Tryz.prog 121:=⟨Tryz.call121⟩
instance aB_:bf Tryz.prog 68:=⟨Tryz.call68⟩
instance aB':bf Tryz.prog 65:=⟨Tryz.call65⟩
instance ajz:bf Tryz.prog 67:=⟨Tryz.call67⟩
instance aiv:bf Tryz.prog 120:=⟨Tryz.call120⟩
instance awC:bf Tryz.prog 57:=⟨Tryz.call57⟩
instance aAz:bf Tryz.prog 113:=⟨Tryz.call113⟩
instance awD:bf Tryz.prog 36:=⟨Tryz.call36⟩
instance aCa:bf Tryz.prog 80:=⟨Tryz.call80⟩
instance awE:bf Tryz.prog 58:=⟨Tryz.call58⟩
instance awF:bf Tryz.prog 60:=⟨Tryz.call60⟩
instance aAA:bf Tryz.prog 115:=⟨Tryz.call115⟩
instance aAB:bf Tryz.prog 151:=⟨Tryz.call151⟩
instance as0:bf Tryz.prog 116:=⟨Tryz.call116⟩
instance awG:bf Tryz.prog 27:=⟨Tryz.call27⟩
instance aCb:bf Tryz.prog 62:=⟨Tryz.call62⟩
instance awH:bf Tryz.prog 63:=⟨Tryz.call63⟩
instance aCc:bf Tryz.prog 29:=⟨Tryz.call29⟩
instance cf8:bf Tryz.prog 8:=⟨Tryz.call8⟩
instance ab4:bf Tryz.prog 19:=⟨Tryz.call19⟩
instance cf7:bf Tryz.prog 7:=⟨Tryz.call7⟩
instance cf9:bf Tryz.prog 9:=⟨Tryz.call9⟩
instance awI:bf Tryz.prog 10:=⟨Tryz.call10⟩
instance awJ:bf Tryz.prog 11:=⟨Tryz.call11⟩
instance aCd:bf Tryz.prog 34:=⟨Tryz.call34⟩
instance aCe:bf Tryz.prog 79:=⟨Tryz.call79⟩
instance awK:bf Tryz.prog 12:=⟨Tryz.call12⟩
instance awL:bf Tryz.prog 13:=⟨Tryz.call13⟩
instance awM:bf Tryz.prog 37:=⟨Tryz.call37⟩
instance awN:bf Tryz.prog 39:=⟨Tryz.call39⟩
instance awO:bf Tryz.prog 14:=⟨Tryz.call14⟩
instance awP:bf Tryz.prog 15:=⟨Tryz.call15⟩
instance aCf:bf Tryz.prog 40:=⟨Tryz.call40⟩
instance aCg:bf Tryz.prog 82:=⟨Tryz.call82⟩
instance awQ:bf Tryz.prog 41:=⟨Tryz.call41⟩
instance aCh:bf Tryz.prog 42:=⟨Tryz.call42⟩
instance aCi:bf Tryz.prog 43:=⟨Tryz.call43⟩
instance awR:bf Tryz.prog 83:=⟨Tryz.call83⟩
instance aCj:bf Tryz.prog 84:=⟨Tryz.call84⟩
instance aAC:bf Tryz.prog 126:=⟨Tryz.call126⟩
instance awS:bf Tryz.prog 16:=⟨Tryz.call16⟩
instance aCk:bf Tryz.prog 44:=⟨Tryz.call44⟩
instance ajA:bf Tryz.prog 17:=⟨Tryz.call17⟩
instance ajB:bf Tryz.prog 18:=⟨Tryz.call18⟩
instance awT:bf Tryz.prog 20:=⟨Tryz.call20⟩
instance aCl:bf Tryz.prog 46:=⟨Tryz.call46⟩
instance aCm:bf Tryz.prog 85:=⟨Tryz.call85⟩
instance ajC:bf Tryz.prog 86:=⟨Tryz.call86⟩
instance aAD:bf Tryz.prog 127:=⟨Tryz.call127⟩
instance as1:bf Tryz.prog 128:=⟨Tryz.call128⟩
instance aCn:bf Tryz.prog 87:=⟨Tryz.call87⟩
instance as2:bf Tryz.prog 129:=⟨Tryz.call129⟩
instance aAE:bf Tryz.prog 130:=⟨Tryz.call130⟩
theorem aqr:∀args w,(callFunc 154 args).run Tryz.prog w=((Extern.SlicesOverlaps.overlaps #[27,27] #[4] args).run Tryz.prog w).andThen fun v w'=>.ok (.value v) w':=fun args w=>run_callFunc_extern Tryz.func154 (by kernel_rfl) (by kernel_rfl) (by kernel_rfl) (e:=Extern.SlicesOverlaps.overlaps #[27,27] #[4]) (by kernel_rfl) args w
instance awU:bf Tryz.prog 21:=⟨Tryz.call21⟩
instance aCo:bf Tryz.prog 47:=⟨Tryz.call47⟩
instance awV:bf Tryz.prog 88:=⟨Tryz.call88⟩
instance awW:bf Tryz.prog 23:=⟨Tryz.call23⟩
theorem zI{α β:Type}{l:List α}{i:Int}{f:α->Option β}{R:β}{G:Prop}(hF:(ix l i).bind f=some R)(k:∀x,0<=i->l[i.toNat]?=some x->f x=some R->G):G:=by
 obtain⟨x,h,e⟩:=Option.bind_eq_some_iff.1 hF
 obtain⟨h1,h2⟩:=E5 h
 exact k x h1 h2 e
theorem kF{G N:Prop}(k:N)(h:N->G:=by (intro k; (iterate 10 refine au ?_); exact k)):G:=h k
theorem CB{G N:Prop}(k:N)(h:N->G:=by (intro k; (iterate 11 refine au ?_); exact k)):G:=h k
theorem Fs{G N:Prop}(k:N)(h:N->G:=by (intro k; (iterate 12 refine au ?_); exact k)):G:=h k
theorem as3{G N:Prop}(k:N)(h:N->G:=by (intro k; (iterate 13 refine au ?_); exact k)):G:=h k
theorem aiw{G N:Prop}(k:N)(h:N->G:=by (intro k; (iterate 14 refine au ?_); exact k)):G:=h k
theorem as4{G N:Prop}(k:N)(h:N->G:=by (intro k; (iterate 15 refine au ?_); exact k)):G:=h k
theorem Qn{G N:Prop}(k:N)(h:N->G:=by (intro k; (iterate 16 refine au ?_); exact k)):G:=h k
theorem as5{G N:Prop}(k:N)(h:N->G:=by (intro k; (iterate 17 refine au ?_); exact k)):G:=h k
theorem as6{G N:Prop}(k:N)(h:N->G:=by (intro k; (iterate 18 refine au ?_); exact k)):G:=h k
theorem aU{G N:Prop}(k:N)(h:N->G:=by (intro k; (iterate 2 refine au ?_); exact k)):G:=h k
theorem as7{G N:Prop}(k:N)(h:N->G:=by (intro k; (iterate 20 refine au ?_); exact k)):G:=h k
theorem bv{G N:Prop}(k:N)(h:N->G:=by (intro k; (iterate 3 refine au ?_); exact k)):G:=h k
theorem bi{G N:Prop}(k:N)(h:N->G:=by (intro k; (iterate 4 refine au ?_); exact k)):G:=h k
theorem aZ{G N:Prop}(k:N)(h:N->G:=by (intro k; (iterate 5 refine au ?_); exact k)):G:=h k
theorem bE{G N:Prop}(k:N)(h:N->G:=by (intro k; (iterate 6 refine au ?_); exact k)):G:=h k
theorem bJ{G N:Prop}(k:N)(h:N->G:=by (intro k; (iterate 7 refine au ?_); exact k)):G:=h k
theorem dN{G N:Prop}(k:N)(h:N->G:=by (intro k; (iterate 8 refine au ?_); exact k)):G:=h k
theorem gF{G N:Prop}(k:N)(h:N->G:=by (intro k; (iterate 9 refine au ?_); exact k)):G:=h k
theorem bD(b:Bool):b=true\/b=false:=Bool.eq_false_or_eq_true b
theorem aI{α:Sort _}{a b:α}:cond false a b=b:=rfl
theorem aJ{α:Sort _}{a b:α}:cond true a b=a:=rfl
theorem as8{G N:Prop}(k:N)(h:N->G:=by (intro k; (iterate 10 refine du ?_); exact k)):G:=h k
theorem bX{G N:Prop}(k:N)(h:N->G:=by (intro k; (iterate 2 refine du ?_); exact k)):G:=h k
theorem dD{G N:Prop}(k:N)(h:N->G:=by (intro k; (iterate 3 refine du ?_); exact k)):G:=h k
theorem nZ{G N:Prop}(k:N)(h:N->G:=by (intro k; (iterate 4 refine du ?_); exact k)):G:=h k
theorem t_{G N:Prop}(k:N)(h:N->G:=by (intro k; (iterate 5 refine du ?_); exact k)):G:=h k
theorem xn{G N:Prop}(k:N)(h:N->G:=by (intro k; (iterate 6 refine du ?_); exact k)):G:=h k
theorem ab5{G N:Prop}(k:N)(h:N->G:=by (intro k; (iterate 7 refine du ?_); exact k)):G:=h k
theorem ab6{G N:Prop}(k:N)(h:N->G:=by (intro k; (iterate 8 refine du ?_); exact k)):G:=h k
theorem ze{G P:Prop}(hF:P)(h:P->G:=by (intro hF; (repeat refine au ?_); cases hF; exact Er ())):G:=h hF
theorem bK{G P:Prop}(hF:P)(h:P->G:=by (intro hF; (repeat refine au ?_); cases hF; exact⟨_,_,rfl,aA,ay⟩)):G:=h hF
theorem ajD{G P:Prop}(hF:P)(h:P->G:=by (intro hF; (repeat refine au ?_); cases hF; exact⟨_,_,_,_,rfl,aA,ay⟩)):G:=h hF
theorem eD{G P:Prop}(hF:P)(h:P->G:=by (intro hF; (repeat refine du ?_); cases hF; exact⟨_,_,rfl,aA,ay⟩)):G:=h hF
abbrev zg(l:List Value):Value:=.agg l.toArray
abbrev zi(n:Int):Value:=.int .i64 n
theorem bY(n:Nat):n<n.succ:=Nat.lt_succ_self n
abbrev MI(F:List Nat)(v:Sv):=aT (aF 120 zF) F v.v
abbrev qo(F:List Nat)(v:Sv):=aT (aF 159 nH) F v.v
abbrev tL(F:List Nat)(v:Sv):=aT (aF 183 sj) F v.v
abbrev kK(F:List Nat)(v:Sv):=aT (aF 45 nk) F v.v
abbrev oF(F:List Nat)(v:Sv):=aT (aF 47 qY) F v.v
abbrev nJ(F:List Nat)(v:Sv):=aT (aF 57 qX) F v.v
abbrev eP(F:List Nat)(v:Sv):=aT (aF 70 gQ) F v.v
abbrev mE(F:List Nat)(v:Sv):=aT (aF 98 oU) F v.v
abbrev bI(F:List Nat)(v:Sv):=aT (aF 3 (aC az)) F v.v
abbrev FI(F:List Nat)(v:Sv):=aT (aF 45 (aC qZ)) F v.v
abbrev ab7(F:List Nat)(v:Sv):=aT (aF 47 (aC oV)) F v.v
abbrev ab8(F:List Nat)(v:Sv):=aT (aF 57 (aC qW)) F v.v
abbrev ab9(F:List Nat)(v:Sv):=aT (aF 70 (aC mP)) F v.v
abbrev aaO(v:Sv):=bB (aD 120 Qm) v.v
abbrev eX(v:Sv):=bB (aD 159 Cx) v.v
abbrev su(v:Sv):=bB (aD 183 Cy) v.v
abbrev iH(v:Sv):=bB (aD 186 qP) v.v
abbrev ah(v:Sv):=bB (aD 3 az) v.v
abbrev eH(v:Sv):=bB (aD 45 qZ) v.v
abbrev dM(v:Sv):=bB (aD 47 oV) v.v
abbrev kz(v:Sv):=bB (aD 5 xh) v.v
abbrev bW(v:Sv):=bB (aD 57 qW) v.v
abbrev bH(v:Sv):=bB (aD 70 mP) v.v
abbrev fq(v:Sv):=bB (aD 98 CS) v.v
theorem zx{G N:Prop}(k:N)(h:N->G:=by (intro k; exact aN (kD (.tmp rfl rfl) rfl) k)):G:=h k
theorem _root_.Go.Fw.Mem.q2{c d0 d1:aL}{l:List aL}:Fw.Mem c (d0::d1::c::l):=.t (.t .h)
theorem _root_.Go.Fw.Mem.q3{c d0 d1 d2:aL}{l:List aL}:Fw.Mem c (d0::d1::d2::c::l):=.t (.t (.t .h))
theorem _root_.Go.Fw.Mem.q4{c d0 d1 d2 d3:aL}{l:List aL}:Fw.Mem c (d0::d1::d2::d3::c::l):=.t (.t (.t (.t .h)))
theorem _root_.Go.Fw.Mem.q5{c d0 d1 d2 d3 d4:aL}{l:List aL}:Fw.Mem c (d0::d1::d2::d3::d4::c::l):=.t (.t (.t (.t (.t .h))))
theorem _root_.Go.Fw.Mem.q6{c d0 d1 d2 d3 d4 d5:aL}{l:List aL}:Fw.Mem c (d0::d1::d2::d3::d4::d5::c::l):=.t (.t (.t (.t (.t (.t .h)))))
theorem _root_.Go.Fw.Mem.q7{c d0 d1 d2 d3 d4 d5 d6:aL}{l:List aL}:Fw.Mem c (d0::d1::d2::d3::d4::d5::d6::c::l):=.t (.t (.t (.t (.t (.t (.t .h))))))
theorem _root_.Go.Fw.Mem.q8{c d0 d1 d2 d3 d4 d5 d6 d7:aL}{l:List aL}:Fw.Mem c (d0::d1::d2::d3::d4::d5::d6::d7::c::l):=.t (.t (.t (.t (.t (.t (.t (.t .h)))))))
theorem _root_.Go.Fw.Mem.q9{c d0 d1 d2 d3 d4 d5 d6 d7 d8:aL}{l:List aL}:Fw.Mem c (d0::d1::d2::d3::d4::d5::d6::d7::d8::c::l):=.t (.t (.t (.t (.t (.t (.t (.t (.t .h))))))))
theorem _root_.Go.Fw.Mem.q10{c d0 d1 d2 d3 d4 d5 d6 d7 d8 d9:aL}{l:List aL}:Fw.Mem c (d0::d1::d2::d3::d4::d5::d6::d7::d8::d9::c::l):=.t (.t (.t (.t (.t (.t (.t (.t (.t (.t .h)))))))))
theorem _root_.Go.Fw.Mem.q11{c d0 d1 d2 d3 d4 d5 d6 d7 d8 d9 qf:aL}{l:List aL}:Fw.Mem c (d0::d1::d2::d3::d4::d5::d6::d7::d8::d9::qf::c::l):=.t (.t (.t (.t (.t (.t (.t (.t (.t (.t (.t .h))))))))))
theorem _root_.Go.Fw.Mem.q12{c d0 d1 d2 d3 d4 d5 d6 d7 d8 d9 qf vC:aL}{l:List aL}:Fw.Mem c (d0::d1::d2::d3::d4::d5::d6::d7::d8::d9::qf::vC::c::l):=.t (.t (.t (.t (.t (.t (.t (.t (.t (.t (.t (.t .h)))))))))))
theorem _root_.Go.Fw.Mem.q13{c d0 d1 d2 d3 d4 d5 d6 d7 d8 d9 qf vC Dz:aL}{l:List aL}:Fw.Mem c (d0::d1::d2::d3::d4::d5::d6::d7::d8::d9::qf::vC::Dz::c::l):=.t (.t (.t (.t (.t (.t (.t (.t (.t (.t (.t (.t (.t .h))))))))))))
theorem _root_.Go.Fw.Mem.q14{c d0 d1 d2 d3 d4 d5 d6 d7 d8 d9 qf vC Dz Yh:aL}{l:List aL}:Fw.Mem c (d0::d1::d2::d3::d4::d5::d6::d7::d8::d9::qf::vC::Dz::Yh::c::l):=.t (.t (.t (.t (.t (.t (.t (.t (.t (.t (.t (.t (.t (.t .h)))))))))))))
theorem _root_.Go.Fw.Sel.q2{c d0 d1:aL}{l:List aL}:Fw.Sel (d0::d1::c::l) c (d0::d1::l):=.t (.t .h)
theorem _root_.Go.Fw.Sel.q3{c d0 d1 d2:aL}{l:List aL}:Fw.Sel (d0::d1::d2::c::l) c (d0::d1::d2::l):=.t (.t (.t .h))
theorem _root_.Go.Fw.Sel.q4{c d0 d1 d2 d3:aL}{l:List aL}:Fw.Sel (d0::d1::d2::d3::c::l) c (d0::d1::d2::d3::l):=.t (.t (.t (.t .h)))
theorem _root_.Go.Fw.Sel.q5{c d0 d1 d2 d3 d4:aL}{l:List aL}:Fw.Sel (d0::d1::d2::d3::d4::c::l) c (d0::d1::d2::d3::d4::l):=.t (.t (.t (.t (.t .h))))
theorem _root_.Go.Fw.Sel.q6{c d0 d1 d2 d3 d4 d5:aL}{l:List aL}:Fw.Sel (d0::d1::d2::d3::d4::d5::c::l) c (d0::d1::d2::d3::d4::d5::l):=.t (.t (.t (.t (.t (.t .h)))))
theorem _root_.Go.Fw.Sel.q7{c d0 d1 d2 d3 d4 d5 d6:aL}{l:List aL}:Fw.Sel (d0::d1::d2::d3::d4::d5::d6::c::l) c (d0::d1::d2::d3::d4::d5::d6::l):=.t (.t (.t (.t (.t (.t (.t .h))))))
theorem _root_.Go.Fw.Sel.q8{c d0 d1 d2 d3 d4 d5 d6 d7:aL}{l:List aL}:Fw.Sel (d0::d1::d2::d3::d4::d5::d6::d7::c::l) c (d0::d1::d2::d3::d4::d5::d6::d7::l):=.t (.t (.t (.t (.t (.t (.t (.t .h)))))))
theorem _root_.Go.Fw.Sel.q9{c d0 d1 d2 d3 d4 d5 d6 d7 d8:aL}{l:List aL}:Fw.Sel (d0::d1::d2::d3::d4::d5::d6::d7::d8::c::l) c (d0::d1::d2::d3::d4::d5::d6::d7::d8::l):=.t (.t (.t (.t (.t (.t (.t (.t (.t .h))))))))
theorem _root_.Go.Fw.Sel.q10{c d0 d1 d2 d3 d4 d5 d6 d7 d8 d9:aL}{l:List aL}:Fw.Sel (d0::d1::d2::d3::d4::d5::d6::d7::d8::d9::c::l) c (d0::d1::d2::d3::d4::d5::d6::d7::d8::d9::l):=.t (.t (.t (.t (.t (.t (.t (.t (.t (.t .h)))))))))
theorem _root_.Go.Fw.Sel.q11{c d0 d1 d2 d3 d4 d5 d6 d7 d8 d9 qf:aL}{l:List aL}:Fw.Sel (d0::d1::d2::d3::d4::d5::d6::d7::d8::d9::qf::c::l) c (d0::d1::d2::d3::d4::d5::d6::d7::d8::d9::qf::l):=.t (.t (.t (.t (.t (.t (.t (.t (.t (.t (.t .h))))))))))
theorem _root_.Go.Fw.Sel.q12{c d0 d1 d2 d3 d4 d5 d6 d7 d8 d9 qf vC:aL}{l:List aL}:Fw.Sel (d0::d1::d2::d3::d4::d5::d6::d7::d8::d9::qf::vC::c::l) c (d0::d1::d2::d3::d4::d5::d6::d7::d8::d9::qf::vC::l):=.t (.t (.t (.t (.t (.t (.t (.t (.t (.t (.t (.t .h)))))))))))
theorem _root_.Go.Fw.Sel.q13{c d0 d1 d2 d3 d4 d5 d6 d7 d8 d9 qf vC Dz:aL}{l:List aL}:Fw.Sel (d0::d1::d2::d3::d4::d5::d6::d7::d8::d9::qf::vC::Dz::c::l) c (d0::d1::d2::d3::d4::d5::d6::d7::d8::d9::qf::vC::Dz::l):=.t (.t (.t (.t (.t (.t (.t (.t (.t (.t (.t (.t (.t .h))))))))))))
theorem _root_.Go.Fw.Sel.q14{c d0 d1 d2 d3 d4 d5 d6 d7 d8 d9 qf vC Dz Yh:aL}{l:List aL}:Fw.Sel (d0::d1::d2::d3::d4::d5::d6::d7::d8::d9::qf::vC::Dz::Yh::c::l) c (d0::d1::d2::d3::d4::d5::d6::d7::d8::d9::qf::vC::Dz::Yh::l):=.t (.t (.t (.t (.t (.t (.t (.t (.t (.t (.t (.t (.t (.t .h)))))))))))))
def Wp(ko:List UInt8):Option (Bool):=
 some (decide ((1048576:Int)<(ko.length:Int)))
theorem apc{ko:List UInt8}{ae:Sv}{R:Bool}(hF:Wp ko=some R):
   Fw.Spec Tryz.prog 4 [ae.v] [kz ae ko] (fun _:Unit=>(.bool R)) (fun _=>[]):=by
 refine Se 6 Tryz.func4 [.tmp 2] ?_
 intro H0 F0
 unfold Wp at hF
 exact ze hF
def IB(ko:List UInt8):Nat->Int->Int->Option (bg)
 |0,_,_=>none
 |m3+1,c1,c2=>if ((decide ((c2:Int)<(ko.length:Int)))&&(decide ((c2:Int)<4000)))then (
     (ix ko c2).bind fun oI=>
     IB ko m3 (yh .i64 (IntKind.i64.wrap ((IntKind.i64.wrap ((IntKind.i64.wrap (c1*131))+(oI.toNat:Int)))+7)) 1073741823) (IntKind.i64.wrap (c2+1)))
   else (
     some (⟨ko,0,c1⟩:bg))
def VH(ko:List UInt8):Option (bg):=
 IB ko (((ko.length:Int)-0).toNat+2) (IntKind.i64.wrap (10101+(ko.length:Int))) 0
theorem aot{ko:List UInt8}{ae:Sv}{R:bg}(hF:VH ko=some R):
   Fw.Spec Tryz.prog 25 [ae.v] [kz ae ko] (fun p:Nat×Sv=>(.pointer (some ⟨p.1,0,some 0⟩))) (fun p=>[aW p.1 77 (zg [p.2.v,(zi R.i),(zi R.h)]),kz p.2 R.b]):=by
 refine Se 32 Tryz.func25 [.tmp 2] ?_
 intro H0 F0
 unfold VH at hF
 refine as3 ?_
 refine bn (bU (m:=(((ko.length:Int)-0).toNat+2)) (fun m3 f' cs'=>∃(g:Fr)(c1 c2:Int),f'=aQ g [(0,ae.v),(3,(zi c1)),(4,(zi c2))]/\aO cs' [kz ae ko]/\IB ko m3 c1 c2=some R) ⟨_,_,_,aA,ay,hF⟩ ?_)
 rintro m3 _ _ ⟨g4,c1,c2,rfl,hE,hF⟩
 refine bu hE ?_
 rcases m3 with _|m3
 · rw[IB]at hF
   exact absurd hF (by simp)
 rw[IB]at hF
 refine aU ?_
 refine fe (fun f' cs'=>∃(g:Fr),f'=aQ g [(0,ae.v),(3,(zi c1)),(4,(zi c2)),(15,(.bool ((decide ((c2:Int)<(ko.length:Int)))&&(decide ((c2:Int)<4000)))))]/\aO cs' [kz ae ko]) ?_ ?_
 · refine aZ ?_
   rcases bD (decide ((c2:Int)<(ko.length:Int)))with dS|dS
   · rw[dS]
     try rw[dS]at hF; dsimp only[aJ,aI]at hF
     refine bE ?_
     exact⟨_,aA,ay⟩
   rw[dS]
   try rw[dS]at hF; dsimp only[aJ,aI]at hF
   refine bi ?_
   exact⟨_,aA,ay⟩
 rintro _ _ ⟨g12,rfl,hE⟩
 refine bu hE ?_
 refine Ci hF (fun nK hF=>?_) (fun nK hF=>?_)
 · refine bJ ?_
   refine zI hF fun oI Xf hx16 hF=>?_
   refine Ai hx16 (fun k17 J5=>?_)
   refine Al aim ?_
   refine aN (afC (u:=oI) ik5 ik3 (.tmp rfl rfl)) ?_
   refine aU ?_
   refine aN (V7 (i:=(IntKind.i64.wrap ((IntKind.i64.wrap ((IntKind.i64.wrap (c1*131))+(oI.toNat:Int)))+7))) (j:=1073741823) (.tmp rfl rfl) (.int _ _)) ?_
   refine bJ ?_
   exact⟨m3,bY _,_,_,_,aA,ay,hF⟩
 refine bJ ?_
 refine aN (iD av8.h rfl (vs:=[ae.v,(zi c1)]) cu (cells:=[ae.v,(zi 0),(zi c1)]) rfl) ?_
 refine AbW (fun k19=>?_)
 refine bv ?_
 cases hF
 exact Er (k19,ae)
def Bo(aj:bg):Option (Int×bg):=
 (Jt .i64 (IntKind.i64.wrap ((IntKind.i64.wrap (aj.h*6364136223846793005))+1442695040888963407)) 33).bind fun x1=>
 (Jt .i64 (IntKind.i64.wrap ((IntKind.i64.wrap (aj.h*6364136223846793005))+1442695040888963407)) 45).bind fun x3=>
 if (decide ((aj.i:Int)<(aj.b.length:Int)))then (
   (ix aj.b aj.i).bind fun x5=>
   some ((yh .i64 (IntKind.i64.wrap ((yh .i64 (M4 .i64 x1 x3) 255)+(x5.toNat:Int))) 255),(⟨aj.b,(IntKind.i64.wrap (aj.i+1)),(IntKind.i64.wrap ((IntKind.i64.wrap (aj.h*6364136223846793005))+1442695040888963407))⟩:bg)))
 else (
   some ((yh .i64 (M4 .i64 x1 x3) 255),(⟨aj.b,aj.i,(IntKind.i64.wrap ((IntKind.i64.wrap (aj.h*6364136223846793005))+1442695040888963407))⟩:bg)))
theorem OP{bG:Nat}{aj:bg}{ae:Sv}{R:Int×bg}(hF:Bo aj=some R):
   Fw.Spec Tryz.prog 103 [(pz bG)] [aW bG 77 (zg [ae.v,(zi aj.i),(zi aj.h)]),kz ae aj.b] (fun _:Unit=>(zi R.1)) (fun _=>[aW bG 77 (zg [ae.v,(zi R.2.i),(zi R.2.h)])]):=by
 refine Se 58 Tryz.func103 [.tmp 2] ?_
 intro H0 F0
 unfold Bo at hF
 refine bE ?_
 refine aN (zt (v:=(pz bG)) rfl (.tmp rfl rfl)) ?_
 refine bi ?_
 refine aN (zt (v:=(pz bG)) rfl (.tmp rfl rfl)) ?_
 refine au ?_
 refine As (zg [ae.v,(zi aj.i),(zi (IntKind.i64.wrap ((IntKind.i64.wrap (aj.h*6364136223846793005))+1442695040888963407)))]) ?_
 refine au ?_
 refine dV [0,1,2,3,4,5,6,7,8,9,10,11,12] [0,1,3,7,15,0,32,96,224,480,1023,2047,4095] [] mixed (by decide+kernel) ?_
 refine du ?_
 refine bN rfl .no (fun ha=>zt (v:=(pz bG)) rfl (EN ha (.tmp rfl rfl) rfl)) ?_
 refine du ?_
 refine dO rfl .no .h (fun ha hp=>fw (v:=(zi (IntKind.i64.wrap ((IntKind.i64.wrap (aj.h*6364136223846793005))+1442695040888963407)))) qd.h (EN ha (.tmp rfl rfl) rfl) hp.2 rfl rfl) ?_
 refine bnd hF fun x1 hx2 hF=>bN rfl .no (fun ha=>aaG (i:=(IntKind.i64.wrap ((IntKind.i64.wrap (aj.h*6364136223846793005))+1442695040888963407))) (j:=33) (EN ha (.tmp rfl rfl) rfl) (EN ha (.int _ _) rfl) hx2) ?_
 refine du ?_
 refine bN rfl .no (fun ha=>zt (v:=(pz bG)) rfl (EN ha (.tmp rfl rfl) rfl)) ?_
 refine du ?_
 refine dO rfl .no .h (fun ha hp=>fw (v:=(zi (IntKind.i64.wrap ((IntKind.i64.wrap (aj.h*6364136223846793005))+1442695040888963407)))) qd.h (EN ha (.tmp rfl rfl) rfl) hp.2 rfl rfl) ?_
 refine bnd hF fun x3 hx4 hF=>bN rfl .no (fun ha=>aaG (i:=(IntKind.i64.wrap ((IntKind.i64.wrap (aj.h*6364136223846793005))+1442695040888963407))) (j:=45) (EN ha (.tmp rfl rfl) rfl) (EN ha (.int _ _) rfl) hx4) ?_
 refine bN rfl .no (fun ha=>arO (i:=x1) (j:=x3) (EN ha (.tmp rfl rfl) rfl) (EN ha (.tmp rfl rfl) rfl)) ?_
 refine bN rfl .no (fun ha=>V7 (i:=(M4 .i64 x1 x3)) (j:=255) (EN ha (.tmp rfl rfl) rfl) (EN ha (.int _ _) rfl)) ?_
 refine bX ?_
 refine au ?_
 refine dV [0,1,2,3,4,5,6,7,8,9] [0,1,3,7,0,16,48,112,240,511] [] mixed (by decide+kernel) ?_
 refine du ?_
 refine bN rfl .no (fun ha=>zt (v:=(pz bG)) rfl (EN ha (.tmp rfl rfl) rfl)) ?_
 refine du ?_
 refine dO rfl .no .h (fun ha hp=>fw (v:=(zi aj.i)) qd.h (EN ha (.tmp rfl rfl) rfl) hp.2 rfl rfl) ?_
 refine du ?_
 refine bN rfl .no (fun ha=>zt (v:=(pz bG)) rfl (EN ha (.tmp rfl rfl) rfl)) ?_
 refine du ?_
 refine dO rfl .no .h (fun ha hp=>fw (v:=ae.v) ajq.h (EN ha (.tmp rfl rfl) rfl) hp.2 rfl rfl) ?_
 refine dD ?_
 refine Ci hF (fun ab_ hF=>?_) (fun ab_ hF=>?_)
 · refine dV [0,1,2,3,4,5,6,7,8,9,10,11,12,13,14] [0,0,2,6,14,0,32,96,224,510,1022,2046,4095,8191,16383] [] mixed (by decide+kernel) ?_
   refine bX ?_
   refine bN rfl .no (fun ha=>zt (v:=(pz bG)) rfl (EN ha (.tmp rfl rfl) rfl)) ?_
   refine du ?_
   refine dO rfl .no .h (fun ha hp=>fw (v:=ae.v) ajq.h (EN ha (.tmp rfl rfl) rfl) hp.2 rfl rfl) ?_
   refine du ?_
   refine bN rfl .no (fun ha=>zt (v:=(pz bG)) rfl (EN ha (.tmp rfl rfl) rfl)) ?_
   refine du ?_
   refine dO rfl .no .h (fun ha hp=>fw (v:=(zi aj.i)) qd.h (EN ha (.tmp rfl rfl) rfl) hp.2 rfl rfl) ?_
   refine zI hF fun x5 hp7 uD hF=>?_
   refine Di uD (fun k9 j10=>?_)
   refine Dl aim ?_
   refine bN rfl .no (fun ha=>afC (u:=x5) ik5 ik3 (EN ha (.tmp rfl rfl) rfl)) ?_
   refine du ?_
   refine bN rfl .no (fun ha=>V7 (i:=(IntKind.i64.wrap ((yh .i64 (M4 .i64 x1 x3) 255)+(x5.toNat:Int)))) (j:=255) (EN ha (.tmp rfl rfl) rfl) (EN ha (.int _ _) rfl)) ?_
   refine bX ?_
   refine bv ?_
   refine aN (zt (v:=(pz bG)) rfl (.tmp rfl rfl)) ?_
   refine bv ?_
   refine aN (zt (v:=(pz bG)) rfl (.tmp rfl rfl)) ?_
   refine au ?_
   refine As (zg [ae.v,(zi (IntKind.i64.wrap (aj.i+1))),(zi (IntKind.i64.wrap ((IntKind.i64.wrap (aj.h*6364136223846793005))+1442695040888963407)))]) ?_
   exact ze hF
 exact ze hF
def kE(aj:bg)(gW:Int):Option (Int×bg):=
 if (decide ((gW:Int)<=0))then (
   some (0,aj))
 else (
   if (decide ((gW:Int)<=256))then (
     (Bo aj).bind fun r1=>
     (M5 r1.1 gW).bind fun x4=>
     some (x4,(⟨aj.b,r1.2.i,r1.2.h⟩:bg)))
   else (
     (Bo aj).bind fun r6=>
     (Bo (⟨aj.b,r6.2.i,r6.2.h⟩:bg)).bind fun r9=>
     (Bo (⟨aj.b,r9.2.i,r9.2.h⟩:bg)).bind fun dz=>
     (Bo (⟨aj.b,dz.2.i,dz.2.h⟩:bg)).bind fun gu=>
     (M5 (IntKind.i64.wrap ((IntKind.i64.wrap ((IntKind.i64.wrap ((IntKind.i64.wrap (r6.1*16777216))+(IntKind.i64.wrap (r9.1*65536))))+(IntKind.i64.wrap (dz.1*256))))+gu.1)) gW).bind fun ic=>
     some (ic,(⟨aj.b,gu.2.i,gu.2.h⟩:bg))))
theorem lm{bG:Nat}{aj:bg}{ae:Sv}{gW:Int}{R:Int×bg}(hF:kE aj gW=some R):
   Fw.Spec Tryz.prog 51 [(pz bG),(zi gW)] [aW bG 77 (zg [ae.v,(zi aj.i),(zi aj.h)]),kz ae aj.b] (fun _:Unit=>(zi R.1)) (fun _=>[aW bG 77 (zg [ae.v,(zi R.2.i),(zi R.2.h)])]):=by
 refine Se 37 Tryz.func51 [.tmp 4] ?_
 intro H0 F0
 unfold kE at hF
 refine dN ?_
 refine Ci hF (fun Ju hF=>?_) (fun Ju hF=>?_)
 · exact ze hF
 refine bE ?_
 refine Ci hF (fun nK hF=>?_) (fun nK hF=>?_)
 · refine aU ?_
   refine bnd hF fun r1 hx2 hF=>gB (OP hx2) (fun p3=>?_)
   refine au ?_
   refine bnd hF fun x4 hx5 hF=>aN (ahT (i:=r1.1) (j:=gW) (.tmp rfl rfl) (.tmp rfl rfl) hx5) ?_
   exact ze hF
 refine bv ?_
 refine bnd hF fun r6 hx7 hF=>gB (OP hx7) (fun p8=>?_)
 refine bi ?_
 refine bnd hF fun r9 jI hF=>gB (OP jI) (fun oJ=>?_)
 refine bi ?_
 refine bnd hF fun dz iJ hF=>gB (OP iJ) (fun mh=>?_)
 refine bi ?_
 refine bnd hF fun gu hx16 hF=>gB (OP hx16) (fun ny=>?_)
 refine aiw ?_
 refine bnd hF fun ic kR hF=>aN (ahT (i:=(IntKind.i64.wrap ((IntKind.i64.wrap ((IntKind.i64.wrap ((IntKind.i64.wrap (r6.1*16777216))+(IntKind.i64.wrap (r9.1*65536))))+(IntKind.i64.wrap (dz.1*256))))+gu.1))) (j:=gW) (.tmp rfl rfl) (.tmp rfl rfl) kR) ?_
 exact ze hF
def ET(aj:bg)(gW:Int):Option (Bool×bg):=
 (kE aj gW).bind fun r1=>
 some (((r1.1:Int)==0),(⟨aj.b,r1.2.i,r1.2.h⟩:bg))
theorem OQ{bG:Nat}{aj:bg}{ae:Sv}{gW:Int}{R:Bool×bg}(hF:ET aj gW=some R):
   Fw.Spec Tryz.prog 131 [(pz bG),(zi gW)] [aW bG 77 (zg [ae.v,(zi aj.i),(zi aj.h)]),kz ae aj.b] (fun _:Unit=>(.bool R.1)) (fun _=>[aW bG 77 (zg [ae.v,(zi R.2.i),(zi R.2.h)])]):=by
 refine Se 9 Tryz.func131 [.tmp 4] ?_
 intro H0 F0
 unfold ET at hF
 refine bE ?_
 refine bnd hF fun r1 hx2 hF=>gB (lm hx2) (fun p3=>?_)
 exact ze hF
def Hf(aj:bg):Nat->Int->Int->(List Int)->Int->Option ((List Int)×bg)
 |0,_,_,_,_=>none
 |J6+1,kC,c40,lW,og=>if (decide ((0:Int)<og))then (
     ((kE (⟨aj.b,kC,c40⟩:bg) 2).bind fun uE=>
       (ET (⟨aj.b,uE.2.i,uE.2.h⟩:bg) 4).bind fun sM=>
       if sM.1 then (
         (app lW ([3]:List Int)).bind fun z62=>
         some (sM.2.i,sM.2.h,z62))
       else (
         (app lW ([(IntKind.i64.wrap (1+uE.1))]:List Int)).bind fun z66=>
         some (sM.2.i,sM.2.h,z66))).bind fun o53=>
     match o53 with
     |(c70,rQ,c72)=>Hf aj J6 c70 rQ c72 (IntKind.i64.wrap (og-1)))
   else (
     some (lW,(⟨aj.b,kC,c40⟩:bg)))
def Vg(aj:bg):Option ((List Int)×bg):=
 (kE aj 3).bind fun r2=>
 Hf aj (((IntKind.i64.wrap (1+r2.1))-0).toNat+2) r2.2.i r2.2.h ([]:List Int) (IntKind.i64.wrap (1+r2.1))
theorem am0{bG:Nat}{aj:bg}{ae:Sv}{R:(List Int)×bg}(hF:Vg aj=some R):
   Fw.Spec Tryz.prog 92 [(pz bG)] [aW bG 77 (zg [ae.v,(zi aj.i),(zi aj.h)]),kz ae aj.b] (fun p:Sv×List Nat=>p.1.v) (fun p=>[bI p.2 p.1 R.1,aW bG 77 (zg [ae.v,(zi R.2.i),(zi R.2.h)])]):=by
 refine Se 24 Tryz.func92 [.tmp 2] ?_
 intro H0 F0
 unfold Vg at hF
 refine bi ?_
 refine dH rfl (bQ (g:=true) di.h dx.h .nil (vs:=[]) rfl rfl rfl (by simp)) (fun k1=>?_)
 refine dR (.cons .h .nil) (bS (Ro:=(aC az)) (E:=3) (F:=[]) (xs:=([]:List Int)) bR rfl rfl) ?_
 refine aZ ?_
 refine bnd hF fun r2 hx3 hF=>gB (lm hx3) (fun p4=>?_)
 refine bv ?_
 refine bn (bU (m:=(((IntKind.i64.wrap (1+r2.1))-0).toNat+2)) (fun J6 f' cs'=>∃(g:Fr)(kC c40:Int)(lW:List Int)(og:Int)(v42:Sv)(xA:List Nat),f'=aQ g [(0,(pz bG)),(3,v42.v),(4,(zi og))]/\aO cs' [aW bG 77 (zg [ae.v,(zi kC),(zi c40)]),kz ae aj.b,bI xA v42 lW]/\Hf aj J6 kC c40 lW og=some R) ⟨_,_,_,_,_,⟨(some ⟨k1,0,none⟩),0,1⟩,(k1::[]),aA,ay,hF⟩ ?_)
 rintro J6 _ _ ⟨g46,kC,c40,lW,og,v42,xA,rfl,hE,hF⟩
 refine bu hE ?_
 rcases J6 with _|J6
 · rw[Hf]at hF
   exact absurd hF (by simp)
 rw[Hf]at hF
 refine aZ ?_
 refine Ci hF (fun ab' hF=>?_) (fun ab' hF=>?_)
 · refine au ?_
   obtain⟨o53,as9,awX⟩:=bind_some hF
   refine iF (fun f' cs'=>∃(c70 rQ:Int)(c72:List Int)(v73:Sv)(F74:List Nat)(g:Fr),o53=(c70,rQ,c72)/\f'=aQ g [(0,(pz bG)),(3,v73.v),(4,(zi og))]/\aO cs' [aW bG 77 (zg [ae.v,(zi c70),(zi rQ)]),kz ae aj.b,bI F74 v73 c72]) ?_ ?_
   · replace hF:=as9
     refine bn (dC (Cm (pz bG) rfl rfl ?_))
     refine bnd hF fun uE CX hF=>gB (lm CX) (fun p57=>?_)
     refine bE ?_
     refine bnd hF fun sM CY hF=>gB (OQ CY) (fun p60=>?_)
     refine au ?_
     refine Ci hF (fun aca hF=>?_) (fun aca hF=>?_)
     · refine bE ?_
       refine dH rfl (bQ (g:=true) di.h dx.h cu (vs:=[(zi 3)]) rfl rfl rfl (by intro v hv; simp at hv; rcases hv with rfl<;>rfl)) (fun k61=>?_)
       refine dR (.cons .h .nil) (bS (Ro:=(aC az)) (E:=3) (F:=([]++[])) (xs:=([3]:List Int)) (ed (jF (fun _=>rfl)) bR cK) rfl rfl) ?_
       refine bnd hF fun z62 CZ hF=>ek (.cons .q3 (.cons .h .nil)) (dX (Ro:=(aC az)) di.h jc dx.h rfl rfl rfl (.tmp rfl rfl) (.tmp rfl rfl) CZ fU) (fun p64=>?_)
       refine aU ?_
       cases hF
       exact⟨_,_,_,p64.1,p64.2,_,rfl,aA,ay⟩
     refine bi ?_
     refine dH rfl (bQ (g:=true) di.h dx.h cu (vs:=[(zi (IntKind.i64.wrap (1+uE.1)))]) rfl rfl rfl (by intro v hv; simp at hv; rcases hv with rfl<;>rfl)) (fun k65=>?_)
     refine dR (.cons .h .nil) (bS (Ro:=(aC az)) (E:=3) (F:=([]++[])) (xs:=([(IntKind.i64.wrap (1+uE.1))]:List Int)) (ed (jF (fun _=>rfl)) bR cK) rfl rfl) ?_
     refine bnd hF fun z66 Rj hF=>ek (.cons .q3 (.cons .h .nil)) (dX (Ro:=(aC az)) di.h jc dx.h rfl rfl rfl (.tmp rfl rfl) (.tmp rfl rfl) Rj fU) (fun p68=>?_)
     refine aU ?_
     cases hF
     exact⟨_,_,_,p68.1,p68.2,_,rfl,aA,ay⟩
   rintro _ _ ⟨c70,rQ,c72,v73,F74,g75,rfl,rfl,hE⟩
   replace hF:=awX
   try dsimp only at hF
   refine bu hE ?_
   refine aZ ?_
   exact⟨J6,bY _,_,_,_,_,_,v73,F74,aA,ay,hF⟩
 refine gF ?_
 cases hF
 exact Er (v42,xA)
def iT(aS:Int)(vO:Int)(xY:Int):Option (Bool):=
 some ((decide ((vO:Int)<=aS))&&(decide ((aS:Int)<=xY)))
theorem jT{aS vO xY:Int}{R:Bool}(hF:iT aS vO xY=some R):
   Fw.Spec Tryz.prog 75 [(zi aS),(zi vO),(zi xY)] [] (fun _:Unit=>(.bool R)) (fun _=>[]):=by
 refine Se 15 Tryz.func75 [.tmp 6] ?_
 intro H0 F0
 unfold iT at hF
 refine bi ?_
 refine fe (fun f' cs'=>∃(g:Fr),f'=aQ g [(6,(.bool ((decide ((vO:Int)<=aS))&&(decide ((aS:Int)<=xY)))))]/\aO cs' []) ?_ ?_
 · refine bi ?_
   rcases bD (decide ((vO:Int)<=aS))with hg1|hg1
   · rw[hg1]
     try rw[hg1]at hF; dsimp only[aJ,aI]at hF
     refine gF ?_
     exact⟨_,aA,ay⟩
   rw[hg1]
   try rw[hg1]at hF; dsimp only[aJ,aI]at hF
   refine bE ?_
   exact⟨_,aA,ay⟩
 rintro _ _ ⟨g2,rfl,hE⟩
 refine bu hE ?_
 exact ze hF
def Hg(ag:List Int):List Int->Nat->Option (Bool)
 |[],k4=>(iT (ag.length:Int) 1 3).bind fun o5=>
   some o5
 |x6::aM,k4=>(iT x6 1 3).bind fun nz=>
   if (!nz)then (
     some false)
   else (
     Hg ag aM (k4+1))
def sU(ag:List Int):Option (Bool):=
 Hg ag ag 0
theorem xM{ag:List Int}{ae:Sv}{R:Bool}(hF:sU ag=some R):
   Fw.Spec Tryz.prog 70 [ae.v] [ah ae ag] (fun _:Unit=>(.bool R)) (fun _=>[]):=by
 refine Se 19 Tryz.func70 [.tmp 2] ?_
 intro H0 F0
 unfold sU at hF
 refine bJ ?_
 refine bn (bU (m:=ag.length) (fun m2 f' cs'=>∃(g:Fr)(k4:Nat)(aM:List Int),m2=aM.length/\f'=aQ g [(0,ae.v),(3,(zi (k4:Int)))]/\List.drop k4 ag=aM/\aO cs' [ah ae ag]/\Hg ag aM k4=some R) ⟨_,0,_,rfl,aA,rfl,ay,hF⟩ ?_)
 rintro m2 _ _ ⟨g3,k4,aM,rfl,rfl,hd7,hE,hF⟩
 refine Kb hE ag (fun kY=>?_)
 rcases aM with _|⟨x6,aM⟩
 · have gH:=dn hd7
   rw[Hg]at hF
   refine bJ ?_
   refine dL ?_
   refine bJ ?_
   refine bnd hF fun o5 kr hF=>bC (jT kr) (fun _=>?_)
   exact ze hF
 obtain⟨gH,bZ,gG⟩:=dA hd7
 rw[Hg]at hF
 refine bJ ?_
 refine dK ?_
 refine aZ ?_
 refine Ai bZ (fun k16 J7=>?_)
 refine Al dP ?_
 refine bnd hF fun nz kR hF=>bC (jT kR) (fun _=>?_)
 refine aU ?_
 refine Ci hF (fun vZ hF=>?_) (fun vZ hF=>?_)
 · exact ze hF
 refine bE ?_
 rw[wk k4]
 exact⟨_,bY _,_,k4+1,aM,rfl,aA,gG,ay,hF⟩
def Oj(ag:List Int)(x_:Int):Option (aY×Bool):=
 ((sU ag).bind fun r4=>
   bif (!r4)then (some true)
   else ((iT x_ 0 100).bind fun r8=>
     some (!r8))).bind fun o2=>
 match o2 with
 |c11=>if c11 then (
     some ((⟨[],[],[],(⟨[],0⟩:Source),(⟨[],0⟩:Cache),0,[],[],0,[]⟩:aY),false))
   else (
     (app ([]:List Int) ag).bind fun Gh=>
     some ((⟨Gh,[],[],(⟨[],0⟩:Source),(⟨[],x_⟩:Cache),0,[],[],0,[]⟩:aY),true))
theorem alV{ag:List Int}{ae:Sv}{x_:Int}{R:aY×Bool}(hF:Oj ag x_=some R):
   Fw.Spec Tryz.prog 93 [ae.v,(zi x_)] [ah ae ag] (fun p:Sv×List Nat×Sv×List Nat×Sv×List Nat×Sv×List Nat×Sv×List Nat×Sv×List Nat×Sv×List Nat×Sv×List Nat=>(.tuple [(zg [p.1.v,p.2.2.1.v,p.2.2.2.2.1.v,p.2.2.2.2.2.2.1.v,(zi R.1.Source.Version),p.2.2.2.2.2.2.2.2.1.v,(zi R.1.Cache.Age),(zi R.1.Now),p.2.2.2.2.2.2.2.2.2.2.1.v,p.2.2.2.2.2.2.2.2.2.2.2.2.1.v,(zi R.1.Spent),p.2.2.2.2.2.2.2.2.2.2.2.2.2.2.1.v]),(.bool R.2)].toArray)) (fun p=>[bI p.2.1 p.1 R.1.Schema,nJ p.2.2.2.1 p.2.2.1 R.1.Methods,mE p.2.2.2.2.2.1 p.2.2.2.2.1 R.1.Rules,eP p.2.2.2.2.2.2.2.1 p.2.2.2.2.2.2.1 R.1.Source.Facts,oF p.2.2.2.2.2.2.2.2.2.1 p.2.2.2.2.2.2.2.2.1 R.1.Cache.Entries,kK p.2.2.2.2.2.2.2.2.2.2.2.1 p.2.2.2.2.2.2.2.2.2.2.1 R.1.Log,bI p.2.2.2.2.2.2.2.2.2.2.2.2.2.1 p.2.2.2.2.2.2.2.2.2.2.2.2.1 R.1.Times,aT (aF 152 (aF 24 (aF 3 (aC az)))) p.2.2.2.2.2.2.2.2.2.2.2.2.2.2.2 p.2.2.2.2.2.2.2.2.2.2.2.2.2.2.1.v R.1.Results]):=by
 refine Se 21 Tryz.func93 [.cell 4 36,.tmp 5] ?_
 intro H0 F0
 unfold Oj at hF
 refine au ?_
 refine d_ (fun k1=>?_)
 refine bv ?_
 obtain⟨o2,gz,hO3⟩:=bind_some hF
 refine au ?_
 refine fe (fun f' cs'=>∃(c11:Bool)(g:Fr),c11=o2/\f'=aQ g [(0,ae.v),(1,(zi x_)),(4,(pz k1)),(13,(.bool c11))]/\aO cs' [ah ae ag,aW k1 36 (.agg ([(.slice none 0 0),(.slice none 0 0),(.slice none 0 0),(.slice none 0 0),(zi 0),(.slice none 0 0),(zi 0),(zi 0),(.slice none 0 0),(.slice none 0 0),(zi 0),(.slice none 0 0)]:List Value).toArray)]) ?_ ?_
 · replace hF:=gz
   refine au ?_
   refine bnd hF fun r4 hx5 hF=>bC (xM hx5) (fun _=>?_)
   refine aU ?_
   rcases bD (!r4)with bq|bq
   · rw[bq]
     try rw[bq]at hF; dsimp only[aJ,aI]at hF
     exact bK hF
   rw[bq]
   try rw[bq]at hF; dsimp only[aJ,aI]at hF
   refine bv ?_
   refine bnd hF fun r8 bZ hF=>bC (jT bZ) (fun _=>?_)
   exact bK hF
 rintro _ _ ⟨c11,g17,rfl,rfl,hE⟩
 replace hF:=hO3
 try dsimp only at hF
 refine bu hE ?_
 refine Ci hF (fun C8 hF=>?_) (fun C8 hF=>?_)
 · refine au ?_
   refine aN (iD eG.h rfl (vs:=[]) .nil (cells:=[(.slice none 0 0),(.slice none 0 0),(.slice none 0 0),(.slice none 0 0),(zi 0),(.slice none 0 0),(zi 0),(zi 0),(.slice none 0 0),(.slice none 0 0),(zi 0),(.slice none 0 0)]) (by kernel_rfl)) ?_
   refine As (.agg ([(.slice none 0 0),(.slice none 0 0),(.slice none 0 0),(.slice none 0 0),(zi 0),(.slice none 0 0),(zi 0),(zi 0),(.slice none 0 0),(.slice none 0 0),(zi 0),(.slice none 0 0)]:List Value).toArray) ?_
   refine bv ?_
   cases hF
   exact gU (⟨none,0,0⟩,[],⟨none,0,0⟩,[],⟨none,0,0⟩,[],⟨none,0,0⟩,[],⟨none,0,0⟩,[],⟨none,0,0⟩,[],⟨none,0,0⟩,[],⟨none,0,0⟩,[]) (.cellA rfl rfl .h rfl gP.h eG.h.sz rfl rfl (.tmp rfl rfl .nil)) rfl (.conv .nil (gV (Ro:=(aC az)) (E:=3)) (.cons .nil) (.conv .nil (gV (Ro:=qX) (E:=57)) (.cons .nil) (.conv .nil (gV (Ro:=oU) (E:=98)) (.cons .nil) (.conv .nil (gV (Ro:=gQ) (E:=70)) (.cons .nil) (.conv .nil (gV (Ro:=qY) (E:=47)) (.cons .nil) (.conv .nil (gV (Ro:=nk) (E:=45)) (.cons .nil) (.conv .nil (gV (Ro:=(aC az)) (E:=3)) (.cons .nil) (.conv .nil (gV (Ro:=(aF 24 (aF 3 (aC az)))) (E:=152)) (.cons .nil) (.sel (.cons .q7 (.cons .q6 (.cons .q5 (.cons .q4 (.cons .q3 (.cons .q2 (.cons (.t .h) (.cons .h .nil)))))))))))))))))
 refine aU ?_
 refine dH rfl (bQ (g:=true) di.h dx.h .nil (vs:=[]) rfl rfl rfl (by simp)) (fun k12=>?_)
 refine dR (.cons .h .nil) (bS (Ro:=(aC az)) (E:=3) (F:=[]) (xs:=([]:List Int)) bR rfl rfl) ?_
 refine au ?_
 refine bnd hF fun Gh kr hF=>ek (.cons .h (.rd .h rfl .nil)) (dX (Ro:=(aC az)) di.h jc dx.h rfl rfl rfl (.tmp rfl rfl) (.tmp rfl rfl) kr mr) (fun nA=>?_)
 refine au ?_
 refine aN (iD oW.h rfl (vs:=[(zi x_)]) cu (cells:=[(.slice none 0 0),(zi x_)]) rfl) ?_
 refine aN (iD eG.h rfl (vs:=[nA.1.v,(zg [(.slice none 0 0),(zi x_)])]) cu (cells:=[nA.1.v,(.slice none 0 0),(.slice none 0 0),(.slice none 0 0),(zi 0),(.slice none 0 0),(zi x_),(zi 0),(.slice none 0 0),(.slice none 0 0),(zi 0),(.slice none 0 0)]) (by kernel_rfl)) ?_
 refine As (zg [nA.1.v,(.slice none 0 0),(.slice none 0 0),(.slice none 0 0),(zi 0),(.slice none 0 0),(zi x_),(zi 0),(.slice none 0 0),(.slice none 0 0),(zi 0),(.slice none 0 0)]) ?_
 refine bv ?_
 cases hF
 exact gU (nA.1,nA.2,⟨none,0,0⟩,[],⟨none,0,0⟩,[],⟨none,0,0⟩,[],⟨none,0,0⟩,[],⟨none,0,0⟩,[],⟨none,0,0⟩,[],⟨none,0,0⟩,[]) (.cellA rfl rfl .h rfl gP.h eG.h.sz rfl rfl (.tmp rfl rfl .nil)) rfl (.conv .nil (gV (Ro:=qX) (E:=57)) (.cons .nil) (.conv .nil (gV (Ro:=oU) (E:=98)) (.cons .nil) (.conv .nil (gV (Ro:=gQ) (E:=70)) (.cons .nil) (.conv .nil (gV (Ro:=qY) (E:=47)) (.cons .nil) (.conv .nil (gV (Ro:=nk) (E:=45)) (.cons .nil) (.conv .nil (gV (Ro:=(aC az)) (E:=3)) (.cons .nil) (.conv .nil (gV (Ro:=(aF 24 (aF 3 (aC az)))) (E:=152)) (.cons .nil) (.sel (.cons .q8 (.cons .q6 (.cons .q5 (.cons .q4 (.cons .q3 (.cons .q2 (.cons (.t .h) (.cons .h .nil))))))))))))))))
def Lr(aj:bg)(P8:List Int):Option (Int×bg):=
 (kE aj (P8.length:Int)).bind fun r1=>
 (ix P8 r1.1).bind fun x4=>
 some (x4,(⟨aj.b,r1.2.i,r1.2.h⟩:bg))
theorem YZ{bG:Nat}{aj:bg}{ae:Sv}{P8:List Int}{ax:Sv}{R:Int×bg}(hF:Lr aj P8=some R):
   Fw.Spec Tryz.prog 52 [(pz bG),ax.v] [aW bG 77 (zg [ae.v,(zi aj.i),(zi aj.h)]),kz ae aj.b,ah ax P8] (fun _:Unit=>(zi R.1)) (fun _=>[aW bG 77 (zg [ae.v,(zi R.2.i),(zi R.2.h)])]):=by
 refine Se 12 Tryz.func52 [.tmp 4] ?_
 intro H0 F0
 unfold Lr at hF
 refine dN ?_
 refine bnd hF fun r1 hx2 hF=>gB (lm hx2) (fun p3=>?_)
 refine zI hF fun x4 hp6 hx7 hF=>?_
 refine Ai hx7 (fun k8 j9=>?_)
 refine Al dP ?_
 exact ze hF
def Hl(aj:bg)(ag:List Int)(r2:Int×bg)(r6:Int×bg)(r9:Int×bg)(dz:Int×bg):Nat->Int->Int->(List Int)->Int->Option (Method×bg)
 |0,_,_,_,_=>none
 |J8+1,c46,kN,J9,c51=>(ix ag r2.1).bind fun Aw=>
   if (decide ((c51:Int)<Aw))then (
     ((ET ({b:=aj.b,i:=c46,h:=kN}:bg) 3).bind fun J_=>
       if J_.1 then (
         (app J9 ([c51]:List Int)).bind fun z72=>
         some (J_.2.i,J_.2.h,z72))
       else (
         some (J_.2.i,J_.2.h,J9))).bind fun o66=>
     match o66 with
     |(c76,y7,y8)=>Hl aj ag r2 r6 r9 dz J8 c76 y7 y8 (IntKind.i64.wrap (c51+1)))
   else (
     some (({Rel:=r2.1,Inputs:=J9,Limit:=r6.1,Cost:=r9.1,Quota:=(IntKind.i64.wrap (1+dz.1))}:Method),({b:=aj.b,i:=c46,h:=kN}:bg)))
def Vh(fuel:Nat)(aj:bg)(ag:List Int):Option (Method×bg):=
 (kE aj (ag.length:Int)).bind fun r2=>
 (Lr ({b:=aj.b,i:=r2.2.i,h:=r2.2.h}:bg) ([0,0,0,1,2]:List Int)).bind fun r6=>
 (kE ({b:=aj.b,i:=r6.2.i,h:=r6.2.h}:bg) 5).bind fun r9=>
 (kE ({b:=aj.b,i:=r9.2.i,h:=r9.2.h}:bg) 6).bind fun dz=>
 Hl aj ag r2 r6 r9 dz fuel dz.2.i dz.2.h ([]:List Int) 0
theorem am1{fuel bG:Nat}{aj:bg}{ae:Sv}{ag:List Int}{ax:Sv}{R:Method×bg}(hF:Vh fuel aj ag=some R):
   Fw.Spec Tryz.prog 95 [(.pointer (some ⟨bG,0,some 0⟩)),ax.v] [aW bG 77 (.agg [ae.v,(.int .i64 aj.i),(.int .i64 aj.h)].toArray),bB (aD 5 xh) ae.v aj.b,bB (aD 3 az) ax.v ag] (fun p:Sv×List Nat=>(.agg [(.int .i64 R.1.Rel),p.1.v,(.int .i64 R.1.Limit),(.int .i64 R.1.Cost),(.int .i64 R.1.Quota)].toArray)) (fun p=>[aT (aF 3 (aC az)) p.2 p.1.v R.1.Inputs,aW bG 77 (.agg [ae.v,(.int .i64 R.2.i),(.int .i64 R.2.h)].toArray)]):=by
 refine Iz (n:=38) Tryz.func95 rfl rfl (rs:=[.cell 4 57]) rfl rfl rfl ?_
 intro H0 F0
 unfold Vh at hF
 refine dC (dH rfl (rY (g:=true) qy.h rfl rfl) (fun k1=>?_))
 refine df (dC (Cm (.pointer (some ⟨bG,0,some 0⟩)) rfl rfl ?_))
 refine Cm ax.v rfl rfl ?_
 refine eu (.t (.t (.t .h))) (fun hp=>rZ (l:=ag.length) di.h (.tmp rfl rfl) (zB hp)) ?_
 obtain⟨r2,hx3,hF⟩:=bind_some hF
 refine ek (.cons (.t .h) (.rd (.t .h) rfl .nil)) (bV CR.h (.cons (.tmp rfl rfl) (.cons (.tmp rfl rfl) .nil)) (@lm bG aj ae (ag.length:Int) _ hx3)) (fun p4=>?_)
 refine Cm (.pointer (some ⟨bG,0,some 0⟩)) rfl rfl ?_
 refine dH rfl (bQ (g:=true) di.h dx.h (.cons (.int _ _) (.cons (.int _ _) (.cons (.int _ _) (.cons (.int _ _) (.cons (.int _ _) .nil))))) (vs:=[(.int .i64 0),(.int .i64 0),(.int .i64 0),(.int .i64 1),(.int .i64 2)]) rfl rfl rfl (by intro v hv; simp at hv; rcases hv with rfl|rfl|rfl|rfl|rfl<;>rfl)) (fun k5=>?_)
 refine Mv (.cons .h .nil) (bS (Ro:=(aC az)) (E:=3) (F:=([]++([]++([]++([]++([]++[])))))) (xs:=([0,0,0,1,2]:List Int)) (ed (jF (fun _=>rfl)) (ed (jF (fun _=>rfl)) (ed (jF (fun _=>rfl)) (ed (jF (fun _=>rfl)) (ed (jF (fun _=>rfl)) bR cK) cK) cK) cK) cK) rfl rfl) cK ?_
 obtain⟨r6,hx7,hF⟩:=bind_some hF
 refine uZ (.cons .h (.cons .h (.rd (.t .h) rfl .nil))) (jV aG (fun _=>(.cons .nil)) (jm (.cons (.t .h) (.rd (.t .h) rfl (.rd .h rfl .nil))) (bV ab0.h (.cons (.tmp rfl rfl) (.cons (.tmp rfl rfl) .nil)) (@YZ bG ({b:=aj.b,i:=r2.2.i,h:=r2.2.h}:bg) ae ([0,0,0,1,2]:List Int) (⟨(some ⟨k5,0,none⟩),5,1⟩) _ hx7)))) (fun p8=>?_)
 refine Cm (.pointer (some ⟨bG,0,some 0⟩)) rfl rfl ?_
 obtain⟨r9,jI,hF⟩:=bind_some hF
 refine ek (.cons (.t .h) (.rd (.t (.t .h)) rfl .nil)) (bV CR.h (.cons (.tmp rfl rfl) (.cons (.int _ _) .nil)) (@lm bG ({b:=aj.b,i:=r6.2.i,h:=r6.2.h}:bg) ae 5 _ jI)) (fun oJ=>?_)
 refine Cm (.pointer (some ⟨bG,0,some 0⟩)) rfl rfl ?_
 obtain⟨dz,iJ,hF⟩:=bind_some hF
 refine ek (.cons .h (.rd (.t (.t .h)) rfl .nil)) (bV CR.h (.cons (.tmp rfl rfl) (.cons (.int _ _) .nil)) (@lm bG ({b:=aj.b,i:=r9.2.i,h:=r9.2.h}:bg) ae 6 _ iJ)) (fun mh=>?_)
 refine aN (nW (i:=1) (j:=dz.1) (.int _ _) (.tmp rfl rfl)) ?_
 refine aN (iD qy.h rfl (vs:=[(.int .i64 r2.1),(.int .i64 r6.1),(.int .i64 r9.1),(.int .i64 (IntKind.i64.wrap (1+dz.1)))]) (.cons (.tmp rfl rfl) (.cons (.tmp rfl rfl) (.cons (.tmp rfl rfl) (.cons (.tmp rfl rfl) .nil)))) (cells:=[(.int .i64 r2.1),(.slice none 0 0),(.int .i64 r6.1),(.int .i64 r9.1),(.int .i64 (IntKind.i64.wrap (1+dz.1)))]) rfl) ?_
 refine dH rfl (rY (g:=true) qy.h rfl rfl) (fun k15=>?_)
 refine ek (.cons .h .nil) (gD (e':=(.agg [(.int .i64 r2.1),(.slice none 0 0),(.int .i64 r6.1),(.int .i64 r9.1),(.int .i64 (IntKind.i64.wrap (1+dz.1)))].toArray)) (v:=(.agg [(.int .i64 r2.1),(.slice none 0 0),(.int .i64 r6.1),(.int .i64 r9.1),(.int .i64 (IntKind.i64.wrap (1+dz.1)))].toArray)) qy.h.sz (.tmp rfl rfl) (.tmp rfl rfl) rfl rfl rfl rfl rfl) (fun _=>?_)
 refine df (j4 (dC (aN (jW (v:=(.int .i64 0)) (.int _ _)) ?_)))
 refine df (bn (bU (m:=fuel) (fun J8 f' cs'=>∃(g:Fr)(c46:Int)(kN:Int)(J9:List Int)(c51:Int)(v49:Sv)(Yi:List Nat),f'=aQ g [(0,(.pointer (some ⟨bG,0,some 0⟩))),(1,ax.v),(4,(.pointer (some ⟨k1,0,some 0⟩))),(5,(.pointer (some ⟨k15,0,some 0⟩))),(6,(.int .i64 c51))]/\aO cs' [aW bG 77 (.agg [ae.v,(.int .i64 c46),(.int .i64 kN)].toArray),bB (aD 5 xh) ae.v aj.b,bB (aD 3 az) ax.v ag,aW k1 57 (.agg [(.int .i64 0),(.slice none 0 0),(.int .i64 0),(.int .i64 0),(.int .i64 0)].toArray),aW k15 57 (.agg [(.int .i64 r2.1),v49.v,(.int .i64 r6.1),(.int .i64 r9.1),(.int .i64 (IntKind.i64.wrap (1+dz.1)))].toArray),aT (aF 3 (aC az)) Yi v49.v J9]/\Hl aj ag r2 r6 r9 dz J8 c46 kN J9 c51=some R) ⟨_,_,_,_,_,⟨none,0,0⟩,[],(b_.cons rfl (b_.cons rfl (b_.cons rfl (b_.cons rfl (b_.cons rfl (b_.nil)))))).eq,(.conv .nil (gV (Ro:=(aC az)) (E:=3)) (.cons .nil) (.sel (.cons (.t (.t .h)) (.rd (.t (.t (.t (.t .h)))) rfl (.rd (.t (.t (.t (.t (.t .h))))) rfl (.cons (.t (.t (.t .h))) (.cons (.t .h) (.cons .h .nil)))))))),hF⟩ ?_))
 clear hF
 rintro J8 _ _ ⟨g53,c46,kN,J9,c51,v49,Yi,rfl,hE,hF⟩
 refine bu hE ?_
 clear hE
 rcases J8 with _|J8
 · rw[Hl]at hF
   exact absurd hF (by simp)
 rw[Hl]at hF
 refine j4 (dC (Cm (.int .i64 c51) rfl rfl ?_))
 refine Cm ax.v rfl rfl ?_
 refine aN (iK (off:=0) aqh.h (.tmp rfl rfl)) ?_
 refine eu (.t (.t (.t (.t .h)))) (fun hp=>fw (v:=(.int .i64 r2.1)) qd.h (.tmp rfl rfl) hp.2 rfl rfl) ?_
 obtain⟨Aw,awY,hF⟩:=bind_some hF
 obtain⟨ajE,CZ⟩:=E5 awY
 refine MF (a:=Aw) di.h dx.h.sz (.tmp rfl rfl) (.tmp rfl rfl) (.t (.t .h)) ajE CZ (fun k64 j65=>?_)
 refine aaE (w:=(.int .i64 Aw)) qd.h (.tmp rfl rfl) .h dP ?_
 refine aN (Fg (i:=c51) (j:=Aw) (.tmp rfl rfl) (.tmp rfl rfl)) ?_
 refine df (kg (b:=(decide ((c51:Int)<Aw))) (.tmp rfl rfl) (fun Rk=>?_) (fun Rk=>?_))
 · rw[if_pos Rk]at hF
   refine nU ?_
   obtain⟨o66,as_,ajF⟩:=bind_some hF
   refine iF (fun f' cs'=>∃(c76:Int)(y7:Int)(y8:List Int)(v79:Sv)(F80:List Nat)(g:Fr),o66=(c76,y7,y8)/\f'=aQ g [(0,(.pointer (some ⟨bG,0,some 0⟩))),(1,ax.v),(4,(.pointer (some ⟨k1,0,some 0⟩))),(5,(.pointer (some ⟨k15,0,some 0⟩))),(6,(.int .i64 c51))]/\aO cs' [aW bG 77 (.agg [ae.v,(.int .i64 c76),(.int .i64 y7)].toArray),bB (aD 5 xh) ae.v aj.b,bB (aD 3 az) ax.v ag,aW k1 57 (.agg [(.int .i64 0),(.slice none 0 0),(.int .i64 0),(.int .i64 0),(.int .i64 0)].toArray),aW k15 57 (.agg [(.int .i64 r2.1),v79.v,(.int .i64 r6.1),(.int .i64 r9.1),(.int .i64 (IntKind.i64.wrap (1+dz.1)))].toArray),aT (aF 3 (aC az)) F80 v79.v y8]) ?_ ?_
   · replace hF:=as_
     refine bn (dC (Cm (.pointer (some ⟨bG,0,some 0⟩)) rfl rfl ?_))
     obtain⟨J_,acb,hF⟩:=bind_some hF
     refine ek (.cons (.t .h) (.rd (.t .h) rfl .nil)) (bV asv.h (.cons (.tmp rfl rfl) (.cons (.int _ _) .nil)) (@OQ bG ({b:=aj.b,i:=c46,h:=kN}:bg) ae 3 _ acb)) (fun p70=>?_)
     refine df (kg (b:=J_.1) (.tmp rfl rfl) (fun acd=>?_) (fun acd=>?_))
     · rw[if_pos acd]at hF
       refine kT (aN (iK (off:=1) ahU.h (.tmp rfl rfl)) ?_)
       refine eu (.t (.t (.t (.t (.t .h))))) (fun hp=>fw (v:=v49.v) iC.h (.tmp rfl rfl) hp.2 rfl rfl) ?_
       refine Cm (.int .i64 c51) rfl rfl ?_
       refine dH rfl (bQ (g:=true) di.h dx.h (.cons (.tmp rfl rfl) .nil) (vs:=[(.int .i64 c51)]) rfl rfl rfl (by intro v hv; simp at hv; rcases hv with rfl<;>rfl)) (fun wJ=>?_)
       refine Mv (.cons .h .nil) (bS (Ro:=(aC az)) (E:=3) (F:=([]++[])) (xs:=([c51]:List Int)) (ed (jF (fun _=>rfl)) bR cK) rfl rfl) cK ?_
       obtain⟨z72,ace,hF⟩:=bind_some hF
       refine ek (.cons (.t (.t (.t (.t (.t (.t (.t .h))))))) (.cons .h .nil)) (dX (Ro:=(aC az)) di.h jc dx.h rfl rfl rfl (.tmp rfl rfl) (.tmp rfl rfl) ace fU) (fun p74=>?_)
       refine aN (iK (off:=1) ahU.h (.tmp rfl rfl)) ?_
       refine ek (.cons (.t (.t (.t (.t (.t (.t .h)))))) .nil) (gD (e':=(.agg [(.int .i64 r2.1),p74.1.v,(.int .i64 r6.1),(.int .i64 r9.1),(.int .i64 (IntKind.i64.wrap (1+dz.1)))].toArray)) pQ.h.sz (.tmp rfl rfl) (.tmp rfl rfl) rfl rfl rfl rfl rfl) (fun _=>?_)
       refine df ?_
       obtain rfl:=Option.some.inj hF
       exact⟨_,_,_,p74.1,p74.2,_,rfl,(b_.cons rfl (b_.cons rfl (b_.cons rfl (b_.cons rfl (b_.cons rfl (b_.nil)))))).eq,(.sel (.cons (.t (.t .h)) (.rd (.t (.t (.t .h))) rfl (.rd (.t (.t (.t (.t .h)))) rfl (.cons (.t (.t (.t (.t (.t .h))))) (.cons .h (.cons .h .nil)))))))⟩
     rw[if_neg (by rw[acd]; exact Bool.false_ne_true)]at hF
     refine nU ?_
     obtain rfl:=Option.some.inj hF
     exact⟨_,_,_,v49,Yi,_,rfl,(b_.cons rfl (b_.cons rfl (b_.cons rfl (b_.cons rfl (b_.cons rfl (b_.nil)))))).eq,(.sel (.cons .h (.rd (.t .h) rfl (.rd (.t (.t .h)) rfl (.cons (.t (.t (.t .h))) (.cons (.t (.t (.t .h))) (.cons (.t (.t (.t .h))) .nil)))))))⟩
   rintro _ _ ⟨c76,y7,y8,v79,F80,g81,rfl,rfl,hE⟩
   replace hF:=ajF
   clear ajF
   try dsimp only at hF
   refine bu hE ?_
   refine kT (Cm (.int .i64 c51) rfl rfl ?_)
   refine aN (nW (i:=c51) (j:=1) (.tmp rfl rfl) (.int _ _)) ?_
   refine Ca (.int .i64 (IntKind.i64.wrap (c51+1))) rfl rfl ?_
   refine df ?_
   exact⟨J8,Nat.lt_succ_self _,_,_,_,_,_,v79,F80,(b_.cons rfl (b_.cons rfl (b_.cons rfl (b_.cons rfl (b_.cons rfl (b_.nil)))))).eq,(.sel (.cons .h (.rd .h rfl (.rd (.t .h) rfl (.cons (.t (.t .h)) (.cons (.t (.t .h)) (.cons (.t (.t .h)) .nil))))))),hF⟩
 rw[if_neg (by rw[Rk]; exact Bool.false_ne_true)]at hF
 refine EZ ?_
 iterate 2 refine Bb ?_
 refine ER (dC (eu (.t (.t (.t (.t (.t .h))))) (fun hp=>fP ajr.h qy.h.sz rfl (.tmp rfl rfl) hp.2 rfl) ?_))
 refine ek (.cons (.t (.t (.t (.t .h)))) .nil) (gD (e':=(.agg [(.int .i64 r2.1),v49.v,(.int .i64 r6.1),(.int .i64 r9.1),(.int .i64 (IntKind.i64.wrap (1+dz.1)))].toArray)) (v:=(.agg [(.int .i64 r2.1),v49.v,(.int .i64 r6.1),(.int .i64 r9.1),(.int .i64 (IntKind.i64.wrap (1+dz.1)))].toArray)) qy.h.sz (.tmp rfl rfl) (.tmp rfl rfl) rfl rfl rfl rfl rfl) (fun _=>?_)
 refine df (qN ?_)
 obtain rfl:=Option.some.inj hF
 exact gU (v49,Yi) (.cellA rfl rfl .h rfl ajr.h qy.h.sz rfl rfl .nil) rfl (.sel (.cons (.t (.t (.t (.t (.t (.t .h)))))) (.cons (.t (.t .h)) .nil)))
def wX(oP:Int)(kU:List Int):Option (Fact):=
 (app ([]:List Int) kU).bind fun z3=>
 some (⟨oP,z3⟩:Fact)
theorem EK{oP:Int}{kU:List Int}{ax:Sv}{R:Fact}(hF:wX oP kU=some R):
   Fw.Spec Tryz.prog 78 [(zi oP),ax.v] [ah ax kU] (fun p:Sv×List Nat=>(zg [(zi R.Rel),p.1.v])) (fun p=>[bI p.2 p.1 R.Values]):=by
 refine Se 10 Tryz.func78 [.cell 4 70] ?_
 intro H0 F0
 unfold wX at hF
 refine au ?_
 refine d_ (fun k1=>?_)
 refine bv ?_
 refine dH rfl (bQ (g:=true) di.h dx.h .nil (vs:=[]) rfl rfl rfl (by simp)) (fun k2=>?_)
 refine dR (.cons .h .nil) (bS (Ro:=(aC az)) (E:=3) (F:=[]) (xs:=([]:List Int)) bR rfl rfl) ?_
 refine au ?_
 refine bnd hF fun z3 hx4 hF=>ek (.cons .h (.rd (.t .h) rfl .nil)) (dX (Ro:=(aC az)) di.h jc dx.h rfl rfl rfl (.tmp rfl rfl) (.tmp rfl rfl) hx4 mr) (fun p5=>?_)
 refine aN (iD dZ.h rfl (vs:=[(zi oP),p5.1.v]) cu (cells:=[(zi oP),p5.1.v]) rfl) ?_
 refine As (zg [(zi oP),p5.1.v]) ?_
 refine aU ?_
 cases hF
 exact Er (p5.1,p5.2)
def Ik:List Fact->Nat->(List Fact)->Option ((List Fact))
 |[],k8,c2=>some c2
 |eY::fO,k8,c2=>(wX eY.Rel eY.Values).bind fun lh=>
   (app c2 ([lh]:List Fact)).bind fun z26=>
   Ik fO (k8+1) z26
def L_(ai:List Fact):Option ((List Fact)):=
 Ik ai 0 ([]:List Fact)
theorem Zm{ai:List Fact}{ae:Sv}{R:(List Fact)}(hF:L_ ai=some R):
   Fw.Spec Tryz.prog 182 [ae.v] [bH ae ai] (fun p:Sv×List Nat=>p.1.v) (fun p=>[eP p.2 p.1 R]):=by
 refine Se 27 Tryz.func182 [.tmp 2] ?_
 intro H0 F0
 unfold L_ at hF
 refine bi ?_
 refine dH rfl (bQ (g:=true) gq.h dZ.h .nil (vs:=[]) rfl rfl rfl (by simp)) (fun k1=>?_)
 refine dR (.cons .h .nil) (bS (Ro:=gQ) (E:=70) (F:=[]) (xs:=([]:List Fact)) bR rfl rfl) ?_
 refine bE ?_
 refine bn (bU (m:=ai.length) (fun m6 f' cs'=>∃(g:Fr)(k8:Nat)(fO c2:List Fact)(v3:Sv)(F4:List Nat),m6=fO.length/\f'=aQ g [(0,ae.v),(3,v3.v),(4,(zi (k8:Int)))]/\List.drop k8 ai=fO/\aO cs' [bH ae ai,eP F4 v3 c2]/\Ik fO k8 c2=some R) ⟨_,0,_,_,⟨(some ⟨k1,0,none⟩),0,1⟩,(k1::[]),rfl,aA,rfl,ay,hF⟩ ?_)
 rintro m6 _ _ ⟨g7,k8,fO,c2,v3,F4,rfl,rfl,j5,hE,hF⟩
 refine Kb hE ai (fun MJ=>?_)
 rcases fO with _|⟨eY,fO⟩
 · have v_:=dn j5
   rw[Ik]at hF
   refine bJ ?_
   refine dL ?_
   refine gF ?_
   cases hF
   exact Er (v3,F4)
 obtain⟨v_,iJ,sG⟩:=dA j5
 rw[Ik]at hF
 refine bJ ?_
 refine dK ?_
 refine aU ?_
 refine jD [0,1,2,3,4,5,6,7,8,9,10,11,12,13,14] [0,0,0,6,14,30,0,0,192,448,960,2046,4094,8191,16383] [11,13] mixed (by decide+kernel) ?_
 refine dD ?_
 refine Di iJ (fun k17 J5=>?_)
 refine du ?_
 refine Dl BR ?_
 refine bX ?_
 refine Di iJ (fun k19 Gi=>?_)
 refine du ?_
 refine oz (R':=(aD 3 az)) iC.h rfl .no (.tmp rfl rfl) rfl .h E_ (fun w21=>?_)
 refine bnd hF fun lh uf hF=>qE (EK uf) (fun nO=>?_)
 refine iy rfl .no rfl (fun ha=>bQ (g:=true) (len:=1) (parts:=[(0,.tmp 23)]) gq.h dZ.h (.cons (EN ha (.tmp rfl rfl) rfl) .nil) (vs:=[(zg [(zi lh.Rel),nO.1.v])]) rfl rfl rfl (by intro v hv; simp at hv; rcases hv with rfl<;>rfl)) (fun k25=>?_)
 refine jk (.cons .h (.cons .h .nil)) (bS (Ro:=gQ) (E:=70) (F:=(nO.2++[])) (xs:=([lh]:List Fact)) (ed yn bR cK) rfl rfl) ?_
 refine bnd hF fun z26 hx27 hF=>cO rfl rfl .no (.cons .q5 (.cons .h .nil)) (.dep rfl .nil) (fun ha=>dX (Ro:=gQ) gq.h yo dZ.h rfl rfl rfl (EN ha (.tmp rfl rfl) rfl) (EN ha (.tmp rfl rfl) rfl) hx27 fU) (fun p28=>?_)
 refine bX ?_
 refine aZ ?_
 rw[wk k8]
 exact⟨_,bY _,_,k8+1,fO,_,p28.1,p28.2,rfl,aA,sG,ay,hF⟩
def LP(aS:Source):Option (Source):=
 (L_ aS.Facts).bind fun r3=>
 some (⟨r3,aS.Version⟩:Source)
theorem afE{aS:Source}{ae:Sv}{R:Source}(hF:LP aS=some R):
   Fw.Spec Tryz.prog 156 [(zg [ae.v,(zi aS.Version)])] [bH ae aS.Facts] (fun p:Sv×List Nat=>(zg [p.1.v,(zi R.Version)])) (fun p=>[eP p.2 p.1 R.Facts]):=by
 refine Se 9 Tryz.func156 [.cell 2 29] ?_
 intro H0 F0
 unfold LP at hF
 refine au ?_
 refine bP (fun k1=>?_)
 refine d_ (fun k2=>?_)
 refine au ?_
 refine dV [0,1,3,4,2,5,6] [0,1,3,0,8,31,63] [2,6] mixed (by decide+kernel) ?_
 refine nZ ?_
 refine bnd hF fun r3 hx4 hF=>qE (Zm hx4) (fun p5=>?_)
 refine bN rfl .no (fun ha=>iD vW.h rfl (vs:=[p5.1.v,(zi aS.Version)]) (.cons (EN ha (.tmp rfl rfl) rfl) (.cons (EN ha (.tmp rfl rfl) rfl) .nil)) (cells:=[p5.1.v,(zi aS.Version)]) rfl) ?_
 refine cO rfl rfl .no (.cons (.t .h) .nil) .nil (fun ha=>gD (e':=(zg [p5.1.v,(zi aS.Version)])) (v:=(zg [p5.1.v,(zi aS.Version)])) vW.h.sz (EN ha (.tmp rfl rfl) rfl) (EN ha (.tmp rfl rfl) rfl) rfl rfl rfl rfl rfl) (fun _=>?_)
 refine du ?_
 refine au ?_
 cases hF
 exact Er (p5.1,p5.2)
def Bc(aa:Int)(kU:List Int):Option (Access):=
 (app ([]:List Int) kU).bind fun z3=>
 some (⟨aa,z3⟩:Access)
theorem Ol{aa:Int}{kU:List Int}{ax:Sv}{R:Access}(hF:Bc aa kU=some R):
   Fw.Spec Tryz.prog 33 [(zi aa),ax.v] [ah ax kU] (fun p:Sv×List Nat=>(zg [(zi R.Method),p.1.v])) (fun p=>[bI p.2 p.1 R.Values]):=by
 refine Se 10 Tryz.func33 [.cell 4 45] ?_
 intro H0 F0
 unfold Bc at hF
 refine au ?_
 refine d_ (fun k1=>?_)
 refine bv ?_
 refine dH rfl (bQ (g:=true) di.h dx.h .nil (vs:=[]) rfl rfl rfl (by simp)) (fun k2=>?_)
 refine dR (.cons .h .nil) (bS (Ro:=(aC az)) (E:=3) (F:=[]) (xs:=([]:List Int)) bR rfl rfl) ?_
 refine au ?_
 refine bnd hF fun z3 hx4 hF=>ek (.cons .h (.rd (.t .h) rfl .nil)) (dX (Ro:=(aC az)) di.h jc dx.h rfl rfl rfl (.tmp rfl rfl) (.tmp rfl rfl) hx4 mr) (fun p5=>?_)
 refine aN (iD ky.h rfl (vs:=[(zi aa),p5.1.v]) cu (cells:=[(zi aa),p5.1.v]) rfl) ?_
 refine As (zg [(zi aa),p5.1.v]) ?_
 refine aU ?_
 cases hF
 exact Er (p5.1,p5.2)
def IC(lK:cB):Option (cB):=
 (Bc lK.Access.Method lK.Access.Values).bind fun r3=>
 (L_ lK.Facts).bind fun r6=>
 some (⟨r3,r6,lK.At⟩:cB)
theorem Y_{lK:cB}{aP cz:Sv}{R:cB}(hF:IC lK=some R):
   Fw.Spec Tryz.prog 159 [(zg [(zi lK.Access.Method),aP.v,cz.v,(zi lK.At)])] [ah aP lK.Access.Values,bH cz lK.Facts] (fun p:Sv×List Nat×Sv×List Nat=>(zg [(zi R.Access.Method),p.1.v,p.2.2.1.v,(zi R.At)])) (fun p=>[bI p.2.1 p.1 R.Access.Values,eP p.2.2.2 p.2.2.1 R.Facts]):=by
 refine Se 16 Tryz.func159 [.cell 2 47] ?_
 intro H0 F0
 unfold IC at hF
 refine au ?_
 refine bP (fun k1=>?_)
 refine d_ (fun k2=>?_)
 refine au ?_
 refine dV [0,1,2,3,4,5,7,8,10,11,6,9,12,13] [0,1,3,0,8,24,63,0,128,511,0,1024,4095,8191] [6,9,13] mixed (by decide+kernel) ?_
 refine as8 ?_
 refine bnd hF fun r3 hx4 hF=>qE (Ol hx4) (fun p5=>?_)
 refine bnd hF fun r6 hx7 hF=>qE (Zm hx7) (fun p8=>?_)
 refine bN rfl .no (fun ha=>iD qz.h rfl (vs:=[(zg [(zi r3.Method),p5.1.v]),p8.1.v,(zi lK.At)]) (.cons (EN ha (.tmp rfl rfl) rfl) (.cons (EN ha (.tmp rfl rfl) rfl) (.cons (EN ha (.tmp rfl rfl) rfl) .nil))) (cells:=[(zi r3.Method),p5.1.v,p8.1.v,(zi lK.At)]) rfl) ?_
 refine cO rfl rfl .no (.cons .q2 .nil) .nil (fun ha=>gD (e':=(zg [(zi r3.Method),p5.1.v,p8.1.v,(zi lK.At)])) (v:=(zg [(zi r3.Method),p5.1.v,p8.1.v,(zi lK.At)])) qz.h.sz (EN ha (.tmp rfl rfl) rfl) (EN ha (.tmp rfl rfl) rfl) rfl rfl rfl rfl rfl) (fun _=>?_)
 refine du ?_
 refine au ?_
 cases hF
 exact Er (p5.1,p5.2,p8.1,p8.2)
def HV(aj:Cache):List cB->Nat->(List cB)->Option (Cache)
 |[],xB,Ka=>some (⟨Ka,aj.Age⟩:Cache)
 |x35::BS,xB,Ka=>(IC x35).bind fun sN=>
   (app Ka ([sN]:List cB)).bind fun z50=>
   HV aj BS (xB+1) z50
def Px(aj:Cache):Option (Cache):=
 HV aj aj.Entries 0 ([]:List cB)
theorem afF{aj:Cache}{ae:Sv}{R:Cache}(hF:Px aj=some R):
   Fw.Spec Tryz.prog 157 [(zg [ae.v,(zi aj.Age)])] [dM ae aj.Entries] (fun p:Sv×List Nat=>(zg [p.1.v,(zi R.Age)])) (fun p=>[oF p.2 p.1 R.Entries]):=by
 refine Se 29 Tryz.func157 [.cell 2 32] ?_
 intro H0 F0
 unfold Px at hF
 refine au ?_
 refine bP (fun k1=>?_)
 refine d_ (fun k2=>?_)
 refine bi ?_
 refine aN (iD oW.h rfl (vs:=[(zi aj.Age)]) cu (cells:=[(.slice none 0 0),(zi aj.Age)]) rfl) ?_
 refine d_ (fun k3=>?_)
 refine As (zg [(.slice none 0 0),(zi aj.Age)]) ?_
 refine aZ ?_
 refine bn (bU (m:=aj.Entries.length) (fun m31 f' cs'=>∃(g:Fr)(xB:Nat)(BS Ka:List cB)(v28:Sv)(F29:List Nat),m31=BS.length/\f'=aQ g [(1,(pz k1)),(2,(pz k2)),(3,(pz k3)),(4,(zi (xB:Int)))]/\List.drop xB aj.Entries=BS/\aO cs' [aX k1 32 (zg [ae.v,(zi aj.Age)]),dM ae aj.Entries,aW k2 32 (zg [(.slice none 0 0),(zi 0)]),aW k3 32 (zg [v28.v,(zi aj.Age)]),oF F29 v28 Ka]/\HV aj BS xB Ka=some R) ⟨_,0,_,_,⟨none,0,0⟩,[],rfl,aA,rfl,(.conv .nil (gV (Ro:=qY) (E:=47)) (.cons .nil) ay),hF⟩ ?_)
 rintro m31 _ _ ⟨g32,xB,BS,Ka,v28,F29,rfl,rfl,ajG,hE,hF⟩
 refine Kb hE aj.Entries (fun aAF=>?_)
 rcases BS with _|⟨x35,BS⟩
 · have awZ:=dn ajG
   rw[HV]at hF
   refine dN ?_
   refine dL ?_
   refine bE ?_
   refine As (zg [v28.v,(zi aj.Age)]) ?_
   refine aU ?_
   cases hF
   exact Er (v28,F29)
 obtain⟨awZ,hx38,hd39⟩:=dA ajG
 rw[HV]at hF
 refine dN ?_
 refine dK ?_
 refine bE ?_
 refine Ai hx38 (fun Yj j43=>?_)
 refine yj (wV x35) xQ (fun p44=>?_)
 refine bnd hF fun sN FJ hF=>Av (Y_ FJ) (fun p47=>?_)
 refine d_ (fun wK=>?_)
 refine As (zg [(zi sN.Access.Method),p47.1.v,p47.2.2.1.v,(zi sN.At)]) ?_
 refine aZ ?_
 refine dH rfl (bQ (g:=true) u_.h qz.h cu (vs:=[(zg [(zi sN.Access.Method),p47.1.v,p47.2.2.1.v,(zi sN.At)])]) rfl rfl rfl (by intro v hv; simp at hv; rcases hv with rfl<;>rfl)) (fun Tz=>?_)
 refine dR (.cons .h (.cons (.t .h) (.cons (.t .h) .nil))) (bS (Ro:=qY) (E:=47) (F:=((p47.2.1++p47.2.2.2)++[])) (xs:=([sN]:List cB)) (ed W9 bR cK) rfl rfl) ?_
 refine bnd hF fun z50 acf hF=>ek (.cons .q9 (.cons .h .nil)) (dX (Ro:=qY) u_.h M7 qz.h rfl rfl rfl (.tmp rfl rfl) (.tmp rfl rfl) acf fU) (fun p52=>?_)
 refine au ?_
 refine As (zg [p52.1.v,(zi aj.Age)]) ?_
 refine bE ?_
 rw[wk xB]
 exact⟨_,bY _,_,xB+1,BS,_,p52.1,p52.2,rfl,aA,hd39,ay,hF⟩
def IE:List Access->Nat->(List Access)->Option ((List Access))
 |[],k8,c2=>some c2
 |eY::fO,k8,c2=>(Bc eY.Method eY.Values).bind fun lh=>
   (app c2 ([lh]:List Access)).bind fun z26=>
   IE fO (k8+1) z26
def VI(ai:List Access):Option ((List Access)):=
 IE ai 0 ([]:List Access)
theorem aou{ai:List Access}{ae:Sv}{R:(List Access)}(hF:VI ai=some R):
   Fw.Spec Tryz.prog 158 [ae.v] [eH ae ai] (fun p:Sv×List Nat=>p.1.v) (fun p=>[kK p.2 p.1 R]):=by
 refine Se 27 Tryz.func158 [.tmp 2] ?_
 intro H0 F0
 unfold VI at hF
 refine bi ?_
 refine dH rfl (bQ (g:=true) pR.h ky.h .nil (vs:=[]) rfl rfl rfl (by simp)) (fun k1=>?_)
 refine dR (.cons .h .nil) (bS (Ro:=nk) (E:=45) (F:=[]) (xs:=([]:List Access)) bR rfl rfl) ?_
 refine bE ?_
 refine bn (bU (m:=ai.length) (fun m6 f' cs'=>∃(g:Fr)(k8:Nat)(fO c2:List Access)(v3:Sv)(F4:List Nat),m6=fO.length/\f'=aQ g [(0,ae.v),(3,v3.v),(4,(zi (k8:Int)))]/\List.drop k8 ai=fO/\aO cs' [eH ae ai,kK F4 v3 c2]/\IE fO k8 c2=some R) ⟨_,0,_,_,⟨(some ⟨k1,0,none⟩),0,1⟩,(k1::[]),rfl,aA,rfl,ay,hF⟩ ?_)
 rintro m6 _ _ ⟨g7,k8,fO,c2,v3,F4,rfl,rfl,j5,hE,hF⟩
 refine Kb hE ai (fun MJ=>?_)
 rcases fO with _|⟨eY,fO⟩
 · have v_:=dn j5
   rw[IE]at hF
   refine bJ ?_
   refine dL ?_
   refine gF ?_
   cases hF
   exact Er (v3,F4)
 obtain⟨v_,iJ,sG⟩:=dA j5
 rw[IE]at hF
 refine bJ ?_
 refine dK ?_
 refine aU ?_
 refine jD [0,1,2,3,4,5,6,7,8,9,10,11,12,13,14] [0,0,0,6,14,30,0,0,192,448,960,2046,4094,8191,16383] [11,13] mixed (by decide+kernel) ?_
 refine dD ?_
 refine Di iJ (fun k17 J5=>?_)
 refine du ?_
 refine Dl MB ?_
 refine bX ?_
 refine Di iJ (fun k19 Gi=>?_)
 refine du ?_
 refine oz (R':=(aD 3 az)) iC.h rfl .no (.tmp rfl rfl) rfl .h ahX (fun w21=>?_)
 refine bnd hF fun lh uf hF=>qE (Ol uf) (fun nO=>?_)
 refine iy rfl .no rfl (fun ha=>bQ (g:=true) (len:=1) (parts:=[(0,.tmp 23)]) pR.h ky.h (.cons (EN ha (.tmp rfl rfl) rfl) .nil) (vs:=[(zg [(zi lh.Method),nO.1.v])]) rfl rfl rfl (by intro v hv; simp at hv; rcases hv with rfl<;>rfl)) (fun k25=>?_)
 refine jk (.cons .h (.cons .h .nil)) (bS (Ro:=nk) (E:=45) (F:=(nO.2++[])) (xs:=([lh]:List Access)) (ed W_ bR cK) rfl rfl) ?_
 refine bnd hF fun z26 hx27 hF=>cO rfl rfl .no (.cons .q5 (.cons .h .nil)) (.dep rfl .nil) (fun ha=>dX (Ro:=nk) pR.h Rc ky.h rfl rfl rfl (EN ha (.tmp rfl rfl) rfl) (EN ha (.tmp rfl rfl) rfl) hx27 fU) (fun p28=>?_)
 refine bX ?_
 refine aZ ?_
 rw[wk k8]
 exact⟨_,bY _,_,k8+1,fO,_,p28.1,p28.2,rfl,aA,sG,ay,hF⟩
def G5:List (List Int)->Nat->(List (List Int))->Option ((List (List Int)))
 |[],k8,c2=>some c2
 |eY::fO,k8,c2=>(app ([]:List Int) eY).bind fun z21=>
   (app c2 ([z21]:List (List Int))).bind fun z25=>
   G5 fO (k8+1) z25
def OT(ai:List (List Int)):Option ((List (List Int))):=
 G5 ai 0 ([]:List (List Int))
theorem ae6{ai:List (List Int)}{ae:Sv}{R:(List (List Int))}(hF:OT ai=some R):
   Fw.Spec Tryz.prog 140 [ae.v] [bB (aD 24 (aD 3 az)) ae.v ai] (fun p:Sv×List Nat=>p.1.v) (fun p=>[aT (aF 24 (aF 3 (aC az))) p.2 p.1.v R]):=by
 refine Se 22 Tryz.func140 [.tmp 2] ?_
 intro H0 F0
 unfold OT at hF
 refine bi ?_
 refine dH rfl (bQ (g:=true) vN.h pQ.h .nil (vs:=[]) rfl rfl rfl (by simp)) (fun k1=>?_)
 refine dR (.cons .h .nil) (bS (Ro:=(aF 3 (aC az))) (E:=24) (F:=[]) (xs:=([]:List (List Int))) bR rfl rfl) ?_
 refine bE ?_
 refine bn (bU (m:=ai.length) (fun m6 f' cs'=>∃(g:Fr)(k8:Nat)(fO c2:List (List Int))(v3:Sv)(F4:List Nat),m6=fO.length/\f'=aQ g [(0,ae.v),(3,v3.v),(4,(zi (k8:Int)))]/\List.drop k8 ai=fO/\aO cs' [bB (aD 24 (aD 3 az)) ae.v ai,aT (aF 24 (aF 3 (aC az))) F4 v3.v c2]/\G5 fO k8 c2=some R) ⟨_,0,_,_,⟨(some ⟨k1,0,none⟩),0,1⟩,(k1::[]),rfl,aA,rfl,ay,hF⟩ ?_)
 rintro m6 _ _ ⟨g7,k8,fO,c2,v3,F4,rfl,rfl,j5,hE,hF⟩
 refine Kb hE ai (fun MJ=>?_)
 rcases fO with _|⟨eY,fO⟩
 · have v_:=dn j5
   rw[G5]at hF
   refine bJ ?_
   refine dL ?_
   refine gF ?_
   cases hF
   exact Er (v3,F4)
 obtain⟨v_,iJ,sG⟩:=dA j5
 rw[G5]at hF
 refine bJ ?_
 refine dK ?_
 refine bi ?_
 refine dH rfl (bQ (g:=true) di.h dx.h .nil (vs:=[]) rfl rfl rfl (by simp)) (fun k17=>?_)
 refine dR (.cons .h .nil) (bS (Ro:=(aC az)) (E:=3) (F:=[]) (xs:=([]:List Int)) bR rfl rfl) ?_
 refine aU ?_
 refine Ai iJ (fun k18 j19=>?_)
 refine vL (R':=(aD 3 az)) iC.h (.tmp rfl rfl) .h P5 (fun w20=>?_)
 refine bnd hF fun z21 ug hF=>ek (.cons .q2 (.rd .h rfl .nil)) (dX (Ro:=(aC az)) di.h jc dx.h rfl rfl rfl (.tmp rfl rfl) (.tmp rfl rfl) ug mr) (fun o6=>?_)
 refine dH rfl (bQ (g:=true) vN.h pQ.h cu (vs:=[o6.1.v]) rfl rfl rfl (by intro v hv; simp at hv; rcases hv with rfl<;>rfl)) (fun k24=>?_)
 refine dR (.cons .h (.cons .h .nil)) (bS (Ro:=(aF 3 (aC az))) (E:=24) (F:=(o6.2++[])) (xs:=([z21]:List (List Int))) (ed Jb bR cK) rfl rfl) ?_
 refine bnd hF fun z25 nL hF=>ek (.cons .q4 (.cons .h .nil)) (dX (Ro:=(aF 3 (aC az))) vN.h Ql pQ.h rfl rfl rfl (.tmp rfl rfl) (.tmp rfl rfl) nL fU) (fun p27=>?_)
 refine bJ ?_
 rw[wk k8]
 exact⟨_,bY _,_,k8+1,fO,_,p27.1,p27.2,rfl,aA,sG,ay,hF⟩
def Ls(aS:Method):Option (Method):=
 (app ([]:List Int) aS.Inputs).bind fun z4=>
 some (⟨aS.Rel,z4,aS.Limit,aS.Cost,aS.Quota⟩:Method)
theorem ae7{aS:Method}{aP:Sv}{R:Method}(hF:Ls aS=some R):
   Fw.Spec Tryz.prog 133 [(zg [(zi aS.Rel),aP.v,(zi aS.Limit),(zi aS.Cost),(zi aS.Quota)])] [ah aP aS.Inputs] (fun p:Sv×List Nat=>(zg [(zi R.Rel),p.1.v,(zi R.Limit),(zi R.Cost),(zi R.Quota)])) (fun p=>[bI p.2 p.1 R.Inputs]):=by
 refine Se 16 Tryz.func133 [.cell 2 57] ?_
 intro H0 F0
 unfold Ls at hF
 refine au ?_
 refine bP (fun k1=>?_)
 refine d_ (fun k2=>?_)
 refine au ?_
 refine dV [0,1,2,3,4,6,7,8,9,10,11,5,12,13] [0,1,0,0,8,28,0,64,0,256,0,1024,4095,8191] [5,13] mixed (by decide+kernel) ?_
 refine bX ?_
 refine iy rfl .no rfl (fun ha=>bQ (g:=true) (len:=0) (parts:=[]) di.h dx.h .nil (vs:=[]) rfl rfl rfl (by simp)) (fun k3=>?_)
 refine jk (.cons .h .nil) (bS (Ro:=(aC az)) (E:=3) (F:=[]) (xs:=([]:List Int)) bR rfl rfl) ?_
 refine ab6 ?_
 refine bnd hF fun z4 hx5 hF=>cO rfl rfl .no (.cons .h (.rd .q2 rfl .nil)) (.dep rfl .nil) (fun ha=>dX (Ro:=(aC az)) di.h jc dx.h rfl rfl rfl (EN ha (.tmp rfl rfl) rfl) (EN ha (.tmp rfl rfl) rfl) hx5 mr) (fun p6=>?_)
 refine bN rfl .no (fun ha=>iD qy.h rfl (vs:=[(zi aS.Rel),p6.1.v,(zi aS.Limit),(zi aS.Cost),(zi aS.Quota)]) (.cons (EN ha (.tmp rfl rfl) rfl) (.cons (EN ha (.tmp rfl rfl) rfl) (.cons (EN ha (.tmp rfl rfl) rfl) (.cons (EN ha (.tmp rfl rfl) rfl) (.cons (EN ha (.tmp rfl rfl) rfl) .nil))))) (cells:=[(zi aS.Rel),p6.1.v,(zi aS.Limit),(zi aS.Cost),(zi aS.Quota)]) rfl) ?_
 refine cO rfl rfl .no (.cons (.t .h) .nil) (.dep rfl .nil) (fun ha=>gD (e':=(zg [(zi aS.Rel),p6.1.v,(zi aS.Limit),(zi aS.Cost),(zi aS.Quota)])) (v:=(zg [(zi aS.Rel),p6.1.v,(zi aS.Limit),(zi aS.Cost),(zi aS.Quota)])) qy.h.sz (EN ha (.tmp rfl rfl) rfl) (EN ha (.tmp rfl rfl) rfl) rfl rfl rfl rfl rfl) (fun _=>?_)
 refine du ?_
 refine au ?_
 cases hF
 exact Er (p6.1,p6.2)
def Et(aa:aY)(z6:List Int)(r9:Source)(dz:Cache)(gu:(List Access))(rR:List Int)(c198:List Method)(xq:List dh):List (List (List Int))->Nat->(List (List (List Int)))->Option (aY)
 |[],C9,Jv=>some (⟨z6,c198,xq,r9,dz,aa.Now,gu,rR,aa.Spent,Jv⟩:aY)
 |ajH::BA,C9,Jv=>(OT ajH).bind fun acg=>
   (app Jv ([acg]:List (List (List Int)))).bind fun ajI=>
   Et aa z6 r9 dz gu rR c198 xq BA (C9+1) ajI
def Eu(aa:aY)(z6:List Int)(r9:Source)(dz:Cache)(gu:(List Access))(rR:List Int)(c198:List Method):List dh->Nat->(List dh)->Option (aY)
 |[],C_,xq=>Et aa z6 r9 dz gu rR c198 xq aa.Results 0 ([]:List (List (List Int)))
 |ve::BB,C_,xq=>(app ([]:List Int) ve.Map).bind fun Xg=>
   (app xq ([(⟨ve.From,ve.To,Xg⟩:dh)]:List dh)).bind fun ajJ=>
   Eu aa z6 r9 dz gu rR c198 BB (C_+1) ajJ
def HY(aa:aY)(z6:List Int)(r9:Source)(dz:Cache)(gu:(List Access))(rR:List Int):List Method->Nat->(List Method)->Option (aY)
 |[],xu,c198=>Eu aa z6 r9 dz gu rR c198 aa.Rules 0 ([]:List dh)
 |ach::BC,xu,c198=>(Ls ach).bind fun yu=>
   (app c198 ([yu]:List Method)).bind fun ajK=>
   HY aa z6 r9 dz gu rR BC (xu+1) ajK
def Bi(aa:aY):Option (aY):=
 (app ([]:List Int) aa.Schema).bind fun z6=>
 (LP aa.Source).bind fun r9=>
 (Px aa.Cache).bind fun dz=>
 (VI aa.Log).bind fun gu=>
 (app ([]:List Int) aa.Times).bind fun rR=>
 HY aa z6 r9 dz gu rR aa.Methods 0 ([]:List Method)
theorem OC{aa:aY}{ae aP cz dB dw dE dG dI:Sv}{R:aY}(hF:Bi aa=some R):
   Fw.Spec Tryz.prog 132 [(zg [ae.v,aP.v,cz.v,dB.v,(zi aa.Source.Version),dw.v,(zi aa.Cache.Age),(zi aa.Now),dE.v,dG.v,(zi aa.Spent),dI.v])] [ah ae aa.Schema,bW aP aa.Methods,fq cz aa.Rules,bH dB aa.Source.Facts,dM dw aa.Cache.Entries,eH dE aa.Log,ah dG aa.Times,bB (aD 152 (aD 24 (aD 3 az))) dI.v aa.Results] (fun p:Sv×List Nat×Sv×List Nat×Sv×List Nat×Sv×List Nat×Sv×List Nat×Sv×List Nat×Sv×List Nat×Sv×List Nat=>(zg [p.1.v,p.2.2.1.v,p.2.2.2.2.1.v,p.2.2.2.2.2.2.1.v,(zi R.Source.Version),p.2.2.2.2.2.2.2.2.1.v,(zi R.Cache.Age),(zi R.Now),p.2.2.2.2.2.2.2.2.2.2.1.v,p.2.2.2.2.2.2.2.2.2.2.2.2.1.v,(zi R.Spent),p.2.2.2.2.2.2.2.2.2.2.2.2.2.2.1.v])) (fun p=>[bI p.2.1 p.1 R.Schema,nJ p.2.2.2.1 p.2.2.1 R.Methods,mE p.2.2.2.2.2.1 p.2.2.2.2.1 R.Rules,eP p.2.2.2.2.2.2.2.1 p.2.2.2.2.2.2.1 R.Source.Facts,oF p.2.2.2.2.2.2.2.2.2.1 p.2.2.2.2.2.2.2.2.1 R.Cache.Entries,kK p.2.2.2.2.2.2.2.2.2.2.2.1 p.2.2.2.2.2.2.2.2.2.2.1 R.Log,bI p.2.2.2.2.2.2.2.2.2.2.2.2.2.1 p.2.2.2.2.2.2.2.2.2.2.2.2.1 R.Times,aT (aF 152 (aF 24 (aF 3 (aC az)))) p.2.2.2.2.2.2.2.2.2.2.2.2.2.2.2 p.2.2.2.2.2.2.2.2.2.2.2.2.2.2.1.v R.Results]):=by
 refine Se 103 Tryz.func132 [.cell 2 36] ?_
 intro H0 F0
 unfold Bi at hF
 refine au ?_
 refine bP (fun k1=>?_)
 refine d_ (fun k2=>?_)
 refine au ?_
 refine dV [0,1,2,4,5,7,8,10,11,12,13,15,16,17,19,20,22,3,6,9,14,18,21,23] [0,0,2,7,0,16,63,0,128,511,0,1024,0,4096,13311,0,0,65536,259071,0,524288,2097151,0,8388607] [3,6,9,14,18,23] mixed (by decide+kernel) ?_
 refine iy rfl .no rfl (fun ha=>bQ (g:=true) (len:=0) (parts:=[]) di.h dx.h .nil (vs:=[]) rfl rfl rfl (by simp)) (fun k3=>?_)
 refine jk (.cons .h .nil) (bS (Ro:=(aC az)) (E:=3) (F:=[]) (xs:=([]:List Int)) bR rfl rfl) ?_
 refine dD ?_
 refine xm rfl .no .q2 rfl (fun ha hp=>j_ (s:=2) (l:=[dB.v,(zi aa.Source.Version)]) yl.h vW.h.sz (EN ha (.tmp rfl rfl) rfl) hp.2 rfl (by decide) (Nat.le_of_ble_eq_true rfl) rfl) ?_
 refine du ?_
 refine xm rfl .no .q2 rfl (fun ha hp=>j_ (s:=2) (l:=[dw.v,(zi aa.Cache.Age)]) u7.h oW.h.sz (EN ha (.tmp rfl rfl) rfl) hp.2 rfl (by decide) (Nat.le_of_ble_eq_true rfl) rfl) ?_
 refine nZ ?_
 refine iy rfl .no rfl (fun ha=>bQ (g:=true) (len:=0) (parts:=[]) di.h dx.h .nil (vs:=[]) rfl rfl rfl (by simp)) (fun k4=>?_)
 refine jk (.cons .h .nil) (bS (Ro:=(aC az)) (E:=3) (F:=[]) (xs:=([]:List Int)) bR rfl rfl) ?_
 refine nZ ?_
 refine iy rfl .no rfl (fun ha=>rY (g:=true) eG.h rfl rfl) (fun k5=>?_)
 refine bnd hF fun z6 hx7 hF=>cO rfl rfl .no (.cons .q2 (.rd .q4 rfl .nil)) (.own .h (fun _ h=>h) (.own (.t .h) (by simp[aT]) (.dep rfl .nil))) (fun ha=>dX (Ro:=(aC az)) di.h jc dx.h rfl rfl rfl (EN ha (.tmp rfl rfl) rfl) (EN ha (.tmp rfl rfl) rfl) hx7 mr) (fun p8=>?_)
 refine bnd hF fun r9 jI hF=>cO rfl rfl .no (.rd .q8 rfl .nil) (.own (.t .h) (fun _ h=>h) (.own .q2 (by simp[aT]) (.dep rfl .nil))) (fun ha=>bV asw.h (.cons (EN ha (.tmp rfl rfl) rfl) .nil) (afE jI)) (fun oJ=>?_)
 refine bnd hF fun dz iJ hF=>cO rfl rfl .no (.rd .q10 rfl .nil) (.own .q2 (fun _ h=>h) (.own .q3 (by simp[aT]) (.dep rfl .nil))) (fun ha=>bV asx.h (.cons (EN ha (.tmp rfl rfl) rfl) .nil) (afF iJ)) (fun mh=>?_)
 refine bnd hF fun gu hx16 hF=>cO rfl rfl .no (.rd .q12 rfl .nil) (.own .q3 (fun _ h=>h) (.own .q4 (by simp[aT]) (.dep rfl .nil))) (fun ha=>bV asy.h (.cons (EN ha (.tmp rfl rfl) rfl) .nil) (aou hx16)) (fun ny=>?_)
 refine bnd hF fun rR kR hF=>cO rfl rfl .no (.cons .q5 (.rd .q13 rfl .nil)) (.own .q4 (fun _ h=>h) (.dep rfl (.dep rfl .nil))) (fun ha=>dX (Ro:=(aC az)) di.h jc dx.h rfl rfl rfl (EN ha (.tmp rfl rfl) rfl) (EN ha (.tmp rfl rfl) rfl) kR mr) (fun mi=>?_)
 refine bN rfl .no (fun ha=>iD eG.h rfl (vs:=[p8.1.v,(zg [oJ.1.v,(zi r9.Version)]),(zg [mh.1.v,(zi dz.Age)]),(zi aa.Now),ny.1.v,mi.1.v,(zi aa.Spent)]) (.cons (EN ha (.tmp rfl rfl) rfl) (.cons (EN ha (.tmp rfl rfl) rfl) (.cons (EN ha (.tmp rfl rfl) rfl) (.cons (EN ha (.tmp rfl rfl) rfl) (.cons (EN ha (.tmp rfl rfl) rfl) (.cons (EN ha (.tmp rfl rfl) rfl) (.cons (EN ha (.tmp rfl rfl) rfl) .nil))))))) (cells:=[p8.1.v,(.slice none 0 0),(.slice none 0 0),oJ.1.v,(zi r9.Version),mh.1.v,(zi dz.Age),(zi aa.Now),ny.1.v,mi.1.v,(zi aa.Spent),(.slice none 0 0)]) (by kernel_rfl)) ?_
 refine cO rfl rfl .no (.cons .q5 .nil) (.dep rfl (.dep rfl (.dep rfl .nil))) (fun ha=>gD (e':=(zg [p8.1.v,(.slice none 0 0),(.slice none 0 0),oJ.1.v,(zi r9.Version),mh.1.v,(zi dz.Age),(zi aa.Now),ny.1.v,mi.1.v,(zi aa.Spent),(.slice none 0 0)])) (v:=(zg [p8.1.v,(.slice none 0 0),(.slice none 0 0),oJ.1.v,(zi r9.Version),mh.1.v,(zi dz.Age),(zi aa.Now),ny.1.v,mi.1.v,(zi aa.Spent),(.slice none 0 0)])) eG.h.sz (EN ha (.tmp rfl rfl) rfl) (EN ha (.tmp rfl rfl) rfl) rfl rfl rfl rfl rfl) (fun _=>?_)
 refine du ?_
 refine bi ?_
 refine bn (bU (m:=aa.Methods.length) (fun ajL f' cs'=>∃(g:Fr)(xu:Nat)(BC c198:List Method)(yw:Sv)(Rl:List Nat),ajL=BC.length/\f'=aQ g [(1,(pz k1)),(2,(pz k2)),(3,(pz k5)),(4,(zi (xu:Int)))]/\List.drop xu aa.Methods=BC/\aO cs' [aX k1 36 (zg [ae.v,aP.v,cz.v,dB.v,(zi aa.Source.Version),dw.v,(zi aa.Cache.Age),(zi aa.Now),dE.v,dG.v,(zi aa.Spent),dI.v]),ah ae aa.Schema,bW aP aa.Methods,fq cz aa.Rules,bH dB aa.Source.Facts,dM dw aa.Cache.Entries,eH dE aa.Log,ah dG aa.Times,bB (aD 152 (aD 24 (aD 3 az))) dI.v aa.Results,aW k2 36 (.agg ([(.slice none 0 0),(.slice none 0 0),(.slice none 0 0),(.slice none 0 0),(zi 0),(.slice none 0 0),(zi 0),(zi 0),(.slice none 0 0),(.slice none 0 0),(zi 0),(.slice none 0 0)]:List Value).toArray),aW k5 36 (zg [p8.1.v,yw.v,(.slice none 0 0),oJ.1.v,(zi r9.Version),mh.1.v,(zi dz.Age),(zi aa.Now),ny.1.v,mi.1.v,(zi aa.Spent),(.slice none 0 0)]),bI p8.2 p8.1 z6,nJ Rl yw c198,eP oJ.2 oJ.1 r9.Facts,oF mh.2 mh.1 dz.Entries,kK ny.2 ny.1 gu,bI mi.2 mi.1 rR]/\HY aa z6 r9 dz gu rR BC xu c198=some R) ⟨_,0,_,_,⟨none,0,0⟩,[],rfl,aA,rfl,(.conv .nil (gV (Ro:=qX) (E:=57)) (.cons .nil) ay),hF⟩ ?_)
 rintro ajL _ _ ⟨aCp,xu,BC,c198,yw,Rl,rfl,rfl,aix,hE,hF⟩
 refine Kb hE aa.Methods (fun azt=>?_)
 rcases BC with _|⟨ach,BC⟩
 · have ata:=dn aix
   rw[HY]at hF
   refine dN ?_
   refine dL ?_
   refine dN ?_
   refine bn (bU (m:=aa.Rules.length) (fun ajM f' cs'=>∃(g:Fr)(C_:Nat)(BB xq:List dh)(Db:Sv)(Xh:List Nat),ajM=BB.length/\f'=aQ g [(1,(pz k1)),(2,(pz k2)),(3,(pz k5)),(6,(zi (C_:Int)))]/\List.drop C_ aa.Rules=BB/\aO cs' [aX k1 36 (zg [ae.v,aP.v,cz.v,dB.v,(zi aa.Source.Version),dw.v,(zi aa.Cache.Age),(zi aa.Now),dE.v,dG.v,(zi aa.Spent),dI.v]),ah ae aa.Schema,bW aP aa.Methods,fq cz aa.Rules,bH dB aa.Source.Facts,dM dw aa.Cache.Entries,eH dE aa.Log,ah dG aa.Times,bB (aD 152 (aD 24 (aD 3 az))) dI.v aa.Results,aW k2 36 (.agg ([(.slice none 0 0),(.slice none 0 0),(.slice none 0 0),(.slice none 0 0),(zi 0),(.slice none 0 0),(zi 0),(zi 0),(.slice none 0 0),(.slice none 0 0),(zi 0),(.slice none 0 0)]:List Value).toArray),aW k5 36 (zg [p8.1.v,yw.v,Db.v,oJ.1.v,(zi r9.Version),mh.1.v,(zi dz.Age),(zi aa.Now),ny.1.v,mi.1.v,(zi aa.Spent),(.slice none 0 0)]),bI p8.2 p8.1 z6,nJ Rl yw c198,mE Xh Db xq,eP oJ.2 oJ.1 r9.Facts,oF mh.2 mh.1 dz.Entries,kK ny.2 ny.1 gu,bI mi.2 mi.1 rR]/\Eu aa z6 r9 dz gu rR c198 BB C_ xq=some R) ⟨_,0,_,_,⟨none,0,0⟩,[],rfl,aA,rfl,(.conv .nil (gV (Ro:=oU) (E:=98)) (.cons .nil) ay),hF⟩ ?_)
   rintro ajM _ _ ⟨aCq,C_,BB,xq,Db,Xh,rfl,rfl,aiy,hE,hF⟩
   refine Kb hE aa.Rules (fun azu=>?_)
   rcases BB with _|⟨ve,BB⟩
   · have atb:=dn aiy
     rw[Eu]at hF
     refine dN ?_
     refine dL ?_
     refine dN ?_
     refine bn (bU (m:=aa.Results.length) (fun ajN f' cs'=>∃(g:Fr)(C9:Nat)(BA Jv:List (List (List Int)))(Rm:Sv)(aci:List Nat),ajN=BA.length/\f'=aQ g [(1,(pz k1)),(2,(pz k2)),(3,(pz k5)),(7,(zi (C9:Int)))]/\List.drop C9 aa.Results=BA/\aO cs' [aX k1 36 (zg [ae.v,aP.v,cz.v,dB.v,(zi aa.Source.Version),dw.v,(zi aa.Cache.Age),(zi aa.Now),dE.v,dG.v,(zi aa.Spent),dI.v]),ah ae aa.Schema,bW aP aa.Methods,fq cz aa.Rules,bH dB aa.Source.Facts,dM dw aa.Cache.Entries,eH dE aa.Log,ah dG aa.Times,bB (aD 152 (aD 24 (aD 3 az))) dI.v aa.Results,aW k2 36 (.agg ([(.slice none 0 0),(.slice none 0 0),(.slice none 0 0),(.slice none 0 0),(zi 0),(.slice none 0 0),(zi 0),(zi 0),(.slice none 0 0),(.slice none 0 0),(zi 0),(.slice none 0 0)]:List Value).toArray),aW k5 36 (zg [p8.1.v,yw.v,Db.v,oJ.1.v,(zi r9.Version),mh.1.v,(zi dz.Age),(zi aa.Now),ny.1.v,mi.1.v,(zi aa.Spent),Rm.v]),bI p8.2 p8.1 z6,nJ Rl yw c198,mE Xh Db xq,eP oJ.2 oJ.1 r9.Facts,oF mh.2 mh.1 dz.Entries,kK ny.2 ny.1 gu,bI mi.2 mi.1 rR,aT (aF 152 (aF 24 (aF 3 (aC az)))) aci Rm.v Jv]/\Et aa z6 r9 dz gu rR c198 xq BA C9 Jv=some R) ⟨_,0,_,_,⟨none,0,0⟩,[],rfl,aA,rfl,(.conv .nil (gV (Ro:=(aF 24 (aF 3 (aC az)))) (E:=152)) (.cons .nil) ay),hF⟩ ?_)
     rintro ajN _ _ ⟨aw0,C9,BA,Jv,Rm,aci,rfl,rfl,aiz,hE,hF⟩
     refine Kb hE aa.Results (fun azv=>?_)
     rcases BA with _|⟨ajH,BA⟩
     · have atc:=dn aiz
       rw[Et]at hF
       refine dN ?_
       refine dL ?_
       refine bE ?_
       refine As (zg [p8.1.v,yw.v,Db.v,oJ.1.v,(zi r9.Version),mh.1.v,(zi dz.Age),(zi aa.Now),ny.1.v,mi.1.v,(zi aa.Spent),Rm.v]) ?_
       refine aU ?_
       cases hF
       exact Er (p8.1,p8.2,yw,Rl,Db,Xh,oJ.1,oJ.2,mh.1,mh.2,ny.1,ny.2,mi.1,mi.2,Rm,aci)
     obtain⟨atc,atd,ate⟩:=dA aiz
     rw[Et]at hF
     refine dN ?_
     refine dK ?_
     refine bE ?_
     refine Ai atd (fun aw1 aw2=>?_)
     refine vL (R':=(aD 24 (aD 3 az))) ain.h (.tmp rfl rfl) .h apE (fun aCr=>?_)
     refine bnd hF fun acg aaP hF=>gB (ae6 aaP) (fun M8=>?_)
     refine bE ?_
     refine dH rfl (bQ (g:=true) Re.h V9.h cu (vs:=[M8.1.v]) rfl rfl rfl (by intro v hv; simp at hv; rcases hv with rfl<;>rfl)) (fun aCs=>?_)
     refine dR (.cons .h (.cons .h .nil)) (bS (Ro:=(aF 24 (aF 3 (aC az)))) (E:=152) (F:=(M8.2++[])) (xs:=([acg]:List (List (List Int)))) (ed Jb bR cK) rfl rfl) ?_
     refine bnd hF fun ajI atf hF=>ek (.cons (.t (.t (.t (.t (.t (.t (.t (.t (.t (.t (.t (.t (.t (.t (.t (.t (.t (.t (.t (.t (.t .h))))))))))))))))))))) (.cons .h .nil)) (dX (Ro:=(aF 24 (aF 3 (aC az)))) Re.h aju V9.h rfl rfl rfl (.tmp rfl rfl) (.tmp rfl rfl) atf fU) (fun acj=>?_)
     refine au ?_
     refine As (zg [p8.1.v,yw.v,Db.v,oJ.1.v,(zi r9.Version),mh.1.v,(zi dz.Age),(zi aa.Now),ny.1.v,mi.1.v,(zi aa.Spent),acj.1.v]) ?_
     refine bE ?_
     rw[wk C9]
     exact⟨_,bY _,_,C9+1,BA,_,acj.1,acj.2,rfl,aA,ate,ay,hF⟩
   obtain⟨atb,aaQ,atg⟩:=dA aiy
   rw[Eu]at hF
   refine dN ?_
   refine dK ?_
   refine aU ?_
   refine jD [0,1,2,3,4,5,6,7,8,9,10,11,12,13,14,15,16,17,18,19,20,21,22,23,24,25,26] [0,1,0,4,0,28,60,124,0,256,0,1792,3840,7936,0,0,32768,0,229376,491520,1015808,2080768,4194300,8388604,16777215,33554431,67108863] [21,24,26] mixed (by decide+kernel) ?_
   refine du ?_
   refine dO rfl .no .q10 (fun ha hp=>fw (v:=Db.v) ab1.h (EN ha (.tmp rfl rfl) rfl) hp.2 rfl rfl) ?_
   refine dD ?_
   refine Di aaQ (fun aCt aCu=>?_)
   refine du ?_
   refine Dl ahY ?_
   refine dD ?_
   refine Di aaQ (fun aCv aCw=>?_)
   refine du ?_
   refine Dl aqo ?_
   refine iy rfl .no rfl (fun ha=>bQ (g:=true) (len:=0) (parts:=[]) di.h dx.h .nil (vs:=[]) rfl rfl rfl (by simp)) (fun aCx=>?_)
   refine jk (.cons .h .nil) (bS (Ro:=(aC az)) (E:=3) (F:=[]) (xs:=([]:List Int)) bR rfl rfl) ?_
   refine dD ?_
   refine Di aaQ (fun aCy aCz=>?_)
   refine du ?_
   refine oz (R':=(aD 3 az)) iC.h rfl .no (.tmp rfl rfl) rfl .h aqp (fun aCA=>?_)
   refine bnd hF fun Xg ath hF=>cO rfl rfl .no (.cons .q2 (.rd .h rfl .nil)) (.dep rfl (.own .q14 (fun _ h=>h) .nil)) (fun ha=>dX (Ro:=(aC az)) di.h jc dx.h rfl rfl rfl (EN ha (.tmp rfl rfl) rfl) (EN ha (.tmp rfl rfl) rfl) ath mr) (fun Xi=>?_)
   refine bN rfl .no (fun ha=>iD yt.h rfl (vs:=[(zi ve.From),(zi ve.To),Xi.1.v]) (.cons (EN ha (.tmp rfl rfl) rfl) (.cons (EN ha (.tmp rfl rfl) rfl) (.cons (EN ha (.tmp rfl rfl) rfl) .nil))) (cells:=[(zi ve.From),(zi ve.To),Xi.1.v]) rfl) ?_
   refine iy rfl .no rfl (fun ha=>bQ (g:=true) (len:=1) (parts:=[(0,.tmp 79)]) CV.h yt.h (.cons (EN ha (.tmp rfl rfl) rfl) .nil) (vs:=[(zg [(zi ve.From),(zi ve.To),Xi.1.v])]) rfl rfl rfl (by intro v hv; simp at hv; rcases hv with rfl<;>rfl)) (fun aCB=>?_)
   refine jk (.cons .h (.cons .h .nil)) (bS (Ro:=oU) (E:=98) (F:=(Xi.2++[])) (xs:=([(⟨ve.From,ve.To,Xg⟩:dh)]:List dh)) (ed (ab2 (a:=(⟨ve.From,ve.To,Xg⟩:dh))) bR cK) rfl rfl) ?_
   refine bnd hF fun ajJ ati hF=>cO rfl rfl .no (.cons (.t (.t (.t (.t (.t (.t (.t (.t (.t (.t (.t (.t (.t (.t (.t (.t (.t (.t .h)))))))))))))))))) (.cons .h .nil)) (.dep rfl (.dep rfl (.dep rfl .nil))) (fun ha=>dX (Ro:=oU) CV.h ab3 yt.h rfl rfl rfl (EN ha (.tmp rfl rfl) rfl) (EN ha (.tmp rfl rfl) rfl) ati fU) (fun ack=>?_)
   refine du ?_
   refine cO rfl rfl .no (.cons (.t (.t (.t (.t (.t (.t (.t (.t (.t (.t (.t (.t (.t (.t (.t .h))))))))))))))) .nil) (.dep rfl (.dep rfl (.dep rfl .nil))) (fun ha=>gD (e':=(zg [p8.1.v,yw.v,ack.1.v,oJ.1.v,(zi r9.Version),mh.1.v,(zi dz.Age),(zi aa.Now),ny.1.v,mi.1.v,(zi aa.Spent),(.slice none 0 0)])) ajv.h.sz (EN ha (.tmp rfl rfl) rfl) (EN ha (.tmp rfl rfl) rfl) rfl rfl rfl rfl rfl) (fun _=>?_)
   refine du ?_
   refine aZ ?_
   rw[wk C_]
   exact⟨_,bY _,_,C_+1,BB,_,ack.1,ack.2,rfl,aA,atg,ay,hF⟩
 obtain⟨ata,aaR,atj⟩:=dA aix
 rw[HY]at hF
 refine dN ?_
 refine dK ?_
 refine bE ?_
 refine Ai aaR (fun aCC aCD=>?_)
 refine ni (uO ach) vH (fun aCE=>?_)
 refine bnd hF fun yu atl hF=>gB (ae7 atl) (fun acl=>?_)
 refine d_ (fun aCF=>?_)
 refine As (zg [(zi yu.Rel),acl.1.v,(zi yu.Limit),(zi yu.Cost),(zi yu.Quota)]) ?_
 refine aZ ?_
 refine dH rfl (bQ (g:=true) CU.h qy.h cu (vs:=[(zg [(zi yu.Rel),acl.1.v,(zi yu.Limit),(zi yu.Cost),(zi yu.Quota)])]) rfl rfl rfl (by intro v hv; simp at hv; rcases hv with rfl<;>rfl)) (fun aCG=>?_)
 refine dR (.cons .h (.cons (.t .h) .nil)) (bS (Ro:=qX) (E:=57) (F:=(acl.2++[])) (xs:=([yu]:List Method)) (ed ajw bR cK) rfl rfl) ?_
 refine bnd hF fun ajK atm hF=>ek (.cons (.t (.t (.t (.t (.t (.t (.t (.t (.t (.t (.t (.t (.t (.t (.t (.t .h)))))))))))))))) (.cons .h .nil)) (dX (Ro:=qX) CU.h Xb qy.h rfl rfl rfl (.tmp rfl rfl) (.tmp rfl rfl) atm fU) (fun acm=>?_)
 refine au ?_
 refine As (zg [p8.1.v,acm.1.v,(.slice none 0 0),oJ.1.v,(zi r9.Version),mh.1.v,(zi dz.Age),(zi aa.Now),ny.1.v,mi.1.v,(zi aa.Spent),(.slice none 0 0)]) ?_
 refine bE ?_
 rw[wk xu]
 exact⟨_,bY _,_,xu+1,BC,_,acm.1,acm.2,rfl,aA,atj,ay,hF⟩
def AR(ag:List Int)(aa:Method):List Int->Nat->Option (Bool)
 |[],k27=>some true
 |x29::lv,k27=>((ix ag aa.Rel).bind fun x40=>
     (iT x29 0 (IntKind.i64.wrap (x40-1))).bind fun xC=>
     bif (!xC)then (some true)
     else (bif (decide ((0:Int)<(k27:Int)))then ((ix aa.Inputs (IntKind.i64.wrap ((k27:Int)-1))).bind fun TA=>
         some (decide ((x29:Int)<=TA)))
       else (some false))).bind fun Kc=>
   match Kc with
   |c59=>if c59 then (
       some false)
     else (
       AR ag aa lv (k27+1))
def IG(ag:List Int)(aa:Method):Option (Bool):=
 ((sU ag).bind fun r4=>
   bif (!r4)then (some true)
   else ((iT aa.Rel 0 (IntKind.i64.wrap ((ag.length:Int)-1))).bind fun r8=>
     bif (!r8)then (some true)
     else ((iT aa.Limit 0 9).bind fun dz=>
       bif (!dz)then (some true)
       else ((iT aa.Cost 0 99).bind fun r16=>
         bif (!r16)then (some true)
         else ((iT aa.Quota 1 99).bind fun jP=>
           some (!jP)))))).bind fun o2=>
 match o2 with
 |c23=>if c23 then (
     some false)
   else (
     AR ag aa aa.Inputs 0)
theorem afk{ag:List Int}{ae:Sv}{aa:Method}{aV:Sv}{R:Bool}(hF:IG ag aa=some R):
   Fw.Spec Tryz.prog 122 [ae.v,(zg [(zi aa.Rel),aV.v,(zi aa.Limit),(zi aa.Cost),(zi aa.Quota)])] [ah ae ag,ah aV aa.Inputs] (fun _:Unit=>(.bool R)) (fun _=>[]):=by
 refine Se 74 Tryz.func122 [.tmp 4] ?_
 intro H0 F0
 unfold IG at hF
 refine au ?_
 refine bP (fun k1=>?_)
 refine bv ?_
 obtain⟨o2,gz,hO3⟩:=bind_some hF
 refine au ?_
 refine fe (fun f' cs'=>∃(c23:Bool)(g:Fr),c23=o2/\f'=aQ g [(0,ae.v),(3,(pz k1)),(35,(.bool c23))]/\aO cs' [ah ae ag,aX k1 57 (zg [(zi aa.Rel),aV.v,(zi aa.Limit),(zi aa.Cost),(zi aa.Quota)]),ah aV aa.Inputs]) ?_ ?_
 · replace hF:=gz
   refine au ?_
   refine bnd hF fun r4 hx5 hF=>bC (xM hx5) (fun _=>?_)
   refine aU ?_
   rcases bD (!r4)with bq|bq
   · rw[bq]
     try rw[bq]at hF; dsimp only[aJ,aI]at hF
     exact bK hF
   rw[bq]
   try rw[bq]at hF; dsimp only[aJ,aI]at hF
   refine CB ?_
   refine bnd hF fun r8 bZ hF=>bC (jT bZ) (fun _=>?_)
   refine bi ?_
   rcases bD (!r8)with dS|dS
   · rw[dS]
     try rw[dS]at hF; dsimp only[aJ,aI]at hF
     exact bK hF
   rw[dS]
   try rw[dS]at hF; dsimp only[aJ,aI]at hF
   refine aZ ?_
   refine bnd hF fun dz iJ hF=>bC (jT iJ) (fun _=>?_)
   refine bi ?_
   rcases bD (!dz)with jJ|jJ
   · rw[jJ]
     try rw[jJ]at hF; dsimp only[aJ,aI]at hF
     exact bK hF
   rw[jJ]
   try rw[jJ]at hF; dsimp only[aJ,aI]at hF
   refine aZ ?_
   refine bnd hF fun r16 jO hF=>bC (jT jO) (fun _=>?_)
   refine bi ?_
   rcases bD (!r16)with iN|iN
   · rw[iN]
     try rw[iN]at hF; dsimp only[aJ,aI]at hF
     exact bK hF
   rw[iN]
   try rw[iN]at hF; dsimp only[aJ,aI]at hF
   refine aZ ?_
   refine bnd hF fun jP lG hF=>bC (jT lG) (fun _=>?_)
   exact bK hF
 rintro _ _ ⟨c23,g64,rfl,rfl,hE⟩
 replace hF:=hO3
 try dsimp only at hF
 refine bu hE ?_
 refine Ci hF (fun aw3 hF=>?_) (fun aw3 hF=>?_)
 · exact ze hF
 refine aZ ?_
 refine bn (bU (m:=aa.Inputs.length) (fun Gj f' cs'=>∃(g:Fr)(k27:Nat)(lv:List Int),Gj=lv.length/\f'=aQ g [(0,ae.v),(3,(pz k1)),(5,(zi (k27:Int)))]/\List.drop k27 aa.Inputs=lv/\aO cs' [ah ae ag,aX k1 57 (zg [(zi aa.Rel),aV.v,(zi aa.Limit),(zi aa.Cost),(zi aa.Quota)]),ah aV aa.Inputs]/\AR ag aa lv k27=some R) ⟨_,0,_,rfl,aA,rfl,ay,hF⟩ ?_)
 rintro Gj _ _ ⟨g26,k27,lv,rfl,rfl,z_,hE,hF⟩
 refine Kb hE aa.Inputs (fun aiA=>?_)
 rcases lv with _|⟨x29,lv⟩
 · have hk31:=dn z_
   rw[AR]at hF
   refine dN ?_
   refine dL ?_
   exact ze hF
 obtain⟨hk31,hx32,Rn⟩:=dA z_
 rw[AR]at hF
 refine dN ?_
 refine dK ?_
 refine aU ?_
 obtain⟨Kc,aaS,acn⟩:=bind_some hF
 refine dV [0,1,2,3,4,5,6,7,8,9,10,11,12,13,14,15,16,17,18,19,20,21,22,23,24,25,26,27,28,29,30] [0,1,0,7,15,0,0,64,224,480,992,2047,4095,8191,16383,32767,65535,131071,262143,131071,1048575,2097151,131071,4325375,131071,16908287,63045631,130154495,268435455,536870911,1073741823] [11] mixed (by decide+kernel) ?_
 refine kX (fun f' cs'=>∃(c59:Bool)(g:Fr),c59=Kc/\f'=aQ g [(0,ae.v),(3,(pz k1)),(5,(zi (k27:Int))),(73,(.bool c59))]/\aO cs' [ah ae ag,aX k1 57 (zg [(zi aa.Rel),aV.v,(zi aa.Limit),(zi aa.Cost),(zi aa.Quota)]),ah aV aa.Inputs]) ?_ ?_
 · replace hF:=aaS
   refine dD ?_
   refine Di hx32 (fun nP j39=>?_)
   refine Dl dP ?_
   refine dD ?_
   refine zI hF fun x40 ajO qA hF=>?_
   refine Di qA (fun Yk Yl=>?_)
   refine Dl dP ?_
   refine du ?_
   refine bnd hF fun xC Dc hF=>fu (jT Dc) (fun _=>?_)
   refine bX ?_
   rcases bD (!xC)with Rp|Rp
   · rw[Rp]
     try rw[Rp]at hF; dsimp only[aJ,aI]at hF
     exact eD hF
   rw[Rp]
   try rw[Rp]at hF; dsimp only[aJ,aI]at hF
   refine dD ?_
   rcases bD (decide ((0:Int)<(k27:Int)))with yx|yx
   · rw[yx]
     try rw[yx]at hF; dsimp only[aJ,aI]at hF
     refine dD ?_
     refine Di hx32 (fun uF j52=>?_)
     refine Dl dP ?_
     refine nZ ?_
     refine zI hF fun TA aCH CX hF=>?_
     refine Di CX (fun k57 j58=>?_)
     refine Dl dP ?_
     exact eD hF
   rw[yx]
   try rw[yx]at hF; dsimp only[aJ,aI]at hF
   exact eD hF
 rintro _ _ ⟨c59,g62,rfl,rfl,hE⟩
 replace hF:=acn
 try dsimp only at hF
 refine bu hE ?_
 refine Ci hF (fun Jw hF=>?_) (fun Jw hF=>?_)
 · exact ze hF
 refine bE ?_
 rw[wk k27]
 exact⟨_,bY _,_,k27+1,lv,rfl,aA,Rn,ay,hF⟩
def GU(ag:List Int)(ai:List Method):List Method->Nat->Option (Bool)
 |[],k4=>((sU ag).bind fun gu=>
     bif gu then (some (decide (((ai.length:Int):Int)<=5)))
     else (some false)).bind fun mo=>
   match mo with
   |c19=>some c19
 |x6::aM,k4=>(IG ag x6).bind fun DD=>
   if (!DD)then (
     some false)
   else (
     GU ag ai aM (k4+1))
def Ev(ag:List Int)(ai:List Method):Option (Bool):=
 GU ag ai ai 0
theorem UK{ag:List Int}{ae:Sv}{ai:List Method}{ax:Sv}{R:Bool}(hF:Ev ag ai=some R):
   Fw.Spec Tryz.prog 71 [ae.v,ax.v] [ah ae ag,bW ax ai] (fun _:Unit=>(.bool R)) (fun _=>[]):=by
 refine Se 26 Tryz.func71 [.tmp 4] ?_
 intro H0 F0
 unfold Ev at hF
 refine bJ ?_
 refine bn (bU (m:=ai.length) (fun m2 f' cs'=>∃(g:Fr)(k4:Nat)(aM:List Method),m2=aM.length/\f'=aQ g [(0,ae.v),(1,ax.v),(5,(zi (k4:Int)))]/\List.drop k4 ai=aM/\aO cs' [ah ae ag,bW ax ai]/\GU ag ai aM k4=some R) ⟨_,0,_,rfl,aA,rfl,ay,hF⟩ ?_)
 rintro m2 _ _ ⟨g3,k4,aM,rfl,rfl,hd7,hE,hF⟩
 refine Kb hE ai (fun kY=>?_)
 rcases aM with _|⟨x6,aM⟩
 · have gH:=dn hd7
   rw[GU]at hF
   refine bJ ?_
   refine dL ?_
   refine bi ?_
   obtain⟨mo,vP,wh⟩:=bind_some hF
   refine au ?_
   refine fe (fun f' cs'=>∃(c19:Bool)(g:Fr),c19=mo/\f'=aQ g [(4,(.bool c19))]/\aO cs' []) ?_ ?_
   · replace hF:=vP
     refine au ?_
     refine bnd hF fun gu hx16 hF=>bC (xM hx16) (fun _=>?_)
     refine au ?_
     rcases bD gu with jK|jK
     · rw[jK]
       try rw[jK]at hF; dsimp only[aJ,aI]at hF
       exact bK hF
     rw[jK]
     try rw[jK]at hF; dsimp only[aJ,aI]at hF
     exact bK hF
   rintro _ _ ⟨c19,g20,rfl,rfl,hE⟩
   replace hF:=wh
   try dsimp only at hF
   refine bu hE ?_
   exact ze hF
 obtain⟨gH,bZ,gG⟩:=dA hd7
 rw[GU]at hF
 refine bJ ?_
 refine dK ?_
 refine bE ?_
 refine Ai bZ (fun k21 NB=>?_)
 refine ni (uO x6) vH (fun o6=>?_)
 refine bnd hF fun DD hx25 hF=>bC (afk hx25) (fun _=>?_)
 refine aU ?_
 refine Ci hF (fun yz hF=>?_) (fun yz hF=>?_)
 · exact ze hF
 refine bE ?_
 rw[wk k4]
 exact⟨_,bY _,_,k4+1,aM,rfl,aA,gG,ay,hF⟩
def EE(ag:List Int)(dm:dh):List Int->Nat->Option (Bool)
 |[],k26=>some true
 |x28::pu,k26=>(ix ag dm.From).bind fun xD=>
   (iT x28 0 (IntKind.i64.wrap (xD-1))).bind fun TC=>
   if (!TC)then (
     some false)
   else (
     EE ag dm pu (k26+1))
def I6(ag:List Int)(dm:dh):Option (Bool):=
 ((sU ag).bind fun r4=>
   bif (!r4)then (some true)
   else ((iT dm.From 0 (IntKind.i64.wrap ((ag.length:Int)-1))).bind fun r8=>
     bif (!r8)then (some true)
     else ((iT dm.To 0 (IntKind.i64.wrap ((ag.length:Int)-1))).bind fun dz=>
       bif (!dz)then (some true)
       else ((ix ag dm.To).bind fun oh=>
         some (((dm.Map.length:Int):Int)!=oh))))).bind fun o2=>
 match o2 with
 |TD=>if TD then (
     some false)
   else (
     EE ag dm dm.Map 0)
theorem af5{ag:List Int}{ae:Sv}{dm:dh}{nM:Sv}{R:Bool}(hF:I6 ag dm=some R):
   Fw.Spec Tryz.prog 123 [ae.v,(zg [(zi dm.From),(zi dm.To),nM.v])] [ah ae ag,ah nM dm.Map] (fun _:Unit=>(.bool R)) (fun _=>[]):=by
 refine Se 58 Tryz.func123 [.tmp 4] ?_
 intro H0 F0
 unfold I6 at hF
 refine au ?_
 refine bP (fun k1=>?_)
 refine bv ?_
 obtain⟨o2,gz,hO3⟩:=bind_some hF
 refine dV [0,1,2,3,4,5,6,7,8,9,10,11,12,13,14,15,16,17,18,19,20,21,22,23,24,25,26,27,28,29,30,31] [0,1,3,7,15,31,15,79,207,511,1023,2047,4095,8191,16383,8191,40959,106495,262143,524287,1048575,2097151,4194303,8388607,16777215,4194303,4194303,71303167,239075327,507510783,1073741823,2147483647] [1,9,18] mixed (by decide+kernel) ?_
 refine kX (fun f' cs'=>∃(TD:Bool)(g:Fr),TD=o2/\f'=aQ g [(0,ae.v),(3,(pz k1)),(37,(.bool TD))]/\aO cs' [ah ae ag,aX k1 98 (zg [(zi dm.From),(zi dm.To),nM.v]),ah nM dm.Map]) ?_ ?_
 · replace hF:=gz
   refine du ?_
   refine bnd hF fun r4 hx5 hF=>fu (xM hx5) (fun _=>?_)
   refine bX ?_
   rcases bD (!r4)with bq|bq
   · rw[bq]
     try rw[bq]at hF; dsimp only[aJ,aI]at hF
     exact eD hF
   rw[bq]
   try rw[bq]at hF; dsimp only[aJ,aI]at hF
   refine t_ ?_
   refine bnd hF fun r8 bZ hF=>fu (jT bZ) (fun _=>?_)
   refine dD ?_
   rcases bD (!r8)with dS|dS
   · rw[dS]
     try rw[dS]at hF; dsimp only[aJ,aI]at hF
     exact eD hF
   rw[dS]
   try rw[dS]at hF; dsimp only[aJ,aI]at hF
   refine t_ ?_
   refine bnd hF fun dz iJ hF=>fu (jT iJ) (fun _=>?_)
   refine dD ?_
   rcases bD (!dz)with jJ|jJ
   · rw[jJ]
     try rw[jJ]at hF; dsimp only[aJ,aI]at hF
     exact eD hF
   rw[jJ]
   try rw[jJ]at hF; dsimp only[aJ,aI]at hF
   refine xn ?_
   refine zI hF fun oh M9 kR hF=>?_
   refine Di kR (fun k20 DF=>?_)
   refine Dl dP ?_
   exact eD hF
 rintro _ _ ⟨TD,g49,rfl,rfl,hE⟩
 replace hF:=hO3
 try dsimp only at hF
 refine bu hE ?_
 refine Ci hF (fun hb48 hF=>?_) (fun hb48 hF=>?_)
 · exact ze hF
 refine aZ ?_
 refine bn (bU (m:=dm.Map.length) (fun m24 f' cs'=>∃(g:Fr)(k26:Nat)(pu:List Int),m24=pu.length/\f'=aQ g [(0,ae.v),(3,(pz k1)),(5,(zi (k26:Int)))]/\List.drop k26 dm.Map=pu/\aO cs' [ah ae ag,aX k1 98 (zg [(zi dm.From),(zi dm.To),nM.v]),ah nM dm.Map]/\EE ag dm pu k26=some R) ⟨_,0,_,rfl,aA,rfl,ay,hF⟩ ?_)
 rintro m24 _ _ ⟨TE,k26,pu,rfl,rfl,hd29,hE,hF⟩
 refine Kb hE dm.Map (fun atn=>?_)
 rcases pu with _|⟨x28,pu⟩
 · have aco:=dn hd29
   rw[EE]at hF
   refine dN ?_
   refine dL ?_
   exact ze hF
 obtain⟨aco,hx31,hd32⟩:=dA hd29
 rw[EE]at hF
 refine dN ?_
 refine dK ?_
 refine aU ?_
 refine dV [0,1,2,3,4,5,6,7,8,9,10,11,12] [0,1,0,7,15,0,0,64,224,480,992,2047,4095] [11] mixed (by decide+kernel) ?_
 refine dD ?_
 refine Di hx31 (fun nC j36=>?_)
 refine Dl dP ?_
 refine dD ?_
 refine zI hF fun xD aw4 uh hF=>?_
 refine Di uh (fun xE j42=>?_)
 refine Dl dP ?_
 refine du ?_
 refine bnd hF fun TC Rq hF=>fu (jT Rq) (fun _=>?_)
 refine bX ?_
 refine Ci hF (fun acp hF=>?_) (fun acp hF=>?_)
 · exact ze hF
 refine bE ?_
 rw[wk k26]
 exact⟨_,bY _,_,k26+1,pu,rfl,aA,hd32,ay,hF⟩
def Hm(ag:List Int)(ai:List dh):List dh->Nat->Option (Bool)
 |[],k4=>((sU ag).bind fun gu=>
     bif gu then (some (decide (((ai.length:Int):Int)<=4)))
     else (some false)).bind fun mo=>
   match mo with
   |c19=>some c19
 |x6::aM,k4=>(I6 ag x6).bind fun DD=>
   if (!DD)then (
     some false)
   else (
     Hm ag ai aM (k4+1))
def O9(ag:List Int)(ai:List dh):Option (Bool):=
 Hm ag ai ai 0
theorem am2{ag:List Int}{ae:Sv}{ai:List dh}{ax:Sv}{R:Bool}(hF:O9 ag ai=some R):
   Fw.Spec Tryz.prog 72 [ae.v,ax.v] [ah ae ag,fq ax ai] (fun _:Unit=>(.bool R)) (fun _=>[]):=by
 refine Se 26 Tryz.func72 [.tmp 4] ?_
 intro H0 F0
 unfold O9 at hF
 refine bJ ?_
 refine bn (bU (m:=ai.length) (fun m2 f' cs'=>∃(g:Fr)(k4:Nat)(aM:List dh),m2=aM.length/\f'=aQ g [(0,ae.v),(1,ax.v),(5,(zi (k4:Int)))]/\List.drop k4 ai=aM/\aO cs' [ah ae ag,fq ax ai]/\Hm ag ai aM k4=some R) ⟨_,0,_,rfl,aA,rfl,ay,hF⟩ ?_)
 rintro m2 _ _ ⟨g3,k4,aM,rfl,rfl,hd7,hE,hF⟩
 refine Kb hE ai (fun kY=>?_)
 rcases aM with _|⟨x6,aM⟩
 · have gH:=dn hd7
   rw[Hm]at hF
   refine bJ ?_
   refine dL ?_
   refine bi ?_
   obtain⟨mo,vP,wh⟩:=bind_some hF
   refine au ?_
   refine fe (fun f' cs'=>∃(c19:Bool)(g:Fr),c19=mo/\f'=aQ g [(4,(.bool c19))]/\aO cs' []) ?_ ?_
   · replace hF:=vP
     refine au ?_
     refine bnd hF fun gu hx16 hF=>bC (xM hx16) (fun _=>?_)
     refine au ?_
     rcases bD gu with jK|jK
     · rw[jK]
       try rw[jK]at hF; dsimp only[aJ,aI]at hF
       exact bK hF
     rw[jK]
     try rw[jK]at hF; dsimp only[aJ,aI]at hF
     exact bK hF
   rintro _ _ ⟨c19,g20,rfl,rfl,hE⟩
   replace hF:=wh
   try dsimp only at hF
   refine bu hE ?_
   exact ze hF
 obtain⟨gH,bZ,gG⟩:=dA hd7
 rw[Hm]at hF
 refine bJ ?_
 refine dK ?_
 refine bE ?_
 refine Ai bZ (fun k21 NB=>?_)
 refine ni (LM x6) Pv (fun o6=>?_)
 refine bnd hF fun DD hx25 hF=>bC (af5 hx25) (fun _=>?_)
 refine aU ?_
 refine Ci hF (fun yz hF=>?_) (fun yz hF=>?_)
 · exact ze hF
 refine bE ?_
 rw[wk k4]
 exact⟨_,bY _,_,k4+1,aM,rfl,aA,gG,ay,hF⟩
def Il:List Int->Nat->Option (Bool)
 |[],k22=>some true
 |x24::lw,k22=>(iT x24 0 9).bind fun qF=>
   if (!qF)then (
     some false)
   else (
     Il lw (k22+1))
def Ma(ag:List Int)(bF:Fact):Option (Bool):=
 ((sU ag).bind fun r4=>
   bif (!r4)then (some true)
   else ((iT bF.Rel 0 (IntKind.i64.wrap ((ag.length:Int)-1))).bind fun r8=>
     bif (!r8)then (some true)
     else ((ix ag bF.Rel).bind fun ol=>
       some (((bF.Values.length:Int):Int)!=ol)))).bind fun o2=>
 match o2 with
 |c18=>if c18 then (
     some false)
   else (
     Il bF.Values 0)
theorem af6{ag:List Int}{ae:Sv}{bF:Fact}{aV:Sv}{R:Bool}(hF:Ma ag bF=some R):
   Fw.Spec Tryz.prog 91 [ae.v,(zg [(zi bF.Rel),aV.v])] [ah ae ag,ah aV bF.Values] (fun _:Unit=>(.bool R)) (fun _=>[]):=by
 refine Se 43 Tryz.func91 [.tmp 4] ?_
 intro H0 F0
 unfold Ma at hF
 refine au ?_
 refine bP (fun k1=>?_)
 refine bv ?_
 obtain⟨o2,gz,hO3⟩:=bind_some hF
 refine dV [0,1,2,3,4,5,6,7,8,9,10,11,12,13,14,15,16,17,18,19,20,21,22] [0,1,3,7,15,31,15,79,207,511,1023,2047,4095,8191,16383,32767,8191,8191,139263,466943,991231,2097151,4194303] [1,9] mixed (by decide+kernel) ?_
 refine kX (fun f' cs'=>∃(c18:Bool)(g:Fr),c18=o2/\f'=aQ g [(3,(pz k1)),(28,(.bool c18))]/\aO cs' [aX k1 70 (zg [(zi bF.Rel),aV.v]),ah aV bF.Values]) ?_ ?_
 · replace hF:=gz
   refine du ?_
   refine bnd hF fun r4 hx5 hF=>fu (xM hx5) (fun _=>?_)
   refine bX ?_
   rcases bD (!r4)with bq|bq
   · rw[bq]
     try rw[bq]at hF; dsimp only[aJ,aI]at hF
     exact eD hF
   rw[bq]
   try rw[bq]at hF; dsimp only[aJ,aI]at hF
   refine t_ ?_
   refine bnd hF fun r8 bZ hF=>fu (jT bZ) (fun _=>?_)
   refine dD ?_
   rcases bD (!r8)with dS|dS
   · rw[dS]
     try rw[dS]at hF; dsimp only[aJ,aI]at hF
     exact eD hF
   rw[dS]
   try rw[dS]at hF; dsimp only[aJ,aI]at hF
   refine xn ?_
   refine zI hF fun ol Rs kG hF=>?_
   refine Di kG (fun k16 J7=>?_)
   refine Dl dP ?_
   exact eD hF
 rintro _ _ ⟨c18,g39,rfl,rfl,hE⟩
 replace hF:=hO3
 try dsimp only at hF
 refine bu hE ?_
 refine Ci hF (fun Jy hF=>?_) (fun Jy hF=>?_)
 · exact ze hF
 refine aZ ?_
 refine bn (bU (m:=bF.Values.length) (fun m20 f' cs'=>∃(g:Fr)(k22:Nat)(lw:List Int),m20=lw.length/\f'=aQ g [(3,(pz k1)),(5,(zi (k22:Int)))]/\List.drop k22 bF.Values=lw/\aO cs' [aX k1 70 (zg [(zi bF.Rel),aV.v]),ah aV bF.Values]/\Il lw k22=some R) ⟨_,0,_,rfl,aA,rfl,ay,hF⟩ ?_)
 rintro m20 _ _ ⟨g21,k22,lw,rfl,rfl,hd25,hE,hF⟩
 refine Kb hE bF.Values (fun aiB=>?_)
 rcases lw with _|⟨x24,lw⟩
 · have Rt:=dn hd25
   rw[Il]at hF
   refine dN ?_
   refine dL ?_
   exact ze hF
 obtain⟨Rt,hx27,hd28⟩:=dA hd25
 rw[Il]at hF
 refine dN ?_
 refine dK ?_
 refine bE ?_
 refine Ai hx27 (fun Gl Ym=>?_)
 refine Al dP ?_
 refine bnd hF fun qF hx34 hF=>bC (jT hx34) (fun _=>?_)
 refine aU ?_
 refine Ci hF (fun Ru hF=>?_) (fun Ru hF=>?_)
 · exact ze hF
 refine bE ?_
 rw[wk k22]
 exact⟨_,bY _,_,k22+1,lw,rfl,aA,hd28,ay,hF⟩
def DX(aB:Fact)(aR:Fact):Nat->Int->Option (Int)
 |0,_=>none
 |m5+1,c4=>if ((decide ((c4:Int)<(aB.Values.length:Int)))&&(decide ((c4:Int)<(aR.Values.length:Int))))then (
     (ix aB.Values c4).bind fun nD=>
     (ix aR.Values c4).bind fun x21=>
     if (decide ((nD:Int)<x21))then (
       some (-1))
     else (
       (ix aB.Values c4).bind fun x27=>
       (ix aR.Values c4).bind fun TF=>
       if (decide ((TF:Int)<x27))then (
         some 1)
       else (
         DX aB aR m5 (IntKind.i64.wrap (c4+1)))))
   else (
     if (decide (((aB.Values.length:Int):Int)<(aR.Values.length:Int)))then (
       some (-1))
     else (
       if (decide (((aR.Values.length:Int):Int)<(aB.Values.length:Int)))then (
         some 1)
       else (
         some 0)))
def xL(aB:Fact)(aR:Fact):Option (Int):=
 if ((aB.Rel:Int)!=aR.Rel)then (
   if (decide ((aB.Rel:Int)<aR.Rel))then (
     some (-1))
   else (
     some 1))
 else (
   DX aB aR (((aB.Values.length:Int)-0).toNat+2) 0)
theorem NY{aB:Fact}{aP:Sv}{aR:Fact}{aV:Sv}{R:Int}(hF:xL aB aR=some R):
   Fw.Spec Tryz.prog 45 [(zg [(zi aB.Rel),aP.v]),(zg [(zi aR.Rel),aV.v])] [ah aP aB.Values,ah aV aR.Values] (fun _:Unit=>(zi R)) (fun _=>[]):=by
 refine Se 66 Tryz.func45 [.tmp 4] ?_
 intro H0 F0
 unfold xL at hF
 refine au ?_
 refine bP (fun k1=>?_)
 refine bP (fun k2=>?_)
 refine kF ?_
 refine Ci hF (fun Jz hF=>?_) (fun Jz hF=>?_)
 · refine dN ?_
   refine Ci hF (fun hb3 hF=>?_) (fun hb3 hF=>?_)
   · exact ze hF
   exact ze hF
 refine aZ ?_
 refine bn (bU (m:=(((aB.Values.length:Int)-0).toNat+2)) (fun m5 f' cs'=>∃(g:Fr)(c4:Int),f'=aQ g [(2,(pz k1)),(3,(pz k2)),(5,(zi c4))]/\aO cs' [aX k1 70 (zg [(zi aB.Rel),aP.v]),ah aP aB.Values,aX k2 70 (zg [(zi aR.Rel),aV.v]),ah aV aR.Values]/\DX aB aR m5 c4=some R) ⟨_,_,aA,ay,hF⟩ ?_)
 rintro m5 _ _ ⟨g6,c4,rfl,hE,hF⟩
 refine bu hE ?_
 rcases m5 with _|m5
 · rw[DX]at hF
   exact absurd hF (by simp)
 rw[DX]at hF
 refine aU ?_
 refine fe (fun f' cs'=>∃(g:Fr),f'=aQ g [(2,(pz k1)),(3,(pz k2)),(5,(zi c4)),(27,(.bool ((decide ((c4:Int)<(aB.Values.length:Int)))&&(decide ((c4:Int)<(aR.Values.length:Int))))))]/\aO cs' [aX k1 70 (zg [(zi aB.Rel),aP.v]),ah aP aB.Values,aX k2 70 (zg [(zi aR.Rel),aV.v]),ah aV aR.Values]) ?_ ?_
 · refine bE ?_
   rcases bD (decide ((c4:Int)<(aB.Values.length:Int)))with jL|jL
   · rw[jL]
     try rw[jL]at hF; dsimp only[aJ,aI]at hF
     refine Fs ?_
     exact⟨_,aA,ay⟩
   rw[jL]
   try rw[jL]at hF; dsimp only[aJ,aI]at hF
   refine bJ ?_
   exact⟨_,aA,ay⟩
 rintro _ _ ⟨g14,rfl,hE⟩
 refine bu hE ?_
 refine Ci hF (fun aw5 hF=>?_) (fun aw5 hF=>?_)
 · refine bv ?_
   refine dV [0,1,2,3,4,5,6,7,8,9,10] [0,1,0,7,15,0,32,0,224,480,1023] [] mixed (by decide+kernel) ?_
   refine dD ?_
   refine zI hF fun nD acr mQ hF=>?_
   refine Di mQ (fun k19 Gi=>?_)
   refine Dl dP ?_
   refine dD ?_
   refine zI hF fun x21 aCI hx24 hF=>?_
   refine Di hx24 (fun k25 j26=>?_)
   refine Dl dP ?_
   refine bX ?_
   refine Ci hF (fun Rv hF=>?_) (fun Rv hF=>?_)
   · exact ze hF
   refine au ?_
   refine dV [0,1,2,3,4,5,6,7,8,9,10] [0,1,0,7,15,0,32,0,224,480,1023] [] mixed (by decide+kernel) ?_
   refine dD ?_
   refine zI hF fun x27 aCJ Xj hF=>?_
   refine Di Xj (fun Gl Ym=>?_)
   refine Dl dP ?_
   refine dD ?_
   refine zI hF fun TF aw6 JA hF=>?_
   refine Di JA (fun TG TH=>?_)
   refine Dl dP ?_
   refine bX ?_
   refine Ci hF (fun De hF=>?_) (fun De hF=>?_)
   · exact ze hF
   refine bE ?_
   exact⟨m5,bY _,_,_,aA,ay,hF⟩
 refine aiw ?_
 refine Ci hF (fun acu hF=>?_) (fun acu hF=>?_)
 · exact ze hF
 refine CB ?_
 refine Ci hF (fun acv hF=>?_) (fun acv hF=>?_)
 · exact ze hF
 exact ze hF
def AU(ag:List Int)(ai:List Fact):List Fact->Nat->Option (Bool)
 |[],k4=>((sU ag).bind fun gu=>
     bif gu then (some (decide (((ai.length:Int):Int)<=24)))
     else (some false)).bind fun mo=>
   match mo with
   |c19=>some c19
 |x6::aM,k4=>((Ma ag x6).bind fun r26=>
     bif (!r26)then (some true)
     else (bif (decide ((0:Int)<(k4:Int)))then ((ix ai (IntKind.i64.wrap ((k4:Int)-1))).bind fun x31=>
         (xL x31 x6).bind fun wL=>
         some (decide ((0:Int)<=wL)))
       else (some false))).bind fun y9=>
   match y9 with
   |og=>if og then (
       some false)
     else (
       AU ag ai aM (k4+1))
def II(ag:List Int)(ai:List Fact):Option (Bool):=
 AU ag ai ai 0
theorem UU{ag:List Int}{ae:Sv}{ai:List Fact}{ax:Sv}{R:Bool}(hF:II ag ai=some R):
   Fw.Spec Tryz.prog 49 [ae.v,ax.v] [ah ae ag,bH ax ai] (fun _:Unit=>(.bool R)) (fun _=>[]):=by
 refine Se 43 Tryz.func49 [.tmp 4] ?_
 intro H0 F0
 unfold II at hF
 refine bJ ?_
 refine bn (bU (m:=ai.length) (fun m2 f' cs'=>∃(g:Fr)(k4:Nat)(aM:List Fact),m2=aM.length/\f'=aQ g [(0,ae.v),(1,ax.v),(5,(zi (k4:Int)))]/\List.drop k4 ai=aM/\aO cs' [ah ae ag,bH ax ai]/\AU ag ai aM k4=some R) ⟨_,0,_,rfl,aA,rfl,ay,hF⟩ ?_)
 rintro m2 _ _ ⟨g3,k4,aM,rfl,rfl,hd7,hE,hF⟩
 refine Kb hE ai (fun kY=>?_)
 rcases aM with _|⟨x6,aM⟩
 · have gH:=dn hd7
   rw[AU]at hF
   refine bJ ?_
   refine dL ?_
   refine bi ?_
   obtain⟨mo,vP,wh⟩:=bind_some hF
   refine au ?_
   refine fe (fun f' cs'=>∃(c19:Bool)(g:Fr),c19=mo/\f'=aQ g [(4,(.bool c19))]/\aO cs' []) ?_ ?_
   · replace hF:=vP
     refine au ?_
     refine bnd hF fun gu hx16 hF=>bC (xM hx16) (fun _=>?_)
     refine au ?_
     rcases bD gu with jK|jK
     · rw[jK]
       try rw[jK]at hF; dsimp only[aJ,aI]at hF
       exact bK hF
     rw[jK]
     try rw[jK]at hF; dsimp only[aJ,aI]at hF
     exact bK hF
   rintro _ _ ⟨c19,g20,rfl,rfl,hE⟩
   replace hF:=wh
   try dsimp only at hF
   refine bu hE ?_
   exact ze hF
 obtain⟨gH,bZ,gG⟩:=dA hd7
 rw[AU]at hF
 refine bJ ?_
 refine dK ?_
 refine aU ?_
 obtain⟨y9,Qo,Rw⟩:=bind_some hF
 refine dV [0,1,2,3,4,5,6,7,8,9,10,11,12,13,14,15,16,17,18,19,20,21,22,23] [0,0,0,6,14,31,63,127,255,511,1023,2047,2047,6143,16383,32767,2047,2047,198655,460799,1048575,2097151,4194303,8388607] [5,20] mixed (by decide+kernel) ?_
 refine kX (fun f' cs'=>∃(og:Bool)(g:Fr),og=y9/\f'=aQ g [(0,ae.v),(1,ax.v),(5,(zi (k4:Int))),(35,(.bool og))]/\aO cs' [ah ae ag,bH ax ai]) ?_ ?_
 · replace hF:=Qo
   refine dD ?_
   refine Di bZ (fun k23 Yn=>?_)
   refine jR (lZ x6) mq (fun p25=>?_)
   refine bnd hF fun r26 hx27 hF=>fu (af6 hx27) (fun _=>?_)
   refine bX ?_
   rcases bD (!r26)with rf|rf
   · rw[rf]
     try rw[rf]at hF; dsimp only[aJ,aI]at hF
     exact eD hF
   rw[rf]
   try rw[rf]at hF; dsimp only[aJ,aI]at hF
   refine dD ?_
   rcases bD (decide ((0:Int)<(k4:Int)))with yA|yA
   · rw[yA]
     try rw[yA]at hF; dsimp only[aJ,aI]at hF
     refine dD ?_
     refine zI hF fun x31 aCK hx34 hF=>?_
     refine Di hx34 (fun nC j36=>?_)
     refine jR (lZ x31) mq (fun p37=>?_)
     refine bX ?_
     refine Di bZ (fun nP j39=>?_)
     refine jR (lZ x6) mq (fun p40=>?_)
     refine bnd hF fun wL Rx hF=>fu (NY Rx) (fun _=>?_)
     exact eD hF
   rw[yA]
   try rw[yA]at hF; dsimp only[aJ,aI]at hF
   exact eD hF
 rintro _ _ ⟨og,g47,rfl,rfl,hE⟩
 replace hF:=Rw
 try dsimp only at hF
 refine bu hE ?_
 refine Ci hF (fun acw hF=>?_) (fun acw hF=>?_)
 · exact ze hF
 refine bE ?_
 rw[wk k4]
 exact⟨_,bY _,_,k4+1,aM,rfl,aA,gG,ay,hF⟩
def LA(ag:List Int)(aS:Source):Option (Bool):=
 ((II ag aS.Facts).bind fun r4=>
   bif r4 then ((iT aS.Version 0 1000).bind fun r8=>
     some r8)
   else (some false)).bind fun o2=>
 match o2 with
 |c11=>some c11
theorem afl{ag:List Int}{ae:Sv}{aS:Source}{ax:Sv}{R:Bool}(hF:LA ag aS=some R):
   Fw.Spec Tryz.prog 73 [ae.v,(zg [ax.v,(zi aS.Version)])] [ah ae ag,bH ax aS.Facts] (fun _:Unit=>(.bool R)) (fun _=>[]):=by
 refine Se 14 Tryz.func73 [.tmp 4] ?_
 intro H0 F0
 unfold LA at hF
 refine au ?_
 refine bP (fun k1=>?_)
 refine aU ?_
 obtain⟨o2,gz,hO3⟩:=bind_some hF
 refine au ?_
 refine fe (fun f' cs'=>∃(c11:Bool)(g:Fr),c11=o2/\f'=aQ g [(4,(.bool c11))]/\aO cs' []) ?_ ?_
 · replace hF:=gz
   refine bv ?_
   refine bnd hF fun r4 hx5 hF=>bC (UU hx5) (fun _=>?_)
   refine au ?_
   rcases bD r4 with bq|bq
   · rw[bq]
     try rw[bq]at hF; dsimp only[aJ,aI]at hF
     refine aZ ?_
     refine bnd hF fun r8 bZ hF=>bC (jT bZ) (fun _=>?_)
     exact bK hF
   rw[bq]
   try rw[bq]at hF; dsimp only[aJ,aI]at hF
   exact bK hF
 rintro _ _ ⟨c11,g12,rfl,rfl,hE⟩
 replace hF:=hO3
 try dsimp only at hF
 refine bu hE ?_
 exact ze hF
def Ho:List Int->Nat->Option (Bool)
 |[],k23=>some true
 |x25::pE,k23=>(iT x25 0 9).bind fun qG=>
   if (!qG)then (
     some false)
   else (
     Ho pE (k23+1))
def Bd(ag:List Int)(ai:List Method)(aB:Access):Option (Bool):=
 ((Ev ag ai).bind fun r4=>
   bif (!r4)then (some true)
   else ((iT aB.Method 0 (IntKind.i64.wrap ((ai.length:Int)-1))).bind fun r8=>
     bif (!r8)then (some true)
     else ((ix ai aB.Method).bind fun ol=>
       some (((aB.Values.length:Int):Int)!=(ol.Inputs.length:Int))))).bind fun o2=>
 match o2 with
 |c19=>if c19 then (
     some false)
   else (
     Ho aB.Values 0)
theorem UV{ag:List Int}{ae:Sv}{ai:List Method}{ax:Sv}{aB:Access}{dJ:Sv}{R:Bool}(hF:Bd ag ai aB=some R):
   Fw.Spec Tryz.prog 48 [ae.v,ax.v,(zg [(zi aB.Method),dJ.v])] [ah ae ag,bW ax ai,ah dJ aB.Values] (fun _:Unit=>(.bool R)) (fun _=>[]):=by
 refine Se 48 Tryz.func48 [.tmp 6] ?_
 intro H0 F0
 unfold Bd at hF
 refine au ?_
 refine bP (fun k1=>?_)
 refine bv ?_
 obtain⟨o2,gz,hO3⟩:=bind_some hF
 refine dV [0,1,2,3,4,5,6,7,8,9,10,11,12,13,14,15,16,17,18,19,20,21,22,23,24,25] [0,0,3,7,15,31,63,31,159,415,1023,2047,4095,8191,16383,32767,65535,16383,16383,278527,933887,1982463,4079615,8273919,16777215,33554431] [2,10] mixed (by decide+kernel) ?_
 refine kX (fun f' cs'=>∃(c19:Bool)(g:Fr),c19=o2/\f'=aQ g [(5,(pz k1)),(33,(.bool c19))]/\aO cs' [aX k1 45 (zg [(zi aB.Method),dJ.v]),ah dJ aB.Values]) ?_ ?_
 · replace hF:=gz
   refine bX ?_
   refine bnd hF fun r4 hx5 hF=>fu (UK hx5) (fun _=>?_)
   refine bX ?_
   rcases bD (!r4)with bq|bq
   · rw[bq]
     try rw[bq]at hF; dsimp only[aJ,aI]at hF
     exact eD hF
   rw[bq]
   try rw[bq]at hF; dsimp only[aJ,aI]at hF
   refine t_ ?_
   refine bnd hF fun r8 bZ hF=>fu (jT bZ) (fun _=>?_)
   refine dD ?_
   rcases bD (!r8)with dS|dS
   · rw[dS]
     try rw[dS]at hF; dsimp only[aJ,aI]at hF
     exact eD hF
   rw[dS]
   try rw[dS]at hF; dsimp only[aJ,aI]at hF
   refine xn ?_
   refine zI hF fun ol Rs kG hF=>?_
   refine Di kG (fun k16 J7=>?_)
   refine du ?_
   refine oz (R':=(aD 3 az)) iC.h rfl (.on 21 rfl rfl rfl) (.tmp rfl rfl) rfl .h P6 (fun w18=>?_)
   exact eD hF
 rintro _ _ ⟨c19,Yo,rfl,rfl,hE⟩
 replace hF:=hO3
 try dsimp only at hF
 refine bu hE ?_
 refine Ci hF (fun De hF=>?_) (fun De hF=>?_)
 · exact ze hF
 refine aZ ?_
 refine bn (bU (m:=aB.Values.length) (fun m21 f' cs'=>∃(g:Fr)(k23:Nat)(pE:List Int),m21=pE.length/\f'=aQ g [(5,(pz k1)),(7,(zi (k23:Int)))]/\List.drop k23 aB.Values=pE/\aO cs' [aX k1 45 (zg [(zi aB.Method),dJ.v]),ah dJ aB.Values]/\Ho pE k23=some R) ⟨_,0,_,rfl,aA,rfl,ay,hF⟩ ?_)
 rintro m21 _ _ ⟨g22,k23,pE,rfl,rfl,yB,hE,hF⟩
 refine Kb hE aB.Values (fun ato=>?_)
 rcases pE with _|⟨x25,pE⟩
 · have acx:=dn yB
   rw[Ho]at hF
   refine dN ?_
   refine dL ?_
   exact ze hF
 obtain⟨acx,hx28,hd29⟩:=dA yB
 rw[Ho]at hF
 refine dN ?_
 refine dK ?_
 refine bE ?_
 refine Ai hx28 (fun TI j33=>?_)
 refine Al dP ?_
 refine bnd hF fun qG yC hF=>bC (jT yC) (fun _=>?_)
 refine aU ?_
 refine Ci hF (fun Jy hF=>?_) (fun Jy hF=>?_)
 · exact ze hF
 refine bE ?_
 rw[wk k23]
 exact⟨_,bY _,_,k23+1,pE,rfl,aA,hd29,ay,hF⟩
def Im(aB:List Int)(aR:List Int):Nat->Int->Option (Bool)
 |0,_=>none
 |m2+1,c1=>if ((decide ((c1:Int)<(aB.length:Int)))&&(decide ((c1:Int)<(aR.length:Int))))then (
     (ix aB c1).bind fun ol=>
     (ix aR c1).bind fun ic=>
     if ((ol:Int)!=ic)then (
       (ix aB c1).bind fun x24=>
       (ix aR c1).bind fun x30=>
       some (decide ((x24:Int)<x30)))
     else (
       Im aB aR m2 (IntKind.i64.wrap (c1+1))))
   else (
     some (decide (((aB.length:Int):Int)<(aR.length:Int))))
def Mc(aB:List Int)(aR:List Int):Option (Bool):=
 Im aB aR (((aB.length:Int)-0).toNat+2) 0
theorem af7{aB:List Int}{ae:Sv}{aR:List Int}{ax:Sv}{R:Bool}(hF:Mc aB aR=some R):
   Fw.Spec Tryz.prog 153 [ae.v,ax.v] [ah ae aB,ah ax aR] (fun _:Unit=>(.bool R)) (fun _=>[]):=by
 refine Se 41 Tryz.func153 [.tmp 4] ?_
 intro H0 F0
 unfold Mc at hF
 refine bJ ?_
 refine bn (bU (m:=(((aB.length:Int)-0).toNat+2)) (fun m2 f' cs'=>∃(g:Fr)(c1:Int),f'=aQ g [(0,ae.v),(1,ax.v),(5,(zi c1))]/\aO cs' [ah ae aB,ah ax aR]/\Im aB aR m2 c1=some R) ⟨_,_,aA,ay,hF⟩ ?_)
 rintro m2 _ _ ⟨g3,c1,rfl,hE,hF⟩
 refine bu hE ?_
 rcases m2 with _|m2
 · rw[Im]at hF
   exact absurd hF (by simp)
 rw[Im]at hF
 refine aU ?_
 refine fe (fun f' cs'=>∃(g:Fr),f'=aQ g [(0,ae.v),(1,ax.v),(5,(zi c1)),(15,(.bool ((decide ((c1:Int)<(aB.length:Int)))&&(decide ((c1:Int)<(aR.length:Int))))))]/\aO cs' [ah ae aB,ah ax aR]) ?_ ?_
 · refine aZ ?_
   rcases bD (decide ((c1:Int)<(aB.length:Int)))with ru|ru
   · rw[ru]
     try rw[ru]at hF; dsimp only[aJ,aI]at hF
     refine kF ?_
     exact⟨_,aA,ay⟩
   rw[ru]
   try rw[ru]at hF; dsimp only[aJ,aI]at hF
   refine bE ?_
   exact⟨_,aA,ay⟩
 rintro _ _ ⟨g11,rfl,hE⟩
 refine bu hE ?_
 refine Ci hF (fun Ru hF=>?_) (fun Ru hF=>?_)
 · refine aU ?_
   refine dV [0,1,2,3,4,5,6,7,8] [0,0,3,7,0,0,48,112,255] [] mixed (by decide+kernel) ?_
   refine bX ?_
   refine zI hF fun ol Rs kG hF=>?_
   refine Di kG (fun k16 J7=>?_)
   refine Dl dP ?_
   refine bX ?_
   refine zI hF fun ic ajP lG hF=>?_
   refine Di lG (fun k22 j23=>?_)
   refine Dl dP ?_
   refine bX ?_
   refine Ci hF (fun aw7 hF=>?_) (fun aw7 hF=>?_)
   · refine dV [0,1,2,3,4,5,6,7,8,9] [0,0,3,7,0,0,48,112,255,511] [] mixed (by decide+kernel) ?_
     refine bX ?_
     refine zI hF fun x24 ajQ hx27 hF=>?_
     refine Di hx27 (fun k28 Yp=>?_)
     refine Dl dP ?_
     refine bX ?_
     refine zI hF fun x30 aCL wm hF=>?_
     refine Di wm (fun k34 j35=>?_)
     refine Dl dP ?_
     refine dD ?_
     exact ze hF
   refine bE ?_
   exact⟨m2,bY _,_,_,aA,ay,hF⟩
 exact ze hF
def LQ(aB:Access)(aR:Access):Option (Bool):=
 if ((aB.Method:Int)!=aR.Method)then (
   some (decide ((aB.Method:Int)<aR.Method)))
 else (
   (Mc aB.Values aR.Values).bind fun r3=>
   some r3)
theorem afG{aB:Access}{aP:Sv}{aR:Access}{aV:Sv}{R:Bool}(hF:LQ aB aR=some R):
   Fw.Spec Tryz.prog 124 [(zg [(zi aB.Method),aP.v]),(zg [(zi aR.Method),aV.v])] [ah aP aB.Values,ah aV aR.Values] (fun _:Unit=>(.bool R)) (fun _=>[]):=by
 refine Se 20 Tryz.func124 [.tmp 4] ?_
 intro H0 F0
 unfold LQ at hF
 refine au ?_
 refine bP (fun k1=>?_)
 refine bP (fun k2=>?_)
 refine kF ?_
 refine Ci hF (fun hb6 hF=>?_) (fun hb6 hF=>?_)
 · exact ze hF
 refine bE ?_
 refine bnd hF fun r3 hx4 hF=>bC (af7 hx4) (fun _=>?_)
 exact ze hF
def Io(kU:List Int)(bF:Fact):List Int->Nat->Option (Bool)
 |[],k6=>some true
 |x8::jQ,k6=>(ix bF.Values x8).bind fun Ay=>
   (ix kU (k6:Int)).bind fun TJ=>
   if ((Ay:Int)!=TJ)then (
     some false)
   else (
     Io kU bF jQ (k6+1))
def Md(aa:Method)(kU:List Int)(bF:Fact):Option (Bool):=
 if ((bF.Rel:Int)!=aa.Rel)then (
   some false)
 else (
   Io kU bF aa.Inputs 0)
theorem af8{aa:Method}{aP:Sv}{kU:List Int}{ax:Sv}{bF:Fact}{dJ:Sv}{R:Bool}(hF:Md aa kU bF=some R):
   Fw.Spec Tryz.prog 77 [(zg [(zi aa.Rel),aP.v,(zi aa.Limit),(zi aa.Cost),(zi aa.Quota)]),ax.v,(zg [(zi bF.Rel),dJ.v])] [ah aP aa.Inputs,ah ax kU,ah dJ bF.Values] (fun _:Unit=>(.bool R)) (fun _=>[]):=by
 refine Se 34 Tryz.func77 [.tmp 6] ?_
 intro H0 F0
 unfold Md at hF
 refine au ?_
 refine bP (fun k1=>?_)
 refine bP (fun k2=>?_)
 refine kF ?_
 refine Ci hF (fun Ry hF=>?_) (fun Ry hF=>?_)
 · exact ze hF
 refine aZ ?_
 refine bn (bU (m:=aa.Inputs.length) (fun m4 f' cs'=>∃(g:Fr)(k6:Nat)(jQ:List Int),m4=jQ.length/\f'=aQ g [(1,ax.v),(3,(pz k1)),(5,(pz k2)),(7,(zi (k6:Int)))]/\List.drop k6 aa.Inputs=jQ/\aO cs' [ah ax kU,aX k1 57 (zg [(zi aa.Rel),aP.v,(zi aa.Limit),(zi aa.Cost),(zi aa.Quota)]),ah aP aa.Inputs,aX k2 70 (zg [(zi bF.Rel),dJ.v]),ah dJ bF.Values]/\Io kU bF jQ k6=some R) ⟨_,0,_,rfl,aA,rfl,ay,hF⟩ ?_)
 rintro m4 _ _ ⟨g5,k6,jQ,rfl,rfl,y_,hE,hF⟩
 refine Kb hE aa.Inputs (fun aaT=>?_)
 rcases jQ with _|⟨x8,jQ⟩
 · have hk10:=dn y_
   rw[Io]at hF
   refine dN ?_
   refine dL ?_
   exact ze hF
 obtain⟨hk10,lg,mR⟩:=dA y_
 rw[Io]at hF
 refine dN ?_
 refine dK ?_
 refine aU ?_
 refine dV [0,1,2,3,4,5,6,7,8,9,10,11,12,13] [0,1,0,4,0,28,60,127,255,0,0,1536,3584,8191] [] mixed (by decide+kernel) ?_
 refine t_ ?_
 refine Di lg (fun k15 Yq=>?_)
 refine Dl dP ?_
 refine zI hF fun Ay ajR wo hF=>?_
 refine Di wo (fun k21 NB=>?_)
 refine Dl dP ?_
 refine bX ?_
 refine zI hF fun TJ aw8 nL hF=>?_
 refine Di nL (fun k27 j28=>?_)
 refine Dl dP ?_
 refine bX ?_
 refine Ci hF (fun JB hF=>?_) (fun JB hF=>?_)
 · exact ze hF
 refine bE ?_
 rw[wk k6]
 exact⟨_,bY _,_,k6+1,jQ,rfl,aA,mR,ay,hF⟩
def Ew(ai:List Method)(ic:cB):List Fact->Nat->Option (Sum (Bool) (Unit))
 |[],za=>some (.inr ())
 |Ke::BU,za=>(ix ai ic.Access.Method).bind fun x69=>
   (Md x69 ic.Access.Values Ke).bind fun r79=>
   if (!r79)then (
     some (.inl false))
   else (
     Ew ai ic BU (za+1))
def AZ(ag:List Int)(ai:List Method)(aj:Cache):List cB->Nat->Option (Bool)
 |[],k16=>some true
 |ic::BV,k16=>((((Bd ag ai ic.Access).bind fun qF=>
       bif (!qF)then (some true)
       else ((II ag ic.Facts).bind fun Az=>
         bif (!Az)then (some true)
         else ((iT ic.At 0 10000).bind fun wL=>
           bif (!wL)then (some true)
           else (bif (decide ((0:Int)<(k16:Int)))then ((ix aj.Entries (IntKind.i64.wrap ((k16:Int)-1))).bind fun wM=>
               (LQ wM.Access ic.Access).bind fun wN=>
               some (!wN))
             else (some false))))).bind fun o31=>
     match o31 with
     |TK=>if TK then (
         some (.inl false))
       else (
         Ew ai ic ic.Facts 0)):Option (Sum (Bool) (Unit))).bind fun Gm=>
   match Gm with
   | .inl r=>some r
   | .inr _=>AZ ag ai aj BV (k16+1)
def IU(ag:List Int)(ai:List Method)(aj:Cache):Option (Bool):=
 ((Ev ag ai).bind fun r4=>
   bif (!r4)then (some true)
   else ((iT aj.Age 0 100).bind fun r8=>
     bif (!r8)then (some true)
     else (some (decide ((100:Int)<(aj.Entries.length:Int)))))).bind fun o2=>
 match o2 with
 |c12=>if c12 then (
     some false)
   else (
     AZ ag ai aj aj.Entries 0)
theorem Ze{ag:List Int}{ae:Sv}{ai:List Method}{ax:Sv}{aj:Cache}{bM:Sv}{R:Bool}(hF:IU ag ai aj=some R):
   Fw.Spec Tryz.prog 74 [ae.v,ax.v,(zg [bM.v,(zi aj.Age)])] [ah ae ag,bW ax ai,dM bM aj.Entries] (fun _:Unit=>(.bool R)) (fun _=>[]):=by
 refine Se 97 Tryz.func74 [.tmp 6] ?_
 intro H0 F0
 unfold IU at hF
 refine au ?_
 refine bP (fun k1=>?_)
 refine bv ?_
 obtain⟨o2,gz,hO3⟩:=bind_some hF
 refine au ?_
 refine fe (fun f' cs'=>∃(c12:Bool)(g:Fr),c12=o2/\f'=aQ g [(0,ae.v),(1,ax.v),(5,(pz k1)),(25,(.bool c12))]/\aO cs' [ah ae ag,bW ax ai,aX k1 32 (zg [bM.v,(zi aj.Age)]),dM bM aj.Entries]) ?_ ?_
 · replace hF:=gz
   refine aU ?_
   refine bnd hF fun r4 hx5 hF=>bC (UK hx5) (fun _=>?_)
   refine aU ?_
   rcases bD (!r4)with bq|bq
   · rw[bq]
     try rw[bq]at hF; dsimp only[aJ,aI]at hF
     exact bK hF
   rw[bq]
   try rw[bq]at hF; dsimp only[aJ,aI]at hF
   refine aZ ?_
   refine bnd hF fun r8 bZ hF=>bC (jT bZ) (fun _=>?_)
   refine bi ?_
   rcases bD (!r8)with dS|dS
   · rw[dS]
     try rw[dS]at hF; dsimp only[aJ,aI]at hF
     exact bK hF
   rw[dS]
   try rw[dS]at hF; dsimp only[aJ,aI]at hF
   exact bK hF
 rintro _ _ ⟨c12,g89,rfl,rfl,hE⟩
 replace hF:=hO3
 try dsimp only at hF
 refine bu hE ?_
 refine Ci hF (fun aw9 hF=>?_) (fun aw9 hF=>?_)
 · exact ze hF
 refine aZ ?_
 refine bn (bU (m:=aj.Entries.length) (fun m14 f' cs'=>∃(g:Fr)(k16:Nat)(BV:List cB),m14=BV.length/\f'=aQ g [(0,ae.v),(1,ax.v),(5,(pz k1)),(7,(zi (k16:Int)))]/\List.drop k16 aj.Entries=BV/\aO cs' [ah ae ag,bW ax ai,aX k1 32 (zg [bM.v,(zi aj.Age)]),dM bM aj.Entries]/\AZ ag ai aj BV k16=some R) ⟨_,0,_,rfl,aA,rfl,ay,hF⟩ ?_)
 rintro m14 _ _ ⟨g15,k16,BV,rfl,rfl,Xk,hE,hF⟩
 refine Kb hE aj.Entries (fun aAG=>?_)
 rcases BV with _|⟨ic,BV⟩
 · have aw_:=dn Xk
   rw[AZ]at hF
   refine dN ?_
   refine dL ?_
   exact ze hF
 obtain⟨aw_,lG,aw'⟩:=dA Xk
 rw[AZ]at hF
 refine dN ?_
 refine dK ?_
 refine au ?_
 obtain⟨Gm,aaU,Rz⟩:=bind_some hF
 refine iF (fun f' cs'=>∃(g:Fr),Gm= .inr ()/\f'=aQ g [(0,ae.v),(1,ax.v),(5,(pz k1)),(7,(zi (k16:Int)))]/\aO cs' [ah ae ag,bW ax ai,aX k1 32 (zg [bM.v,(zi aj.Age)]),dM bM aj.Entries]) ?_ ?_
 · replace hF:=aaU
   refine bn (dC (aN (iK (off:=0) VX.h (.tmp rfl rfl)) ?_))
   refine aU ?_
   refine Ai lG (fun k27 j28=>?_)
   refine yj (wV ic) xQ (fun p29=>?_)
   refine d_ (fun Gn=>?_)
   refine As (zg [(zi ic.Access.Method),p29.1.v,p29.2.v,(zi ic.At)]) ?_
   refine aU ?_
   obtain⟨o31,atp,axa⟩:=bind_some hF
   refine dV [0,1,2,3,4,5,6,7,8,9,10,11,12,13,14,15,16,17,18,19,20,21,22,23,24,25,26,27,28,29,30,31,32,33,34,35] [0,0,0,4,15,31,63,127,127,383,1023,2047,4095,8191,16383,32767,65535,131071,262143,524287,1048575,2097151,4194303,8388607,16777215,8388607,41943039,134217727,268435455,536870911,8388607,1082130431,4294967295,8589934591,17179869183,34359738367] [4,10,16,32] mixed (by decide+kernel) ?_
   refine kX (fun f' cs'=>∃(TK:Bool)(g:Fr),TK=o31/\f'=aQ g [(0,ae.v),(1,ax.v),(5,(pz k1)),(7,(zi (k16:Int))),(8,(pz Gn)),(73,(.bool TK))]/\aO cs' [ah ae ag,bW ax ai,aX k1 32 (zg [bM.v,(zi aj.Age)]),dM bM aj.Entries,aW Gn 47 (zg [(zi ic.Access.Method),p29.1.v,p29.2.v,(zi ic.At)]),ah p29.1 ic.Access.Values,bH p29.2 ic.Facts]) ?_ ?_
   · replace hF:=atp
     refine dD ?_
     refine dO rfl .no .h (fun ha hp=>j_ (s:=2) (l:=[(zi ic.Access.Method),p29.1.v]) vY.h ky.h.sz (EN ha (.tmp rfl rfl) rfl) hp.2 rfl (by decide) (Nat.le_of_ble_eq_true rfl) rfl) ?_
     refine bnd hF fun qF hx34 hF=>fu (UV hx34) (fun _=>?_)
     refine bX ?_
     rcases bD (!qF)with ry|ry
     · rw[ry]
       try rw[ry]at hF; dsimp only[aJ,aI]at hF
       exact eD hF
     rw[ry]
     try rw[ry]at hF; dsimp only[aJ,aI]at hF
     refine bX ?_
     refine dO rfl (.on 44 rfl rfl rfl) .h (fun ha hp=>fw (v:=p29.2.v) ym.h (EN ha (.tmp rfl rfl) rfl) hp.2 rfl rfl) ?_
     refine bnd hF fun Az hx38 hF=>fu (UU hx38) (fun _=>?_)
     refine dD ?_
     rcases bD (!Az)with yD|yD
     · rw[yD]
       try rw[yD]at hF; dsimp only[aJ,aI]at hF
       exact eD hF
     rw[yD]
     try rw[yD]at hF; dsimp only[aJ,aI]at hF
     refine du ?_
     refine dO rfl (.on 51 rfl rfl rfl) .h (fun ha hp=>fw (v:=(zi ic.At)) qd.h (EN ha (.tmp rfl rfl) rfl) hp.2 rfl rfl) ?_
     refine bnd hF fun wL Rx hF=>fu (jT Rx) (fun _=>?_)
     refine dD ?_
     rcases bD (!wL)with yE|yE
     · rw[yE]
       try rw[yE]at hF; dsimp only[aJ,aI]at hF
       exact eD hF
     rw[yE]
     try rw[yE]at hF; dsimp only[aJ,aI]at hF
     refine dD ?_
     rcases bD (decide ((0:Int)<(k16:Int)))with RA|RA
     · rw[RA]
       try rw[RA]at hF; dsimp only[aJ,aI]at hF
       refine nZ ?_
       refine zI hF fun wM ajS rz hF=>?_
       refine Di rz (fun Yr Yt=>?_)
       refine du ?_
       refine jR (Pw wM) Vo (fun p52=>?_)
       refine du ?_
       refine dO rfl (.on 60 rfl rfl rfl) .q2 (fun ha hp=>j_ (s:=2) (l:=[(zi ic.Access.Method),p29.1.v]) vY.h ky.h.sz (EN ha (.tmp rfl rfl) rfl) hp.2 rfl (by decide) (Nat.le_of_ble_eq_true rfl) rfl) ?_
       refine bnd hF fun wN ui hF=>fu (afG ui) (fun _=>?_)
       exact eD hF
     rw[RA]
     try rw[RA]at hF; dsimp only[aJ,aI]at hF
     exact eD hF
   rintro _ _ ⟨TK,g85,rfl,rfl,hE⟩
   replace hF:=axa
   try dsimp only at hF
   refine bu hE ?_
   refine Ci hF (fun axb hF=>?_) (fun axb hF=>?_)
   · refine bi ?_
     cases hF
     replace hF:=Rz
     try dsimp only at hF
     exact ze hF
   refine bi ?_
   refine bn (bU (m:=ic.Facts.length) (fun m58 f' cs'=>∃(g:Fr)(za:Nat)(BU:List Fact),m58=BU.length/\f'=aQ g [(0,ae.v),(1,ax.v),(5,(pz k1)),(7,(zi (k16:Int))),(8,(pz Gn)),(9,(zi (za:Int)))]/\List.drop za ic.Facts=BU/\aO cs' [ah ae ag,bW ax ai,aX k1 32 (zg [bM.v,(zi aj.Age)]),dM bM aj.Entries,aW Gn 47 (zg [(zi ic.Access.Method),p29.1.v,p29.2.v,(zi ic.At)]),ah p29.1 ic.Access.Values,bH p29.2 ic.Facts]/\Ew ai ic BU za=some Gm) ⟨_,0,_,rfl,aA,rfl,ay,hF⟩ ?_)
   rintro m58 _ _ ⟨g59,za,BU,rfl,rfl,ajT,hE,hF⟩
   refine Kb hE ic.Facts (fun aAH=>?_)
   rcases BU with _|⟨Ke,BU⟩
   · have axc:=dn ajT
     rw[Ew]at hF
     refine dN ?_
     refine dL ?_
     refine bi ?_
     cases hF
     exact⟨_,rfl,aA,ay⟩
   obtain⟨axc,RB,axd⟩:=dA ajT
   rw[Ew]at hF
   refine dN ?_
   refine dK ?_
   refine aU ?_
   refine dV [0,1,2,3,4,5,6,7,8,9,10,11,12,13,14,15] [0,0,2,6,15,31,0,64,192,0,512,0,3584,7680,16383,32767] [14] mixed (by decide+kernel) ?_
   refine dD ?_
   refine dO rfl .no .q4 (fun ha hp=>fw (v:=(zi ic.Access.Method)) qd.h (EN ha (.tmp rfl rfl) rfl) hp.2 rfl rfl) ?_
   refine zI hF fun x69 axe RD hF=>?_
   refine Di RD (fun k73 j74=>?_)
   refine jR (uO x69) vH (fun p75=>?_)
   refine bX ?_
   refine dO rfl .no .q6 (fun ha hp=>fw (v:=p29.1.v) iC.h (EN ha (.tmp rfl rfl) rfl) hp.2 rfl rfl) ?_
   refine du ?_
   refine dO rfl .no .q6 (fun ha hp=>fw (v:=p29.2.v) ym.h (EN ha (.tmp rfl rfl) rfl) hp.2 rfl rfl) ?_
   refine du ?_
   refine Di RB (fun k76 j77=>?_)
   refine jR (lZ Ke) mq (fun p78=>?_)
   refine bnd hF fun r79 RF hF=>fu (af8 RF) (fun _=>?_)
   refine bX ?_
   refine Ci hF (fun axf hF=>?_) (fun axf hF=>?_)
   · refine bi ?_
     cases hF
     replace hF:=Rz
     try dsimp only at hF
     exact ze hF
   refine bE ?_
   rw[wk za]
   exact⟨_,bY _,_,za+1,BU,rfl,aA,axd,ay,hF⟩
 rintro _ _ ⟨g87,rfl,rfl,hE⟩
 replace hF:=Rz
 try dsimp only at hF
 refine bu hE ?_
 refine aZ ?_
 rw[wk k16]
 exact⟨_,bY _,_,k16+1,BV,rfl,aA,aw',ay,hF⟩
def Ef(sZ:List Int):List Int->Nat->Option (Bool)
 |[],k4=>some (decide (((sZ.length:Int):Int)<=1000))
 |x6::aM,k4=>((iT x6 0 10000).bind fun o9=>
     bif (!o9)then (some true)
     else (bif (decide ((0:Int)<(k4:Int)))then ((ix sZ (IntKind.i64.wrap ((k4:Int)-1))).bind fun x24=>
         some (decide ((x6:Int)<x24)))
       else (some false))).bind fun mo=>
   match mo with
   |qH=>if qH then (
       some false)
     else (
       Ef sZ aM (k4+1))
def O_(sZ:List Int):Option (Bool):=
 Ef sZ sZ 0
theorem am3{sZ:List Int}{ae:Sv}{R:Bool}(hF:O_ sZ=some R):
   Fw.Spec Tryz.prog 76 [ae.v] [ah ae sZ] (fun _:Unit=>(.bool R)) (fun _=>[]):=by
 refine Se 35 Tryz.func76 [.tmp 2] ?_
 intro H0 F0
 unfold O_ at hF
 refine bJ ?_
 refine bn (bU (m:=sZ.length) (fun m2 f' cs'=>∃(g:Fr)(k4:Nat)(aM:List Int),m2=aM.length/\f'=aQ g [(0,ae.v),(3,(zi (k4:Int)))]/\List.drop k4 sZ=aM/\aO cs' [ah ae sZ]/\Ef sZ aM k4=some R) ⟨_,0,_,rfl,aA,rfl,ay,hF⟩ ?_)
 rintro m2 _ _ ⟨g3,k4,aM,rfl,rfl,hd7,hE,hF⟩
 refine Kb hE sZ (fun kY=>?_)
 rcases aM with _|⟨x6,aM⟩
 · have gH:=dn hd7
   rw[Ef]at hF
   refine bJ ?_
   refine dL ?_
   exact ze hF
 obtain⟨gH,bZ,gG⟩:=dA hd7
 rw[Ef]at hF
 refine bJ ?_
 refine dK ?_
 refine aU ?_
 obtain⟨mo,vP,wh⟩:=bind_some hF
 refine dV [0,1,2,3,4,5,6,7,8,9,10,11,12,13,14,15,16,17,18,19,20,21] [0,0,3,7,15,31,63,127,255,511,1023,1023,4095,8191,1023,1023,33791,115711,246783,524287,1048575,2097151] [4] mixed (by decide+kernel) ?_
 refine kX (fun f' cs'=>∃(qH:Bool)(g:Fr),qH=mo/\f'=aQ g [(0,ae.v),(3,(zi (k4:Int))),(31,(.bool qH))]/\aO cs' [ah ae sZ]) ?_ ?_
 · replace hF:=vP
   refine bX ?_
   refine Di bZ (fun k15 Yq=>?_)
   refine Dl dP ?_
   refine bnd hF fun o9 mQ hF=>fu (jT mQ) (fun _=>?_)
   refine bX ?_
   rcases bD (!o9)with rA|rA
   · rw[rA]
     try rw[rA]at hF; dsimp only[aJ,aI]at hF
     exact eD hF
   rw[rA]
   try rw[rA]at hF; dsimp only[aJ,aI]at hF
   refine dD ?_
   rcases bD (decide ((0:Int)<(k4:Int)))with RG|RG
   · rw[RG]
     try rw[RG]at hF; dsimp only[aJ,aI]at hF
     refine bX ?_
     refine Di bZ (fun k22 j23=>?_)
     refine Dl dP ?_
     refine dD ?_
     refine zI hF fun x24 ajQ hx27 hF=>?_
     refine Di hx27 (fun k28 Yp=>?_)
     refine Dl dP ?_
     exact eD hF
   rw[RG]
   try rw[RG]at hF; dsimp only[aJ,aI]at hF
   exact eD hF
 rintro _ _ ⟨qH,g33,rfl,rfl,hE⟩
 replace hF:=wh
 try dsimp only at hF
 refine bu hE ?_
 refine Ci hF (fun axg hF=>?_) (fun axg hF=>?_)
 · exact ze hF
 refine bE ?_
 rw[wk k4]
 exact⟨_,bY _,_,k4+1,aM,rfl,aA,gG,ay,hF⟩
def D9(aa:aY):List Access->Nat->Option (Bool)
 |[],k27=>((iT aa.Now 0 10000).bind fun NC=>
     bif NC then (bif (decide (((aa.Log.length:Int):Int)<=1000))then (bif (((aa.Times.length:Int):Int)==(aa.Log.length:Int))then ((O_ aa.Times).bind fun jS=>
           bif jS then ((iT aa.Spent 0 1000000).bind fun om=>
             bif om then (some (decide (((aa.Results.length:Int):Int)<=100)))
             else (some false))
           else (some false))
         else (some false))
       else (some false))
     else (some false)).bind fun Kc=>
   match Kc with
   |rT=>some rT
 |x29::lv,k27=>(Bd aa.Schema aa.Methods x29).bind fun r57=>
   if (!r57)then (
     some false)
   else (
     D9 aa lv (k27+1))
def qK(aa:aY):Option (Bool):=
 ((sU aa.Schema).bind fun r4=>
   bif (!r4)then (some true)
   else ((Ev aa.Schema aa.Methods).bind fun r8=>
     bif (!r8)then (some true)
     else ((O9 aa.Schema aa.Rules).bind fun dz=>
       bif (!dz)then (some true)
       else ((LA aa.Schema aa.Source).bind fun r16=>
         bif (!r16)then (some true)
         else ((IU aa.Schema aa.Methods aa.Cache).bind fun jP=>
           some (!jP)))))).bind fun o2=>
 match o2 with
 |c23=>if c23 then (
     some false)
   else (
     D9 aa aa.Log 0)
theorem vG{aa:aY}{ae aP cz dB dw dE dG dI:Sv}{R:Bool}(hF:qK aa=some R):
   Fw.Spec Tryz.prog 31 [(zg [ae.v,aP.v,cz.v,dB.v,(zi aa.Source.Version),dw.v,(zi aa.Cache.Age),(zi aa.Now),dE.v,dG.v,(zi aa.Spent),dI.v])] [ah ae aa.Schema,bW aP aa.Methods,fq cz aa.Rules,bH dB aa.Source.Facts,dM dw aa.Cache.Entries,eH dE aa.Log,ah dG aa.Times,bB (aD 152 (aD 24 (aD 3 az))) dI.v aa.Results] (fun _:Unit=>(.bool R)) (fun _=>[]):=by
 refine Se 94 Tryz.func31 [.tmp 2] ?_
 intro H0 F0
 unfold qK at hF
 refine au ?_
 refine bP (fun k1=>?_)
 refine bv ?_
 obtain⟨o2,gz,hO3⟩:=bind_some hF
 refine au ?_
 refine fe (fun f' cs'=>∃(c23:Bool)(g:Fr),c23=o2/\f'=aQ g [(1,(pz k1)),(41,(.bool c23))]/\aO cs' [aX k1 36 (zg [ae.v,aP.v,cz.v,dB.v,(zi aa.Source.Version),dw.v,(zi aa.Cache.Age),(zi aa.Now),dE.v,dG.v,(zi aa.Spent),dI.v]),ah ae aa.Schema,bW aP aa.Methods,fq cz aa.Rules,bH dB aa.Source.Facts,dM dw aa.Cache.Entries,eH dE aa.Log,ah dG aa.Times,bB (aD 152 (aD 24 (aD 3 az))) dI.v aa.Results]) ?_ ?_
 · replace hF:=gz
   refine aU ?_
   refine bnd hF fun r4 hx5 hF=>bC (xM hx5) (fun _=>?_)
   refine aU ?_
   rcases bD (!r4)with bq|bq
   · rw[bq]
     try rw[bq]at hF; dsimp only[aJ,aI]at hF
     exact bK hF
   rw[bq]
   try rw[bq]at hF; dsimp only[aJ,aI]at hF
   refine gF ?_
   refine bnd hF fun r8 bZ hF=>bC (UK bZ) (fun _=>?_)
   refine bi ?_
   rcases bD (!r8)with dS|dS
   · rw[dS]
     try rw[dS]at hF; dsimp only[aJ,aI]at hF
     exact bK hF
   rw[dS]
   try rw[dS]at hF; dsimp only[aJ,aI]at hF
   refine gF ?_
   refine bnd hF fun dz iJ hF=>bC (am2 iJ) (fun _=>?_)
   refine bi ?_
   rcases bD (!dz)with jJ|jJ
   · rw[jJ]
     try rw[jJ]at hF; dsimp only[aJ,aI]at hF
     exact bK hF
   rw[jJ]
   try rw[jJ]at hF; dsimp only[aJ,aI]at hF
   refine bJ ?_
   refine eu .h (fun hp=>j_ (s:=2) (l:=[dB.v,(zi aa.Source.Version)]) yl.h vW.h.sz (.tmp rfl rfl) hp.2 rfl (by decide) (Nat.le_of_ble_eq_true rfl) rfl) ?_
   refine au ?_
   refine bnd hF fun r16 jO hF=>bC (afl jO) (fun _=>?_)
   refine bi ?_
   rcases bD (!r16)with iN|iN
   · rw[iN]
     try rw[iN]at hF; dsimp only[aJ,aI]at hF
     exact bK hF
   rw[iN]
   try rw[iN]at hF; dsimp only[aJ,aI]at hF
   refine CB ?_
   refine eu .h (fun hp=>j_ (s:=2) (l:=[dw.v,(zi aa.Cache.Age)]) u7.h oW.h.sz (.tmp rfl rfl) hp.2 rfl (by decide) (Nat.le_of_ble_eq_true rfl) rfl) ?_
   refine au ?_
   refine bnd hF fun jP lG hF=>bC (Ze lG) (fun _=>?_)
   exact bK hF
 rintro _ _ ⟨c23,g63,rfl,rfl,hE⟩
 replace hF:=hO3
 try dsimp only at hF
 refine bu hE ?_
 refine Ci hF (fun axh hF=>?_) (fun axh hF=>?_)
 · exact ze hF
 refine aZ ?_
 refine bn (bU (m:=aa.Log.length) (fun Gj f' cs'=>∃(g:Fr)(k27:Nat)(lv:List Access),Gj=lv.length/\f'=aQ g [(1,(pz k1)),(3,(zi (k27:Int)))]/\List.drop k27 aa.Log=lv/\aO cs' [aX k1 36 (zg [ae.v,aP.v,cz.v,dB.v,(zi aa.Source.Version),dw.v,(zi aa.Cache.Age),(zi aa.Now),dE.v,dG.v,(zi aa.Spent),dI.v]),ah ae aa.Schema,bW aP aa.Methods,fq cz aa.Rules,bH dB aa.Source.Facts,dM dw aa.Cache.Entries,eH dE aa.Log,ah dG aa.Times,bB (aD 152 (aD 24 (aD 3 az))) dI.v aa.Results]/\D9 aa lv k27=some R) ⟨_,0,_,rfl,aA,rfl,ay,hF⟩ ?_)
 rintro Gj _ _ ⟨g26,k27,lv,rfl,rfl,z_,hE,hF⟩
 refine Kb hE aa.Log (fun aiA=>?_)
 rcases lv with _|⟨x29,lv⟩
 · have hk31:=dn z_
   rw[D9]at hF
   refine dN ?_
   refine dL ?_
   refine bi ?_
   obtain⟨Kc,aaS,acn⟩:=bind_some hF
   refine au ?_
   refine fe (fun f' cs'=>∃(rT:Bool)(g:Fr),rT=Kc/\f'=aQ g [(2,(.bool rT))]/\aO cs' []) ?_ ?_
   · replace hF:=aaS
     refine aU ?_
     refine bnd hF fun NC hx39 hF=>bC (jT hx39) (fun _=>?_)
     refine au ?_
     rcases bD NC with RH|RH
     · rw[RH]
       try rw[RH]at hF; dsimp only[aJ,aI]at hF
       refine kF ?_
       rcases bD (decide (((aa.Log.length:Int):Int)<=1000))with rC|rC
       · rw[rC]
         try rw[rC]at hF; dsimp only[aJ,aI]at hF
         refine Qn ?_
         rcases bD (((aa.Times.length:Int):Int)==(aa.Log.length:Int))with yF|yF
         · rw[yF]
           try rw[yF]at hF; dsimp only[aJ,aI]at hF
           refine aZ ?_
           refine bnd hF fun jS wu hF=>bC (am3 wu) (fun _=>?_)
           refine aU ?_
           rcases bD jS with yG|yG
           · rw[yG]
             try rw[yG]at hF; dsimp only[aJ,aI]at hF
             refine aZ ?_
             refine bnd hF fun om rz hF=>bC (jT rz) (fun _=>?_)
             refine aU ?_
             rcases bD om with RI|RI
             · rw[RI]
               try rw[RI]at hF; dsimp only[aJ,aI]at hF
               exact bK hF
             rw[RI]
             try rw[RI]at hF; dsimp only[aJ,aI]at hF
             exact bK hF
           rw[yG]
           try rw[yG]at hF; dsimp only[aJ,aI]at hF
           exact bK hF
         rw[yF]
         try rw[yF]at hF; dsimp only[aJ,aI]at hF
         exact bK hF
       rw[rC]
       try rw[rC]at hF; dsimp only[aJ,aI]at hF
       exact bK hF
     rw[RH]
     try rw[RH]at hF; dsimp only[aJ,aI]at hF
     exact bK hF
   rintro _ _ ⟨rT,g53,rfl,rfl,hE⟩
   replace hF:=acn
   try dsimp only at hF
   refine bu hE ?_
   exact ze hF
 obtain⟨hk31,hx32,Rn⟩:=dA z_
 rw[D9]at hF
 refine dN ?_
 refine dK ?_
 refine aU ?_
 refine dV [0,1,2,3,4,5,6,7,8,9,10] [0,1,0,4,0,16,0,112,240,511,1023] [9] mixed (by decide+kernel) ?_
 refine ab5 ?_
 refine Di hx32 (fun k54 j55=>?_)
 refine jR (xR x29) zu (fun p56=>?_)
 refine bnd hF fun r57 acy hF=>fu (UV acy) (fun _=>?_)
 refine bX ?_
 refine Ci hF (fun Jw hF=>?_) (fun Jw hF=>?_)
 · exact ze hF
 refine bE ?_
 rw[wk k27]
 exact⟨_,bY _,_,k27+1,lv,rfl,aA,Rn,ay,hF⟩
def OU(aa:aY)(aS:Method):Option (aY×Bool):=
 (Bi aa).bind fun r4=>
 ((qK aa).bind fun lX=>
   bif (!lX)then (some true)
   else ((IG aa.Schema aS).bind fun jY=>
     bif (!jY)then (some true)
     else (some (decide ((5:Int)<=(aa.Methods.length:Int)))))).bind fun o8=>
 match o8 with
 |c18=>if c18 then (
     some (r4,false))
   else (
     (Ls aS).bind fun qI=>
     (app r4.Methods ([qI]:List Method)).bind fun z23=>
     some ((⟨r4.Schema,z23,r4.Rules,r4.Source,r4.Cache,r4.Now,r4.Log,r4.Times,r4.Spent,r4.Results⟩:aY),true))
theorem amB{aa:aY}{ae aP cz dB dw dE dG dI:Sv}{aS:Method}{aV:Sv}{R:aY×Bool}(hF:OU aa aS=some R):
   Fw.Spec Tryz.prog 94 [(zg [ae.v,aP.v,cz.v,dB.v,(zi aa.Source.Version),dw.v,(zi aa.Cache.Age),(zi aa.Now),dE.v,dG.v,(zi aa.Spent),dI.v]),(zg [(zi aS.Rel),aV.v,(zi aS.Limit),(zi aS.Cost),(zi aS.Quota)])] [ah ae aa.Schema,bW aP aa.Methods,fq cz aa.Rules,bH dB aa.Source.Facts,dM dw aa.Cache.Entries,eH dE aa.Log,ah dG aa.Times,bB (aD 152 (aD 24 (aD 3 az))) dI.v aa.Results,ah aV aS.Inputs] (fun p:Sv×List Nat×Sv×List Nat×Sv×List Nat×Sv×List Nat×Sv×List Nat×Sv×List Nat×Sv×List Nat×Sv×List Nat=>(.tuple [(zg [p.1.v,p.2.2.1.v,p.2.2.2.2.1.v,p.2.2.2.2.2.2.1.v,(zi R.1.Source.Version),p.2.2.2.2.2.2.2.2.1.v,(zi R.1.Cache.Age),(zi R.1.Now),p.2.2.2.2.2.2.2.2.2.2.1.v,p.2.2.2.2.2.2.2.2.2.2.2.2.1.v,(zi R.1.Spent),p.2.2.2.2.2.2.2.2.2.2.2.2.2.2.1.v]),(.bool R.2)].toArray)) (fun p=>[bI p.2.1 p.1 R.1.Schema,nJ p.2.2.2.1 p.2.2.1 R.1.Methods,mE p.2.2.2.2.2.1 p.2.2.2.2.1 R.1.Rules,eP p.2.2.2.2.2.2.2.1 p.2.2.2.2.2.2.1 R.1.Source.Facts,oF p.2.2.2.2.2.2.2.2.2.1 p.2.2.2.2.2.2.2.2.1 R.1.Cache.Entries,kK p.2.2.2.2.2.2.2.2.2.2.2.1 p.2.2.2.2.2.2.2.2.2.2.1 R.1.Log,bI p.2.2.2.2.2.2.2.2.2.2.2.2.2.1 p.2.2.2.2.2.2.2.2.2.2.2.2.1 R.1.Times,aT (aF 152 (aF 24 (aF 3 (aC az)))) p.2.2.2.2.2.2.2.2.2.2.2.2.2.2.2 p.2.2.2.2.2.2.2.2.2.2.2.2.2.2.1.v R.1.Results]):=by
 refine Se 34 Tryz.func94 [.cell 4 36,.tmp 5] ?_
 intro H0 F0
 unfold OU at hF
 refine au ?_
 refine bP (fun k1=>?_)
 refine bP (fun k2=>?_)
 refine d_ (fun k3=>?_)
 refine bi ?_
 refine bnd hF fun r4 hx5 hF=>Ty (OC hx5) (fun p6=>?_)
 refine d_ (fun k7=>?_)
 refine As (zg [p6.1.v,p6.2.2.1.v,p6.2.2.2.2.1.v,p6.2.2.2.2.2.2.1.v,(zi r4.Source.Version),p6.2.2.2.2.2.2.2.2.1.v,(zi r4.Cache.Age),(zi r4.Now),p6.2.2.2.2.2.2.2.2.2.2.1.v,p6.2.2.2.2.2.2.2.2.2.2.2.2.1.v,(zi r4.Spent),p6.2.2.2.2.2.2.2.2.2.2.2.2.2.2.1.v]) ?_
 refine aU ?_
 obtain⟨o8,JC,Kg⟩:=bind_some hF
 refine au ?_
 refine fe (fun f' cs'=>∃(c18:Bool)(g:Fr),c18=o8/\f'=aQ g [(3,(pz k2)),(4,(pz k3)),(6,(pz k7)),(24,(.bool c18))]/\aO cs' [aX k2 57 (zg [(zi aS.Rel),aV.v,(zi aS.Limit),(zi aS.Cost),(zi aS.Quota)]),ah aV aS.Inputs,aW k3 36 (.agg ([(.slice none 0 0),(.slice none 0 0),(.slice none 0 0),(.slice none 0 0),(zi 0),(.slice none 0 0),(zi 0),(zi 0),(.slice none 0 0),(.slice none 0 0),(zi 0),(.slice none 0 0)]:List Value).toArray),aW k7 36 (zg [p6.1.v,p6.2.2.1.v,p6.2.2.2.2.1.v,p6.2.2.2.2.2.2.1.v,(zi r4.Source.Version),p6.2.2.2.2.2.2.2.2.1.v,(zi r4.Cache.Age),(zi r4.Now),p6.2.2.2.2.2.2.2.2.2.2.1.v,p6.2.2.2.2.2.2.2.2.2.2.2.2.1.v,(zi r4.Spent),p6.2.2.2.2.2.2.2.2.2.2.2.2.2.2.1.v]),bI p6.2.1 p6.1 r4.Schema,nJ p6.2.2.2.1 p6.2.2.1 r4.Methods,mE p6.2.2.2.2.2.1 p6.2.2.2.2.1 r4.Rules,eP p6.2.2.2.2.2.2.2.1 p6.2.2.2.2.2.2.1 r4.Source.Facts,oF p6.2.2.2.2.2.2.2.2.2.1 p6.2.2.2.2.2.2.2.2.1 r4.Cache.Entries,kK p6.2.2.2.2.2.2.2.2.2.2.2.1 p6.2.2.2.2.2.2.2.2.2.2.1 r4.Log,bI p6.2.2.2.2.2.2.2.2.2.2.2.2.2.1 p6.2.2.2.2.2.2.2.2.2.2.2.2.1 r4.Times,aT (aF 152 (aF 24 (aF 3 (aC az)))) p6.2.2.2.2.2.2.2.2.2.2.2.2.2.2.2 p6.2.2.2.2.2.2.2.2.2.2.2.2.2.2.1.v r4.Results]) ?_ ?_
 · replace hF:=JC
   refine au ?_
   refine bnd hF fun lX lg hF=>bC (vG lg) (fun _=>?_)
   refine aU ?_
   rcases bD (!lX)with jL|jL
   · rw[jL]
     try rw[jL]at hF; dsimp only[aJ,aI]at hF
     exact bK hF
   rw[jL]
   try rw[jL]at hF; dsimp only[aJ,aI]at hF
   refine bJ ?_
   refine bnd hF fun jY kG hF=>bC (afk kG) (fun _=>?_)
   refine bi ?_
   rcases bD (!jY)with lH|lH
   · rw[lH]
     try rw[lH]at hF; dsimp only[aJ,aI]at hF
     exact bK hF
   rw[lH]
   try rw[lH]at hF; dsimp only[aJ,aI]at hF
   exact bK hF
 rintro _ _ ⟨c18,g27,rfl,rfl,hE⟩
 replace hF:=Kg
 try dsimp only at hF
 refine bu hE ?_
 refine Ci hF (fun Df hF=>?_) (fun Df hF=>?_)
 · refine aU ?_
   refine As (zg [p6.1.v,p6.2.2.1.v,p6.2.2.2.2.1.v,p6.2.2.2.2.2.2.1.v,(zi r4.Source.Version),p6.2.2.2.2.2.2.2.2.1.v,(zi r4.Cache.Age),(zi r4.Now),p6.2.2.2.2.2.2.2.2.2.2.1.v,p6.2.2.2.2.2.2.2.2.2.2.2.2.1.v,(zi r4.Spent),p6.2.2.2.2.2.2.2.2.2.2.2.2.2.2.1.v]) ?_
   refine bv ?_
   cases hF
   exact gU (p6.1,p6.2.1,p6.2.2.1,p6.2.2.2.1,p6.2.2.2.2.1,p6.2.2.2.2.2.1,p6.2.2.2.2.2.2.1,p6.2.2.2.2.2.2.2.1,p6.2.2.2.2.2.2.2.2.1,p6.2.2.2.2.2.2.2.2.2.1,p6.2.2.2.2.2.2.2.2.2.2.1,p6.2.2.2.2.2.2.2.2.2.2.2.1,p6.2.2.2.2.2.2.2.2.2.2.2.2.1,p6.2.2.2.2.2.2.2.2.2.2.2.2.2.1,p6.2.2.2.2.2.2.2.2.2.2.2.2.2.2.1,p6.2.2.2.2.2.2.2.2.2.2.2.2.2.2.2) (.cellA rfl rfl .h rfl gP.h eG.h.sz rfl rfl (.tmp rfl rfl .nil)) rfl (.sel (.cons .q4 (.cons .q4 (.cons .q4 (.cons .q4 (.cons .q4 (.cons .q4 (.cons .q4 (.cons .q4 .nil)))))))))
 refine au ?_
 refine dV [0,1,2,3,4,5,6,7] [0,1,0,4,12,31,63,127] [3,5,7] mixed (by decide+kernel) ?_
 refine du ?_
 refine dO rfl .no .q3 (fun ha hp=>fw (v:=p6.2.2.1.v) Xa.h (EN ha (.tmp rfl rfl) rfl) hp.2 rfl rfl) ?_
 refine du ?_
 refine bnd hF fun qI wo hF=>cO rfl rfl .no (.rd (.t .h) rfl .nil) (.own .q3 (fun _ h=>h) .nil) (fun ha=>bV asA.h (.cons (EN ha (.tmp rfl rfl) rfl) .nil) (ae7 wo)) (fun mW=>?_)
 refine iy rfl .no rfl (fun ha=>bQ (g:=true) (len:=1) (parts:=[(0,.tmp 29)]) CU.h qy.h (.cons (EN ha (.tmp rfl rfl) rfl) .nil) (vs:=[(zg [(zi qI.Rel),mW.1.v,(zi qI.Limit),(zi qI.Cost),(zi qI.Quota)])]) rfl rfl rfl (by intro v hv; simp at hv; rcases hv with rfl<;>rfl)) (fun k22=>?_)
 refine jk (.cons .h (.cons .h .nil)) (bS (Ro:=qX) (E:=57) (F:=(mW.2++[])) (xs:=([qI]:List Method)) (ed ajw bR cK) rfl rfl) ?_
 refine bnd hF fun z23 hx24 hF=>cO rfl rfl .no (.cons .q6 (.cons .h .nil)) (.dep rfl (.dep rfl .nil)) (fun ha=>dX (Ro:=qX) CU.h Xb qy.h rfl rfl rfl (EN ha (.tmp rfl rfl) rfl) (EN ha (.tmp rfl rfl) rfl) hx24 fU) (fun p25=>?_)
 refine du ?_
 refine cO rfl rfl .no (.cons .q4 .nil) (.dep rfl (.dep rfl .nil)) (fun ha=>gD (e':=(zg [p6.1.v,p25.1.v,p6.2.2.2.2.1.v,p6.2.2.2.2.2.2.1.v,(zi r4.Source.Version),p6.2.2.2.2.2.2.2.2.1.v,(zi r4.Cache.Age),(zi r4.Now),p6.2.2.2.2.2.2.2.2.2.2.1.v,p6.2.2.2.2.2.2.2.2.2.2.2.2.1.v,(zi r4.Spent),p6.2.2.2.2.2.2.2.2.2.2.2.2.2.2.1.v])) awi.h.sz (EN ha (.tmp rfl rfl) rfl) (EN ha (.tmp rfl rfl) rfl) rfl rfl rfl rfl rfl) (fun _=>?_)
 refine du ?_
 refine aU ?_
 refine As (zg [p6.1.v,p25.1.v,p6.2.2.2.2.1.v,p6.2.2.2.2.2.2.1.v,(zi r4.Source.Version),p6.2.2.2.2.2.2.2.2.1.v,(zi r4.Cache.Age),(zi r4.Now),p6.2.2.2.2.2.2.2.2.2.2.1.v,p6.2.2.2.2.2.2.2.2.2.2.2.2.1.v,(zi r4.Spent),p6.2.2.2.2.2.2.2.2.2.2.2.2.2.2.1.v]) ?_
 refine bv ?_
 cases hF
 exact gU (p6.1,p6.2.1,p25.1,p25.2,p6.2.2.2.2.1,p6.2.2.2.2.2.1,p6.2.2.2.2.2.2.1,p6.2.2.2.2.2.2.2.1,p6.2.2.2.2.2.2.2.2.1,p6.2.2.2.2.2.2.2.2.2.1,p6.2.2.2.2.2.2.2.2.2.2.1,p6.2.2.2.2.2.2.2.2.2.2.2.1,p6.2.2.2.2.2.2.2.2.2.2.2.2.1,p6.2.2.2.2.2.2.2.2.2.2.2.2.2.1,p6.2.2.2.2.2.2.2.2.2.2.2.2.2.2.1,p6.2.2.2.2.2.2.2.2.2.2.2.2.2.2.2) (.cellA rfl rfl .h rfl gP.h eG.h.sz rfl rfl (.tmp rfl rfl .nil)) rfl (.sel (.cons .q5 (.cons .q2 (.cons .q4 (.cons .q4 (.cons .q4 (.cons .q4 (.cons .q4 (.cons .q4 .nil)))))))))
def Hq(aj:bg)(ag:List Int)(lL:List dh)(rD:Int×bg)(rE:Int×bg):Nat->Int->Int->(List Int)->Int->Option (Int×Int×(List dh))
 |0,_,_,_,_=>none
 |JD+1,c148,M_,FK,ww=>(ix ag rE.1).bind fun ajU=>
   if (decide ((ww:Int)<ajU))then (
     (ix ag rD.1).bind fun x168=>
     (kE (⟨aj.b,c148,M_⟩:bg) x168).bind fun Na=>
     (app FK ([Na.1]:List Int)).bind fun ajV=>
     Hq aj ag lL rD rE JD Na.2.i Na.2.h ajV (IntKind.i64.wrap (ww+1)))
   else (
     (app lL ([(⟨rD.1,rE.1,FK⟩:dh)]:List dh)).bind fun z182=>
     some (c148,M_,z182))
def Hr(aj:bg)(ag:List Int)(fuel:Nat):Nat->Int->Int->(List dh)->Int->Option ((List dh)×bg)
 |0,_,_,_,_=>none
 |JE+1,xG,ND,lL,FL=>if (decide ((0:Int)<FL))then (
     ((kE (⟨aj.b,xG,ND⟩:bg) (ag.length:Int)).bind fun rD=>
       (kE (⟨aj.b,rD.2.i,rD.2.h⟩:bg) (ag.length:Int)).bind fun rE=>
       Hq aj ag lL rD rE fuel rE.2.i rE.2.h ([]:List Int) 0).bind fun o111=>
     match o111 with
     |(RJ,RL,RN)=>Hr aj ag fuel JE RJ RL RN (IntKind.i64.wrap (FL-1)))
   else (
     some (lL,(⟨aj.b,xG,ND⟩:bg)))
def Vi(fuel:Nat)(aj:bg)(ag:List Int):Option ((List dh)×bg):=
 (kE aj 4).bind fun r2=>
 Hr aj ag fuel ((r2.1-0).toNat+2) r2.2.i r2.2.h ([]:List dh) r2.1
theorem am4{fuel bG:Nat}{aj:bg}{ae:Sv}{ag:List Int}{ax:Sv}{R:(List dh)×bg}(hF:Vi fuel aj ag=some R):
   Fw.Spec Tryz.prog 96 [(pz bG),ax.v] [aW bG 77 (zg [ae.v,(zi aj.i),(zi aj.h)]),kz ae aj.b,ah ax ag] (fun p:Sv×List Nat=>p.1.v) (fun p=>[mE p.2 p.1 R.1,aW bG 77 (zg [ae.v,(zi R.2.i),(zi R.2.h)])]):=by
 refine Se 53 Tryz.func96 [.tmp 4] ?_
 intro H0 F0
 unfold Vi at hF
 refine bi ?_
 refine dH rfl (bQ (g:=true) CV.h yt.h .nil (vs:=[]) rfl rfl rfl (by simp)) (fun k1=>?_)
 refine dR (.cons .h .nil) (bS (Ro:=oU) (E:=98) (F:=[]) (xs:=([]:List dh)) bR rfl rfl) ?_
 refine aZ ?_
 refine bnd hF fun r2 hx3 hF=>gB (lm hx3) (fun p4=>?_)
 refine aU ?_
 refine bn (bU (m:=((r2.1-0).toNat+2)) (fun JE f' cs'=>∃(g:Fr)(xG ND:Int)(lL:List dh)(FL:Int)(yH:Sv)(Xl:List Nat),f'=aQ g [(0,(pz bG)),(1,ax.v),(5,yH.v),(6,(zi FL))]/\aO cs' [aW bG 77 (zg [ae.v,(zi xG),(zi ND)]),kz ae aj.b,ah ax ag,mE Xl yH lL]/\Hr aj ag fuel JE xG ND lL FL=some R) ⟨_,_,_,_,_,⟨(some ⟨k1,0,none⟩),0,1⟩,(k1::[]),aA,ay,hF⟩ ?_)
 rintro JE _ _ ⟨aCM,xG,ND,lL,FL,yH,Xl,rfl,hE,hF⟩
 refine bu hE ?_
 rcases JE with _|JE
 · rw[Hr]at hF
   exact absurd hF (by simp)
 rw[Hr]at hF
 refine aZ ?_
 refine Ci hF (fun atq hF=>?_) (fun atq hF=>?_)
 · refine au ?_
   obtain⟨o111,aqs,atr⟩:=bind_some hF
   refine iF (fun f' cs'=>∃(RJ RL:Int)(RN:List dh)(Xm:Sv)(acz:List Nat)(g:Fr),o111=(RJ,RL,RN)/\f'=aQ g [(0,(pz bG)),(1,ax.v),(5,Xm.v),(6,(zi FL))]/\aO cs' [aW bG 77 (zg [ae.v,(zi RJ),(zi RL)]),kz ae aj.b,ah ax ag,mE acz Xm RN]) ?_ ?_
   · replace hF:=aqs
     refine bn (dC (Cm (pz bG) rfl rfl ?_))
     refine aU ?_
     refine bnd hF fun rD hx114 hF=>gB (lm hx114) (fun aCN=>?_)
     refine bv ?_
     refine bnd hF fun rE att hF=>gB (lm att) (fun aCO=>?_)
     refine aN (iD yt.h rfl (vs:=[(zi rD.1),(zi rE.1)]) cu (cells:=[(zi rD.1),(zi rE.1),(.slice none 0 0)]) rfl) ?_
     refine d_ (fun ajW=>?_)
     refine As (zg [(zi rD.1),(zi rE.1),(.slice none 0 0)]) ?_
     refine aZ ?_
     refine bn (bU (m:=fuel) (fun JD f' cs'=>∃(g:Fr)(c148 M_:Int)(FK:List Int)(ww:Int)(Xn:Sv)(acA:List Nat),f'=aQ g [(0,(pz bG)),(1,ax.v),(5,yH.v),(6,(zi FL)),(7,(pz ajW)),(8,(zi ww))]/\aO cs' [aW bG 77 (zg [ae.v,(zi c148),(zi M_)]),kz ae aj.b,ah ax ag,mE Xl yH lL,aW ajW 98 (zg [(zi rD.1),(zi rE.1),Xn.v]),bI acA Xn FK]/\Hq aj ag lL rD rE JD c148 M_ FK ww=some o111) ⟨_,_,_,_,_,⟨none,0,0⟩,[],aA,(.conv .nil (gV (Ro:=(aC az)) (E:=3)) (.cons .nil) ay),hF⟩ ?_)
     rintro JD _ _ ⟨aCP,c148,M_,FK,ww,Xn,acA,rfl,hE,hF⟩
     refine bu hE ?_
     rcases JD with _|JD
     · rw[Hq]at hF
       exact absurd hF (by simp)
     rw[Hq]at hF
     refine bE ?_
     refine zI hF fun ajU aAI atu hF=>?_
     refine Ai atu (fun aCQ aCR=>?_)
     refine Al dP ?_
     refine aU ?_
     refine Ci hF (fun atv hF=>?_) (fun atv hF=>?_)
     · refine bJ ?_
       refine zI hF fun x168 aAJ atw hF=>?_
       refine Ai atw (fun aCS aCT=>?_)
       refine Al dP ?_
       refine bnd hF fun Na atx hF=>gB (lm atx) (fun aCU=>?_)
       refine bE ?_
       refine dH rfl (bQ (g:=true) di.h dx.h cu (vs:=[(zi Na.1)]) rfl rfl rfl (by intro v hv; simp at hv; rcases hv with rfl<;>rfl)) (fun aCV=>?_)
       refine dR (.cons .h .nil) (bS (Ro:=(aC az)) (E:=3) (F:=([]++[])) (xs:=([Na.1]:List Int)) (ed (jF (fun _=>rfl)) bR cK) rfl rfl) ?_
       refine bnd hF fun ajV aty hF=>ek (.cons .q8 (.cons .h .nil)) (dX (Ro:=(aC az)) di.h jc dx.h rfl rfl rfl (.tmp rfl rfl) (.tmp rfl rfl) aty fU) (fun acB=>?_)
       refine au ?_
       refine As (zg [(zi rD.1),(zi rE.1),acB.1.v]) ?_
       refine bE ?_
       exact⟨JD,bY _,_,_,_,_,_,acB.1,acB.2,aA,ay,hF⟩
     refine bJ ?_
     refine dH rfl (bQ (g:=true) CV.h yt.h cu (vs:=[(zg [(zi rD.1),(zi rE.1),Xn.v])]) rfl rfl rfl (by intro v hv; simp at hv; rcases hv with rfl<;>rfl)) (fun aCW=>?_)
     refine dR (.cons .h (.cons .q6 .nil)) (bS (Ro:=oU) (E:=98) (F:=(acA++[])) (xs:=([(⟨rD.1,rE.1,FK⟩:dh)]:List dh)) (ed (ab2 (a:=(⟨rD.1,rE.1,FK⟩:dh))) bR cK) rfl rfl) ?_
     refine bnd hF fun z182 atz hF=>ek (.cons .q5 (.cons .h .nil)) (dX (Ro:=oU) CV.h ab3 yt.h rfl rfl rfl (.tmp rfl rfl) (.tmp rfl rfl) atz fU) (fun ajX=>?_)
     refine aU ?_
     cases hF
     exact⟨_,_,_,ajX.1,ajX.2,_,rfl,aA,ay⟩
   rintro _ _ ⟨RJ,RL,RN,Xm,acz,aCX,rfl,rfl,hE⟩
   replace hF:=atr
   try dsimp only at hF
   refine bu hE ?_
   refine aZ ?_
   exact⟨JE,bY _,_,_,_,_,_,Xm,acz,aA,ay,hF⟩
 refine gF ?_
 cases hF
 exact Er (yH,Xl)
def Py(aa:aY)(dm:dh):Option (aY×Bool):=
 (Bi aa).bind fun r4=>
 ((qK aa).bind fun lX=>
   bif (!lX)then (some true)
   else ((I6 aa.Schema dm).bind fun jY=>
     bif (!jY)then (some true)
     else (some (decide ((4:Int)<=(aa.Rules.length:Int)))))).bind fun o8=>
 match o8 with
 |c18=>if c18 then (
     some (r4,false))
   else (
     (app ([]:List Int) dm.Map).bind fun z20=>
     (app r4.Rules ([(⟨dm.From,dm.To,z20⟩:dh)]:List dh)).bind fun z24=>
     some ((⟨r4.Schema,r4.Methods,z24,r4.Source,r4.Cache,r4.Now,r4.Log,r4.Times,r4.Spent,r4.Results⟩:aY),true))
theorem anI{aa:aY}{ae aP cz dB dw dE dG dI:Sv}{dm:dh}{nM:Sv}{R:aY×Bool}(hF:Py aa dm=some R):
   Fw.Spec Tryz.prog 97 [(zg [ae.v,aP.v,cz.v,dB.v,(zi aa.Source.Version),dw.v,(zi aa.Cache.Age),(zi aa.Now),dE.v,dG.v,(zi aa.Spent),dI.v]),(zg [(zi dm.From),(zi dm.To),nM.v])] [ah ae aa.Schema,bW aP aa.Methods,fq cz aa.Rules,bH dB aa.Source.Facts,dM dw aa.Cache.Entries,eH dE aa.Log,ah dG aa.Times,bB (aD 152 (aD 24 (aD 3 az))) dI.v aa.Results,ah nM dm.Map] (fun p:Sv×List Nat×Sv×List Nat×Sv×List Nat×Sv×List Nat×Sv×List Nat×Sv×List Nat×Sv×List Nat×Sv×List Nat=>(.tuple [(zg [p.1.v,p.2.2.1.v,p.2.2.2.2.1.v,p.2.2.2.2.2.2.1.v,(zi R.1.Source.Version),p.2.2.2.2.2.2.2.2.1.v,(zi R.1.Cache.Age),(zi R.1.Now),p.2.2.2.2.2.2.2.2.2.2.1.v,p.2.2.2.2.2.2.2.2.2.2.2.2.1.v,(zi R.1.Spent),p.2.2.2.2.2.2.2.2.2.2.2.2.2.2.1.v]),(.bool R.2)].toArray)) (fun p=>[bI p.2.1 p.1 R.1.Schema,nJ p.2.2.2.1 p.2.2.1 R.1.Methods,mE p.2.2.2.2.2.1 p.2.2.2.2.1 R.1.Rules,eP p.2.2.2.2.2.2.2.1 p.2.2.2.2.2.2.1 R.1.Source.Facts,oF p.2.2.2.2.2.2.2.2.2.1 p.2.2.2.2.2.2.2.2.1 R.1.Cache.Entries,kK p.2.2.2.2.2.2.2.2.2.2.2.1 p.2.2.2.2.2.2.2.2.2.2.1 R.1.Log,bI p.2.2.2.2.2.2.2.2.2.2.2.2.2.1 p.2.2.2.2.2.2.2.2.2.2.2.2.1 R.1.Times,aT (aF 152 (aF 24 (aF 3 (aC az)))) p.2.2.2.2.2.2.2.2.2.2.2.2.2.2.2 p.2.2.2.2.2.2.2.2.2.2.2.2.2.2.1.v R.1.Results]):=by
 refine Se 41 Tryz.func97 [.cell 4 36,.tmp 5] ?_
 intro H0 F0
 unfold Py at hF
 refine au ?_
 refine bP (fun k1=>?_)
 refine bP (fun k2=>?_)
 refine d_ (fun k3=>?_)
 refine bi ?_
 refine bnd hF fun r4 hx5 hF=>Ty (OC hx5) (fun p6=>?_)
 refine d_ (fun k7=>?_)
 refine As (zg [p6.1.v,p6.2.2.1.v,p6.2.2.2.2.1.v,p6.2.2.2.2.2.2.1.v,(zi r4.Source.Version),p6.2.2.2.2.2.2.2.2.1.v,(zi r4.Cache.Age),(zi r4.Now),p6.2.2.2.2.2.2.2.2.2.2.1.v,p6.2.2.2.2.2.2.2.2.2.2.2.2.1.v,(zi r4.Spent),p6.2.2.2.2.2.2.2.2.2.2.2.2.2.2.1.v]) ?_
 refine aU ?_
 obtain⟨o8,JC,Kg⟩:=bind_some hF
 refine au ?_
 refine fe (fun f' cs'=>∃(c18:Bool)(g:Fr),c18=o8/\f'=aQ g [(3,(pz k2)),(4,(pz k3)),(6,(pz k7)),(24,(.bool c18))]/\aO cs' [aX k2 98 (zg [(zi dm.From),(zi dm.To),nM.v]),ah nM dm.Map,aW k3 36 (.agg ([(.slice none 0 0),(.slice none 0 0),(.slice none 0 0),(.slice none 0 0),(zi 0),(.slice none 0 0),(zi 0),(zi 0),(.slice none 0 0),(.slice none 0 0),(zi 0),(.slice none 0 0)]:List Value).toArray),aW k7 36 (zg [p6.1.v,p6.2.2.1.v,p6.2.2.2.2.1.v,p6.2.2.2.2.2.2.1.v,(zi r4.Source.Version),p6.2.2.2.2.2.2.2.2.1.v,(zi r4.Cache.Age),(zi r4.Now),p6.2.2.2.2.2.2.2.2.2.2.1.v,p6.2.2.2.2.2.2.2.2.2.2.2.2.1.v,(zi r4.Spent),p6.2.2.2.2.2.2.2.2.2.2.2.2.2.2.1.v]),bI p6.2.1 p6.1 r4.Schema,nJ p6.2.2.2.1 p6.2.2.1 r4.Methods,mE p6.2.2.2.2.2.1 p6.2.2.2.2.1 r4.Rules,eP p6.2.2.2.2.2.2.2.1 p6.2.2.2.2.2.2.1 r4.Source.Facts,oF p6.2.2.2.2.2.2.2.2.2.1 p6.2.2.2.2.2.2.2.2.1 r4.Cache.Entries,kK p6.2.2.2.2.2.2.2.2.2.2.2.1 p6.2.2.2.2.2.2.2.2.2.2.1 r4.Log,bI p6.2.2.2.2.2.2.2.2.2.2.2.2.2.1 p6.2.2.2.2.2.2.2.2.2.2.2.2.1 r4.Times,aT (aF 152 (aF 24 (aF 3 (aC az)))) p6.2.2.2.2.2.2.2.2.2.2.2.2.2.2.2 p6.2.2.2.2.2.2.2.2.2.2.2.2.2.2.1.v r4.Results]) ?_ ?_
 · replace hF:=JC
   refine au ?_
   refine bnd hF fun lX lg hF=>bC (vG lg) (fun _=>?_)
   refine aU ?_
   rcases bD (!lX)with jL|jL
   · rw[jL]
     try rw[jL]at hF; dsimp only[aJ,aI]at hF
     exact bK hF
   rw[jL]
   try rw[jL]at hF; dsimp only[aJ,aI]at hF
   refine bJ ?_
   refine bnd hF fun jY kG hF=>bC (af5 kG) (fun _=>?_)
   refine bi ?_
   rcases bD (!jY)with lH|lH
   · rw[lH]
     try rw[lH]at hF; dsimp only[aJ,aI]at hF
     exact bK hF
   rw[lH]
   try rw[lH]at hF; dsimp only[aJ,aI]at hF
   exact bK hF
 rintro _ _ ⟨c18,g28,rfl,rfl,hE⟩
 replace hF:=Kg
 try dsimp only at hF
 refine bu hE ?_
 refine Ci hF (fun JF hF=>?_) (fun JF hF=>?_)
 · refine aU ?_
   refine As (zg [p6.1.v,p6.2.2.1.v,p6.2.2.2.2.1.v,p6.2.2.2.2.2.2.1.v,(zi r4.Source.Version),p6.2.2.2.2.2.2.2.2.1.v,(zi r4.Cache.Age),(zi r4.Now),p6.2.2.2.2.2.2.2.2.2.2.1.v,p6.2.2.2.2.2.2.2.2.2.2.2.2.1.v,(zi r4.Spent),p6.2.2.2.2.2.2.2.2.2.2.2.2.2.2.1.v]) ?_
   refine bv ?_
   cases hF
   exact gU (p6.1,p6.2.1,p6.2.2.1,p6.2.2.2.1,p6.2.2.2.2.1,p6.2.2.2.2.2.1,p6.2.2.2.2.2.2.1,p6.2.2.2.2.2.2.2.1,p6.2.2.2.2.2.2.2.2.1,p6.2.2.2.2.2.2.2.2.2.1,p6.2.2.2.2.2.2.2.2.2.2.1,p6.2.2.2.2.2.2.2.2.2.2.2.1,p6.2.2.2.2.2.2.2.2.2.2.2.2.1,p6.2.2.2.2.2.2.2.2.2.2.2.2.2.1,p6.2.2.2.2.2.2.2.2.2.2.2.2.2.2.1,p6.2.2.2.2.2.2.2.2.2.2.2.2.2.2.2) (.cellA rfl rfl .h rfl gP.h eG.h.sz rfl rfl (.tmp rfl rfl .nil)) rfl (.sel (.cons .q4 (.cons .q4 (.cons .q4 (.cons .q4 (.cons .q4 (.cons .q4 (.cons .q4 (.cons .q4 .nil)))))))))
 refine au ?_
 refine dV [0,1,2,3,4,5,6,7,8,9,10,11,12,13,14] [0,1,0,4,0,16,0,0,128,448,1020,2044,4095,8191,16383] [9,12,14] mixed (by decide+kernel) ?_
 refine du ?_
 refine dO rfl .no .q3 (fun ha hp=>fw (v:=p6.2.2.2.2.1.v) ab1.h (EN ha (.tmp rfl rfl) rfl) hp.2 rfl rfl) ?_
 refine nZ ?_
 refine iy rfl .no rfl (fun ha=>bQ (g:=true) (len:=0) (parts:=[]) di.h dx.h .nil (vs:=[]) rfl rfl rfl (by simp)) (fun k19=>?_)
 refine jk (.cons .h .nil) (bS (Ro:=(aC az)) (E:=3) (F:=[]) (xs:=([]:List Int)) bR rfl rfl) ?_
 refine bX ?_
 refine bnd hF fun z20 lG hF=>cO rfl rfl .no (.cons .h (.rd (.t .h) rfl .nil)) (.dep rfl (.own .q3 (fun _ h=>h) .nil)) (fun ha=>dX (Ro:=(aC az)) di.h jc dx.h rfl rfl rfl (EN ha (.tmp rfl rfl) rfl) (EN ha (.tmp rfl rfl) rfl) lG mr) (fun AA=>?_)
 refine bN rfl .no (fun ha=>iD yt.h rfl (vs:=[(zi dm.From),(zi dm.To),AA.1.v]) (.cons (EN ha (.tmp rfl rfl) rfl) (.cons (EN ha (.tmp rfl rfl) rfl) (.cons (EN ha (.tmp rfl rfl) rfl) .nil))) (cells:=[(zi dm.From),(zi dm.To),AA.1.v]) rfl) ?_
 refine iy rfl .no rfl (fun ha=>bQ (g:=true) (len:=1) (parts:=[(0,.tmp 36)]) CV.h yt.h (.cons (EN ha (.tmp rfl rfl) rfl) .nil) (vs:=[(zg [(zi dm.From),(zi dm.To),AA.1.v])]) rfl rfl rfl (by intro v hv; simp at hv; rcases hv with rfl<;>rfl)) (fun k23=>?_)
 refine jk (.cons .h (.cons .h .nil)) (bS (Ro:=oU) (E:=98) (F:=(AA.2++[])) (xs:=([(⟨dm.From,dm.To,z20⟩:dh)]:List dh)) (ed (ab2 (a:=(⟨dm.From,dm.To,z20⟩:dh))) bR cK) rfl rfl) ?_
 refine bnd hF fun z24 hx25 hF=>cO rfl rfl .no (.cons .q7 (.cons .h .nil)) (.dep rfl (.dep rfl (.dep rfl .nil))) (fun ha=>dX (Ro:=oU) CV.h ab3 yt.h rfl rfl rfl (EN ha (.tmp rfl rfl) rfl) (EN ha (.tmp rfl rfl) rfl) hx25 fU) (fun p26=>?_)
 refine du ?_
 refine cO rfl rfl .no (.cons .q4 .nil) (.dep rfl (.dep rfl (.dep rfl .nil))) (fun ha=>gD (e':=(zg [p6.1.v,p6.2.2.1.v,p26.1.v,p6.2.2.2.2.2.2.1.v,(zi r4.Source.Version),p6.2.2.2.2.2.2.2.2.1.v,(zi r4.Cache.Age),(zi r4.Now),p6.2.2.2.2.2.2.2.2.2.2.1.v,p6.2.2.2.2.2.2.2.2.2.2.2.2.1.v,(zi r4.Spent),p6.2.2.2.2.2.2.2.2.2.2.2.2.2.2.1.v])) ajv.h.sz (EN ha (.tmp rfl rfl) rfl) (EN ha (.tmp rfl rfl) rfl) rfl rfl rfl rfl rfl) (fun _=>?_)
 refine du ?_
 refine aU ?_
 refine As (zg [p6.1.v,p6.2.2.1.v,p26.1.v,p6.2.2.2.2.2.2.1.v,(zi r4.Source.Version),p6.2.2.2.2.2.2.2.2.1.v,(zi r4.Cache.Age),(zi r4.Now),p6.2.2.2.2.2.2.2.2.2.2.1.v,p6.2.2.2.2.2.2.2.2.2.2.2.2.1.v,(zi r4.Spent),p6.2.2.2.2.2.2.2.2.2.2.2.2.2.2.1.v]) ?_
 refine bv ?_
 cases hF
 exact gU (p6.1,p6.2.1,p6.2.2.1,p6.2.2.2.1,p26.1,p26.2,p6.2.2.2.2.2.2.1,p6.2.2.2.2.2.2.2.1,p6.2.2.2.2.2.2.2.2.1,p6.2.2.2.2.2.2.2.2.2.1,p6.2.2.2.2.2.2.2.2.2.2.1,p6.2.2.2.2.2.2.2.2.2.2.2.1,p6.2.2.2.2.2.2.2.2.2.2.2.2.1,p6.2.2.2.2.2.2.2.2.2.2.2.2.2.1,p6.2.2.2.2.2.2.2.2.2.2.2.2.2.2.1,p6.2.2.2.2.2.2.2.2.2.2.2.2.2.2.2) (.cellA rfl rfl .h rfl gP.h eG.h.sz rfl rfl (.tmp rfl rfl .nil)) rfl (.sel (.cons .q5 (.cons .q5 (.cons .q2 (.cons .q4 (.cons .q4 (.cons .q4 (.cons .q4 (.cons .q4 .nil)))))))))
def Ip(aj:bg)(ag:List Int)(xZ:Int)(r2:Int×bg):Nat->Int->Int->(List Int)->Int->Option (Fact×bg)
 |0,_,_,_,_=>none
 |AB+1,c28,lM,qH,jZ=>(ix ag r2.1).bind fun NE=>
   if (decide ((jZ:Int)<NE))then (
     (kE ({b:=aj.b,i:=c28,h:=lM}:bg) xZ).bind fun om=>
     (app qH ([om.1]:List Int)).bind fun z52=>
     Ip aj ag xZ r2 AB om.2.i om.2.h z52 (IntKind.i64.wrap (jZ+1)))
   else (
     some (({Rel:=r2.1,Values:=qH}:Fact),({b:=aj.b,i:=c28,h:=lM}:bg)))
def Vx(fuel:Nat)(aj:bg)(ag:List Int)(xZ:Int):Option (Fact×bg):=
 (kE aj (ag.length:Int)).bind fun r2=>
 Ip aj ag xZ r2 fuel r2.2.i r2.2.h ([]:List Int) 0
theorem an4{fuel bG:Nat}{aj:bg}{ae:Sv}{ag:List Int}{ax:Sv}{xZ:Int}{R:Fact×bg}(hF:Vx fuel aj ag xZ=some R):
   Fw.Spec Tryz.prog 135 [(.pointer (some ⟨bG,0,some 0⟩)),ax.v,(.int .i64 xZ)] [aW bG 77 (.agg [ae.v,(.int .i64 aj.i),(.int .i64 aj.h)].toArray),bB (aD 5 xh) ae.v aj.b,bB (aD 3 az) ax.v ag] (fun p:Sv×List Nat=>(.agg [(.int .i64 R.1.Rel),p.1.v].toArray)) (fun p=>[aT (aF 3 (aC az)) p.2 p.1.v R.1.Values,aW bG 77 (.agg [ae.v,(.int .i64 R.2.i),(.int .i64 R.2.h)].toArray)]):=by
 refine Iz (n:=34) Tryz.func135 rfl rfl (rs:=[.cell 6 70]) rfl rfl rfl ?_
 intro H0 F0
 unfold Vx at hF
 refine dC (dH rfl (rY (g:=true) dZ.h rfl rfl) (fun k1=>?_))
 refine df (dC (Cm (.pointer (some ⟨bG,0,some 0⟩)) rfl rfl ?_))
 refine Cm ax.v rfl rfl ?_
 refine eu (.t (.t (.t .h))) (fun hp=>rZ (l:=ag.length) di.h (.tmp rfl rfl) (zB hp)) ?_
 obtain⟨r2,hx3,hF⟩:=bind_some hF
 refine ek (.cons (.t .h) (.rd (.t .h) rfl .nil)) (bV CR.h (.cons (.tmp rfl rfl) (.cons (.tmp rfl rfl) .nil)) (@lm bG aj ae (ag.length:Int) _ hx3)) (fun p4=>?_)
 refine aN (iD dZ.h rfl (vs:=[(.int .i64 r2.1)]) (.cons (.tmp rfl rfl) .nil) (cells:=[(.int .i64 r2.1),(.slice none 0 0)]) rfl) ?_
 refine dH rfl (rY (g:=true) dZ.h rfl rfl) (fun k5=>?_)
 refine ek (.cons .h .nil) (gD (e':=(.agg [(.int .i64 r2.1),(.slice none 0 0)].toArray)) (v:=(.agg [(.int .i64 r2.1),(.slice none 0 0)].toArray)) dZ.h.sz (.tmp rfl rfl) (.tmp rfl rfl) rfl rfl rfl rfl rfl) (fun _=>?_)
 refine df (j4 (dC (aN (jW (v:=(.int .i64 0)) (.int _ _)) ?_)))
 refine df (bn (bU (m:=fuel) (fun AB f' cs'=>∃(g:Fr)(c28:Int)(lM:Int)(qH:List Int)(jZ:Int)(v31:Sv)(F32:List Nat),f'=aQ g [(0,(.pointer (some ⟨bG,0,some 0⟩))),(1,ax.v),(2,(.int .i64 xZ)),(6,(.pointer (some ⟨k1,0,some 0⟩))),(7,(.pointer (some ⟨k5,0,some 0⟩))),(8,(.int .i64 jZ))]/\aO cs' [aW bG 77 (.agg [ae.v,(.int .i64 c28),(.int .i64 lM)].toArray),bB (aD 5 xh) ae.v aj.b,bB (aD 3 az) ax.v ag,aW k1 70 (.agg [(.int .i64 0),(.slice none 0 0)].toArray),aW k5 70 (.agg [(.int .i64 r2.1),v31.v].toArray),aT (aF 3 (aC az)) F32 v31.v qH]/\Ip aj ag xZ r2 AB c28 lM qH jZ=some R) ⟨_,_,_,_,_,⟨none,0,0⟩,[],(b_.cons rfl (b_.cons rfl (b_.cons rfl (b_.cons rfl (b_.cons rfl (b_.cons rfl (b_.nil))))))).eq,(.conv .nil (gV (Ro:=(aC az)) (E:=3)) (.cons .nil) (.sel (.cons (.t (.t .h)) (.rd (.t (.t (.t .h))) rfl (.rd (.t (.t (.t (.t .h)))) rfl (.cons (.t (.t .h)) (.cons (.t .h) (.cons .h .nil)))))))),hF⟩ ?_))
 clear hF
 rintro AB _ _ ⟨g35,c28,lM,qH,jZ,v31,F32,rfl,hE,hF⟩
 refine bu hE ?_
 clear hE
 rcases AB with _|AB
 · rw[Ip]at hF
   exact absurd hF (by simp)
 rw[Ip]at hF
 refine j4 (dC (Cm (.int .i64 jZ) rfl rfl ?_))
 refine Cm ax.v rfl rfl ?_
 refine aN (iK (off:=0) aqk.h (.tmp rfl rfl)) ?_
 refine eu (.t (.t (.t (.t .h)))) (fun hp=>fw (v:=(.int .i64 r2.1)) qd.h (.tmp rfl rfl) hp.2 rfl rfl) ?_
 obtain⟨NE,qA,hF⟩:=bind_some hF
 obtain⟨axi,wu⟩:=E5 qA
 refine MF (a:=NE) di.h dx.h.sz (.tmp rfl rfl) (.tmp rfl rfl) (.t (.t .h)) axi wu (fun k46 j47=>?_)
 refine aaE (w:=(.int .i64 NE)) qd.h (.tmp rfl rfl) .h dP ?_
 refine aN (Fg (i:=jZ) (j:=NE) (.tmp rfl rfl) (.tmp rfl rfl)) ?_
 refine df (kg (b:=(decide ((jZ:Int)<NE))) (.tmp rfl rfl) (fun RO=>?_) (fun RO=>?_))
 · rw[if_pos RO]at hF
   refine nU (PQ (dC (Cm (.pointer (some ⟨bG,0,some 0⟩)) rfl rfl ?_)))
   refine Cm (.int .i64 xZ) rfl rfl ?_
   obtain⟨om,rz,hF⟩:=bind_some hF
   refine ek (.cons (.t .h) (.rd (.t .h) rfl .nil)) (bV CR.h (.cons (.tmp rfl rfl) (.cons (.tmp rfl rfl) .nil)) (@lm bG ({b:=aj.b,i:=c28,h:=lM}:bg) ae xZ _ rz)) (fun p50=>?_)
   refine Ca (.int .i64 om.1) rfl rfl ?_
   refine df (kT (aN (iK (off:=1) ahW.h (.tmp rfl rfl)) ?_))
   refine eu (.t (.t (.t (.t (.t .h))))) (fun hp=>fw (v:=v31.v) iC.h (.tmp rfl rfl) hp.2 rfl rfl) ?_
   refine Cm (.int .i64 om.1) rfl rfl ?_
   refine dH rfl (bQ (g:=true) di.h dx.h (.cons (.tmp rfl rfl) .nil) (vs:=[(.int .i64 om.1)]) rfl rfl rfl (by intro v hv; simp at hv; rcases hv with rfl<;>rfl)) (fun uF=>?_)
   refine Mv (.cons .h .nil) (bS (Ro:=(aC az)) (E:=3) (F:=([]++[])) (xs:=([om.1]:List Int)) (ed (jF (fun _=>rfl)) bR cK) rfl rfl) cK ?_
   obtain⟨z52,Nb,hF⟩:=bind_some hF
   refine ek (.cons (.t (.t (.t (.t (.t (.t (.t .h))))))) (.cons .h .nil)) (dX (Ro:=(aC az)) di.h jc dx.h rfl rfl rfl (.tmp rfl rfl) (.tmp rfl rfl) Nb fU) (fun p54=>?_)
   refine aN (iK (off:=1) ahW.h (.tmp rfl rfl)) ?_
   refine ek (.cons (.t (.t (.t (.t (.t (.t .h)))))) .nil) (gD (e':=(.agg [(.int .i64 r2.1),p54.1.v].toArray)) pQ.h.sz (.tmp rfl rfl) (.tmp rfl rfl) rfl rfl rfl rfl rfl) (fun _=>?_)
   refine df (kT (Cm (.int .i64 jZ) rfl rfl ?_))
   refine aN (nW (i:=jZ) (j:=1) (.tmp rfl rfl) (.int _ _)) ?_
   refine Ca (.int .i64 (IntKind.i64.wrap (jZ+1))) rfl rfl ?_
   refine df ?_
   exact⟨AB,Nat.lt_succ_self _,_,_,_,_,_,p54.1,p54.2,(b_.cons rfl (b_.cons rfl (b_.cons rfl (b_.cons rfl (b_.cons rfl (b_.cons rfl (b_.nil))))))).eq,(.sel (.cons (.t (.t .h)) (.rd (.t (.t (.t .h))) rfl (.rd (.t (.t (.t (.t .h)))) rfl (.cons (.t (.t (.t (.t (.t .h))))) (.cons .h (.cons .h .nil))))))),hF⟩
 rw[if_neg (by rw[RO]; exact Bool.false_ne_true)]at hF
 refine EZ ?_
 iterate 2 refine Bb ?_
 refine ER (dC (eu (.t (.t (.t (.t (.t .h))))) (fun hp=>fP vX.h dZ.h.sz rfl (.tmp rfl rfl) hp.2 rfl) ?_))
 refine ek (.cons (.t (.t (.t (.t .h)))) .nil) (gD (e':=(.agg [(.int .i64 r2.1),v31.v].toArray)) (v:=(.agg [(.int .i64 r2.1),v31.v].toArray)) dZ.h.sz (.tmp rfl rfl) (.tmp rfl rfl) rfl rfl rfl rfl rfl) (fun _=>?_)
 refine df (qN ?_)
 obtain rfl:=Option.some.inj hF
 exact gU (v31,F32) (.cellA rfl rfl .h rfl vX.h dZ.h.sz rfl rfl .nil) rfl (.sel (.cons (.t (.t (.t (.t (.t (.t .h)))))) (.cons (.t (.t .h)) .nil)))
def EF(fuel:Nat)(aj:bg)(ag:List Int)(aS:Source):Option (ql×bg):=
 (bif (decide ((0:Int)<(aS.Facts.length:Int)))then ((ET aj 2).bind fun r6=>
     some (r6.2.i,r6.2.h,r6.1))
   else (some (aj.i,aj.h,false))).bind fun o3=>
 match o3 with
 |(c9,c10,c11)=>if c11 then (
     (kE (⟨aj.b,c9,c10⟩:bg) (aS.Facts.length:Int)).bind fun dz=>
     (ix aS.Facts dz.1).bind fun nD=>
     some ((⟨false,nD⟩:ql),(⟨aj.b,dz.2.i,dz.2.h⟩:bg)))
   else (
     (sU ag).bind fun lh=>
     if (!lh)then (
       some ((⟨true,(⟨0,[]⟩:Fact)⟩:ql),(⟨aj.b,c9,c10⟩:bg)))
     else (
       (Vx fuel (⟨aj.b,c9,c10⟩:bg) ag 4).bind fun gX=>
       some ((⟨true,gX.1⟩:ql),(⟨aj.b,gX.2.i,gX.2.h⟩:bg))))
theorem UQ{fuel bG:Nat}{aj:bg}{ae:Sv}{ag:List Int}{ax:Sv}{aS:Source}{bM:Sv}{R:ql×bg}(hF:EF fuel aj ag aS=some R):
   Fw.Spec Tryz.prog 99 [(pz bG),ax.v,(zg [bM.v,(zi aS.Version)])] [aW bG 77 (zg [ae.v,(zi aj.i),(zi aj.h)]),kz ae aj.b,ah ax ag,bH bM aS.Facts] (fun p:Sv=>(zg [(.bool R.1.Add),(zi R.1.Fact.Rel),p.v])) (fun p=>[ah p R.1.Fact.Values,aW bG 77 (zg [ae.v,(zi R.2.i),(zi R.2.h)])]):=by
 refine Se 33 Tryz.func99 [.cell 6 114] ?_
 intro H0 F0
 unfold EF at hF
 refine au ?_
 refine bP (fun k1=>?_)
 refine d_ (fun k2=>?_)
 refine aU ?_
 obtain⟨o3,wy,hO4⟩:=bind_some hF
 refine au ?_
 refine fe (fun f' cs'=>∃(c9 c10:Int)(c11:Bool)(g:Fr),o3=(c9,c10,c11)/\f'=aQ g [(0,(pz bG)),(1,ax.v),(5,(pz k1)),(6,(pz k2)),(14,(.bool c11))]/\aO cs' [aW bG 77 (zg [ae.v,(zi c9),(zi c10)]),kz ae aj.b,ah ax ag,aX k1 29 (zg [bM.v,(zi aS.Version)]),bH bM aS.Facts,aW k2 114 (zg [(.bool false),(zi 0),(.slice none 0 0)])]) ?_ ?_
 · replace hF:=wy
   refine aZ ?_
   rcases bD (decide ((0:Int)<(aS.Facts.length:Int)))with hg5|hg5
   · rw[hg5]
     try rw[hg5]at hF; dsimp only[aJ,aI]at hF
     refine bv ?_
     refine bnd hF fun r6 hx7 hF=>gB (OQ hx7) (fun p8=>?_)
     exact ajD hF
   rw[hg5]
   try rw[hg5]at hF; dsimp only[aJ,aI]at hF
   exact ajD hF
 rintro _ _ ⟨c9,c10,c11,g30,rfl,rfl,hE⟩
 replace hF:=hO4
 try dsimp only at hF
 refine bu hE ?_
 refine Ci hF (fun Dg hF=>?_) (fun Dg hF=>?_)
 · refine dV [0,1,2,3,4,5,6,7,8,9,10] [0,1,0,0,8,24,60,127,255,511,1023] [6,10] mixed (by decide+kernel) ?_
   refine xn ?_
   refine bnd hF fun dz iJ hF=>qE (lm iJ) (fun mh=>?_)
   refine zI hF fun nD acr mQ hF=>?_
   refine Di mQ (fun k19 Gi=>?_)
   refine jR (lZ nD) mq (fun mW=>?_)
   refine bN rfl .no (fun ha=>iD MH.h rfl (vs:=[(zg [(zi nD.Rel),mW.v])]) (.cons (EN ha (.tmp rfl rfl) rfl) .nil) (cells:=[(.bool false),(zi nD.Rel),mW.v]) rfl) ?_
   refine cO rfl rfl .no (.cons .q7 .nil) .nil (fun ha=>gD (e':=(zg [(.bool false),(zi nD.Rel),mW.v])) (v:=(zg [(.bool false),(zi nD.Rel),mW.v])) MH.h.sz (EN ha (.tmp rfl rfl) rfl) (EN ha (.tmp rfl rfl) rfl) rfl rfl rfl rfl rfl) (fun _=>?_)
   refine du ?_
   refine au ?_
   cases hF
   exact Er mW
 refine bi ?_
 refine bnd hF fun lh uf hF=>bC (xM uf) (fun _=>?_)
 refine aU ?_
 refine Ci hF (fun yz hF=>?_) (fun yz hF=>?_)
 · refine au ?_
   refine aN (iD MH.h rfl (vs:=[(.bool true)]) (.cons (.bool _) .nil) (cells:=[(.bool true),(zi 0),(.slice none 0 0)]) rfl) ?_
   refine As (zg [(.bool true),(zi 0),(.slice none 0 0)]) ?_
   refine aU ?_
   cases hF
   exact gU (⟨none,0,0⟩) (.cellA rfl rfl .h rfl aio.h MH.h.sz rfl rfl .nil) rfl (.conv .nil (PU (R:=az) (E:=3)) (.cons .nil) (.sel (.rd .h rfl (.cons .q2 .nil))))
 refine bi ?_
 refine bnd hF fun gX nL hF=>Av (an4 nL) (fun p27=>?_)
 refine aN (iD MH.h rfl (vs:=[(.bool true),(zg [(zi gX.1.Rel),p27.1.v])]) (.cons (.bool _) cu) (cells:=[(.bool true),(zi gX.1.Rel),p27.1.v]) rfl) ?_
 refine As (zg [(.bool true),(zi gX.1.Rel),p27.1.v]) ?_
 refine aU ?_
 cases hF
 exact gU p27.1 (.cellA rfl rfl .h rfl aio.h MH.h.sz rfl rfl .nil) rfl (.frz (.t .h) aG (.sel (.rd .h rfl (.cons .q2 .nil))))
def Lc(bF:Fact):List Fact->Nat->Option (Bool)
 |[],k5=>some false
 |x7::eQ,k5=>(xL x7 bF).bind fun o9=>
   if ((o9:Int)==0)then (
     some true)
   else (
     Lc bF eQ (k5+1))
def EO(ai:List Fact)(bF:Fact):Option (Bool):=
 Lc bF ai 0
theorem Zf{ai:List Fact}{ae:Sv}{bF:Fact}{aV:Sv}{R:Bool}(hF:EO ai bF=some R):
   Fw.Spec Tryz.prog 89 [ae.v,(zg [(zi bF.Rel),aV.v])] [bH ae ai,ah aV bF.Values] (fun _:Unit=>(.bool R)) (fun _=>[]):=by
 refine Se 19 Tryz.func89 [.tmp 4] ?_
 intro H0 F0
 unfold EO at hF
 refine au ?_
 refine bP (fun k1=>?_)
 refine bE ?_
 refine bn (bU (m:=ai.length) (fun m3 f' cs'=>∃(g:Fr)(k5:Nat)(eQ:List Fact),m3=eQ.length/\f'=aQ g [(0,ae.v),(3,(pz k1)),(5,(zi (k5:Int)))]/\List.drop k5 ai=eQ/\aO cs' [bH ae ai,aX k1 70 (zg [(zi bF.Rel),aV.v]),ah aV bF.Values]/\Lc bF eQ k5=some R) ⟨_,0,_,rfl,aA,rfl,ay,hF⟩ ?_)
 rintro m3 _ _ ⟨g4,k5,eQ,rfl,rfl,nQ,hE,hF⟩
 refine Kb hE ai (fun Jk=>?_)
 rcases eQ with _|⟨x7,eQ⟩
 · have uG:=dn nQ
   rw[Lc]at hF
   refine bJ ?_
   refine dL ?_
   exact ze hF
 obtain⟨uG,jI,j5⟩:=dA nQ
 rw[Lc]at hF
 refine bJ ?_
 refine dK ?_
 refine aU ?_
 refine dV [0,1,2,3,4,5,6] [0,0,3,7,0,31,63] [5] mixed (by decide+kernel) ?_
 refine bX ?_
 refine Di jI (fun k14 TL=>?_)
 refine jR (lZ x7) mq (fun p16=>?_)
 refine du ?_
 refine bnd hF fun o9 mQ hF=>fu (NY mQ) (fun _=>?_)
 refine bX ?_
 refine Ci hF (fun Ju hF=>?_) (fun Ju hF=>?_)
 · exact ze hF
 refine bE ?_
 rw[wk k5]
 exact⟨_,bY _,_,k5+1,eQ,rfl,aA,j5,ay,hF⟩
end Go.Proofs.YtfcjmpkenaiomaaGreat
