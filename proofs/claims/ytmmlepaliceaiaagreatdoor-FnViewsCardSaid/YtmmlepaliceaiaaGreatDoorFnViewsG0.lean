/-
  Functions of the program as Lean functions, and that the calls return what these say: part 1. No conditions.
-/
import Derived.Test.YtmmlepaliceaiaaGreatDoorFc
import Derived.Shelf.Sort.Plain
import Derived.Shelf.Slices.In.SortNone
import Derived.Shelf.Slices.CompactI
import Derived.Shelf.Strings.OnBuilder
import Derived.Shelf.Strconv.Itoa3
import Derived.Test.YtmmlepaliceaiaaGreatDoorProg
import Derived.KernelRfl
set_option maxRecDepth 100000
set_option maxHeartbeats 1000000
set_option linter.unusedVariables false
namespace Go.Proofs.YtmmlepaliceaiaaGreatDoor
open Go Go.Fw

theorem ll{G:Prop}(h:G:=by (unfold FD; kernel_rfl)):G:=h
theorem oG{G:Prop}(h:G:=by (unfold AG; kernel_rfl)):G:=h
theorem ve{G:Prop}(h:G:=by (unfold SL; kernel_rfl)):G:=h
theorem oH{G:Prop}(h:G:=by (unfold TY; kernel_rfl)):G:=h
instance:aO Tryz.prog:=⟨fun w=>Lib.TabIs Tryz.prog w "internal/strconv.uint64pow10" .u64 Lib.pow10Tab/\(∃tp p,w.var? Tryz.prog "strconv.ErrSyntax" =some #[.iface tp p])/\ ∃tp p,w.var? Tryz.prog "strconv.ErrRange" =some #[.iface tp p]⟩
instance Zh:aQ Tryz.prog 4:=⟨Tryz.call4⟩
instance iO:mr Tryz.prog 22 5:=⟨ve⟩
instance Zi:aQ Tryz.prog 5:=⟨Tryz.call5⟩
structure Method where
 Rel:Int
 Inputs:List Int
 Limit:Int
 Cost:Int
 Quota:Int
structure ak where
 Method:Int
 Values:List Int
instance TM:aQ Tryz.prog 23:=⟨Tryz.call23⟩
instance TN:aQ Tryz.prog 39:=⟨Tryz.call39⟩
structure ai where
 b:List UInt8
 i:Int
 h:Int
instance iU:gQ Tryz.prog 5 1 1 (.int .u8 0):=⟨oH⟩
theorem J9{a:UInt8}:∀H e,ek H e a->e.cells.toList[0]?=some (.int .u8 (a.toNat:Int)):=by
 intro H e h
 subst h
 rfl
instance Zj:gP Tryz.prog 5 false:=⟨oG⟩
theorem iD:IK Tryz.prog 5 .u8:=by unfold IK; kernel_rfl
theorem ko:IK Tryz.prog 3 .i64:=by unfold IK; kernel_rfl
instance TP:gQ Tryz.prog 98 3 40 (.agg [(.slice none 0 0),(.int .i64 0),(.int .i64 0)].toArray):=⟨oH⟩
instance Xw:aQ Tryz.prog 47:=⟨Tryz.call47⟩
structure aL where
 Rel:Int
 Values:List Int
instance Xx:aQ Tryz.prog 71:=⟨Tryz.call71⟩
instance bI:mr Tryz.prog 31 3:=⟨ve⟩
instance bH:gQ Tryz.prog 3 1 8 (.int .i64 0):=⟨oH⟩
instance lm:aQ Tryz.prog 40:=⟨Tryz.call40⟩
instance Xy:aQ Tryz.prog 64:=⟨Tryz.call64⟩
instance WL:j6 Tryz.prog 98 2 2:=⟨ll⟩
instance lC:gP Tryz.prog 3 false:=⟨oG⟩
theorem mixed:Tryz.prog.follows .mixedOrders=true:=by kernel_rfl
instance WM:j6 Tryz.prog 98 1 1:=⟨ll⟩
instance WN:j6 Tryz.prog 98 0 0:=⟨ll⟩
instance Kq:gP Tryz.prog 22 false:=⟨oG⟩
instance RJ:aQ Tryz.prog 107:=⟨Tryz.call107⟩
theorem gK:nX Tryz.prog 31:=.inr ⟨3,by kernel_rfl⟩
instance TQ:aQ Tryz.prog 72:=⟨Tryz.call72⟩
instance qd:mr Tryz.prog 24 36:=⟨ve⟩
instance iP:gQ Tryz.prog 36 5 56 (.agg [(.int .i64 0),(.slice none 0 0),(.int .i64 0),(.int .i64 0),(.int .i64 0)].toArray):=⟨oH⟩
def lq(H:ag)(v:Value)(a:Method):Prop:=∃v0:Sv,v= .agg [(.int .i64 a.Rel),v0.v,(.int .i64 a.Limit),(.int .i64 a.Cost),(.int .i64 a.Quota)].toArray/\(bf 3 aF) H v0.v a.Inputs
instance:bP lq:=⟨fun h hi=>by
 obtain⟨v0,h,h0⟩:=h
 exact⟨v0,h,bP.up h0 hi⟩⟩
instance:Cells lq 5:=⟨fun h=>by
 obtain⟨v0,rfl,h0⟩:=h
 exact⟨rfl,rfl⟩⟩
def lu:dX Method:=fun F H v a=>∃(v0:Sv)(F0:List Nat),v= .agg [(.int .i64 a.Rel),v0.v,(.int .i64 a.Limit),(.int .i64 a.Cost),(.int .i64 a.Quota)].toArray/\F0=F/\(aH 3 (ay aF)) F0 H v0.v a.Inputs
instance:eu lu:=⟨fun h hi hg=>by
 obtain⟨v0,F0,rfl,rfl,h0⟩:=h
 exact⟨v0,F0,rfl,rfl,eu.keep h0 hi (fun k hk=>hg k (by simp[hk]))⟩⟩
instance:Local lu:=⟨fun h hg=>by
 obtain⟨v0,F0,rfl,rfl,h0⟩:=h
 exact⟨v0,F0,rfl,rfl,Local.keep h0 (fun k hk=>hg k (by simp[hk]))⟩⟩
instance:jK lu:=⟨fun h k hk=>by
 obtain⟨v0,F0,rfl,rfl,h0⟩:=h
 exact jK.owns h0 k hk
⟩
instance:lQ lu 5:=⟨fun h=>by
 obtain⟨v0,F0,rfl,rfl,h0⟩:=h
 exact⟨rfl,rfl⟩⟩
instance:jO lu lq:=⟨fun h hg=>by
 obtain⟨v0,F0,rfl,rfl,h0⟩:=h
 exact⟨v0,rfl,jO.frz h0 (fun k hk=>hg k (by simp[hk]))⟩⟩
instance WV:aQ Tryz.prog 108:=⟨Tryz.call108⟩
instance l9:aQ Tryz.prog 78:=⟨Tryz.call78⟩
theorem gJ{a:Int}:∀H e,aF H e a->e.cells.toList[0]?=some (.int .i64 a):=by
 intro H e h
 subst h
 rfl
instance QC:j6 Tryz.prog 36 0 0:=⟨ll⟩
instance C8:j6 Tryz.prog 36 1 1:=⟨ll⟩
instance jL:gP Tryz.prog 31 false:=⟨oG⟩
instance rR:gQ Tryz.prog 31 1 24 (.slice none 0 0):=⟨oH⟩
instance vg:gP Tryz.prog 36 true:=⟨oG⟩
theorem Kr{a:Method}{v0:Sv}{F0:List Nat}:Mk lu F0 (.agg [(.int .i64 a.Rel),v0.v,(.int .i64 a.Limit),(.int .i64 a.Cost),(.int .i64 a.Quota)].toArray) a [aS (aH 3 (ay aF)) F0 v0.v a.Inputs]:=
 ⟨fun H h=>⟨v0,F0,rfl,rfl,h (aS (aH 3 (ay aF)) F0 v0.v a.Inputs) (by simp)⟩,by simp[aS]⟩
theorem Kt:nX Tryz.prog 24:=.inr ⟨36,by kernel_rfl⟩
instance TR:aQ Tryz.prog 73:=⟨Tryz.call73⟩
instance jM:mr Tryz.prog 70 136:=⟨ve⟩
instance fU:gQ Tryz.prog 136 2 32 (.agg [(.int .i64 0),(.slice none 0 0)].toArray):=⟨oH⟩
def rJ(H:ag)(v:Value)(a:aL):Prop:=∃v0:Sv,v= .agg [(.int .i64 a.Rel),v0.v].toArray/\(bf 3 aF) H v0.v a.Values
instance:bP rJ:=⟨fun h hi=>by
 obtain⟨v0,h,h0⟩:=h
 exact⟨v0,h,bP.up h0 hi⟩⟩
instance:Cells rJ 2:=⟨fun h=>by
 obtain⟨v0,rfl,h0⟩:=h
 exact⟨rfl,rfl⟩⟩
def gB:dX aL:=fun F H v a=>∃(v0:Sv)(F0:List Nat),v= .agg [(.int .i64 a.Rel),v0.v].toArray/\F0=F/\(aH 3 (ay aF)) F0 H v0.v a.Values
instance:eu gB:=⟨fun h hi hg=>by
 obtain⟨v0,F0,rfl,rfl,h0⟩:=h
 exact⟨v0,F0,rfl,rfl,eu.keep h0 hi (fun k hk=>hg k (by simp[hk]))⟩⟩
instance:Local gB:=⟨fun h hg=>by
 obtain⟨v0,F0,rfl,rfl,h0⟩:=h
 exact⟨v0,F0,rfl,rfl,Local.keep h0 (fun k hk=>hg k (by simp[hk]))⟩⟩
instance:jK gB:=⟨fun h k hk=>by
 obtain⟨v0,F0,rfl,rfl,h0⟩:=h
 exact jK.owns h0 k hk
⟩
instance:lQ gB 2:=⟨fun h=>by
 obtain⟨v0,F0,rfl,rfl,h0⟩:=h
 exact⟨rfl,rfl⟩⟩
instance:jO gB rJ:=⟨fun h hg=>by
 obtain⟨v0,F0,rfl,rfl,h0⟩:=h
 exact⟨v0,rfl,jO.frz h0 (fun k hk=>hg k (by simp[hk]))⟩⟩
instance WW:aQ Tryz.prog 110:=⟨Tryz.call110⟩
instance P8:j6 Tryz.prog 136 0 0:=⟨ll⟩
instance Jg:j6 Tryz.prog 136 1 1:=⟨ll⟩
instance J_:gP Tryz.prog 136 true:=⟨oG⟩
instance RL:aQ Tryz.prog 109:=⟨Tryz.call109⟩
instance WX:aQ Tryz.prog 132:=⟨Tryz.call132⟩
def Cb(a:aL)(p:Sv):List Value:=[(.int .i64 a.Rel),p.v]
theorem G_{a:aL}:∀H e,rJ H e a-> ∃i:Sv,0+2<=e.cells.size/\(e.cells.toList.drop 0).take 2=Cb a i/\ ∀c∈([bS (bf 3 aF) i.v a.Values]:List aj),c.P H/\c.F=[]:=by
 intro H e h
 obtain⟨v0,rfl,h0⟩:=h
 refine⟨v0,Nat.le_of_ble_eq_true rfl,rfl,fun c hc=>by
   simp only[List.mem_cons,List.not_mem_nil,or_false]at hc
   rcases hc with rfl
   · exact⟨h0,rfl⟩
⟩
instance WY:aQ Tryz.prog 133:=⟨Tryz.call133⟩
instance WZ:aQ Tryz.prog 134:=⟨Tryz.call134⟩
theorem uW{a:aL}{v0:Sv}{F0:List Nat}:Mk gB F0 (.agg [(.int .i64 a.Rel),v0.v].toArray) a [aS (aH 3 (ay aF)) F0 v0.v a.Values]:=
 ⟨fun H h=>⟨v0,F0,rfl,rfl,h (aS (aH 3 (ay aF)) F0 v0.v a.Values) (by simp)⟩,by simp[aS]⟩
theorem vo:nX Tryz.prog 70:=.inr ⟨136,by kernel_rfl⟩
theorem Jh{a:aL}:∀H e,rJ H e a->e.cells.toList[0]?=some (.int .i64 a.Rel):=by
 intro H e h
 obtain⟨_,rfl,_⟩:=h
 rfl
theorem Ji{a:aL}:∀H e,rJ H e a-> ∃w:Sv,e.cells.toList[1]?=some w.v/\(bf 3 aF) H w.v a.Values:=by
 intro H e h
 obtain⟨v0,rfl,h0⟩:=h
 exact⟨v0,rfl,h0⟩
instance TS:aQ Tryz.prog 74:=⟨Tryz.call74⟩
instance W9:aQ Tryz.prog 111:=⟨Tryz.call111⟩
instance Xz:aQ Tryz.prog 29:=⟨Tryz.call29⟩
instance WO:j6 Tryz.prog 36 2 2:=⟨ll⟩
instance WP:j6 Tryz.prog 36 4 4:=⟨ll⟩
instance WQ:j6 Tryz.prog 36 3 3:=⟨ll⟩
instance TT:aQ Tryz.prog 75:=⟨Tryz.call75⟩
instance W_:aQ Tryz.prog 112:=⟨Tryz.call112⟩
instance XA:aQ Tryz.prog 76:=⟨Tryz.call76⟩
instance fM:mr Tryz.prog 25 34:=⟨ve⟩
instance bQ:gQ Tryz.prog 34 2 32 (.agg [(.int .i64 0),(.slice none 0 0)].toArray):=⟨oH⟩
def jY(H:ag)(v:Value)(a:ak):Prop:=∃v0:Sv,v= .agg [(.int .i64 a.Method),v0.v].toArray/\(bf 3 aF) H v0.v a.Values
instance:bP jY:=⟨fun h hi=>by
 obtain⟨v0,h,h0⟩:=h
 exact⟨v0,h,bP.up h0 hi⟩⟩
instance:Cells jY 2:=⟨fun h=>by
 obtain⟨v0,rfl,h0⟩:=h
 exact⟨rfl,rfl⟩⟩
def fA:dX ak:=fun F H v a=>∃(v0:Sv)(F0:List Nat),v= .agg [(.int .i64 a.Method),v0.v].toArray/\F0=F/\(aH 3 (ay aF)) F0 H v0.v a.Values
instance:eu fA:=⟨fun h hi hg=>by
 obtain⟨v0,F0,rfl,rfl,h0⟩:=h
 exact⟨v0,F0,rfl,rfl,eu.keep h0 hi (fun k hk=>hg k (by simp[hk]))⟩⟩
instance:Local fA:=⟨fun h hg=>by
 obtain⟨v0,F0,rfl,rfl,h0⟩:=h
 exact⟨v0,F0,rfl,rfl,Local.keep h0 (fun k hk=>hg k (by simp[hk]))⟩⟩
instance:jK fA:=⟨fun h k hk=>by
 obtain⟨v0,F0,rfl,rfl,h0⟩:=h
 exact jK.owns h0 k hk
⟩
instance:lQ fA 2:=⟨fun h=>by
 obtain⟨v0,F0,rfl,rfl,h0⟩:=h
 exact⟨rfl,rfl⟩⟩
instance:jO fA jY:=⟨fun h hg=>by
 obtain⟨v0,F0,rfl,rfl,h0⟩:=h
 exact⟨v0,rfl,jO.frz h0 (fun k hk=>hg k (by simp[hk]))⟩⟩
instance TU:aQ Tryz.prog 48:=⟨Tryz.call48⟩
instance TV:aQ Tryz.prog 77:=⟨Tryz.call77⟩
instance ja:gP Tryz.prog 34 true:=⟨oG⟩
instance JG:j6 Tryz.prog 34 0 0:=⟨ll⟩
theorem QD{a:Method}:∀H e,lq H e a-> ∃w:Sv,e.cells.toList[1]?=some w.v/\(bf 3 aF) H w.v a.Inputs:=by
 intro H e h
 obtain⟨v0,rfl,h0⟩:=h
 exact⟨v0,rfl,h0⟩
instance Aj:j6 Tryz.prog 34 1 1:=⟨ll⟩
theorem xW{a:ak}{v0:Sv}{F0:List Nat}:Mk fA F0 (.agg [(.int .i64 a.Method),v0.v].toArray) a [aS (aH 3 (ay aF)) F0 v0.v a.Values]:=
 ⟨fun H h=>⟨v0,F0,rfl,rfl,h (aS (aH 3 (ay aF)) F0 v0.v a.Values) (by simp)⟩,by simp[aS]⟩
theorem vv:nX Tryz.prog 25:=.inr ⟨34,by kernel_rfl⟩
instance Wd:aQ Tryz.prog 6:=⟨Tryz.call6⟩
instance XB:gQ Tryz.prog 24 1 24 (.slice none 0 0):=⟨oH⟩
instance XD:aQ Tryz.prog 25:=⟨Tryz.call25⟩
def mQ(a:ak)(p:Sv):List Value:=[(.int .i64 a.Method),p.v]
theorem nP{a:ak}:∀H e,jY H e a-> ∃i:Sv,0+2<=e.cells.size/\(e.cells.toList.drop 0).take 2=mQ a i/\ ∀c∈([bS (bf 3 aF) i.v a.Values]:List aj),c.P H/\c.F=[]:=by
 intro H e h
 obtain⟨v0,rfl,h0⟩:=h
 refine⟨v0,Nat.le_of_ble_eq_true rfl,rfl,fun c hc=>by
   simp only[List.mem_cons,List.not_mem_nil,or_false]at hc
   rcases hc with rfl
   · exact⟨h0,rfl⟩
⟩
instance XE:aQ Tryz.prog 50:=⟨Tryz.call50⟩
instance XF:aQ Tryz.prog 79:=⟨Tryz.call79⟩
instance XG:aQ Tryz.prog 24:=⟨Tryz.call24⟩
instance Ku:aQ Tryz.prog 26:=⟨Tryz.call26⟩
instance XH:gP Tryz.prog 24 false:=⟨oG⟩
instance TW:aQ Tryz.prog 27:=⟨Tryz.call27⟩
theorem C9{a:Method}:∀H e,lq H e a->e.cells.toList[0]?=some (.int .i64 a.Rel):=by
 intro H e h
 obtain⟨_,rfl,_⟩:=h
 rfl
instance TZ:aQ Tryz.prog 49:=⟨Tryz.call49⟩
instance We:aQ Tryz.prog 8:=⟨Tryz.call8⟩
theorem uR{a:ak}:∀H e,jY H e a->e.cells.toList[0]?=some (.int .i64 a.Method):=by
 intro H e h
 obtain⟨_,rfl,_⟩:=h
 rfl
theorem C_{a:ak}:∀H e,jY H e a-> ∃w:Sv,e.cells.toList[1]?=some w.v/\(bf 3 aF) H w.v a.Values:=by
 intro H e h
 obtain⟨v0,rfl,h0⟩:=h
 exact⟨v0,rfl,h0⟩
instance XI:aQ Tryz.prog 30:=⟨Tryz.call30⟩
instance EH:aQ Tryz.prog 7:=⟨Tryz.call7⟩
instance XJ:aQ Tryz.prog 28:=⟨Tryz.call28⟩
instance XK:aQ Tryz.prog 51:=⟨Tryz.call51⟩
instance T9:aQ Tryz.prog 10:=⟨Tryz.call10⟩
instance XL:aQ Tryz.prog 31:=⟨Tryz.call31⟩
def NJ:Go.Shelf.Ren:=⟨fun|189=>31|125=>53|257=>52|128=>89|129=>90|294=>80|295=>81|296=>82|297=>83|298=>84|299=>85|216=>86|300=>87|301=>88|328=>113|329=>114|330=>115|331=>116|332=>117|215=>118|343=>135|n=>n,fun|28=>31|3=>3|46=>78|0=>0|51=>120|53=>122|4=>4|183=>112|182=>111|131=>117|5=>5|9=>9|218=>139|222=>143|228=>155|229=>156|n=>n,fun|n=>n⟩
theorem Jj:Go.Proofs.Lays.n189 Tryz.prog NJ:={
 mixed:=by kernel_rfl
 f125:=Tryz.func53.trans (congrArg some (by kernel_rfl))
 f128:=Tryz.func89.trans (congrArg some (by kernel_rfl))
 f129:=Tryz.func90.trans (congrArg some (by kernel_rfl))
 f189:=Tryz.func31.trans (congrArg some (by kernel_rfl))
 f215:=Tryz.func118.trans (congrArg some (by kernel_rfl))
 f216:=Tryz.func86.trans (congrArg some (by kernel_rfl))
 f257:=Tryz.func52.trans (congrArg some (by kernel_rfl))
 f294:=Tryz.func80.trans (congrArg some (by kernel_rfl))
 f295:=Tryz.func81.trans (congrArg some (by kernel_rfl))
 f296:=Tryz.func82.trans (congrArg some (by kernel_rfl))
 f297:=Tryz.func83.trans (congrArg some (by kernel_rfl))
 f298:=Tryz.func84.trans (congrArg some (by kernel_rfl))
 f299:=Tryz.func85.trans (congrArg some (by kernel_rfl))
 f300:=Tryz.func87.trans (congrArg some (by kernel_rfl))
 f301:=Tryz.func88.trans (congrArg some (by kernel_rfl))
 f328:=Tryz.func113.trans (congrArg some (by kernel_rfl))
 f329:=Tryz.func114.trans (congrArg some (by kernel_rfl))
 f330:=Tryz.func115.trans (congrArg some (by kernel_rfl))
 f331:=Tryz.func116.trans (congrArg some (by kernel_rfl))
 f332:=Tryz.func117.trans (congrArg some (by kernel_rfl))
 f343:=Tryz.func135.trans (congrArg some (by kernel_rfl))
 t0:=Tryz.underlying0
 a0:=Tryz.isAgg0
 z0:=Tryz.sizeOf0
 v0:=Tryz.zeroValue0
 t3:=Tryz.underlying3
 a3:=Tryz.isAgg3
 z3:=Tryz.sizeOf3
 v3:=Tryz.zeroValue3
 t4:=Tryz.underlying4
 a4:=Tryz.isAgg4
 z4:=Tryz.sizeOf4
 v4:=Tryz.zeroValue4
 t5:=Tryz.underlying5
 a5:=Tryz.isAgg5
 z5:=Tryz.sizeOf5
 v5:=Tryz.zeroValue5
 t9:=Tryz.underlying9
 a9:=Tryz.isAgg9
 z9:=Tryz.sizeOf9
 v9:=Tryz.zeroValue9
 t28:=Tryz.underlying31
 a28:=Tryz.isAgg31
 z28:=Tryz.sizeOf31
 v28:=Tryz.zeroValue31
 t46:=Tryz.underlying78
 a46:=Tryz.isAgg78
 z46:=Tryz.sizeOf78
 v46:=Tryz.zeroValue78
 t51:=Tryz.underlying120
 a51:=Tryz.isAgg120
 z51:=Tryz.sizeOf120
 v51:=Tryz.zeroValue120
 t53:=Tryz.underlying122
 a53:=Tryz.isAgg122
 z53:=Tryz.sizeOf122
 v53:=Tryz.zeroValue122
 t131:=Tryz.underlying117
 a131:=Tryz.isAgg117
 z131:=Tryz.sizeOf117
 v131:=Tryz.zeroValue117
 t182:=Tryz.underlying111
 a182:=Tryz.isAgg111
 z182:=Tryz.sizeOf111
 v182:=Tryz.zeroValue111
 t183:=Tryz.underlying112
 a183:=Tryz.isAgg112
 z183:=Tryz.sizeOf112
 v183:=Tryz.zeroValue112
 t218:=Tryz.underlying139
 a218:=Tryz.isAgg139
 z218:=Tryz.sizeOf139
 v218:=Tryz.zeroValue139
 t222:=Tryz.underlying143
 a222:=Tryz.isAgg143
 z222:=Tryz.sizeOf143
 v222:=Tryz.zeroValue143
 t228:=Tryz.underlying155
 a228:=Tryz.isAgg155
 z228:=Tryz.sizeOf155
 v228:=Tryz.zeroValue155
 t229:=Tryz.underlying156
 a229:=Tryz.isAgg156
 z229:=Tryz.sizeOf156
 v229:=Tryz.zeroValue156}
instance XM:aQ Tryz.prog 32:=⟨Tryz.call32⟩
def Ns:Go.Shelf.Ren:=⟨fun|20=>32|n=>n,fun|22=>31|3=>3|4=>4|0=>0|n=>n,fun|n=>n⟩
theorem IL:Go.Proofs.Lays2.n20 Tryz.prog Ns:={
 mixed:=by kernel_rfl
 f20:=Tryz.func32.trans (congrArg some (by kernel_rfl))
 t0:=Tryz.underlying0
 a0:=Tryz.isAgg0
 z0:=Tryz.sizeOf0
 v0:=Tryz.zeroValue0
 t3:=Tryz.underlying3
 a3:=Tryz.isAgg3
 z3:=Tryz.sizeOf3
 v3:=Tryz.zeroValue3
 t4:=Tryz.underlying4
 a4:=Tryz.isAgg4
 z4:=Tryz.sizeOf4
 v4:=Tryz.zeroValue4
 t22:=Tryz.underlying31
 a22:=Tryz.isAgg31
 z22:=Tryz.sizeOf31
 v22:=Tryz.zeroValue31
 i3:=by kernel_rfl}
instance T_:aQ Tryz.prog 11:=⟨Tryz.call11⟩
instance XN:aQ Tryz.prog 33:=⟨Tryz.call33⟩
instance Ua:aQ Tryz.prog 54:=⟨Tryz.call54⟩
theorem Dk{a:Int}:∀F H e,(ay aF) F H e a->e.cells.toList[0]?=some (.int .i64 a):=by
 intro F H e h
 obtain⟨-,h⟩:=h
 subst h
 rfl
instance Wh:aQ Tryz.prog 9:=⟨Tryz.call9⟩
instance XO:aQ Tryz.prog 12:=⟨Tryz.call12⟩
instance Ub:aQ Tryz.prog 34:=⟨Tryz.call34⟩
instance Uc:aQ Tryz.prog 13:=⟨Tryz.call13⟩
instance kE:mr Tryz.prog 57 9:=⟨ve⟩
instance jQ:gQ Tryz.prog 9 1 16 (.string ⟨[].toArray⟩):=⟨oH⟩
instance Kv:aQ Tryz.prog 36:=⟨Tryz.call36⟩
def Ha:Go.Shelf.Ren:=⟨fun|156=>36|165=>58|166=>59|169=>60|240=>95|241=>96|276=>121|277=>122|n=>n,fun|31=>57|9=>9|3=>3|4=>4|0=>0|20=>20|72=>85|76=>89|70=>83|37=>22|75=>88|127=>125|164=>146|5=>5|80=>91|n=>n,fun|n=>n⟩
theorem Jk:Go.Proofs.Lays.n156 Tryz.prog Ha:={
 mixed:=by kernel_rfl
 f156:=Tryz.func36.trans (congrArg some (by kernel_rfl))
 f165:=Tryz.func58.trans (congrArg some (by kernel_rfl))
 f166:=Tryz.func59.trans (congrArg some (by kernel_rfl))
 f169:=Tryz.func60.trans (congrArg some (by kernel_rfl))
 f240:=Tryz.func95.trans (congrArg some (by kernel_rfl))
 f241:=Tryz.func96.trans (congrArg some (by kernel_rfl))
 f276:=Tryz.func121.trans (congrArg some (by kernel_rfl))
 f277:=Tryz.func122.trans (congrArg some (by kernel_rfl))
 t0:=Tryz.underlying0
 a0:=Tryz.isAgg0
 z0:=Tryz.sizeOf0
 v0:=Tryz.zeroValue0
 t3:=Tryz.underlying3
 a3:=Tryz.isAgg3
 z3:=Tryz.sizeOf3
 v3:=Tryz.zeroValue3
 t4:=Tryz.underlying4
 a4:=Tryz.isAgg4
 z4:=Tryz.sizeOf4
 v4:=Tryz.zeroValue4
 t9:=Tryz.underlying9
 a9:=Tryz.isAgg9
 z9:=Tryz.sizeOf9
 v9:=Tryz.zeroValue9
 t20:=Tryz.underlying20
 a20:=Tryz.isAgg20
 z20:=Tryz.sizeOf20
 v20:=Tryz.zeroValue20
 t31:=Tryz.underlying57
 a31:=Tryz.isAgg57
 z31:=Tryz.sizeOf57
 v31:=Tryz.zeroValue57
 t37:=Tryz.underlying22
 a37:=Tryz.isAgg22
 z37:=Tryz.sizeOf22
 v37:=Tryz.zeroValue22
 t70:=Tryz.underlying83
 a70:=Tryz.isAgg83
 z70:=Tryz.sizeOf83
 v70:=Tryz.zeroValue83
 t72:=Tryz.underlying85
 a72:=Tryz.isAgg85
 z72:=Tryz.sizeOf85
 v72:=Tryz.zeroValue85
 t75:=Tryz.underlying88
 a75:=Tryz.isAgg88
 z75:=Tryz.sizeOf88
 v75:=Tryz.zeroValue88
 t76:=Tryz.underlying89
 a76:=Tryz.isAgg89
 z76:=Tryz.sizeOf89
 v76:=Tryz.zeroValue89
 t127:=Tryz.underlying125
 a127:=Tryz.isAgg125
 z127:=Tryz.sizeOf125
 v127:=Tryz.zeroValue125
 t164:=Tryz.underlying146
 a164:=Tryz.isAgg146
 z164:=Tryz.sizeOf146
 v164:=Tryz.zeroValue146}
theorem extra:Go.Proofs.Builder.Extra Tryz.prog Ha:={
 sizeBuilder:=by kernel_rfl
 liesBuilder:=by kernel_rfl
 t5:=Tryz.underlying5
 a5:=Tryz.isAgg5
 z5:=Tryz.sizeOf5
 v5:=Tryz.zeroValue5
 infoByte:=by kernel_rfl
 cellsByte:=by kernel_rfl
 sizeByte:=by kernel_rfl
 neB5:=by decide}
instance Ud:aQ Tryz.prog 35:=⟨Tryz.call35⟩
instance XP:aQ Tryz.prog 55:=⟨Tryz.call55⟩
instance XQ:aQ Tryz.prog 91:=⟨Tryz.call91⟩
instance Xa:aQ Tryz.prog 119:=⟨Tryz.call119⟩
instance Ue:aQ Tryz.prog 92:=⟨Tryz.call92⟩
instance XR:aQ Tryz.prog 93:=⟨Tryz.call93⟩
instance Uf:aQ Tryz.prog 56:=⟨Tryz.call56⟩
instance XT:aQ Tryz.prog 94:=⟨Tryz.call94⟩
def Nt:Go.Shelf.Ren:=⟨fun|171=>94|243=>120|246=>136|283=>145|284=>146|285=>147|286=>148|129=>90|317=>156|318=>157|319=>158|320=>159|337=>163|338=>164|n=>n,fun|3=>3|9=>9|2=>2|4=>4|171=>161|0=>0|53=>122|37=>22|5=>5|173=>163|212=>178|51=>120|20=>20|213=>179|46=>78|232=>191|233=>192|n=>n,fun|17=>3|18=>6|19=>7|n=>n⟩
theorem Pw:Go.Proofs.LaysM.n171 Tryz.prog Nt:={
 mixed:=by kernel_rfl
 f129:=Tryz.func90.trans (congrArg some (by kernel_rfl))
 f171:=Tryz.func94.trans (congrArg some (by kernel_rfl))
 f243:=Tryz.func120.trans (congrArg some (by kernel_rfl))
 f246:=Tryz.func136.trans (congrArg some (by kernel_rfl))
 f283:=Tryz.func145.trans (congrArg some (by kernel_rfl))
 f284:=Tryz.func146.trans (congrArg some (by kernel_rfl))
 f285:=Tryz.func147.trans (congrArg some (by kernel_rfl))
 f286:=Tryz.func148.trans (congrArg some (by kernel_rfl))
 f317:=Tryz.func156.trans (congrArg some (by kernel_rfl))
 f318:=Tryz.func157.trans (congrArg some (by kernel_rfl))
 f319:=Tryz.func158.trans (congrArg some (by kernel_rfl))
 f320:=Tryz.func159.trans (congrArg some (by kernel_rfl))
 f337:=Tryz.func163.trans (congrArg some (by kernel_rfl))
 f338:=Tryz.func164.trans (congrArg some (by kernel_rfl))
 t0:=Tryz.underlying0
 a0:=Tryz.isAgg0
 z0:=Tryz.sizeOf0
 v0:=Tryz.zeroValue0
 t2:=Tryz.underlying2
 a2:=Tryz.isAgg2
 z2:=Tryz.sizeOf2
 v2:=Tryz.zeroValue2
 t3:=Tryz.underlying3
 a3:=Tryz.isAgg3
 z3:=Tryz.sizeOf3
 v3:=Tryz.zeroValue3
 t4:=Tryz.underlying4
 a4:=Tryz.isAgg4
 z4:=Tryz.sizeOf4
 v4:=Tryz.zeroValue4
 t5:=Tryz.underlying5
 a5:=Tryz.isAgg5
 z5:=Tryz.sizeOf5
 v5:=Tryz.zeroValue5
 t9:=Tryz.underlying9
 a9:=Tryz.isAgg9
 z9:=Tryz.sizeOf9
 v9:=Tryz.zeroValue9
 t20:=Tryz.underlying20
 a20:=Tryz.isAgg20
 z20:=Tryz.sizeOf20
 v20:=Tryz.zeroValue20
 t37:=Tryz.underlying22
 a37:=Tryz.isAgg22
 z37:=Tryz.sizeOf22
 v37:=Tryz.zeroValue22
 t46:=Tryz.underlying78
 a46:=Tryz.isAgg78
 z46:=Tryz.sizeOf78
 v46:=Tryz.zeroValue78
 t51:=Tryz.underlying120
 a51:=Tryz.isAgg120
 z51:=Tryz.sizeOf120
 v51:=Tryz.zeroValue120
 t53:=Tryz.underlying122
 a53:=Tryz.isAgg122
 z53:=Tryz.sizeOf122
 v53:=Tryz.zeroValue122
 t171:=Tryz.underlying161
 a171:=Tryz.isAgg161
 z171:=Tryz.sizeOf161
 v171:=Tryz.zeroValue161
 t173:=Tryz.underlying163
 a173:=Tryz.isAgg163
 z173:=Tryz.sizeOf163
 v173:=Tryz.zeroValue163
 t212:=Tryz.underlying178
 a212:=Tryz.isAgg178
 z212:=Tryz.sizeOf178
 v212:=Tryz.zeroValue178
 t213:=Tryz.underlying179
 a213:=Tryz.isAgg179
 z213:=Tryz.sizeOf179
 t232:=Tryz.underlying191
 a232:=Tryz.isAgg191
 z232:=Tryz.sizeOf191
 v232:=Tryz.zeroValue191
 t233:=Tryz.underlying192
 a233:=Tryz.isAgg192
 z233:=Tryz.sizeOf192
 v233:=Tryz.zeroValue192
 g17:=by kernel_rfl
 g18:=by kernel_rfl
 g19:=by kernel_rfl
 i0:=by kernel_rfl
 i2:=by kernel_rfl
 i3:=by kernel_rfl
 i4:=by kernel_rfl
 i5:=by kernel_rfl
 i9:=by kernel_rfl
 i20:=by kernel_rfl
 i37:=by kernel_rfl
 i46:=by kernel_rfl
 i51:=by kernel_rfl
 i53:=by kernel_rfl
 i171:=by kernel_rfl
 i173:=by kernel_rfl
 i212:=by kernel_rfl
 i232:=by kernel_rfl
 i233:=by kernel_rfl
 m17:=by kernel_rfl
 m18:=by kernel_rfl
 m19:=by kernel_rfl}
instance XU:aQ Tryz.prog 57:=⟨Tryz.call57⟩
theorem AU:nX Tryz.prog 57:=.inr ⟨9,by kernel_rfl⟩
instance XV:aQ Tryz.prog 14:=⟨Tryz.call14⟩
instance XW:aQ Tryz.prog 37:=⟨Tryz.call37⟩
instance XX:aQ Tryz.prog 61:=⟨Tryz.call61⟩
def NK:Go.Shelf.Ren:=⟨fun|221=>61|268=>97|138=>98|143=>99|195=>123|197=>124|218=>125|219=>126|260=>137|217=>138|225=>139|224=>140|267=>141|266=>149|314=>150|n=>n,fun|9=>9|3=>3|31=>57|4=>4|0=>0|105=>149|21=>21|5=>5|46=>78|119=>165|139=>168|138=>167|146=>169|51=>120|n=>n,fun|1=>0|3=>1|4=>2|n=>n⟩
theorem P9:Go.Proofs.Lays.n221 Tryz.prog NK:={
 mixed:=by kernel_rfl
 f138:=Tryz.func98.trans (congrArg some (by kernel_rfl))
 f143:=Tryz.func99.trans (congrArg some (by kernel_rfl))
 f195:=Tryz.func123.trans (congrArg some (by kernel_rfl))
 f197:=Tryz.func124.trans (congrArg some (by kernel_rfl))
 f217:=Tryz.func138.trans (congrArg some (by kernel_rfl))
 f218:=Tryz.func125.trans (congrArg some (by kernel_rfl))
 f219:=Tryz.func126.trans (congrArg some (by kernel_rfl))
 f221:=Tryz.func61.trans (congrArg some (by kernel_rfl))
 f224:=Tryz.func140.trans (congrArg some (by kernel_rfl))
 f225:=Tryz.func139.trans (congrArg some (by kernel_rfl))
 f260:=Tryz.func137.trans (congrArg some (by kernel_rfl))
 f266:=Tryz.func149.trans (congrArg some (by kernel_rfl))
 f267:=Tryz.func141.trans (congrArg some (by kernel_rfl))
 f268:=Tryz.func97.trans (congrArg some (by kernel_rfl))
 f314:=Tryz.func150.trans (congrArg some (by kernel_rfl))
 t0:=Tryz.underlying0
 a0:=Tryz.isAgg0
 z0:=Tryz.sizeOf0
 v0:=Tryz.zeroValue0
 t3:=Tryz.underlying3
 a3:=Tryz.isAgg3
 z3:=Tryz.sizeOf3
 v3:=Tryz.zeroValue3
 t4:=Tryz.underlying4
 a4:=Tryz.isAgg4
 z4:=Tryz.sizeOf4
 v4:=Tryz.zeroValue4
 t5:=Tryz.underlying5
 a5:=Tryz.isAgg5
 z5:=Tryz.sizeOf5
 v5:=Tryz.zeroValue5
 t9:=Tryz.underlying9
 a9:=Tryz.isAgg9
 z9:=Tryz.sizeOf9
 v9:=Tryz.zeroValue9
 t21:=Tryz.underlying21
 a21:=Tryz.isAgg21
 z21:=Tryz.sizeOf21
 v21:=Tryz.zeroValue21
 t31:=Tryz.underlying57
 a31:=Tryz.isAgg57
 z31:=Tryz.sizeOf57
 v31:=Tryz.zeroValue57
 t46:=Tryz.underlying78
 a46:=Tryz.isAgg78
 z46:=Tryz.sizeOf78
 v46:=Tryz.zeroValue78
 t51:=Tryz.underlying120
 a51:=Tryz.isAgg120
 z51:=Tryz.sizeOf120
 v51:=Tryz.zeroValue120
 t105:=Tryz.underlying149
 a105:=Tryz.isAgg149
 z105:=Tryz.sizeOf149
 v105:=Tryz.zeroValue149
 t119:=Tryz.underlying165
 a119:=Tryz.isAgg165
 z119:=Tryz.sizeOf165
 t138:=Tryz.underlying167
 a138:=Tryz.isAgg167
 z138:=Tryz.sizeOf167
 v138:=Tryz.zeroValue167
 t139:=Tryz.underlying168
 a139:=Tryz.isAgg168
 z139:=Tryz.sizeOf168
 v139:=Tryz.zeroValue168
 t146:=Tryz.underlying169
 a146:=Tryz.isAgg169
 z146:=Tryz.sizeOf169
 v146:=Tryz.zeroValue169
 g1:=by kernel_rfl
 g3:=by kernel_rfl
 g4:=by kernel_rfl}
theorem hi9:(Tryz.prog.info? 9).map (fun i=>(i.zero,i.size,i.bytes))=some (some (.string ByteArray.empty),1,16):=by kernel_rfl
theorem Az{a:List UInt8}:∀H e,rdStr H e a->e.cells.toList[0]?=some (sv a):=by
 intro H e h
 subst h
 rfl
instance Wi:gP Tryz.prog 9 false:=⟨oG⟩
instance XY:aQ Tryz.prog 38:=⟨Tryz.call38⟩
instance XZ:aQ Tryz.prog 62:=⟨Tryz.call62⟩
instance Xb:aQ Tryz.prog 100:=⟨Tryz.call100⟩
instance Xc:aQ Tryz.prog 127:=⟨Tryz.call127⟩
instance Xd:aQ Tryz.prog 126:=⟨Tryz.call126⟩
def NL:Go.Shelf.Ren:=⟨fun|219=>126|217=>138|225=>139|224=>140|267=>141|266=>149|314=>150|n=>n,fun|9=>9|3=>3|4=>4|5=>5|46=>78|146=>169|51=>120|n=>n,fun|1=>0|n=>n⟩
theorem P_:Go.Proofs.Lays.n219 Tryz.prog NL:={
 mixed:=by kernel_rfl
 f217:=Tryz.func138.trans (congrArg some (by kernel_rfl))
 f219:=Tryz.func126.trans (congrArg some (by kernel_rfl))
 f224:=Tryz.func140.trans (congrArg some (by kernel_rfl))
 f225:=Tryz.func139.trans (congrArg some (by kernel_rfl))
 f266:=Tryz.func149.trans (congrArg some (by kernel_rfl))
 f267:=Tryz.func141.trans (congrArg some (by kernel_rfl))
 f314:=Tryz.func150.trans (congrArg some (by kernel_rfl))
 t3:=Tryz.underlying3
 a3:=Tryz.isAgg3
 z3:=Tryz.sizeOf3
 v3:=Tryz.zeroValue3
 t4:=Tryz.underlying4
 a4:=Tryz.isAgg4
 z4:=Tryz.sizeOf4
 v4:=Tryz.zeroValue4
 t5:=Tryz.underlying5
 a5:=Tryz.isAgg5
 z5:=Tryz.sizeOf5
 v5:=Tryz.zeroValue5
 t9:=Tryz.underlying9
 a9:=Tryz.isAgg9
 z9:=Tryz.sizeOf9
 v9:=Tryz.zeroValue9
 t46:=Tryz.underlying78
 a46:=Tryz.isAgg78
 z46:=Tryz.sizeOf78
 v46:=Tryz.zeroValue78
 t51:=Tryz.underlying120
 a51:=Tryz.isAgg120
 z51:=Tryz.sizeOf120
 v51:=Tryz.zeroValue120
 t146:=Tryz.underlying169
 a146:=Tryz.isAgg169
 z146:=Tryz.sizeOf169
 v146:=Tryz.zeroValue169
 g1:=by kernel_rfl}
theorem dw:Fw.ST Tryz.prog 9:=by unfold Fw.ST; kernel_rfl
instance Xe:aQ Tryz.prog 102:=⟨Tryz.call102⟩
instance Xf:aQ Tryz.prog 129:=⟨Tryz.call129⟩
instance Xg:aQ Tryz.prog 144:=⟨Tryz.call144⟩
instance Xh:aQ Tryz.prog 101:=⟨Tryz.call101⟩
instance RN:aQ Tryz.prog 128:=⟨Tryz.call128⟩
def Nu:Go.Shelf.Ren:=⟨fun|172=>128|244=>142|245=>143|247=>151|279=>152|280=>153|281=>154|282=>155|287=>160|316=>161|171=>94|205=>162|321=>165|322=>166|243=>120|246=>136|283=>145|284=>146|285=>147|286=>148|129=>90|317=>156|318=>157|319=>158|320=>159|337=>163|338=>164|n=>n,fun|9=>9|3=>3|75=>88|76=>89|4=>4|5=>5|167=>171|37=>22|0=>0|85=>172|2=>2|168=>174|53=>122|175=>180|46=>78|210=>184|127=>125|145=>190|143=>188|21=>21|171=>161|173=>163|212=>178|51=>120|20=>20|213=>179|232=>191|233=>192|80=>91|n=>n,fun|15=>4|16=>5|17=>3|18=>6|19=>7|n=>n⟩
theorem Px:Go.Proofs.LaysC.n172 Tryz.prog Nu:={
 mixed:=by kernel_rfl
 f129:=Tryz.func90.trans (congrArg some (by kernel_rfl))
 f171:=Tryz.func94.trans (congrArg some (by kernel_rfl))
 f172:=Tryz.func128.trans (congrArg some (by kernel_rfl))
 f205:=Tryz.func162.trans (congrArg some (by kernel_rfl))
 f243:=Tryz.func120.trans (congrArg some (by kernel_rfl))
 f244:=Tryz.func142.trans (congrArg some (by kernel_rfl))
 f245:=Tryz.func143.trans (congrArg some (by kernel_rfl))
 f246:=Tryz.func136.trans (congrArg some (by kernel_rfl))
 f247:=Tryz.func151.trans (congrArg some (by kernel_rfl))
 f279:=Tryz.func152.trans (congrArg some (by kernel_rfl))
 f280:=Tryz.func153.trans (congrArg some (by kernel_rfl))
 f281:=Tryz.func154.trans (congrArg some (by kernel_rfl))
 f282:=Tryz.func155.trans (congrArg some (by kernel_rfl))
 f283:=Tryz.func145.trans (congrArg some (by kernel_rfl))
 f284:=Tryz.func146.trans (congrArg some (by kernel_rfl))
 f285:=Tryz.func147.trans (congrArg some (by kernel_rfl))
 f286:=Tryz.func148.trans (congrArg some (by kernel_rfl))
 f287:=Tryz.func160.trans (congrArg some (by kernel_rfl))
 f316:=Tryz.func161.trans (congrArg some (by kernel_rfl))
 f317:=Tryz.func156.trans (congrArg some (by kernel_rfl))
 f318:=Tryz.func157.trans (congrArg some (by kernel_rfl))
 f319:=Tryz.func158.trans (congrArg some (by kernel_rfl))
 f320:=Tryz.func159.trans (congrArg some (by kernel_rfl))
 f321:=Tryz.func165.trans (congrArg some (by kernel_rfl))
 f322:=Tryz.func166.trans (congrArg some (by kernel_rfl))
 f337:=Tryz.func163.trans (congrArg some (by kernel_rfl))
 f338:=Tryz.func164.trans (congrArg some (by kernel_rfl))
 t0:=Tryz.underlying0
 a0:=Tryz.isAgg0
 z0:=Tryz.sizeOf0
 v0:=Tryz.zeroValue0
 t2:=Tryz.underlying2
 a2:=Tryz.isAgg2
 z2:=Tryz.sizeOf2
 v2:=Tryz.zeroValue2
 t3:=Tryz.underlying3
 a3:=Tryz.isAgg3
 z3:=Tryz.sizeOf3
 v3:=Tryz.zeroValue3
 t4:=Tryz.underlying4
 a4:=Tryz.isAgg4
 z4:=Tryz.sizeOf4
 v4:=Tryz.zeroValue4
 t5:=Tryz.underlying5
 a5:=Tryz.isAgg5
 z5:=Tryz.sizeOf5
 v5:=Tryz.zeroValue5
 t9:=Tryz.underlying9
 a9:=Tryz.isAgg9
 z9:=Tryz.sizeOf9
 v9:=Tryz.zeroValue9
 t20:=Tryz.underlying20
 a20:=Tryz.isAgg20
 z20:=Tryz.sizeOf20
 v20:=Tryz.zeroValue20
 t21:=Tryz.underlying21
 a21:=Tryz.isAgg21
 z21:=Tryz.sizeOf21
 v21:=Tryz.zeroValue21
 t37:=Tryz.underlying22
 a37:=Tryz.isAgg22
 z37:=Tryz.sizeOf22
 v37:=Tryz.zeroValue22
 t46:=Tryz.underlying78
 a46:=Tryz.isAgg78
 z46:=Tryz.sizeOf78
 v46:=Tryz.zeroValue78
 t51:=Tryz.underlying120
 a51:=Tryz.isAgg120
 z51:=Tryz.sizeOf120
 v51:=Tryz.zeroValue120
 t53:=Tryz.underlying122
 a53:=Tryz.isAgg122
 z53:=Tryz.sizeOf122
 v53:=Tryz.zeroValue122
 t75:=Tryz.underlying88
 a75:=Tryz.isAgg88
 z75:=Tryz.sizeOf88
 v75:=Tryz.zeroValue88
 t76:=Tryz.underlying89
 a76:=Tryz.isAgg89
 z76:=Tryz.sizeOf89
 v76:=Tryz.zeroValue89
 t85:=Tryz.underlying172
 a85:=Tryz.isAgg172
 z85:=Tryz.sizeOf172
 v85:=Tryz.zeroValue172
 t127:=Tryz.underlying125
 a127:=Tryz.isAgg125
 z127:=Tryz.sizeOf125
 v127:=Tryz.zeroValue125
 t143:=Tryz.underlying188
 a143:=Tryz.isAgg188
 z143:=Tryz.sizeOf188
 v143:=Tryz.zeroValue188
 t145:=Tryz.underlying190
 a145:=Tryz.isAgg190
 z145:=Tryz.sizeOf190
 v145:=Tryz.zeroValue190
 t167:=Tryz.underlying171
 a167:=Tryz.isAgg171
 z167:=Tryz.sizeOf171
 v167:=Tryz.zeroValue171
 t168:=Tryz.underlying174
 a168:=Tryz.isAgg174
 z168:=Tryz.sizeOf174
 v168:=Tryz.zeroValue174
 t171:=Tryz.underlying161
 a171:=Tryz.isAgg161
 z171:=Tryz.sizeOf161
 v171:=Tryz.zeroValue161
 t173:=Tryz.underlying163
 a173:=Tryz.isAgg163
 z173:=Tryz.sizeOf163
 v173:=Tryz.zeroValue163
 t175:=Tryz.underlying180
 a175:=Tryz.isAgg180
 z175:=Tryz.sizeOf180
 v175:=Tryz.zeroValue180
 t210:=Tryz.underlying184
 a210:=Tryz.isAgg184
 z210:=Tryz.sizeOf184
 v210:=Tryz.zeroValue184
 t212:=Tryz.underlying178
 a212:=Tryz.isAgg178
 z212:=Tryz.sizeOf178
 v212:=Tryz.zeroValue178
 t213:=Tryz.underlying179
 a213:=Tryz.isAgg179
 z213:=Tryz.sizeOf179
 t232:=Tryz.underlying191
 a232:=Tryz.isAgg191
 z232:=Tryz.sizeOf191
 v232:=Tryz.zeroValue191
 t233:=Tryz.underlying192
 a233:=Tryz.isAgg192
 z233:=Tryz.sizeOf192
 v233:=Tryz.zeroValue192
 g15:=by kernel_rfl
 g16:=by kernel_rfl
 g17:=by kernel_rfl
 g18:=by kernel_rfl
 g19:=by kernel_rfl
 t80:=Tryz.underlying91
 a80:=Tryz.isAgg91
 z80:=Tryz.sizeOf91
 v80:=Tryz.zeroValue91
 i0:=by kernel_rfl
 i2:=by kernel_rfl
 i3:=by kernel_rfl
 i4:=by kernel_rfl
 i5:=by kernel_rfl
 i9:=by kernel_rfl
 i20:=by kernel_rfl
 i21:=by kernel_rfl
 i37:=by kernel_rfl
 i46:=by kernel_rfl
 i51:=by kernel_rfl
 i53:=by kernel_rfl
 i75:=by kernel_rfl
 i76:=by kernel_rfl
 i80:=by kernel_rfl
 i85:=by kernel_rfl
 i127:=by kernel_rfl
 i143:=by kernel_rfl
 i145:=by kernel_rfl
 i167:=by kernel_rfl
 i168:=by kernel_rfl
 i171:=by kernel_rfl
 i173:=by kernel_rfl
 i175:=by kernel_rfl
 i210:=by kernel_rfl
 i212:=by kernel_rfl
 i232:=by kernel_rfl
 i233:=by kernel_rfl
 m15:=by kernel_rfl
 m16:=by kernel_rfl
 m17:=by kernel_rfl
 m18:=by kernel_rfl
 m19:=by kernel_rfl
 c0:=by kernel_rfl
 c2:=by kernel_rfl
 c3:=by kernel_rfl
 c4:=by kernel_rfl
 c5:=by kernel_rfl
 c9:=by kernel_rfl
 c20:=by kernel_rfl
 c21:=by kernel_rfl
 c37:=by kernel_rfl
 c46:=by kernel_rfl
 c51:=by kernel_rfl
 c53:=by kernel_rfl
 c75:=by kernel_rfl
 c76:=by kernel_rfl
 c80:=by kernel_rfl
 c85:=by kernel_rfl
 c127:=by kernel_rfl
 c143:=by kernel_rfl
 c145:=by kernel_rfl
 c167:=by kernel_rfl
 c168:=by kernel_rfl
 c171:=by kernel_rfl
 c173:=by kernel_rfl
 c175:=by kernel_rfl
 c210:=by kernel_rfl
 c212:=by kernel_rfl
 c213:=by kernel_rfl
 c232:=by kernel_rfl
 c233:=by kernel_rfl}
theorem RO:Tryz.prog.underlying 88=some (.interface (Tryz.prog.methodsAt 88)):=by kernel_rfl
instance Xi:aQ Tryz.prog 103:=⟨Tryz.call103⟩
instance Xj:aQ Tryz.prog 130:=⟨Tryz.call130⟩
instance Xk:aQ Tryz.prog 104:=⟨Tryz.call104⟩
instance Xl:aQ Tryz.prog 131:=⟨Tryz.call131⟩
instance X0:aQ Tryz.prog 63:=⟨Tryz.call63⟩
instance X3:aQ Tryz.prog 15:=⟨Tryz.call15⟩
instance AV:aQ Tryz.prog 18:=⟨Tryz.call18⟩
instance X4:aQ Tryz.prog 45:=⟨Tryz.call45⟩
instance X5:aQ Tryz.prog 67:=⟨Tryz.call67⟩
theorem xX:Tryz.prog.underlying 9=some .string:=by kernel_rfl
instance X6:aQ Tryz.prog 68:=⟨Tryz.call68⟩
instance Ug:aQ Tryz.prog 41:=⟨Tryz.call41⟩
instance X7:aQ Tryz.prog 65:=⟨Tryz.call65⟩
theorem AX:nX Tryz.prog 22:=.inr ⟨5,by kernel_rfl⟩
instance Uh:aQ Tryz.prog 42:=⟨Tryz.call42⟩
instance X8:aQ Tryz.prog 16:=⟨Tryz.call16⟩
instance X9:aQ Tryz.prog 43:=⟨Tryz.call43⟩
theorem RP{a:List UInt8}:∀F H e,(ay rdStr) F H e a->e.cells.toList[0]?=some (sv a):=by
 intro F H e h
 obtain⟨-,h⟩:=h
 subst h
 rfl
instance X_:aQ Tryz.prog 44:=⟨Tryz.call44⟩
instance Ui:aQ Tryz.prog 66:=⟨Tryz.call66⟩
instance Xm:aQ Tryz.prog 105:=⟨Tryz.call105⟩
instance Ya:aQ Tryz.prog 17:=⟨Tryz.call17⟩
instance Kw:aQ Tryz.prog 19:=⟨Tryz.call19⟩
instance Uj:aQ Tryz.prog 46:=⟨Tryz.call46⟩
instance Yb:aQ Tryz.prog 69:=⟨Tryz.call69⟩
instance Uk:aQ Tryz.prog 70:=⟨Tryz.call70⟩
instance Xn:aQ Tryz.prog 106:=⟨Tryz.call106⟩
instance Ky:aQ Tryz.prog 20:=⟨Tryz.call20⟩
instance Kz:aQ Tryz.prog 21:=⟨Tryz.call21⟩
instance KA:aQ Tryz.prog 22:=⟨Tryz.call22⟩
theorem zI{α β:Type}{l:List α}{i:Int}{f:α->Option β}{R:β}{G:Prop}(hF:(ix l i).bind f=some R)(k:∀x,0<=i->l[i.toNat]?=some x->f x=some R->G):G:=by
 obtain⟨x,h,e⟩:=Option.bind_eq_some_iff.1 hF
 obtain⟨h1,h2⟩:=nT h
 exact k x h1 h2 e
theorem oD{G N:Prop}(k:N)(h:N->G:=by (intro k; (iterate 10 refine au ?_); exact k)):G:=h k
theorem lY{G N:Prop}(k:N)(h:N->G:=by (intro k; (iterate 11 refine au ?_); exact k)):G:=h k
theorem Ka{G N:Prop}(k:N)(h:N->G:=by (intro k; (iterate 12 refine au ?_); exact k)):G:=h k
theorem RQ{G N:Prop}(k:N)(h:N->G:=by (intro k; (iterate 13 refine au ?_); exact k)):G:=h k
theorem Dn{G N:Prop}(k:N)(h:N->G:=by (intro k; (iterate 14 refine au ?_); exact k)):G:=h k
theorem aG{G N:Prop}(k:N)(h:N->G:=by (intro k; (iterate 2 refine au ?_); exact k)):G:=h k
theorem aU{G N:Prop}(k:N)(h:N->G:=by (intro k; (iterate 3 refine au ?_); exact k)):G:=h k
theorem aM{G N:Prop}(k:N)(h:N->G:=by (intro k; (iterate 4 refine au ?_); exact k)):G:=h k
theorem aV{G N:Prop}(k:N)(h:N->G:=by (intro k; (iterate 5 refine au ?_); exact k)):G:=h k
theorem bC{G N:Prop}(k:N)(h:N->G:=by (intro k; (iterate 6 refine au ?_); exact k)):G:=h k
theorem bE{G N:Prop}(k:N)(h:N->G:=by (intro k; (iterate 7 refine au ?_); exact k)):G:=h k
theorem g_{G N:Prop}(k:N)(h:N->G:=by (intro k; (iterate 8 refine au ?_); exact k)):G:=h k
theorem fO{G N:Prop}(k:N)(h:N->G:=by (intro k; (iterate 9 refine au ?_); exact k)):G:=h k
theorem dL(b:Bool):b=true\/b=false:=Bool.eq_false_or_eq_true b
theorem bq{α:Sort _}{a b:α}:cond false a b=b:=rfl
theorem bu{α:Sort _}{a b:α}:cond true a b=a:=rfl
theorem dQ{G N:Prop}(k:N)(h:N->G:=by (intro k; (iterate 2 refine du ?_); exact k)):G:=h k
theorem jA{G N:Prop}(k:N)(h:N->G:=by (intro k; (iterate 3 refine du ?_); exact k)):G:=h k
theorem xY{G N:Prop}(k:N)(h:N->G:=by (intro k; (iterate 4 refine du ?_); exact k)):G:=h k
theorem DF{G N:Prop}(k:N)(h:N->G:=by (intro k; (iterate 5 refine du ?_); exact k)):G:=h k
theorem Ul{G N:Prop}(k:N)(h:N->G:=by (intro k; (iterate 8 refine du ?_); exact k)):G:=h k
theorem ze{G P:Prop}(hF:P)(h:P->G:=by (intro hF; (repeat refine au ?_); cases hF; exact Er ())):G:=h hF
theorem dh{G P:Prop}(hF:P)(h:P->G:=by (intro hF; (repeat refine au ?_); cases hF; exact⟨_,_,rfl,aK,aJ⟩)):G:=h hF
theorem KC{G P:Prop}(hF:P)(h:P->G:=by (intro hF; (repeat refine au ?_); cases hF; exact⟨_,_,_,rfl,aK,aJ⟩)):G:=h hF
theorem rT{G P:Prop}(hF:P)(h:P->G:=by (intro hF; (repeat refine du ?_); cases hF; exact⟨_,_,rfl,aK,aJ⟩)):G:=h hF
abbrev zg(l:List Value):Value:=.agg l.toArray
abbrev zi(n:Int):Value:=.int .i64 n
theorem dM(n:Nat):n<n.succ:=Nat.lt_succ_self n
abbrev pW(F:List Nat)(v:Sv):=aS (aH 136 gB) F v.v
abbrev jb(F:List Nat)(v:Sv):=aS (aH 34 fA) F v.v
abbrev nC(F:List Nat)(v:Sv):=aS (aH 36 lu) F v.v
abbrev d_(F:List Nat)(v:Sv):=aS (aH 3 (ay aF)) F v.v
abbrev K4(F:List Nat)(v:Sv):=aS (aH 5 (ay ek)) F v.v
abbrev vJ(F:List Nat)(v:Sv):=aS (aH 9 (ay rdStr)) F v.v
abbrev uX(v:Sv):=bS (bf 136 rJ) v.v
abbrev b_(v:Sv):=bS (bf 3 aF) v.v
abbrev dK(v:Sv):=bS (bf 34 jY) v.v
abbrev jZ(v:Sv):=bS (bf 36 lq) v.v
abbrev dU(v:Sv):=bS (bf 5 ek) v.v
abbrev oO(v:Sv):=bS (bf 9 rdStr) v.v
theorem zx{G N:Prop}(k:N)(h:N->G:=by (intro k; exact ax (Cq (.tmp rfl rfl) rfl) k)):G:=h k
theorem _root_.Go.Fw.Mem.q2{c d0 d1:aj}{l:List aj}:Fw.Mem c (d0::d1::c::l):=.t (.t .h)
theorem _root_.Go.Fw.Mem.q3{c d0 d1 d2:aj}{l:List aj}:Fw.Mem c (d0::d1::d2::c::l):=.t (.t (.t .h))
theorem _root_.Go.Fw.Mem.q4{c d0 d1 d2 d3:aj}{l:List aj}:Fw.Mem c (d0::d1::d2::d3::c::l):=.t (.t (.t (.t .h)))
theorem _root_.Go.Fw.Mem.q5{c d0 d1 d2 d3 d4:aj}{l:List aj}:Fw.Mem c (d0::d1::d2::d3::d4::c::l):=.t (.t (.t (.t (.t .h))))
theorem _root_.Go.Fw.Mem.q6{c d0 d1 d2 d3 d4 d5:aj}{l:List aj}:Fw.Mem c (d0::d1::d2::d3::d4::d5::c::l):=.t (.t (.t (.t (.t (.t .h)))))
theorem _root_.Go.Fw.Mem.q7{c d0 d1 d2 d3 d4 d5 d6:aj}{l:List aj}:Fw.Mem c (d0::d1::d2::d3::d4::d5::d6::c::l):=.t (.t (.t (.t (.t (.t (.t .h))))))
theorem _root_.Go.Fw.Mem.q8{c d0 d1 d2 d3 d4 d5 d6 d7:aj}{l:List aj}:Fw.Mem c (d0::d1::d2::d3::d4::d5::d6::d7::c::l):=.t (.t (.t (.t (.t (.t (.t (.t .h)))))))
theorem _root_.Go.Fw.Sel.q2{c d0 d1:aj}{l:List aj}:Fw.Sel (d0::d1::c::l) c (d0::d1::l):=.t (.t .h)
theorem _root_.Go.Fw.Sel.q3{c d0 d1 d2:aj}{l:List aj}:Fw.Sel (d0::d1::d2::c::l) c (d0::d1::d2::l):=.t (.t (.t .h))
theorem _root_.Go.Fw.Sel.q4{c d0 d1 d2 d3:aj}{l:List aj}:Fw.Sel (d0::d1::d2::d3::c::l) c (d0::d1::d2::d3::l):=.t (.t (.t (.t .h)))
theorem _root_.Go.Fw.Sel.q5{c d0 d1 d2 d3 d4:aj}{l:List aj}:Fw.Sel (d0::d1::d2::d3::d4::c::l) c (d0::d1::d2::d3::d4::l):=.t (.t (.t (.t (.t .h))))
theorem _root_.Go.Fw.Sel.q6{c d0 d1 d2 d3 d4 d5:aj}{l:List aj}:Fw.Sel (d0::d1::d2::d3::d4::d5::c::l) c (d0::d1::d2::d3::d4::d5::l):=.t (.t (.t (.t (.t (.t .h)))))
theorem _root_.Go.Fw.Sel.q7{c d0 d1 d2 d3 d4 d5 d6:aj}{l:List aj}:Fw.Sel (d0::d1::d2::d3::d4::d5::d6::c::l) c (d0::d1::d2::d3::d4::d5::d6::l):=.t (.t (.t (.t (.t (.t (.t .h))))))
theorem _root_.Go.Fw.Sel.q8{c d0 d1 d2 d3 d4 d5 d6 d7:aj}{l:List aj}:Fw.Sel (d0::d1::d2::d3::d4::d5::d6::d7::c::l) c (d0::d1::d2::d3::d4::d5::d6::d7::l):=.t (.t (.t (.t (.t (.t (.t (.t .h)))))))
def AA(bv:List UInt8):Option (Bool):=
 some (decide ((1048576:Int)<(bv.length:Int)))
theorem Py{bv:List UInt8}{ae:Sv}{R:Bool}(hF:AA bv=some R):
   Fw.Spec Tryz.prog 4 [ae.v] [dU ae bv] (fun _:Unit=>(.bool R)) (fun _=>[]):=by
 refine Se 6 Tryz.func4 [.tmp 2] ?_
 intro H0 F0
 unfold AA at hF
 exact ze hF
def q9(bv:List UInt8):Nat->Int->Int->Option (ai)
 |0,_,_=>none
 |m3+1,c1,c2=>if ((decide ((c2:Int)<(bv.length:Int)))&&(decide ((c2:Int)<4000)))then (
     (ix bv c2).bind fun sM=>
     q9 bv m3 (nz .i64 (IntKind.i64.wrap ((IntKind.i64.wrap ((IntKind.i64.wrap (c1*131))+(sM.toNat:Int)))+7)) 1073741823) (IntKind.i64.wrap (c2+1)))
   else (
     some (⟨bv,0,c1⟩:ai))
def xc(bv:List UInt8):Option (ai):=
 q9 bv (((bv.length:Int)-0).toNat+2) (IntKind.i64.wrap (10101+(bv.length:Int))) 0
theorem Hr{bv:List UInt8}{ae:Sv}{R:ai}(hF:xc bv=some R):
   Fw.Spec Tryz.prog 39 [ae.v] [dU ae bv] (fun p:Nat×Sv=>(.pointer (some ⟨p.1,0,some 0⟩))) (fun p=>[bK p.1 98 (zg [p.2.v,(zi R.i),(zi R.h)]),dU p.2 R.b]):=by
 refine Se 32 Tryz.func39 [.tmp 2] ?_
 intro H0 F0
 unfold xc at hF
 refine RQ ?_
 refine bN (dG (m:=(((bv.length:Int)-0).toNat+2)) (fun m3 f' cs'=>∃(g:Fr)(c1 c2:Int),f'=aX g [(0,ae.v),(3,(zi c1)),(4,(zi c2))]/\aT cs' [dU ae bv]/\q9 bv m3 c1 c2=some R) ⟨_,_,_,aK,aJ,hF⟩ ?_)
 rintro m3 _ _ ⟨g4,c1,c2,rfl,hE,hF⟩
 refine bV hE ?_
 rcases m3 with _|m3
 · rw[q9]at hF
   exact absurd hF (by simp)
 rw[q9]at hF
 refine aG ?_
 refine fJ (fun f' cs'=>∃(g:Fr),f'=aX g [(0,ae.v),(3,(zi c1)),(4,(zi c2)),(15,(.bool ((decide ((c2:Int)<(bv.length:Int)))&&(decide ((c2:Int)<4000)))))]/\aT cs' [dU ae bv]) ?_ ?_
 · refine aV ?_
   rcases dL (decide ((c2:Int)<(bv.length:Int)))with l_|l_
   · rw[l_]
     try rw[l_]at hF; dsimp only[bu,bq]at hF
     refine bC ?_
     exact⟨_,aK,aJ⟩
   rw[l_]
   try rw[l_]at hF; dsimp only[bu,bq]at hF
   refine aM ?_
   exact⟨_,aK,aJ⟩
 rintro _ _ ⟨g12,rfl,hE⟩
 refine bV hE ?_
 refine Ci hF (fun kF hF=>?_) (fun kF hF=>?_)
 · refine bE ?_
   refine zI hF fun sM Yc hx16 hF=>?_
   refine Ai hx16 (fun k17 EI=>?_)
   refine Al J9 ?_
   refine ax (ww (u:=sM) iD ko (.tmp rfl rfl)) ?_
   refine aG ?_
   refine ax (Dj (i:=(IntKind.i64.wrap ((IntKind.i64.wrap ((IntKind.i64.wrap (c1*131))+(sM.toNat:Int)))+7))) (j:=1073741823) (.tmp rfl rfl) (.int _ _)) ?_
   refine bE ?_
   exact⟨m3,dM _,_,_,_,aK,aJ,hF⟩
 refine bE ?_
 refine ax (kw TP.h rfl (vs:=[ae.v,(zi c1)]) bi (cells:=[ae.v,(zi 0),(zi c1)]) rfl) ?_
 refine V8 (fun k19=>?_)
 refine aU ?_
 cases hF
 exact Er (k19,ae)
def kT(ah:ai):Option (Int×ai):=
 (AQ .i64 (IntKind.i64.wrap ((IntKind.i64.wrap (ah.h*6364136223846793005))+1442695040888963407)) 33).bind fun x1=>
 (AQ .i64 (IntKind.i64.wrap ((IntKind.i64.wrap (ah.h*6364136223846793005))+1442695040888963407)) 45).bind fun x3=>
 if (decide ((ah.i:Int)<(ah.b.length:Int)))then (
   (ix ah.b ah.i).bind fun x5=>
   some ((nz .i64 (IntKind.i64.wrap ((nz .i64 (lh .i64 x1 x3) 255)+(x5.toNat:Int))) 255),(⟨ah.b,(IntKind.i64.wrap (ah.i+1)),(IntKind.i64.wrap ((IntKind.i64.wrap (ah.h*6364136223846793005))+1442695040888963407))⟩:ai)))
 else (
   some ((nz .i64 (lh .i64 x1 x3) 255),(⟨ah.b,ah.i,(IntKind.i64.wrap ((IntKind.i64.wrap (ah.h*6364136223846793005))+1442695040888963407))⟩:ai)))
theorem qR{aB:Nat}{ah:ai}{ae:Sv}{R:Int×ai}(hF:kT ah=some R):
   Fw.Spec Tryz.prog 64 [(pz aB)] [bK aB 98 (zg [ae.v,(zi ah.i),(zi ah.h)]),dU ae ah.b] (fun _:Unit=>(zi R.1)) (fun _=>[bK aB 98 (zg [ae.v,(zi R.2.i),(zi R.2.h)])]):=by
 refine Se 58 Tryz.func64 [.tmp 2] ?_
 intro H0 F0
 unfold kT at hF
 refine bC ?_
 refine ax (mP (v:=(pz aB)) rfl (.tmp rfl rfl)) ?_
 refine aM ?_
 refine ax (mP (v:=(pz aB)) rfl (.tmp rfl rfl)) ?_
 refine au ?_
 refine As (zg [ae.v,(zi ah.i),(zi (IntKind.i64.wrap ((IntKind.i64.wrap (ah.h*6364136223846793005))+1442695040888963407)))]) ?_
 refine au ?_
 refine gH [0,1,2,3,4,5,6,7,8,9,10,11,12] [0,1,3,7,15,0,32,96,224,480,1023,2047,4095] [] mixed (by decide+kernel) ?_
 refine du ?_
 refine bY rfl .no (fun ha=>mP (v:=(pz aB)) rfl (EN ha (.tmp rfl rfl) rfl)) ?_
 refine du ?_
 refine iJ rfl .no .h (fun ha hp=>fD (v:=(zi (IntKind.i64.wrap ((IntKind.i64.wrap (ah.h*6364136223846793005))+1442695040888963407)))) lC.h (EN ha (.tmp rfl rfl) rfl) hp.2 rfl rfl) ?_
 refine bnd hF fun x1 hx2 hF=>bY rfl .no (fun ha=>J5 (i:=(IntKind.i64.wrap ((IntKind.i64.wrap (ah.h*6364136223846793005))+1442695040888963407))) (j:=33) (EN ha (.tmp rfl rfl) rfl) (EN ha (.int _ _) rfl) hx2) ?_
 refine du ?_
 refine bY rfl .no (fun ha=>mP (v:=(pz aB)) rfl (EN ha (.tmp rfl rfl) rfl)) ?_
 refine du ?_
 refine iJ rfl .no .h (fun ha hp=>fD (v:=(zi (IntKind.i64.wrap ((IntKind.i64.wrap (ah.h*6364136223846793005))+1442695040888963407)))) lC.h (EN ha (.tmp rfl rfl) rfl) hp.2 rfl rfl) ?_
 refine bnd hF fun x3 hx4 hF=>bY rfl .no (fun ha=>J5 (i:=(IntKind.i64.wrap ((IntKind.i64.wrap (ah.h*6364136223846793005))+1442695040888963407))) (j:=45) (EN ha (.tmp rfl rfl) rfl) (EN ha (.int _ _) rfl) hx4) ?_
 refine bY rfl .no (fun ha=>J6 (i:=x1) (j:=x3) (EN ha (.tmp rfl rfl) rfl) (EN ha (.tmp rfl rfl) rfl)) ?_
 refine bY rfl .no (fun ha=>Dj (i:=(lh .i64 x1 x3)) (j:=255) (EN ha (.tmp rfl rfl) rfl) (EN ha (.int _ _) rfl)) ?_
 refine dQ ?_
 refine au ?_
 refine gH [0,1,2,3,4,5,6,7,8,9] [0,1,3,7,0,16,48,112,240,511] [] mixed (by decide+kernel) ?_
 refine du ?_
 refine bY rfl .no (fun ha=>mP (v:=(pz aB)) rfl (EN ha (.tmp rfl rfl) rfl)) ?_
 refine du ?_
 refine iJ rfl .no .h (fun ha hp=>fD (v:=(zi ah.i)) lC.h (EN ha (.tmp rfl rfl) rfl) hp.2 rfl rfl) ?_
 refine du ?_
 refine bY rfl .no (fun ha=>mP (v:=(pz aB)) rfl (EN ha (.tmp rfl rfl) rfl)) ?_
 refine du ?_
 refine iJ rfl .no .h (fun ha hp=>fD (v:=ae.v) Kq.h (EN ha (.tmp rfl rfl) rfl) hp.2 rfl rfl) ?_
 refine jA ?_
 refine Ci hF (fun Um hF=>?_) (fun Um hF=>?_)
 · refine gH [0,1,2,3,4,5,6,7,8,9,10,11,12,13,14] [0,0,2,6,14,0,32,96,224,510,1022,2046,4095,8191,16383] [] mixed (by decide+kernel) ?_
   refine dQ ?_
   refine bY rfl .no (fun ha=>mP (v:=(pz aB)) rfl (EN ha (.tmp rfl rfl) rfl)) ?_
   refine du ?_
   refine iJ rfl .no .h (fun ha hp=>fD (v:=ae.v) Kq.h (EN ha (.tmp rfl rfl) rfl) hp.2 rfl rfl) ?_
   refine du ?_
   refine bY rfl .no (fun ha=>mP (v:=(pz aB)) rfl (EN ha (.tmp rfl rfl) rfl)) ?_
   refine du ?_
   refine iJ rfl .no .h (fun ha hp=>fD (v:=(zi ah.i)) lC.h (EN ha (.tmp rfl rfl) rfl) hp.2 rfl rfl) ?_
   refine zI hF fun x5 Zk iF hF=>?_
   refine Di iF (fun k9 j10=>?_)
   refine Dl J9 ?_
   refine bY rfl .no (fun ha=>ww (u:=x5) iD ko (EN ha (.tmp rfl rfl) rfl)) ?_
   refine du ?_
   refine bY rfl .no (fun ha=>Dj (i:=(IntKind.i64.wrap ((nz .i64 (lh .i64 x1 x3) 255)+(x5.toNat:Int)))) (j:=255) (EN ha (.tmp rfl rfl) rfl) (EN ha (.int _ _) rfl)) ?_
   refine dQ ?_
   refine aU ?_
   refine ax (mP (v:=(pz aB)) rfl (.tmp rfl rfl)) ?_
   refine aU ?_
   refine ax (mP (v:=(pz aB)) rfl (.tmp rfl rfl)) ?_
   refine au ?_
   refine As (zg [ae.v,(zi (IntKind.i64.wrap (ah.i+1))),(zi (IntKind.i64.wrap ((IntKind.i64.wrap (ah.h*6364136223846793005))+1442695040888963407)))]) ?_
   exact ze hF
 exact ze hF
def dR(ah:ai)(bZ:Int):Option (Int×ai):=
 if (decide ((bZ:Int)<=0))then (
   some (0,ah))
 else (
   if (decide ((bZ:Int)<=256))then (
     (kT ah).bind fun r1=>
     (u_ r1.1 bZ).bind fun x4=>
     some (x4,(⟨ah.b,r1.2.i,r1.2.h⟩:ai)))
   else (
     (kT ah).bind fun r6=>
     (kT (⟨ah.b,r6.2.i,r6.2.h⟩:ai)).bind fun r9=>
     (kT (⟨ah.b,r9.2.i,r9.2.h⟩:ai)).bind fun eP=>
     (kT (⟨ah.b,eP.2.i,eP.2.h⟩:ai)).bind fun lD=>
     (u_ (IntKind.i64.wrap ((IntKind.i64.wrap ((IntKind.i64.wrap ((IntKind.i64.wrap (r6.1*16777216))+(IntKind.i64.wrap (r9.1*65536))))+(IntKind.i64.wrap (eP.1*256))))+lD.1)) bZ).bind fun K5=>
     some (K5,(⟨ah.b,lD.2.i,lD.2.h⟩:ai))))
theorem eH{aB:Nat}{ah:ai}{ae:Sv}{bZ:Int}{R:Int×ai}(hF:dR ah bZ=some R):
   Fw.Spec Tryz.prog 40 [(pz aB),(zi bZ)] [bK aB 98 (zg [ae.v,(zi ah.i),(zi ah.h)]),dU ae ah.b] (fun _:Unit=>(zi R.1)) (fun _=>[bK aB 98 (zg [ae.v,(zi R.2.i),(zi R.2.h)])]):=by
 refine Se 37 Tryz.func40 [.tmp 4] ?_
 intro H0 F0
 unfold dR at hF
 refine g_ ?_
 refine Ci hF (fun ma hF=>?_) (fun ma hF=>?_)
 · exact ze hF
 refine bC ?_
 refine Ci hF (fun kF hF=>?_) (fun kF hF=>?_)
 · refine aG ?_
   refine bnd hF fun r1 hx2 hF=>cu (qR hx2) (fun p3=>?_)
   refine au ?_
   refine bnd hF fun x4 hx5 hF=>ax (JD (i:=r1.1) (j:=bZ) (.tmp rfl rfl) (.tmp rfl rfl) hx5) ?_
   exact ze hF
 refine aU ?_
 refine bnd hF fun r6 hx7 hF=>cu (qR hx7) (fun p8=>?_)
 refine aM ?_
 refine bnd hF fun r9 jB hF=>cu (qR jB) (fun EJ=>?_)
 refine aM ?_
 refine bnd hF fun eP h_ hF=>cu (qR h_) (fun yP=>?_)
 refine aM ?_
 refine bnd hF fun lD hx16 hF=>cu (qR hx16) (fun EK=>?_)
 refine Dn ?_
 refine bnd hF fun K5 rU hF=>ax (JD (i:=(IntKind.i64.wrap ((IntKind.i64.wrap ((IntKind.i64.wrap ((IntKind.i64.wrap (r6.1*16777216))+(IntKind.i64.wrap (r9.1*65536))))+(IntKind.i64.wrap (eP.1*256))))+lD.1))) (j:=bZ) (.tmp rfl rfl) (.tmp rfl rfl) rU) ?_
 exact ze hF
def pM(ah:ai)(bZ:Int):Option (Bool×ai):=
 (dR ah bZ).bind fun r1=>
 some (((r1.1:Int)==0),(⟨ah.b,r1.2.i,r1.2.h⟩:ai))
theorem wE{aB:Nat}{ah:ai}{ae:Sv}{bZ:Int}{R:Bool×ai}(hF:pM ah bZ=some R):
   Fw.Spec Tryz.prog 107 [(pz aB),(zi bZ)] [bK aB 98 (zg [ae.v,(zi ah.i),(zi ah.h)]),dU ae ah.b] (fun _:Unit=>(.bool R.1)) (fun _=>[bK aB 98 (zg [ae.v,(zi R.2.i),(zi R.2.h)])]):=by
 refine Se 9 Tryz.func107 [.tmp 4] ?_
 intro H0 F0
 unfold pM at hF
 refine bC ?_
 refine bnd hF fun r1 hx2 hF=>cu (eH hx2) (fun p3=>?_)
 exact ze hF
def qI(ah:ai):Nat->Int->Int->(List Int)->Int->Option ((List Int)×ai)
 |0,_,_,_,_=>none
 |sN+1,lF,c40,kK,jR=>if (decide ((0:Int)<jR))then (
     ((dR (⟨ah.b,lF,c40⟩:ai) 2).bind fun vK=>
       (pM (⟨ah.b,vK.2.i,vK.2.h⟩:ai) 4).bind fun vL=>
       if vL.1 then (
         (app kK ([3]:List Int)).bind fun z62=>
         some (vL.2.i,vL.2.h,z62))
       else (
         (app kK ([(IntKind.i64.wrap (1+vK.1))]:List Int)).bind fun z66=>
         some (vL.2.i,vL.2.h,z66))).bind fun EL=>
     match EL with
     |(c70,yQ,c72)=>qI ah sN c70 yQ c72 (IntKind.i64.wrap (jR-1)))
   else (
     some (kK,(⟨ah.b,lF,c40⟩:ai)))
def wI(ah:ai):Option ((List Int)×ai):=
 (dR ah 3).bind fun r2=>
 qI ah (((IntKind.i64.wrap (1+r2.1))-0).toNat+2) r2.2.i r2.2.h ([]:List Int) (IntKind.i64.wrap (1+r2.1))
theorem GA{aB:Nat}{ah:ai}{ae:Sv}{R:(List Int)×ai}(hF:wI ah=some R):
   Fw.Spec Tryz.prog 71 [(pz aB)] [bK aB 98 (zg [ae.v,(zi ah.i),(zi ah.h)]),dU ae ah.b] (fun p:Sv×List Nat=>p.1.v) (fun p=>[d_ p.2 p.1 R.1,bK aB 98 (zg [ae.v,(zi R.2.i),(zi R.2.h)])]):=by
 refine Se 24 Tryz.func71 [.tmp 2] ?_
 intro H0 F0
 unfold wI at hF
 refine aM ?_
 refine bD rfl (bz (g:=true) bI.h bH.h .nil (vs:=[]) rfl rfl rfl (by simp)) (fun k1=>?_)
 refine bX (.cons .h .nil) (bB (Ro:=(ay aF)) (E:=3) (F:=[]) (xs:=([]:List Int)) bA rfl rfl) ?_
 refine aV ?_
 refine bnd hF fun r2 hx3 hF=>cu (eH hx3) (fun p4=>?_)
 refine aU ?_
 refine bN (dG (m:=(((IntKind.i64.wrap (1+r2.1))-0).toNat+2)) (fun sN f' cs'=>∃(g:Fr)(lF c40:Int)(kK:List Int)(jR:Int)(v42:Sv)(EM:List Nat),f'=aX g [(0,(pz aB)),(3,v42.v),(4,(zi jR))]/\aT cs' [bK aB 98 (zg [ae.v,(zi lF),(zi c40)]),dU ae ah.b,d_ EM v42 kK]/\qI ah sN lF c40 kK jR=some R) ⟨_,_,_,_,_,⟨(some ⟨k1,0,none⟩),0,1⟩,(k1::[]),aK,aJ,hF⟩ ?_)
 rintro sN _ _ ⟨Zl,lF,c40,kK,jR,v42,EM,rfl,hE,hF⟩
 refine bV hE ?_
 rcases sN with _|sN
 · rw[qI]at hF
   exact absurd hF (by simp)
 rw[qI]at hF
 refine aV ?_
 refine Ci hF (fun DI hF=>?_) (fun DI hF=>?_)
 · refine au ?_
   obtain⟨EL,RS,Un⟩:=bind_some hF
   refine jW (fun f' cs'=>∃(c70 yQ:Int)(c72:List Int)(v73:Sv)(EO:List Nat)(g:Fr),EL=(c70,yQ,c72)/\f'=aX g [(0,(pz aB)),(3,v73.v),(4,(zi jR))]/\aT cs' [bK aB 98 (zg [ae.v,(zi c70),(zi yQ)]),dU ae ah.b,d_ EO v73 c72]) ?_ ?_
   · replace hF:=RS
     refine bN (bL (Cm (pz aB) rfl rfl ?_))
     refine bnd hF fun vK AY hF=>cu (eH AY) (fun p57=>?_)
     refine bC ?_
     refine bnd hF fun vL DJ hF=>cu (wE DJ) (fun p60=>?_)
     refine au ?_
     refine Ci hF (fun DK hF=>?_) (fun DK hF=>?_)
     · refine bC ?_
       refine bD rfl (bz (g:=true) bI.h bH.h bi (vs:=[(zi 3)]) rfl rfl rfl (by intro v hv; simp at hv; rcases hv with rfl<;>rfl)) (fun Wj=>?_)
       refine bX (.cons .h .nil) (bB (Ro:=(ay aF)) (E:=3) (F:=([]++[])) (xs:=([3]:List Int)) (aY (bF (fun _=>rfl)) bA aR) rfl rfl) ?_
       refine bnd hF fun z62 DL hF=>aZ (.cons .q3 (.cons .h .nil)) (dH (Ro:=(ay aF)) bI.h gK bH.h rfl rfl rfl (.tmp rfl rfl) (.tmp rfl rfl) DL dS) (fun p64=>?_)
       refine aG ?_
       cases hF
       exact⟨_,_,_,p64.1,p64.2,_,rfl,aK,aJ⟩
     refine aM ?_
     refine bD rfl (bz (g:=true) bI.h bH.h bi (vs:=[(zi (IntKind.i64.wrap (1+vK.1)))]) rfl rfl rfl (by intro v hv; simp at hv; rcases hv with rfl<;>rfl)) (fun Zm=>?_)
     refine bX (.cons .h .nil) (bB (Ro:=(ay aF)) (E:=3) (F:=([]++[])) (xs:=([(IntKind.i64.wrap (1+vK.1))]:List Int)) (aY (bF (fun _=>rfl)) bA aR) rfl rfl) ?_
     refine bnd hF fun z66 DN hF=>aZ (.cons .q3 (.cons .h .nil)) (dH (Ro:=(ay aF)) bI.h gK bH.h rfl rfl rfl (.tmp rfl rfl) (.tmp rfl rfl) DN dS) (fun p68=>?_)
     refine aG ?_
     cases hF
     exact⟨_,_,_,p68.1,p68.2,_,rfl,aK,aJ⟩
   rintro _ _ ⟨c70,yQ,c72,v73,EO,Zn,rfl,rfl,hE⟩
   replace hF:=Un
   try dsimp only at hF
   refine bV hE ?_
   refine aV ?_
   exact⟨sN,dM _,_,_,_,_,_,v73,EO,aK,aJ,hF⟩
 refine fO ?_
 cases hF
 exact Er (v42,EM)
def iY(ah:ai)(lS:List Int):Option (Int×ai):=
 (dR ah (lS.length:Int)).bind fun r1=>
 (ix lS r1.1).bind fun x4=>
 some (x4,(⟨ah.b,r1.2.i,r1.2.h⟩:ai))
theorem lJ{aB:Nat}{ah:ai}{ae:Sv}{lS:List Int}{aN:Sv}{R:Int×ai}(hF:iY ah lS=some R):
   Fw.Spec Tryz.prog 78 [(pz aB),aN.v] [bK aB 98 (zg [ae.v,(zi ah.i),(zi ah.h)]),dU ae ah.b,b_ aN lS] (fun _:Unit=>(zi R.1)) (fun _=>[bK aB 98 (zg [ae.v,(zi R.2.i),(zi R.2.h)])]):=by
 refine Se 12 Tryz.func78 [.tmp 4] ?_
 intro H0 F0
 unfold iY at hF
 refine g_ ?_
 refine bnd hF fun r1 hx2 hF=>cu (eH hx2) (fun p3=>?_)
 refine zI hF fun x4 Wl hx7 hF=>?_
 refine Ai hx7 (fun k8 j9=>?_)
 refine Al gJ ?_
 exact ze hF
def qJ(ah:ai)(aa:List Int)(r2:Int×ai)(r6:Int×ai)(r9:Int×ai)(eP:Int×ai):Nat->Int->Int->(List Int)->Int->Option (Method×ai)
 |0,_,_,_,_=>none
 |sO+1,c46,sP,sQ,c51=>(ix aa r2.1).bind fun vM=>
   if (decide ((c51:Int)<vM))then (
     ((pM ({b:=ah.b,i:=c46,h:=sP}:ai) 3).bind fun sS=>
       if sS.1 then (
         (app sQ ([c51]:List Int)).bind fun z72=>
         some (sS.2.i,sS.2.h,z72))
       else (
         some (sS.2.i,sS.2.h,sQ))).bind fun EP=>
     match EP with
     |(c76,yR,mE)=>qJ ah aa r2 r6 r9 eP sO c76 yR mE (IntKind.i64.wrap (c51+1)))
   else (
     some (({Rel:=r2.1,Inputs:=sQ,Limit:=r6.1,Cost:=r9.1,Quota:=(IntKind.i64.wrap (1+eP.1))}:Method),({b:=ah.b,i:=c46,h:=sP}:ai)))
def wJ(fuel:Nat)(ah:ai)(aa:List Int):Option (Method×ai):=
 (dR ah (aa.length:Int)).bind fun r2=>
 (iY ({b:=ah.b,i:=r2.2.i,h:=r2.2.h}:ai) ([0,0,0,1,2]:List Int)).bind fun r6=>
 (dR ({b:=ah.b,i:=r6.2.i,h:=r6.2.h}:ai) 5).bind fun r9=>
 (dR ({b:=ah.b,i:=r9.2.i,h:=r9.2.h}:ai) 6).bind fun eP=>
 qJ ah aa r2 r6 r9 eP fuel eP.2.i eP.2.h ([]:List Int) 0
theorem GD{fuel aB:Nat}{ah:ai}{ae:Sv}{aa:List Int}{aN:Sv}{R:Method×ai}(hF:wJ fuel ah aa=some R):
   Fw.Spec Tryz.prog 108 [(.pointer (some ⟨aB,0,some 0⟩)),aN.v] [bK aB 98 (.agg [ae.v,(.int .i64 ah.i),(.int .i64 ah.h)].toArray),bS (bf 5 ek) ae.v ah.b,bS (bf 3 aF) aN.v aa] (fun p:Sv×List Nat=>(.agg [(.int .i64 R.1.Rel),p.1.v,(.int .i64 R.1.Limit),(.int .i64 R.1.Cost),(.int .i64 R.1.Quota)].toArray)) (fun p=>[aS (aH 3 (ay aF)) p.2 p.1.v R.1.Inputs,bK aB 98 (.agg [ae.v,(.int .i64 R.2.i),(.int .i64 R.2.h)].toArray)]):=by
 refine pE (n:=38) Tryz.func108 rfl rfl (rs:=[.cell 4 36]) rfl rfl rfl ?_
 intro H0 F0
 unfold wJ at hF
 refine bL (bD rfl (mU (g:=true) iP.h rfl rfl) (fun k1=>?_))
 refine bO (bL (Cm (.pointer (some ⟨aB,0,some 0⟩)) rfl rfl ?_))
 refine Cm aN.v rfl rfl ?_
 refine eB (.t (.t (.t .h))) (fun hp=>n_ (l:=aa.length) bI.h (.tmp rfl rfl) (rD hp)) ?_
 obtain⟨r2,hx3,hF⟩:=bind_some hF
 refine aZ (.cons (.t .h) (.rd (.t .h) rfl .nil)) (bG lm.h (.cons (.tmp rfl rfl) (.cons (.tmp rfl rfl) .nil)) (@eH aB ah ae (aa.length:Int) _ hx3)) (fun p4=>?_)
 refine Cm (.pointer (some ⟨aB,0,some 0⟩)) rfl rfl ?_
 refine bD rfl (bz (g:=true) bI.h bH.h (.cons (.int _ _) (.cons (.int _ _) (.cons (.int _ _) (.cons (.int _ _) (.cons (.int _ _) .nil))))) (vs:=[(.int .i64 0),(.int .i64 0),(.int .i64 0),(.int .i64 1),(.int .i64 2)]) rfl rfl rfl (by intro v hv; simp at hv; rcases hv with rfl|rfl|rfl|rfl|rfl<;>rfl)) (fun k5=>?_)
 refine uP (.cons .h .nil) (bB (Ro:=(ay aF)) (E:=3) (F:=([]++([]++([]++([]++([]++[])))))) (xs:=([0,0,0,1,2]:List Int)) (aY (bF (fun _=>rfl)) (aY (bF (fun _=>rfl)) (aY (bF (fun _=>rfl)) (aY (bF (fun _=>rfl)) (aY (bF (fun _=>rfl)) bA aR) aR) aR) aR) aR) rfl rfl) aR ?_
 obtain⟨r6,hx7,hF⟩:=bind_some hF
 refine iN (.cons .h (.cons .h (.rd (.t .h) rfl .nil))) (dW bU (fun _=>(.cons .nil)) (iI (.cons (.t .h) (.rd (.t .h) rfl (.rd .h rfl .nil))) (bG l9.h (.cons (.tmp rfl rfl) (.cons (.tmp rfl rfl) .nil)) (@lJ aB ({b:=ah.b,i:=r2.2.i,h:=r2.2.h}:ai) ae ([0,0,0,1,2]:List Int) (⟨(some ⟨k5,0,none⟩),5,1⟩) _ hx7)))) (fun p8=>?_)
 refine Cm (.pointer (some ⟨aB,0,some 0⟩)) rfl rfl ?_
 obtain⟨r9,jB,hF⟩:=bind_some hF
 refine aZ (.cons (.t .h) (.rd (.t (.t .h)) rfl .nil)) (bG lm.h (.cons (.tmp rfl rfl) (.cons (.int _ _) .nil)) (@eH aB ({b:=ah.b,i:=r6.2.i,h:=r6.2.h}:ai) ae 5 _ jB)) (fun EJ=>?_)
 refine Cm (.pointer (some ⟨aB,0,some 0⟩)) rfl rfl ?_
 obtain⟨eP,h_,hF⟩:=bind_some hF
 refine aZ (.cons .h (.rd (.t (.t .h)) rfl .nil)) (bG lm.h (.cons (.tmp rfl rfl) (.cons (.int _ _) .nil)) (@eH aB ({b:=ah.b,i:=r9.2.i,h:=r9.2.h}:ai) ae 6 _ h_)) (fun yP=>?_)
 refine ax (m_ (i:=1) (j:=eP.1) (.int _ _) (.tmp rfl rfl)) ?_
 refine ax (kw iP.h rfl (vs:=[(.int .i64 r2.1),(.int .i64 r6.1),(.int .i64 r9.1),(.int .i64 (IntKind.i64.wrap (1+eP.1)))]) (.cons (.tmp rfl rfl) (.cons (.tmp rfl rfl) (.cons (.tmp rfl rfl) (.cons (.tmp rfl rfl) .nil)))) (cells:=[(.int .i64 r2.1),(.slice none 0 0),(.int .i64 r6.1),(.int .i64 r9.1),(.int .i64 (IntKind.i64.wrap (1+eP.1)))]) rfl) ?_
 refine bD rfl (mU (g:=true) iP.h rfl rfl) (fun k15=>?_)
 refine aZ (.cons .h .nil) (fH (e':=(.agg [(.int .i64 r2.1),(.slice none 0 0),(.int .i64 r6.1),(.int .i64 r9.1),(.int .i64 (IntKind.i64.wrap (1+eP.1)))].toArray)) (v:=(.agg [(.int .i64 r2.1),(.slice none 0 0),(.int .i64 r6.1),(.int .i64 r9.1),(.int .i64 (IntKind.i64.wrap (1+eP.1)))].toArray)) iP.h.sz (.tmp rfl rfl) (.tmp rfl rfl) rfl rfl rfl rfl rfl) (fun _=>?_)
 refine bO (gZ (bL (ax (gG (v:=(.int .i64 0)) (.int _ _)) ?_)))
 refine bO (bN (dG (m:=fuel) (fun sO f' cs'=>∃(g:Fr)(c46:Int)(sP:Int)(sQ:List Int)(c51:Int)(v49:Sv)(Bo:List Nat),f'=aX g [(0,(.pointer (some ⟨aB,0,some 0⟩))),(1,aN.v),(4,(.pointer (some ⟨k1,0,some 0⟩))),(5,(.pointer (some ⟨k15,0,some 0⟩))),(6,(.int .i64 c51))]/\aT cs' [bK aB 98 (.agg [ae.v,(.int .i64 c46),(.int .i64 sP)].toArray),bS (bf 5 ek) ae.v ah.b,bS (bf 3 aF) aN.v aa,bK k1 36 (.agg [(.int .i64 0),(.slice none 0 0),(.int .i64 0),(.int .i64 0),(.int .i64 0)].toArray),bK k15 36 (.agg [(.int .i64 r2.1),v49.v,(.int .i64 r6.1),(.int .i64 r9.1),(.int .i64 (IntKind.i64.wrap (1+eP.1)))].toArray),aS (aH 3 (ay aF)) Bo v49.v sQ]/\qJ ah aa r2 r6 r9 eP sO c46 sP sQ c51=some R) ⟨_,_,_,_,_,⟨none,0,0⟩,[],(bn.cons rfl (bn.cons rfl (bn.cons rfl (bn.cons rfl (bn.cons rfl (bn.nil)))))).eq,(.conv .nil (jq (Ro:=(ay aF)) (E:=3)) (.cons .nil) (.sel (.cons (.t (.t .h)) (.rd (.t (.t (.t (.t .h)))) rfl (.rd (.t (.t (.t (.t (.t .h))))) rfl (.cons (.t (.t (.t .h))) (.cons (.t .h) (.cons .h .nil)))))))),hF⟩ ?_))
 clear hF
 rintro sO _ _ ⟨Zo,c46,sP,sQ,c51,v49,Bo,rfl,hE,hF⟩
 refine bV hE ?_
 clear hE
 rcases sO with _|sO
 · rw[qJ]at hF
   exact absurd hF (by simp)
 rw[qJ]at hF
 refine gZ (bL (Cm (.int .i64 c51) rfl rfl ?_))
 refine Cm aN.v rfl rfl ?_
 refine ax (jH (off:=0) QC.h (.tmp rfl rfl)) ?_
 refine eB (.t (.t (.t (.t .h)))) (fun hp=>fD (v:=(.int .i64 r2.1)) lC.h (.tmp rfl rfl) hp.2 rfl rfl) ?_
 obtain⟨vM,Uo,hF⟩:=bind_some hF
 obtain⟨Uq,DL⟩:=nT Uo
 refine Ar (a:=vM) bI.h bH.h.sz (.tmp rfl rfl) (.tmp rfl rfl) (.t (.t .h)) Uq DL (fun Wm Zp=>?_)
 refine Dc (w:=(.int .i64 vM)) lC.h (.tmp rfl rfl) .h gJ ?_
 refine ax (uT (i:=c51) (j:=vM) (.tmp rfl rfl) (.tmp rfl rfl)) ?_
 refine bO (iZ (b:=(decide ((c51:Int)<vM))) (.tmp rfl rfl) (fun DR=>?_) (fun DR=>?_))
 · rw[if_pos DR]at hF
   refine kU ?_
   obtain⟨EP,RU,KD⟩:=bind_some hF
   refine jW (fun f' cs'=>∃(c76:Int)(yR:Int)(mE:List Int)(v79:Sv)(EQ:List Nat)(g:Fr),EP=(c76,yR,mE)/\f'=aX g [(0,(.pointer (some ⟨aB,0,some 0⟩))),(1,aN.v),(4,(.pointer (some ⟨k1,0,some 0⟩))),(5,(.pointer (some ⟨k15,0,some 0⟩))),(6,(.int .i64 c51))]/\aT cs' [bK aB 98 (.agg [ae.v,(.int .i64 c76),(.int .i64 yR)].toArray),bS (bf 5 ek) ae.v ah.b,bS (bf 3 aF) aN.v aa,bK k1 36 (.agg [(.int .i64 0),(.slice none 0 0),(.int .i64 0),(.int .i64 0),(.int .i64 0)].toArray),bK k15 36 (.agg [(.int .i64 r2.1),v79.v,(.int .i64 r6.1),(.int .i64 r9.1),(.int .i64 (IntKind.i64.wrap (1+eP.1)))].toArray),aS (aH 3 (ay aF)) EQ v79.v mE]) ?_ ?_
   · replace hF:=RU
     refine bN (bL (Cm (.pointer (some ⟨aB,0,some 0⟩)) rfl rfl ?_))
     obtain⟨sS,Ur,hF⟩:=bind_some hF
     refine aZ (.cons (.t .h) (.rd (.t .h) rfl .nil)) (bG RJ.h (.cons (.tmp rfl rfl) (.cons (.int _ _) .nil)) (@wE aB ({b:=ah.b,i:=c46,h:=sP}:ai) ae 3 _ Ur)) (fun p70=>?_)
     refine bO (iZ (b:=sS.1) (.tmp rfl rfl) (fun DT=>?_) (fun DT=>?_))
     · rw[if_pos DT]at hF
       refine kS (ax (jH (off:=1) C8.h (.tmp rfl rfl)) ?_)
       refine eB (.t (.t (.t (.t (.t .h))))) (fun hp=>fD (v:=v49.v) jL.h (.tmp rfl rfl) hp.2 rfl rfl) ?_
       refine Cm (.int .i64 c51) rfl rfl ?_
       refine bD rfl (bz (g:=true) bI.h bH.h (.cons (.tmp rfl rfl) .nil) (vs:=[(.int .i64 c51)]) rfl rfl rfl (by intro v hv; simp at hv; rcases hv with rfl<;>rfl)) (fun Zq=>?_)
       refine uP (.cons .h .nil) (bB (Ro:=(ay aF)) (E:=3) (F:=([]++[])) (xs:=([c51]:List Int)) (aY (bF (fun _=>rfl)) bA aR) rfl rfl) aR ?_
       obtain⟨z72,Us,hF⟩:=bind_some hF
       refine aZ (.cons (.t (.t (.t (.t (.t (.t (.t .h))))))) (.cons .h .nil)) (dH (Ro:=(ay aF)) bI.h gK bH.h rfl rfl rfl (.tmp rfl rfl) (.tmp rfl rfl) Us dS) (fun p74=>?_)
       refine ax (jH (off:=1) C8.h (.tmp rfl rfl)) ?_
       refine aZ (.cons (.t (.t (.t (.t (.t (.t .h)))))) .nil) (fH (e':=(.agg [(.int .i64 r2.1),p74.1.v,(.int .i64 r6.1),(.int .i64 r9.1),(.int .i64 (IntKind.i64.wrap (1+eP.1)))].toArray)) rR.h.sz (.tmp rfl rfl) (.tmp rfl rfl) rfl rfl rfl rfl rfl) (fun _=>?_)
       refine bO ?_
       obtain rfl:=Option.some.inj hF
       exact⟨_,_,_,p74.1,p74.2,_,rfl,(bn.cons rfl (bn.cons rfl (bn.cons rfl (bn.cons rfl (bn.cons rfl (bn.nil)))))).eq,(.sel (.cons (.t (.t .h)) (.rd (.t (.t (.t .h))) rfl (.rd (.t (.t (.t (.t .h)))) rfl (.cons (.t (.t (.t (.t (.t .h))))) (.cons .h (.cons .h .nil)))))))⟩
     rw[if_neg (by rw[DT]; exact Bool.false_ne_true)]at hF
     refine kU ?_
     obtain rfl:=Option.some.inj hF
     exact⟨_,_,_,v49,Bo,_,rfl,(bn.cons rfl (bn.cons rfl (bn.cons rfl (bn.cons rfl (bn.cons rfl (bn.nil)))))).eq,(.sel (.cons .h (.rd (.t .h) rfl (.rd (.t (.t .h)) rfl (.cons (.t (.t (.t .h))) (.cons (.t (.t (.t .h))) (.cons (.t (.t (.t .h))) .nil)))))))⟩
   rintro _ _ ⟨c76,yR,mE,v79,EQ,Zr,rfl,rfl,hE⟩
   replace hF:=KD
   clear KD
   try dsimp only at hF
   refine bV hE ?_
   refine kS (Cm (.int .i64 c51) rfl rfl ?_)
   refine ax (m_ (i:=c51) (j:=1) (.tmp rfl rfl) (.int _ _)) ?_
   refine Ca (.int .i64 (IntKind.i64.wrap (c51+1))) rfl rfl ?_
   refine bO ?_
   exact⟨sO,Nat.lt_succ_self _,_,_,_,_,_,v79,EQ,(bn.cons rfl (bn.cons rfl (bn.cons rfl (bn.cons rfl (bn.cons rfl (bn.nil)))))).eq,(.sel (.cons .h (.rd .h rfl (.rd (.t .h) rfl (.cons (.t (.t .h)) (.cons (.t (.t .h)) (.cons (.t (.t .h)) .nil))))))),hF⟩
 rw[if_neg (by rw[DR]; exact Bool.false_ne_true)]at hF
 refine w9 ?_
 iterate 2 refine uw ?_
 refine wU (bL (eB (.t (.t (.t (.t (.t .h))))) (fun hp=>ku vg.h iP.h.sz rfl (.tmp rfl rfl) hp.2 rfl) ?_))
 refine aZ (.cons (.t (.t (.t (.t .h)))) .nil) (fH (e':=(.agg [(.int .i64 r2.1),v49.v,(.int .i64 r6.1),(.int .i64 r9.1),(.int .i64 (IntKind.i64.wrap (1+eP.1)))].toArray)) (v:=(.agg [(.int .i64 r2.1),v49.v,(.int .i64 r6.1),(.int .i64 r9.1),(.int .i64 (IntKind.i64.wrap (1+eP.1)))].toArray)) iP.h.sz (.tmp rfl rfl) (.tmp rfl rfl) rfl rfl rfl rfl rfl) (fun _=>?_)
 refine bO (jI ?_)
 obtain rfl:=Option.some.inj hF
 exact fq (v49,Bo) (.cellA rfl rfl .h rfl vg.h iP.h.sz rfl rfl .nil) rfl (.sel (.cons (.t (.t (.t (.t (.t (.t .h)))))) (.cons (.t (.t .h)) .nil)))
def qG(ah:ai)(aa:List Int)(fuel:Nat):Nat->Int->Int->(List Method)->Int->Option ((List Method)×ai)
 |0,_,_,_,_=>none
 |sU+1,gT,vN,lG,eG=>if (decide ((0:Int)<eG))then (
     (wJ fuel (⟨ah.b,gT,vN⟩:ai) aa).bind fun il=>
     (app lG ([il.1]:List Method)).bind fun z44=>
     qG ah aa fuel sU il.2.i il.2.h z44 (IntKind.i64.wrap (eG-1)))
   else (
     some (lG,(⟨ah.b,gT,vN⟩:ai)))
def zG(fuel:Nat)(ah:ai)(aa:List Int):Option ((List Method)×ai):=
 (dR ah 4).bind fun r2=>
 qG ah aa fuel (((IntKind.i64.wrap (1+r2.1))-0).toNat+2) r2.2.i r2.2.h ([]:List Method) (IntKind.i64.wrap (1+r2.1))
theorem MW{fuel aB:Nat}{ah:ai}{ae:Sv}{aa:List Int}{aN:Sv}{R:(List Method)×ai}(hF:zG fuel ah aa=some R):
   Fw.Spec Tryz.prog 72 [(pz aB),aN.v] [bK aB 98 (zg [ae.v,(zi ah.i),(zi ah.h)]),dU ae ah.b,b_ aN aa] (fun p:Sv×List Nat=>p.1.v) (fun p=>[nC p.2 p.1 R.1,bK aB 98 (zg [ae.v,(zi R.2.i),(zi R.2.h)])]):=by
 refine Se 24 Tryz.func72 [.tmp 4] ?_
 intro H0 F0
 unfold zG at hF
 refine aM ?_
 refine bD rfl (bz (g:=true) qd.h iP.h .nil (vs:=[]) rfl rfl rfl (by simp)) (fun k1=>?_)
 refine bX (.cons .h .nil) (bB (Ro:=lu) (E:=36) (F:=[]) (xs:=([]:List Method)) bA rfl rfl) ?_
 refine aV ?_
 refine bnd hF fun r2 hx3 hF=>cu (eH hx3) (fun p4=>?_)
 refine aU ?_
 refine bN (dG (m:=(((IntKind.i64.wrap (1+r2.1))-0).toNat+2)) (fun sU f' cs'=>∃(g:Fr)(gT vN:Int)(lG:List Method)(eG:Int)(v28:Sv)(ER:List Nat),f'=aX g [(0,(pz aB)),(1,aN.v),(5,v28.v),(6,(zi eG))]/\aT cs' [bK aB 98 (zg [ae.v,(zi gT),(zi vN)]),dU ae ah.b,b_ aN aa,nC ER v28 lG]/\qG ah aa fuel sU gT vN lG eG=some R) ⟨_,_,_,_,_,⟨(some ⟨k1,0,none⟩),0,1⟩,(k1::[]),aK,aJ,hF⟩ ?_)
 rintro sU _ _ ⟨Zt,gT,vN,lG,eG,v28,ER,rfl,hE,hF⟩
 refine bV hE ?_
 rcases sU with _|sU
 · rw[qG]at hF
   exact absurd hF (by simp)
 rw[qG]at hF
 refine aV ?_
 refine Ci hF (fun Ut hF=>?_) (fun Ut hF=>?_)
 · refine aV ?_
   refine bnd hF fun il nD hF=>kg (GD nD) (fun p41=>?_)
   refine iC (fun Wn=>?_)
   refine As (zg [(zi il.1.Rel),p41.1.v,(zi il.1.Limit),(zi il.1.Cost),(zi il.1.Quota)]) ?_
   refine aM ?_
   refine bD rfl (bz (g:=true) qd.h iP.h bi (vs:=[(zg [(zi il.1.Rel),p41.1.v,(zi il.1.Limit),(zi il.1.Cost),(zi il.1.Quota)])]) rfl rfl rfl (by intro v hv; simp at hv; rcases hv with rfl<;>rfl)) (fun Wo=>?_)
   refine bX (.cons .h (.cons (.t .h) .nil)) (bB (Ro:=lu) (E:=36) (F:=(p41.2++[])) (xs:=([il.1]:List Method)) (aY Kr bA aR) rfl rfl) ?_
   refine bnd hF fun z44 xZ hF=>aZ (.cons .q5 (.cons .h .nil)) (dH (Ro:=lu) qd.h Kt iP.h rfl rfl rfl (.tmp rfl rfl) (.tmp rfl rfl) xZ dS) (fun p46=>?_)
   refine bE ?_
   exact⟨sU,dM _,_,_,_,_,_,p46.1,p46.2,aK,aJ,hF⟩
 refine fO ?_
 cases hF
 exact Er (v28,ER)
def qU(ah:ai)(aa:List Int)(lT:Int)(r2:Int×ai):Nat->Int->Int->(List Int)->Int->Option (aL×ai)
 |0,_,_,_,_=>none
 |sV+1,c28,gU,eG,iV=>(ix aa r2.1).bind fun vO=>
   if (decide ((iV:Int)<vO))then (
     (dR ({b:=ah.b,i:=c28,h:=gU}:ai) lT).bind fun qp=>
     (app eG ([qp.1]:List Int)).bind fun z52=>
     qU ah aa lT r2 sV qp.2.i qp.2.h z52 (IntKind.i64.wrap (iV+1)))
   else (
     some (({Rel:=r2.1,Values:=eG}:aL),({b:=ah.b,i:=c28,h:=gU}:ai)))
def wV(fuel:Nat)(ah:ai)(aa:List Int)(lT:Int):Option (aL×ai):=
 (dR ah (aa.length:Int)).bind fun r2=>
 qU ah aa lT r2 fuel r2.2.i r2.2.h ([]:List Int) 0
theorem Hd{fuel aB:Nat}{ah:ai}{ae:Sv}{aa:List Int}{aN:Sv}{lT:Int}{R:aL×ai}(hF:wV fuel ah aa lT=some R):
   Fw.Spec Tryz.prog 110 [(.pointer (some ⟨aB,0,some 0⟩)),aN.v,(.int .i64 lT)] [bK aB 98 (.agg [ae.v,(.int .i64 ah.i),(.int .i64 ah.h)].toArray),bS (bf 5 ek) ae.v ah.b,bS (bf 3 aF) aN.v aa] (fun p:Sv×List Nat=>(.agg [(.int .i64 R.1.Rel),p.1.v].toArray)) (fun p=>[aS (aH 3 (ay aF)) p.2 p.1.v R.1.Values,bK aB 98 (.agg [ae.v,(.int .i64 R.2.i),(.int .i64 R.2.h)].toArray)]):=by
 refine pE (n:=34) Tryz.func110 rfl rfl (rs:=[.cell 6 136]) rfl rfl rfl ?_
 intro H0 F0
 unfold wV at hF
 refine bL (bD rfl (mU (g:=true) fU.h rfl rfl) (fun k1=>?_))
 refine bO (bL (Cm (.pointer (some ⟨aB,0,some 0⟩)) rfl rfl ?_))
 refine Cm aN.v rfl rfl ?_
 refine eB (.t (.t (.t .h))) (fun hp=>n_ (l:=aa.length) bI.h (.tmp rfl rfl) (rD hp)) ?_
 obtain⟨r2,hx3,hF⟩:=bind_some hF
 refine aZ (.cons (.t .h) (.rd (.t .h) rfl .nil)) (bG lm.h (.cons (.tmp rfl rfl) (.cons (.tmp rfl rfl) .nil)) (@eH aB ah ae (aa.length:Int) _ hx3)) (fun p4=>?_)
 refine ax (kw fU.h rfl (vs:=[(.int .i64 r2.1)]) (.cons (.tmp rfl rfl) .nil) (cells:=[(.int .i64 r2.1),(.slice none 0 0)]) rfl) ?_
 refine bD rfl (mU (g:=true) fU.h rfl rfl) (fun k5=>?_)
 refine aZ (.cons .h .nil) (fH (e':=(.agg [(.int .i64 r2.1),(.slice none 0 0)].toArray)) (v:=(.agg [(.int .i64 r2.1),(.slice none 0 0)].toArray)) fU.h.sz (.tmp rfl rfl) (.tmp rfl rfl) rfl rfl rfl rfl rfl) (fun _=>?_)
 refine bO (gZ (bL (ax (gG (v:=(.int .i64 0)) (.int _ _)) ?_)))
 refine bO (bN (dG (m:=fuel) (fun sV f' cs'=>∃(g:Fr)(c28:Int)(gU:Int)(eG:List Int)(iV:Int)(v31:Sv)(ES:List Nat),f'=aX g [(0,(.pointer (some ⟨aB,0,some 0⟩))),(1,aN.v),(2,(.int .i64 lT)),(6,(.pointer (some ⟨k1,0,some 0⟩))),(7,(.pointer (some ⟨k5,0,some 0⟩))),(8,(.int .i64 iV))]/\aT cs' [bK aB 98 (.agg [ae.v,(.int .i64 c28),(.int .i64 gU)].toArray),bS (bf 5 ek) ae.v ah.b,bS (bf 3 aF) aN.v aa,bK k1 136 (.agg [(.int .i64 0),(.slice none 0 0)].toArray),bK k5 136 (.agg [(.int .i64 r2.1),v31.v].toArray),aS (aH 3 (ay aF)) ES v31.v eG]/\qU ah aa lT r2 sV c28 gU eG iV=some R) ⟨_,_,_,_,_,⟨none,0,0⟩,[],(bn.cons rfl (bn.cons rfl (bn.cons rfl (bn.cons rfl (bn.cons rfl (bn.cons rfl (bn.nil))))))).eq,(.conv .nil (jq (Ro:=(ay aF)) (E:=3)) (.cons .nil) (.sel (.cons (.t (.t .h)) (.rd (.t (.t (.t .h))) rfl (.rd (.t (.t (.t (.t .h)))) rfl (.cons (.t (.t .h)) (.cons (.t .h) (.cons .h .nil)))))))),hF⟩ ?_))
 clear hF
 rintro sV _ _ ⟨Zu,c28,gU,eG,iV,v31,ES,rfl,hE,hF⟩
 refine bV hE ?_
 clear hE
 rcases sV with _|sV
 · rw[qU]at hF
   exact absurd hF (by simp)
 rw[qU]at hF
 refine gZ (bL (Cm (.int .i64 iV) rfl rfl ?_))
 refine Cm aN.v rfl rfl ?_
 refine ax (jH (off:=0) P8.h (.tmp rfl rfl)) ?_
 refine eB (.t (.t (.t (.t .h)))) (fun hp=>fD (v:=(.int .i64 r2.1)) lC.h (.tmp rfl rfl) hp.2 rfl rfl) ?_
 obtain⟨vO,mf,hF⟩:=bind_some hF
 obtain⟨Uu,xZ⟩:=nT mf
 refine Ar (a:=vO) bI.h bH.h.sz (.tmp rfl rfl) (.tmp rfl rfl) (.t (.t .h)) Uu xZ (fun Wp Zv=>?_)
 refine Dc (w:=(.int .i64 vO)) lC.h (.tmp rfl rfl) .h gJ ?_
 refine ax (uT (i:=iV) (j:=vO) (.tmp rfl rfl) (.tmp rfl rfl)) ?_
 refine bO (iZ (b:=(decide ((iV:Int)<vO))) (.tmp rfl rfl) (fun DU=>?_) (fun DU=>?_))
 · rw[if_pos DU]at hF
   refine kU (Ac (bL (Cm (.pointer (some ⟨aB,0,some 0⟩)) rfl rfl ?_)))
   refine Cm (.int .i64 lT) rfl rfl ?_
   obtain⟨qp,x9,hF⟩:=bind_some hF
   refine aZ (.cons (.t .h) (.rd (.t .h) rfl .nil)) (bG lm.h (.cons (.tmp rfl rfl) (.cons (.tmp rfl rfl) .nil)) (@eH aB ({b:=ah.b,i:=c28,h:=gU}:ai) ae lT _ x9)) (fun p50=>?_)
   refine Ca (.int .i64 qp.1) rfl rfl ?_
   refine bO (kS (ax (jH (off:=1) Jg.h (.tmp rfl rfl)) ?_))
   refine eB (.t (.t (.t (.t (.t .h))))) (fun hp=>fD (v:=v31.v) jL.h (.tmp rfl rfl) hp.2 rfl rfl) ?_
   refine Cm (.int .i64 qp.1) rfl rfl ?_
   refine bD rfl (bz (g:=true) bI.h bH.h (.cons (.tmp rfl rfl) .nil) (vs:=[(.int .i64 qp.1)]) rfl rfl rfl (by intro v hv; simp at hv; rcases hv with rfl<;>rfl)) (fun Wq=>?_)
   refine uP (.cons .h .nil) (bB (Ro:=(ay aF)) (E:=3) (F:=([]++[])) (xs:=([qp.1]:List Int)) (aY (bF (fun _=>rfl)) bA aR) rfl rfl) aR ?_
   obtain⟨z52,Uv,hF⟩:=bind_some hF
   refine aZ (.cons (.t (.t (.t (.t (.t (.t (.t .h))))))) (.cons .h .nil)) (dH (Ro:=(ay aF)) bI.h gK bH.h rfl rfl rfl (.tmp rfl rfl) (.tmp rfl rfl) Uv dS) (fun p54=>?_)
   refine ax (jH (off:=1) Jg.h (.tmp rfl rfl)) ?_
   refine aZ (.cons (.t (.t (.t (.t (.t (.t .h)))))) .nil) (fH (e':=(.agg [(.int .i64 r2.1),p54.1.v].toArray)) rR.h.sz (.tmp rfl rfl) (.tmp rfl rfl) rfl rfl rfl rfl rfl) (fun _=>?_)
   refine bO (kS (Cm (.int .i64 iV) rfl rfl ?_))
   refine ax (m_ (i:=iV) (j:=1) (.tmp rfl rfl) (.int _ _)) ?_
   refine Ca (.int .i64 (IntKind.i64.wrap (iV+1))) rfl rfl ?_
   refine bO ?_
   exact⟨sV,Nat.lt_succ_self _,_,_,_,_,_,p54.1,p54.2,(bn.cons rfl (bn.cons rfl (bn.cons rfl (bn.cons rfl (bn.cons rfl (bn.cons rfl (bn.nil))))))).eq,(.sel (.cons (.t (.t .h)) (.rd (.t (.t (.t .h))) rfl (.rd (.t (.t (.t (.t .h)))) rfl (.cons (.t (.t (.t (.t (.t .h))))) (.cons .h (.cons .h .nil))))))),hF⟩
 rw[if_neg (by rw[DU]; exact Bool.false_ne_true)]at hF
 refine w9 ?_
 iterate 2 refine uw ?_
 refine wU (bL (eB (.t (.t (.t (.t (.t .h))))) (fun hp=>ku J_.h fU.h.sz rfl (.tmp rfl rfl) hp.2 rfl) ?_))
 refine aZ (.cons (.t (.t (.t (.t .h)))) .nil) (fH (e':=(.agg [(.int .i64 r2.1),v31.v].toArray)) (v:=(.agg [(.int .i64 r2.1),v31.v].toArray)) fU.h.sz (.tmp rfl rfl) (.tmp rfl rfl) rfl rfl rfl rfl rfl) (fun _=>?_)
 refine bO (jI ?_)
 obtain rfl:=Option.some.inj hF
 exact fq (v31,ES) (.cellA rfl rfl .h rfl J_.h fU.h.sz rfl rfl .nil) rfl (.sel (.cons (.t (.t (.t (.t (.t (.t .h)))))) (.cons (.t (.t .h)) .nil)))
def oZ(aC:aL)(bg:aL):Nat->Int->Option (Int)
 |0,_=>none
 |m5+1,c4=>if ((decide ((c4:Int)<(aC.Values.length:Int)))&&(decide ((c4:Int)<(bg.Values.length:Int))))then (
     (ix aC.Values c4).bind fun iG=>
     (ix bg.Values c4).bind fun K6=>
     if (decide ((iG:Int)<K6))then (
       some (-1))
     else (
       (ix aC.Values c4).bind fun x27=>
       (ix bg.Values c4).bind fun K7=>
       if (decide ((K7:Int)<x27))then (
         some 1)
       else (
         oZ aC bg m5 (IntKind.i64.wrap (c4+1)))))
   else (
     if (decide (((aC.Values.length:Int):Int)<(bg.Values.length:Int)))then (
       some (-1))
     else (
       if (decide (((bg.Values.length:Int):Int)<(aC.Values.length:Int)))then (
         some 1)
       else (
         some 0)))
def t_(aC:aL)(bg:aL):Option (Int):=
 if ((aC.Rel:Int)!=bg.Rel)then (
   if (decide ((aC.Rel:Int)<bg.Rel))then (
     some (-1))
   else (
     some 1))
 else (
   oZ aC bg (((aC.Values.length:Int)-0).toNat+2) 0)
theorem FY{aC:aL}{eZ:Sv}{bg:aL}{fF:Sv}{R:Int}(hF:t_ aC bg=some R):
   Fw.Spec Tryz.prog 133 [(zg [(zi aC.Rel),eZ.v]),(zg [(zi bg.Rel),fF.v])] [b_ eZ aC.Values,b_ fF bg.Values] (fun _:Unit=>(zi R)) (fun _=>[]):=by
 refine Se 66 Tryz.func133 [.tmp 4] ?_
 intro H0 F0
 unfold t_ at hF
 refine au ?_
 refine j_ (fun k1=>?_)
 refine j_ (fun k2=>?_)
 refine oD ?_
 refine Ci hF (fun Uw hF=>?_) (fun Uw hF=>?_)
 · refine g_ ?_
   refine Ci hF (fun hb3 hF=>?_) (fun hb3 hF=>?_)
   · exact ze hF
   exact ze hF
 refine aV ?_
 refine bN (dG (m:=(((aC.Values.length:Int)-0).toNat+2)) (fun m5 f' cs'=>∃(g:Fr)(c4:Int),f'=aX g [(2,(pz k1)),(3,(pz k2)),(5,(zi c4))]/\aT cs' [gu k1 136 (zg [(zi aC.Rel),eZ.v]),b_ eZ aC.Values,gu k2 136 (zg [(zi bg.Rel),fF.v]),b_ fF bg.Values]/\oZ aC bg m5 c4=some R) ⟨_,_,aK,aJ,hF⟩ ?_)
 rintro m5 _ _ ⟨g6,c4,rfl,hE,hF⟩
 refine bV hE ?_
 rcases m5 with _|m5
 · rw[oZ]at hF
   exact absurd hF (by simp)
 rw[oZ]at hF
 refine aG ?_
 refine fJ (fun f' cs'=>∃(g:Fr),f'=aX g [(2,(pz k1)),(3,(pz k2)),(5,(zi c4)),(27,(.bool ((decide ((c4:Int)<(aC.Values.length:Int)))&&(decide ((c4:Int)<(bg.Values.length:Int))))))]/\aT cs' [gu k1 136 (zg [(zi aC.Rel),eZ.v]),b_ eZ aC.Values,gu k2 136 (zg [(zi bg.Rel),fF.v]),b_ fF bg.Values]) ?_ ?_
 · refine bC ?_
   rcases dL (decide ((c4:Int)<(aC.Values.length:Int)))with mg|mg
   · rw[mg]
     try rw[mg]at hF; dsimp only[bu,bq]at hF
     refine Ka ?_
     exact⟨_,aK,aJ⟩
   rw[mg]
   try rw[mg]at hF; dsimp only[bu,bq]at hF
   refine bE ?_
   exact⟨_,aK,aJ⟩
 rintro _ _ ⟨g14,rfl,hE⟩
 refine bV hE ?_
 refine Ci hF (fun DV hF=>?_) (fun DV hF=>?_)
 · refine aU ?_
   refine gH [0,1,2,3,4,5,6,7,8,9,10] [0,1,0,7,15,0,32,0,224,480,1023] [] mixed (by decide+kernel) ?_
   refine jA ?_
   refine zI hF fun iG x_ fw hF=>?_
   refine Di fw (fun k19 ET=>?_)
   refine Dl gJ ?_
   refine jA ?_
   refine zI hF fun K6 Yd hx24 hF=>?_
   refine Di hx24 (fun k25 Zw=>?_)
   refine Dl gJ ?_
   refine dQ ?_
   refine Ci hF (fun DW hF=>?_) (fun DW hF=>?_)
   · exact ze hF
   refine au ?_
   refine gH [0,1,2,3,4,5,6,7,8,9,10] [0,1,0,7,15,0,32,0,224,480,1023] [] mixed (by decide+kernel) ?_
   refine jA ?_
   refine zI hF fun x27 Ye DX hF=>?_
   refine Di DX (fun Ws Zx=>?_)
   refine Dl gJ ?_
   refine jA ?_
   refine zI hF fun K7 Yf qf hF=>?_
   refine Di qf (fun EU Zy=>?_)
   refine Dl gJ ?_
   refine dQ ?_
   refine Ci hF (fun DY hF=>?_) (fun DY hF=>?_)
   · exact ze hF
   refine bC ?_
   exact⟨m5,dM _,_,_,aK,aJ,hF⟩
 refine Dn ?_
 refine Ci hF (fun DZ hF=>?_) (fun DZ hF=>?_)
 · exact ze hF
 refine lY ?_
 refine Ci hF (fun Ux hF=>?_) (fun Ux hF=>?_)
 · exact ze hF
 exact ze hF
def uj(eQ:aL):List aL->Nat->Option (Bool)
 |[],k5=>some false
 |x7::fu,k5=>(t_ x7 eQ).bind fun iW=>
   if ((iW:Int)==0)then (
     some true)
   else (
     uj eQ fu (k5+1))
def wP(aA:List aL)(eQ:aL):Option (Bool):=
 uj eQ aA 0
theorem Nv{aA:List aL}{ae:Sv}{eQ:aL}{fF:Sv}{R:Bool}(hF:wP aA eQ=some R):
   Fw.Spec Tryz.prog 132 [ae.v,(zg [(zi eQ.Rel),fF.v])] [uX ae aA,b_ fF eQ.Values] (fun _:Unit=>(.bool R)) (fun _=>[]):=by
 refine Se 19 Tryz.func132 [.tmp 4] ?_
 intro H0 F0
 unfold wP at hF
 refine au ?_
 refine j_ (fun k1=>?_)
 refine bC ?_
 refine bN (dG (m:=aA.length) (fun m3 f' cs'=>∃(g:Fr)(k5:Nat)(fu:List aL),m3=fu.length/\f'=aX g [(0,ae.v),(3,(pz k1)),(5,(zi (k5:Int)))]/\List.drop k5 aA=fu/\aT cs' [uX ae aA,gu k1 136 (zg [(zi eQ.Rel),fF.v]),b_ fF eQ.Values]/\uj eQ fu k5=some R) ⟨_,0,_,rfl,aK,rfl,aJ,hF⟩ ?_)
 rintro m3 _ _ ⟨g4,k5,fu,rfl,rfl,qw,hE,hF⟩
 refine Kb hE aA (fun Kc=>?_)
 rcases fu with _|⟨x7,fu⟩
 · have yS:=dn qw
   rw[uj]at hF
   refine bE ?_
   refine fZ ?_
   exact ze hF
 obtain⟨yS,jB,ib⟩:=fQ qw
 rw[uj]at hF
 refine bE ?_
 refine fV ?_
 refine aG ?_
 refine gH [0,1,2,3,4,5,6] [0,0,3,7,0,31,63] [5] mixed (by decide+kernel) ?_
 refine dQ ?_
 refine Di jB (fun k14 Zz=>?_)
 refine AR (Cb x7) G_ (fun p16=>?_)
 refine du ?_
 refine bnd hF fun iW fw hF=>qo (FY fw) (fun _=>?_)
 refine dQ ?_
 refine Ci hF (fun ma hF=>?_) (fun ma hF=>?_)
 · exact ze hF
 refine bC ?_
 rw[wk k5]
 exact⟨_,dM _,_,k5+1,fu,rfl,aK,ib,aJ,hF⟩
def pV(dE:Int)(nQ:List Int):Option (aL):=
 (app ([]:List Int) nQ).bind fun z3=>
 some (⟨dE,z3⟩:aL)
theorem zN{dE:Int}{nQ:List Int}{aN:Sv}{R:aL}(hF:pV dE nQ=some R):
   Fw.Spec Tryz.prog 134 [(zi dE),aN.v] [b_ aN nQ] (fun p:Sv×List Nat=>(zg [(zi R.Rel),p.1.v])) (fun p=>[d_ p.2 p.1 R.Values]):=by
 refine Se 10 Tryz.func134 [.cell 4 136] ?_
 intro H0 F0
 unfold pV at hF
 refine au ?_
 refine iC (fun k1=>?_)
 refine aU ?_
 refine bD rfl (bz (g:=true) bI.h bH.h .nil (vs:=[]) rfl rfl rfl (by simp)) (fun k2=>?_)
 refine bX (.cons .h .nil) (bB (Ro:=(ay aF)) (E:=3) (F:=[]) (xs:=([]:List Int)) bA rfl rfl) ?_
 refine au ?_
 refine bnd hF fun z3 hx4 hF=>aZ (.cons .h (.rd (.t .h) rfl .nil)) (dH (Ro:=(ay aF)) bI.h gK bH.h rfl rfl rfl (.tmp rfl rfl) (.tmp rfl rfl) hx4 xn) (fun p5=>?_)
 refine ax (kw fU.h rfl (vs:=[(zi dE),p5.1.v]) bi (cells:=[(zi dE),p5.1.v]) rfl) ?_
 refine As (zg [(zi dE),p5.1.v]) ?_
 refine aG ?_
 cases hF
 exact Er (p5.1,p5.2)
def lK(eQ:aL):List aL->Nat->(List aL)->Bool->Option ((List aL))
 |[],k13,c6,c9=>if (!c9)then (
     (pV eQ.Rel eQ.Values).bind fun fo=>
     (app c6 ([fo]:List aL)).bind fun z26=>
     some z26)
   else (
     some c6)
 |iG::og,k13,c6,c9=>((bif (!c9)then ((t_ eQ iG).bind fun oP=>
         some (decide ((oP:Int)<0)))
       else (some false)).bind fun o32=>
     match o32 with
     |kK=>if kK then (
         (pV eQ.Rel eQ.Values).bind fun ji=>
         (app c6 ([ji]:List aL)).bind fun z46=>
         (pV iG.Rel iG.Values).bind fun mF=>
         (app z46 ([mF]:List aL)).bind fun z58=>
         some (z58,true))
       else (
         (pV iG.Rel iG.Values).bind fun Bp=>
         (app c6 ([Bp]:List aL)).bind fun z70=>
         some (z70,c9))).bind fun EW=>
   match EW with
   |(c75,mE)=>lK eQ og (k13+1) c75 mE
def wQ(aA:List aL)(eQ:aL):Option ((List aL)):=
 (wP aA eQ).bind fun r3=>
 lK eQ aA 0 ([]:List aL) r3
theorem Nw{aA:List aL}{ae:Sv}{eQ:aL}{fF:Sv}{R:(List aL)}(hF:wQ aA eQ=some R):
   Fw.Spec Tryz.prog 109 [ae.v,(zg [(zi eQ.Rel),fF.v])] [uX ae aA,b_ fF eQ.Values] (fun p:Sv×List Nat=>p.1.v) (fun p=>[pW p.2 p.1 R]):=by
 refine Se 62 Tryz.func109 [.tmp 4] ?_
 intro H0 F0
 unfold wQ at hF
 refine au ?_
 refine j_ (fun k1=>?_)
 refine aU ?_
 refine bD rfl (bz (g:=true) jM.h fU.h .nil (vs:=[]) rfl rfl rfl (by simp)) (fun k2=>?_)
 refine bX (.cons .h .nil) (bB (Ro:=gB) (E:=136) (F:=[]) (xs:=([]:List aL)) bA rfl rfl) ?_
 refine aV ?_
 refine bnd hF fun r3 hx4 hF=>dF (Nv hx4) (fun _=>?_)
 refine bC ?_
 refine bN (dG (m:=aA.length) (fun m11 f' cs'=>∃(g:Fr)(k13:Nat)(og c6:List aL)(c9:Bool)(v7:Sv)(F8:List Nat),m11=og.length/\f'=aX g [(0,ae.v),(3,(pz k1)),(5,v7.v),(6,(.bool c9)),(7,(zi (k13:Int)))]/\List.drop k13 aA=og/\aT cs' [uX ae aA,gu k1 136 (zg [(zi eQ.Rel),fF.v]),b_ fF eQ.Values,pW F8 v7 c6]/\lK eQ og k13 c6 c9=some R) ⟨_,0,_,_,_,⟨(some ⟨k2,0,none⟩),0,1⟩,(k2::[]),rfl,aK,rfl,aJ,hF⟩ ?_)
 rintro m11 _ _ ⟨g12,k13,og,c6,c9,v7,F8,rfl,rfl,KE,hE,hF⟩
 refine Kb hE aA (fun Xo=>?_)
 rcases og with _|⟨iG,og⟩
 · have Uy:=dn KE
   rw[lK]at hF
   refine bE ?_
   refine fZ ?_
   refine fO ?_
   refine Ci hF (fun yc hF=>?_) (fun yc hF=>?_)
   · refine bC ?_
     refine bnd hF fun fo iQ hF=>cu (zN iQ) (fun kL=>?_)
     refine bD rfl (bz (g:=true) jM.h fU.h bi (vs:=[(zg [(zi fo.Rel),kL.1.v])]) rfl rfl rfl (by intro v hv; simp at hv; rcases hv with rfl<;>rfl)) (fun k25=>?_)
     refine bX (.cons .h (.cons .h .nil)) (bB (Ro:=gB) (E:=136) (F:=(kL.2++[])) (xs:=([fo]:List aL)) (aY uW bA aR) rfl rfl) ?_
     refine bnd hF fun z26 hx27 hF=>aZ (.cons .q4 (.cons .h .nil)) (dH (Ro:=gB) jM.h vo fU.h rfl rfl rfl (.tmp rfl rfl) (.tmp rfl rfl) hx27 dS) (fun p28=>?_)
     refine bE ?_
     cases hF
     exact Er (p28.1,p28.2)
   refine bC ?_
   cases hF
   exact Er (v7,F8)
 obtain⟨Uy,fw,Uz⟩:=fQ KE
 rw[lK]at hF
 refine bE ?_
 refine fV ?_
 refine au ?_
 obtain⟨EW,RV,UA⟩:=bind_some hF
 refine jW (fun f' cs'=>∃(c75:List aL)(mE:Bool)(v76:Sv)(EX:List Nat)(g:Fr),EW=(c75,mE)/\f'=aX g [(0,ae.v),(3,(pz k1)),(5,v76.v),(6,(.bool mE)),(7,(zi (k13:Int)))]/\aT cs' [uX ae aA,gu k1 136 (zg [(zi eQ.Rel),fF.v]),b_ fF eQ.Values,pW EX v76 c75]) ?_ ?_
 · replace hF:=RV
   refine bN (gZ ?_)
   obtain⟨o32,RX,UB⟩:=bind_some hF
   refine gH [0,1,2,3,4,5,6,7,8,9,10] [0,1,3,7,7,7,55,119,255,511,1023] [8] mixed (by decide+kernel) ?_
   refine Dh (fun f' cs'=>∃(kK:Bool)(g:Fr),kK=o32/\f'=aX g [(0,ae.v),(3,(pz k1)),(5,v7.v),(6,(.bool c9)),(7,(zi (k13:Int))),(28,(.bool kK))]/\aT cs' [uX ae aA,gu k1 136 (zg [(zi eQ.Rel),fF.v]),b_ fF eQ.Values,pW F8 v7 c6]) ?_ ?_
   · replace hF:=RX
     refine jA ?_
     rcases dL (!c9)with yf|yf
     · rw[yf]
       try rw[yf]at hF; dsimp only[bu,bq]at hF
       refine jA ?_
       refine Di fw (fun Wu ZA=>?_)
       refine AR (Cb iG) G_ (fun p37=>?_)
       refine bnd hF fun oP hx39 hF=>qo (FY hx39) (fun _=>?_)
       exact rT hF
     rw[yf]
     try rw[yf]at hF; dsimp only[bu,bq]at hF
     exact rT hF
   rintro _ _ ⟨kK,ZB,rfl,rfl,hE⟩
   replace hF:=UB
   try dsimp only at hF
   refine bV hE ?_
   refine Ci hF (fun UC hF=>?_) (fun UC hF=>?_)
   · refine bC ?_
     refine bnd hF fun ji mf hF=>cu (zN mf) (fun p44=>?_)
     refine bD rfl (bz (g:=true) jM.h fU.h bi (vs:=[(zg [(zi ji.Rel),p44.1.v])]) rfl rfl rfl (by intro v hv; simp at hv; rcases hv with rfl<;>rfl)) (fun K8=>?_)
     refine bX (.cons .h (.cons .h .nil)) (bB (Ro:=gB) (E:=136) (F:=(p44.2++[])) (xs:=([ji]:List aL)) (aY uW bA aR) rfl rfl) ?_
     refine bnd hF fun z46 rV hF=>aZ (.cons .q4 (.cons .h .nil)) (dH (Ro:=gB) jM.h vo fU.h rfl rfl rfl (.tmp rfl rfl) (.tmp rfl rfl) rV dS) (fun p48=>?_)
     refine aV ?_
     refine mW [0,1,2,3,4,5,6,7,8,9,10,11,12,13,14] [0,0,0,6,14,30,0,0,192,448,960,2046,4094,8191,16383] [11,13] mixed (by decide+kernel) ?_
     refine jA ?_
     refine Di fw (fun EY Wv=>?_)
     refine du ?_
     refine Dl Jh ?_
     refine dQ ?_
     refine Di fw (fun Wq ZC=>?_)
     refine du ?_
     refine Dg (R':=(bf 3 aF)) jL.h rfl .no (.tmp rfl rfl) rfl .h Ji (fun ZE=>?_)
     refine bnd hF fun mF oI hF=>vI (zN oI) (fun p56=>?_)
     refine lc rfl .no rfl (fun ha=>bz (g:=true) (len:=1) (parts:=[(0,.tmp 48)]) jM.h fU.h (.cons (EN ha (.tmp rfl rfl) rfl) .nil) (vs:=[(zg [(zi mF.Rel),p56.1.v])]) rfl rfl rfl (by intro v hv; simp at hv; rcases hv with rfl<;>rfl)) (fun ZF=>?_)
     refine mD (.cons .h (.cons .h .nil)) (bB (Ro:=gB) (E:=136) (F:=(p56.2++[])) (xs:=([mF]:List aL)) (aY uW bA aR) rfl rfl) ?_
     refine bnd hF fun z58 DJ hF=>gI rfl rfl .no (.cons .q4 (.cons .h .nil)) (.dep rfl .nil) (fun ha=>dH (Ro:=gB) jM.h vo fU.h rfl rfl rfl (EN ha (.tmp rfl rfl) rfl) (EN ha (.tmp rfl rfl) rfl) DJ dS) (fun p60=>?_)
     refine dQ ?_
     cases hF
     exact⟨_,_,p60.1,p60.2,_,rfl,aK,aJ⟩
   refine au ?_
   refine mW [0,1,2,3,4,5,6,7,8,9,10,11,12,13,14] [0,0,0,6,14,30,0,0,192,448,960,2046,4094,8191,16383] [11,13] mixed (by decide+kernel) ?_
   refine jA ?_
   refine Di fw (fun Wj ZG=>?_)
   refine du ?_
   refine Dl Jh ?_
   refine dQ ?_
   refine Di fw (fun ZH ZI=>?_)
   refine du ?_
   refine Dg (R':=(bf 3 aF)) jL.h rfl .no (.tmp rfl rfl) rfl .h Ji (fun ZJ=>?_)
   refine bnd hF fun Bp DN hF=>vI (zN DN) (fun p68=>?_)
   refine lc rfl .no rfl (fun ha=>bz (g:=true) (len:=1) (parts:=[(0,.tmp 48)]) jM.h fU.h (.cons (EN ha (.tmp rfl rfl) rfl) .nil) (vs:=[(zg [(zi Bp.Rel),p68.1.v])]) rfl rfl rfl (by intro v hv; simp at hv; rcases hv with rfl<;>rfl)) (fun ZK=>?_)
   refine mD (.cons .h (.cons .h .nil)) (bB (Ro:=gB) (E:=136) (F:=(p68.2++[])) (xs:=([Bp]:List aL)) (aY uW bA aR) rfl rfl) ?_
   refine bnd hF fun z70 UD hF=>gI rfl rfl .no (.cons .q7 (.cons .h .nil)) (.dep rfl .nil) (fun ha=>dH (Ro:=gB) jM.h vo fU.h rfl rfl rfl (EN ha (.tmp rfl rfl) rfl) (EN ha (.tmp rfl rfl) rfl) UD dS) (fun p72=>?_)
   refine dQ ?_
   cases hF
   exact⟨_,_,p72.1,p72.2,_,rfl,aK,aJ⟩
 rintro _ _ ⟨c75,mE,v76,EX,ZL,rfl,rfl,hE⟩
 replace hF:=UA
 try dsimp only at hF
 refine bV hE ?_
 refine aV ?_
 rw[wk k13]
 exact⟨_,dM _,_,k13+1,og,_,_,v76,EX,rfl,aK,Uz,aJ,hF⟩
def qQ(ah:ai)(aa:List Int)(fuel:Nat):Nat->Int->Int->(List aL)->Int->Option ((List aL)×ai)
 |0,_,_,_,_=>none
 |sW+1,c23,c24,gT,c28=>if (decide ((0:Int)<c28))then (
     (wV fuel (⟨ah.b,c23,c24⟩:ai) aa 4).bind fun Bq=>
     (wQ gT Bq.1).bind fun oQ=>
     qQ ah aa fuel sW Bq.2.i Bq.2.h oQ (IntKind.i64.wrap (c28-1)))
   else (
     some (gT,(⟨ah.b,c23,c24⟩:ai)))
def uE(fuel:Nat)(ah:ai)(aa:List Int)(oh:Int):Option ((List aL)×ai):=
 (dR ah (IntKind.i64.wrap (oh+1))).bind fun r2=>
 qQ ah aa fuel ((r2.1-0).toNat+2) r2.2.i r2.2.h ([]:List aL) r2.1
theorem GZ{fuel aB:Nat}{ah:ai}{ae:Sv}{aa:List Int}{aN:Sv}{oh:Int}{R:(List aL)×ai}(hF:uE fuel ah aa oh=some R):
   Fw.Spec Tryz.prog 73 [(pz aB),aN.v,(zi oh)] [bK aB 98 (zg [ae.v,(zi ah.i),(zi ah.h)]),dU ae ah.b,b_ aN aa] (fun p:Sv×List Nat=>p.1.v) (fun p=>[pW p.2 p.1 R.1,bK aB 98 (zg [ae.v,(zi R.2.i),(zi R.2.h)])]):=by
 refine Se 24 Tryz.func73 [.tmp 6] ?_
 intro H0 F0
 unfold uE at hF
 refine aM ?_
 refine bD rfl (bz (g:=true) jM.h fU.h .nil (vs:=[]) rfl rfl rfl (by simp)) (fun k1=>?_)
 refine bX (.cons .h .nil) (bB (Ro:=gB) (E:=136) (F:=[]) (xs:=([]:List aL)) bA rfl rfl) ?_
 refine bE ?_
 refine bnd hF fun r2 hx3 hF=>cu (eH hx3) (fun p4=>?_)
 refine aG ?_
 refine bN (dG (m:=((r2.1-0).toNat+2)) (fun sW f' cs'=>∃(g:Fr)(c23 c24:Int)(gT:List aL)(c28:Int)(v26:Sv)(F27:List Nat),f'=aX g [(0,(pz aB)),(1,aN.v),(7,v26.v),(8,(zi c28))]/\aT cs' [bK aB 98 (zg [ae.v,(zi c23),(zi c24)]),dU ae ah.b,b_ aN aa,pW F27 v26 gT]/\qQ ah aa fuel sW c23 c24 gT c28=some R) ⟨_,_,_,_,_,⟨(some ⟨k1,0,none⟩),0,1⟩,(k1::[]),aK,aJ,hF⟩ ?_)
 rintro sW _ _ ⟨ZM,c23,c24,gT,c28,v26,F27,rfl,hE,hF⟩
 refine bV hE ?_
 rcases sW with _|sW
 · rw[qQ]at hF
   exact absurd hF (by simp)
 rw[qQ]at hF
 refine aV ?_
 refine Ci hF (fun DV hF=>?_) (fun DV hF=>?_)
 · refine bC ?_
   refine bnd hF fun Bq hx38 hF=>kg (Hd hx38) (fun p39=>?_)
   refine bnd hF fun oQ yg hF=>lZ (.cons .h (.cons .q3 .nil)) (mX (pre:=[]) (.cons bU (.cons bU .nil)) (fun _=>(.cons .nil)) (bG RL.h bi (Nw yg))) (fun p42=>?_)
   refine bE ?_
   exact⟨sW,dM _,_,_,_,_,_,p42.1,p42.2,aK,aJ,hF⟩
 refine fO ?_
 cases hF
 exact Er (v26,F27)
def lU(dB:Int)(kz:Int)(lV:Int):Option (Bool):=
 some ((decide ((kz:Int)<=dB))&&(decide ((dB:Int)<=lV)))
theorem wR{dB kz lV:Int}{R:Bool}(hF:lU dB kz lV=some R):
   Fw.Spec Tryz.prog 29 [(zi dB),(zi kz),(zi lV)] [] (fun _:Unit=>(.bool R)) (fun _=>[]):=by
 refine Se 15 Tryz.func29 [.tmp 6] ?_
 intro H0 F0
 unfold lU at hF
 refine aM ?_
 refine fJ (fun f' cs'=>∃(g:Fr),f'=aX g [(6,(.bool ((decide ((kz:Int)<=dB))&&(decide ((dB:Int)<=lV)))))]/\aT cs' []) ?_ ?_
 · refine aM ?_
   rcases dL (decide ((kz:Int)<=dB))with hg1|hg1
   · rw[hg1]
     try rw[hg1]at hF; dsimp only[bu,bq]at hF
     refine fO ?_
     exact⟨_,aK,aJ⟩
   rw[hg1]
   try rw[hg1]at hF; dsimp only[bu,bq]at hF
   refine bC ?_
   exact⟨_,aK,aJ⟩
 rintro _ _ ⟨g2,rfl,hE⟩
 refine bV hE ?_
 exact ze hF
def qK(aa:List Int):List Int->Nat->Option (Bool)
 |[],k4=>(lU (aa.length:Int) 1 3).bind fun dx=>
   some dx
 |x6::aW,k4=>(lU x6 1 3).bind fun nI=>
   if (!nI)then (
     some false)
   else (
     qK aa aW (k4+1))
def rf(aa:List Int):Option (Bool):=
 qK aa aa 0
theorem BX{aa:List Int}{ae:Sv}{R:Bool}(hF:rf aa=some R):
   Fw.Spec Tryz.prog 111 [ae.v] [b_ ae aa] (fun _:Unit=>(.bool R)) (fun _=>[]):=by
 refine Se 19 Tryz.func111 [.tmp 2] ?_
 intro H0 F0
 unfold rf at hF
 refine bE ?_
 refine bN (dG (m:=aa.length) (fun m2 f' cs'=>∃(g:Fr)(k4:Nat)(aW:List Int),m2=aW.length/\f'=aX g [(0,ae.v),(3,(zi (k4:Int)))]/\List.drop k4 aa=aW/\aT cs' [b_ ae aa]/\qK aa aW k4=some R) ⟨_,0,_,rfl,aK,rfl,aJ,hF⟩ ?_)
 rintro m2 _ _ ⟨g3,k4,aW,rfl,rfl,hd7,hE,hF⟩
 refine Kb hE aa (fun pX=>?_)
 rcases aW with _|⟨x6,aW⟩
 · have jk:=dn hd7
   rw[qK]at hF
   refine bE ?_
   refine fZ ?_
   refine bE ?_
   refine bnd hF fun dx jN hF=>dF (wR jN) (fun _=>?_)
   exact ze hF
 obtain⟨jk,fC,jc⟩:=fQ hd7
 rw[qK]at hF
 refine bE ?_
 refine fV ?_
 refine aV ?_
 refine Ai fC (fun k16 ZN=>?_)
 refine Al gJ ?_
 refine bnd hF fun nI rU hF=>dF (wR rU) (fun _=>?_)
 refine aG ?_
 refine Ci hF (fun rW hF=>?_) (fun rW hF=>?_)
 · exact ze hF
 refine bC ?_
 rw[wk k4]
 exact⟨_,dM _,_,k4+1,aW,rfl,aK,jc,aJ,hF⟩
def wo(fuel:Nat)(ah:ai)(aa:List Int):Option (Method×ai):=
 (rf aa).bind fun r3=>
 if r3 then (
   (wJ fuel ah aa).bind fun r6=>
   (dR (⟨ah.b,r6.2.i,r6.2.h⟩:ai) 10).bind fun r9=>
   if ((r9.1:Int)==0)then (
     (iY (⟨ah.b,r9.2.i,r9.2.h⟩:ai) ([(-1),9,10]:List Int)).bind fun dx=>
     some ((⟨r6.1.Rel,r6.1.Inputs,dx.1,r6.1.Cost,r6.1.Quota⟩:Method),(⟨ah.b,dx.2.i,dx.2.h⟩:ai)))
   else (
     if ((r9.1:Int)==1)then (
       (dR (⟨ah.b,r9.2.i,r9.2.h⟩:ai) 5).bind fun r16=>
       (app r6.1.Inputs ([(IntKind.i64.wrap (r16.1-1))]:List Int)).bind fun z20=>
       some ((⟨r6.1.Rel,z20,r6.1.Limit,r6.1.Cost,r6.1.Quota⟩:Method),(⟨ah.b,r16.2.i,r16.2.h⟩:ai)))
     else (
       if ((r9.1:Int)==2)then (
         (iY (⟨ah.b,r9.2.i,r9.2.h⟩:ai) ([0,99,100]:List Int)).bind fun gV=>
         some ((⟨r6.1.Rel,r6.1.Inputs,r6.1.Limit,r6.1.Cost,gV.1⟩:Method),(⟨ah.b,gV.2.i,gV.2.h⟩:ai)))
       else (
         if ((r9.1:Int)==3)then (
           (iY (⟨ah.b,r9.2.i,r9.2.h⟩:ai) ([(-1),99,100]:List Int)).bind fun nJ=>
           some ((⟨r6.1.Rel,r6.1.Inputs,r6.1.Limit,nJ.1,r6.1.Quota⟩:Method),(⟨ah.b,nJ.2.i,nJ.2.h⟩:ai)))
         else (
           some (r6.1,(⟨ah.b,r9.2.i,r9.2.h⟩:ai)))))))
 else (
   (dR ah 10).bind fun dP=>
   if ((dP.1:Int)==0)then (
     (iY (⟨ah.b,dP.2.i,dP.2.h⟩:ai) ([(-1),9,10]:List Int)).bind fun il=>
     some ((⟨0,[],il.1,0,1⟩:Method),(⟨ah.b,il.2.i,il.2.h⟩:ai)))
   else (
     if ((dP.1:Int)==1)then (
       (dR (⟨ah.b,dP.2.i,dP.2.h⟩:ai) 5).bind fun ji=>
       (app ([]:List Int) ([(IntKind.i64.wrap (ji.1-1))]:List Int)).bind fun z46=>
       some ((⟨0,z46,0,0,1⟩:Method),(⟨ah.b,ji.2.i,ji.2.h⟩:ai)))
     else (
       if ((dP.1:Int)==2)then (
         (iY (⟨ah.b,dP.2.i,dP.2.h⟩:ai) ([0,99,100]:List Int)).bind fun jS=>
         some ((⟨0,[],0,0,jS.1⟩:Method),(⟨ah.b,jS.2.i,jS.2.h⟩:ai)))
       else (
         if ((dP.1:Int)==3)then (
           (iY (⟨ah.b,dP.2.i,dP.2.h⟩:ai) ([(-1),99,100]:List Int)).bind fun mF=>
           some ((⟨0,[],0,mF.1,1⟩:Method),(⟨ah.b,mF.2.i,mF.2.h⟩:ai)))
         else (
           some ((⟨0,[],0,0,1⟩:Method),(⟨ah.b,dP.2.i,dP.2.h⟩:ai)))))))
theorem Mq{fuel aB:Nat}{ah:ai}{ae:Sv}{aa:List Int}{aN:Sv}{R:Method×ai}(hF:wo fuel ah aa=some R):
   Fw.Spec Tryz.prog 74 [(pz aB),aN.v] [bK aB 98 (zg [ae.v,(zi ah.i),(zi ah.h)]),dU ae ah.b,b_ aN aa] (fun p:Sv×List Nat=>(zg [(zi R.1.Rel),p.1.v,(zi R.1.Limit),(zi R.1.Cost),(zi R.1.Quota)])) (fun p=>[d_ p.2 p.1 R.1.Inputs,bK aB 98 (zg [ae.v,(zi R.2.i),(zi R.2.h)])]):=by
 refine Se 43 Tryz.func74 [.cell 4 36] ?_
 intro H0 F0
 unfold wo at hF
 refine au ?_
 refine iC (fun k1=>?_)
 refine aG ?_
 refine ax (kw iP.h rfl (vs:=[(zi 1)]) (.cons (.int _ _) .nil) (cells:=[(zi 0),(.slice none 0 0),(zi 0),(zi 0),(zi 1)]) rfl) ?_
 refine iC (fun k2=>?_)
 refine As (zg [(zi 0),(.slice none 0 0),(zi 0),(zi 0),(zi 1)]) ?_
 refine aM ?_
 refine bnd hF fun r3 hx4 hF=>dF (BX hx4) (fun _=>?_)
 refine au ?_
 refine Ci hF (fun UE hF=>?_) (fun UE hF=>?_)
 · refine aU ?_
   refine bnd hF fun r6 hx7 hF=>kg (GD hx7) (fun p8=>?_)
   refine As (zg [(zi r6.1.Rel),p8.1.v,(zi r6.1.Limit),(zi r6.1.Cost),(zi r6.1.Quota)]) ?_
   refine aM ?_
   refine bnd hF fun r9 jB hF=>cu (eH jB) (fun EJ=>?_)
   refine au ?_
   refine bN (bL (ax (jV (i:=r9.1) (j:=0) (.tmp rfl rfl) (.int _ _)) ?_))
   refine aG ?_
   refine Ci hF (fun D5 hF=>?_) (fun D5 hF=>?_)
   · refine aG ?_
     refine bD rfl (bz (g:=true) bI.h bH.h (.cons (.int _ _) (.cons (.int _ _) (.cons (.int _ _) .nil))) (vs:=[(zi (-1)),(zi 9),(zi 10)]) rfl rfl rfl (by intro v hv; simp at hv; rcases hv with rfl|rfl|rfl<;>rfl)) (fun k12=>?_)
     refine bX (.cons .h .nil) (bB (Ro:=(ay aF)) (E:=3) (F:=([]++([]++([]++[])))) (xs:=([(-1),9,10]:List Int)) (aY (bF (fun _=>rfl)) (aY (bF (fun _=>rfl)) (aY (bF (fun _=>rfl)) bA aR) aR) aR) rfl rfl) ?_
     refine bnd hF fun dx jN hF=>iN (.cons .h (.cons .h (.rd .q3 rfl .nil))) (dW bU (fun _=>(.cons .nil)) (iI (.cons (.t .h) (.rd (.t .h) rfl (.rd .h rfl .nil))) (bG l9.h bi (@lJ aB (⟨ah.b,r9.2.i,r9.2.h⟩:ai) ae ([(-1),9,10]:List Int) (⟨(some ⟨k12,0,none⟩),3,1⟩) _ jN)))) (fun nK=>?_)
     refine au ?_
     refine As (zg [(zi r6.1.Rel),p8.1.v,(zi dx.1),(zi r6.1.Cost),(zi r6.1.Quota)]) ?_
     refine aU ?_
     refine As (zg [(zi r6.1.Rel),p8.1.v,(zi dx.1),(zi r6.1.Cost),(zi r6.1.Quota)]) ?_
     refine aG ?_
     cases hF
     exact Er (p8.1,p8.2)
   refine aM ?_
   refine Ci hF (fun yh hF=>?_) (fun yh hF=>?_)
   · refine mW [0,1,2,3,4,5,6,7,8] [0,1,0,4,12,28,63,127,255] [3,6,8] mixed (by decide+kernel) ?_
     refine du ?_
     refine iJ rfl .no (.t .h) (fun ha hp=>fD (v:=p8.1.v) jL.h (EN ha (.tmp rfl rfl) rfl) hp.2 rfl rfl) ?_
     refine du ?_
     refine bnd hF fun r16 iR hF=>gI rfl rfl .no (.cons .h (.rd .q3 rfl .nil)) (.own .h (fun _ h=>h) .nil) (fun ha=>bG lm.h (.cons (EN ha (.tmp rfl rfl) rfl) (.cons (EN ha (.int _ _) rfl) .nil)) (@eH aB (⟨ah.b,r9.2.i,r9.2.h⟩:ai) ae 5 _ iR)) (fun ZO=>?_)
     refine du ?_
     refine lc rfl .no rfl (fun ha=>bz (g:=true) (len:=1) (parts:=[(0,.tmp 26)]) bI.h bH.h (.cons (EN ha (.tmp rfl rfl) rfl) .nil) (vs:=[(zi (IntKind.i64.wrap (r16.1-1)))]) rfl rfl rfl (by intro v hv; simp at hv; rcases hv with rfl<;>rfl)) (fun k19=>?_)
     refine mD (.cons .h .nil) (bB (Ro:=(ay aF)) (E:=3) (F:=([]++[])) (xs:=([(IntKind.i64.wrap (r16.1-1))]:List Int)) (aY (bF (fun _=>rfl)) bA aR) rfl rfl) ?_
     refine bnd hF fun z20 nE hF=>gI rfl rfl .no (.cons .q3 (.cons .h .nil)) (.dep rfl (.dep rfl .nil)) (fun ha=>dH (Ro:=(ay aF)) bI.h gK bH.h rfl rfl rfl (EN ha (.tmp rfl rfl) rfl) (EN ha (.tmp rfl rfl) rfl) nE dS) (fun nL=>?_)
     refine du ?_
     refine gI rfl rfl .no (.cons .q2 .nil) (.dep rfl (.dep rfl .nil)) (fun ha=>fH (e':=(zg [(zi r6.1.Rel),nL.1.v,(zi r6.1.Limit),(zi r6.1.Cost),(zi r6.1.Quota)])) rR.h.sz (EN ha (.tmp rfl rfl) rfl) (EN ha (.tmp rfl rfl) rfl) rfl rfl rfl rfl rfl) (fun _=>?_)
     refine du ?_
     refine aG ?_
     refine As (zg [(zi r6.1.Rel),nL.1.v,(zi r6.1.Limit),(zi r6.1.Cost),(zi r6.1.Quota)]) ?_
     refine aG ?_
     cases hF
     exact Er (nL.1,nL.2)
   refine aM ?_
   refine Ci hF (fun kG hF=>?_) (fun kG hF=>?_)
   · refine aG ?_
     refine bD rfl (bz (g:=true) bI.h bH.h (.cons (.int _ _) (.cons (.int _ _) (.cons (.int _ _) .nil))) (vs:=[(zi 0),(zi 99),(zi 100)]) rfl rfl rfl (by intro v hv; simp at hv; rcases hv with rfl|rfl|rfl<;>rfl)) (fun k23=>?_)
     refine bX (.cons .h .nil) (bB (Ro:=(ay aF)) (E:=3) (F:=([]++([]++([]++[])))) (xs:=([0,99,100]:List Int)) (aY (bF (fun _=>rfl)) (aY (bF (fun _=>rfl)) (aY (bF (fun _=>rfl)) bA aR) aR) aR) rfl rfl) ?_
     refine bnd hF fun gV hx25 hF=>iN (.cons .h (.cons .h (.rd .q3 rfl .nil))) (dW bU (fun _=>(.cons .nil)) (iI (.cons (.t .h) (.rd (.t .h) rfl (.rd .h rfl .nil))) (bG l9.h bi (@lJ aB (⟨ah.b,r9.2.i,r9.2.h⟩:ai) ae ([0,99,100]:List Int) (⟨(some ⟨k23,0,none⟩),3,1⟩) _ hx25)))) (fun p26=>?_)
     refine au ?_
     refine As (zg [(zi r6.1.Rel),p8.1.v,(zi r6.1.Limit),(zi r6.1.Cost),(zi gV.1)]) ?_
     refine aU ?_
     refine As (zg [(zi r6.1.Rel),p8.1.v,(zi r6.1.Limit),(zi r6.1.Cost),(zi gV.1)]) ?_
     refine aG ?_
     cases hF
     exact Er (p8.1,p8.2)
   refine aM ?_
   refine Ci hF (fun D6 hF=>?_) (fun D6 hF=>?_)
   · refine aG ?_
     refine bD rfl (bz (g:=true) bI.h bH.h (.cons (.int _ _) (.cons (.int _ _) (.cons (.int _ _) .nil))) (vs:=[(zi (-1)),(zi 99),(zi 100)]) rfl rfl rfl (by intro v hv; simp at hv; rcases hv with rfl|rfl|rfl<;>rfl)) (fun k27=>?_)
     refine bX (.cons .h .nil) (bB (Ro:=(ay aF)) (E:=3) (F:=([]++([]++([]++[])))) (xs:=([(-1),99,100]:List Int)) (aY (bF (fun _=>rfl)) (aY (bF (fun _=>rfl)) (aY (bF (fun _=>rfl)) bA aR) aR) aR) rfl rfl) ?_
     refine bnd hF fun nJ hx29 hF=>iN (.cons .h (.cons .h (.rd .q3 rfl .nil))) (dW bU (fun _=>(.cons .nil)) (iI (.cons (.t .h) (.rd (.t .h) rfl (.rd .h rfl .nil))) (bG l9.h bi (@lJ aB (⟨ah.b,r9.2.i,r9.2.h⟩:ai) ae ([(-1),99,100]:List Int) (⟨(some ⟨k27,0,none⟩),3,1⟩) _ hx29)))) (fun p30=>?_)
     refine au ?_
     refine As (zg [(zi r6.1.Rel),p8.1.v,(zi r6.1.Limit),(zi nJ.1),(zi r6.1.Quota)]) ?_
     refine aU ?_
     refine As (zg [(zi r6.1.Rel),p8.1.v,(zi r6.1.Limit),(zi nJ.1),(zi r6.1.Quota)]) ?_
     refine aG ?_
     cases hF
     exact Er (p8.1,p8.2)
   refine aU ?_
   refine As (zg [(zi r6.1.Rel),p8.1.v,(zi r6.1.Limit),(zi r6.1.Cost),(zi r6.1.Quota)]) ?_
   refine aG ?_
   cases hF
   exact Er (p8.1,p8.2)
 refine aM ?_
 refine bnd hF fun dP qf hF=>cu (eH qf) (fun p37=>?_)
 refine au ?_
 refine bN (bL (ax (jV (i:=dP.1) (j:=0) (.tmp rfl rfl) (.int _ _)) ?_))
 refine aG ?_
 refine Ci hF (fun D7 hF=>?_) (fun D7 hF=>?_)
 · refine aG ?_
   refine bD rfl (bz (g:=true) bI.h bH.h (.cons (.int _ _) (.cons (.int _ _) (.cons (.int _ _) .nil))) (vs:=[(zi (-1)),(zi 9),(zi 10)]) rfl rfl rfl (by intro v hv; simp at hv; rcases hv with rfl|rfl|rfl<;>rfl)) (fun EZ=>?_)
   refine bX (.cons .h .nil) (bB (Ro:=(ay aF)) (E:=3) (F:=([]++([]++([]++[])))) (xs:=([(-1),9,10]:List Int)) (aY (bF (fun _=>rfl)) (aY (bF (fun _=>rfl)) (aY (bF (fun _=>rfl)) bA aR) aR) aR) rfl rfl) ?_
   refine bnd hF fun il nD hF=>iN (.cons .h (.cons .h (.rd .q2 rfl .nil))) (dW bU (fun _=>(.cons .nil)) (iI (.cons (.t .h) (.rd (.t .h) rfl (.rd .h rfl .nil))) (bG l9.h bi (@lJ aB (⟨ah.b,dP.2.i,dP.2.h⟩:ai) ae ([(-1),9,10]:List Int) (⟨(some ⟨EZ,0,none⟩),3,1⟩) _ nD)))) (fun p41=>?_)
   refine au ?_
   refine As (zg [(zi 0),(.slice none 0 0),(zi il.1),(zi 0),(zi 1)]) ?_
   refine aU ?_
   refine As (zg [(zi 0),(.slice none 0 0),(zi il.1),(zi 0),(zi 1)]) ?_
   refine aG ?_
   cases hF
   exact fq (⟨none,0,0⟩,[]) (.cellA rfl rfl .h rfl vg.h iP.h.sz rfl rfl .nil) rfl (.conv .nil (jq (Ro:=(ay aF)) (E:=3)) (.cons .nil) (.sel (.cons .h (.cons .q3 .nil))))
 refine aM ?_
 refine Ci hF (fun D8 hF=>?_) (fun D8 hF=>?_)
 · refine mW [0,1,2,3,4,5,6,7,8] [0,1,0,4,12,28,63,127,255] [3,6,8] mixed (by decide+kernel) ?_
   refine du ?_
   refine iJ rfl .no (.t .h) (fun ha hp=>fD (v:=(.slice none 0 0)) jL.h (EN ha (.tmp rfl rfl) rfl) hp.2 rfl rfl) ?_
   refine du ?_
   refine bnd hF fun ji mf hF=>gI rfl rfl .no (.cons .h (.rd .q2 rfl .nil)) (.own .h (fun _ h=>h) .nil) (fun ha=>bG lm.h (.cons (EN ha (.tmp rfl rfl) rfl) (.cons (EN ha (.int _ _) rfl) .nil)) (@eH aB (⟨ah.b,dP.2.i,dP.2.h⟩:ai) ae 5 _ mf)) (fun p44=>?_)
   refine du ?_
   refine lc rfl .no rfl (fun ha=>bz (g:=true) (len:=1) (parts:=[(0,.tmp 26)]) bI.h bH.h (.cons (EN ha (.tmp rfl rfl) rfl) .nil) (vs:=[(zi (IntKind.i64.wrap (ji.1-1)))]) rfl rfl rfl (by intro v hv; simp at hv; rcases hv with rfl<;>rfl)) (fun K8=>?_)
   refine mD (.cons .h .nil) (bB (Ro:=(ay aF)) (E:=3) (F:=([]++[])) (xs:=([(IntKind.i64.wrap (ji.1-1))]:List Int)) (aY (bF (fun _=>rfl)) bA aR) rfl rfl) ?_
   refine mD .nil (jq (Ro:=(ay aF)) (E:=3)) ?_
   refine bnd hF fun z46 rV hF=>gI rfl rfl .no (.cons .h (.cons .h .nil)) (.dep rfl (.dep rfl .nil)) (fun ha=>dH (Ro:=(ay aF)) bI.h gK bH.h rfl rfl rfl (EN ha (.tmp rfl rfl) rfl) (EN ha (.tmp rfl rfl) rfl) rV dS) (fun p48=>?_)
   refine du ?_
   refine gI rfl rfl .no (.cons .q2 .nil) (.dep rfl (.dep rfl .nil)) (fun ha=>fH (e':=(zg [(zi 0),p48.1.v,(zi 0),(zi 0),(zi 1)])) rR.h.sz (EN ha (.tmp rfl rfl) rfl) (EN ha (.tmp rfl rfl) rfl) rfl rfl rfl rfl rfl) (fun _=>?_)
   refine du ?_
   refine aG ?_
   refine As (zg [(zi 0),p48.1.v,(zi 0),(zi 0),(zi 1)]) ?_
   refine aG ?_
   cases hF
   exact Er (p48.1,p48.2)
 refine aM ?_
 refine Ci hF (fun rX hF=>?_) (fun rX hF=>?_)
 · refine aG ?_
   refine bD rfl (bz (g:=true) bI.h bH.h (.cons (.int _ _) (.cons (.int _ _) (.cons (.int _ _) .nil))) (vs:=[(zi 0),(zi 99),(zi 100)]) rfl rfl rfl (by intro v hv; simp at hv; rcases hv with rfl|rfl|rfl<;>rfl)) (fun EY=>?_)
   refine bX (.cons .h .nil) (bB (Ro:=(ay aF)) (E:=3) (F:=([]++([]++([]++[])))) (xs:=([0,99,100]:List Int)) (aY (bF (fun _=>rfl)) (aY (bF (fun _=>rfl)) (aY (bF (fun _=>rfl)) bA aR) aR) aR) rfl rfl) ?_
   refine bnd hF fun jS rY hF=>iN (.cons .h (.cons .h (.rd .q2 rfl .nil))) (dW bU (fun _=>(.cons .nil)) (iI (.cons (.t .h) (.rd (.t .h) rfl (.rd .h rfl .nil))) (bG l9.h bi (@lJ aB (⟨ah.b,dP.2.i,dP.2.h⟩:ai) ae ([0,99,100]:List Int) (⟨(some ⟨EY,0,none⟩),3,1⟩) _ rY)))) (fun p52=>?_)
   refine au ?_
   refine As (zg [(zi 0),(.slice none 0 0),(zi 0),(zi 0),(zi jS.1)]) ?_
   refine aU ?_
   refine As (zg [(zi 0),(.slice none 0 0),(zi 0),(zi 0),(zi jS.1)]) ?_
   refine aG ?_
   cases hF
   exact fq (⟨none,0,0⟩,[]) (.cellA rfl rfl .h rfl vg.h iP.h.sz rfl rfl .nil) rfl (.conv .nil (jq (Ro:=(ay aF)) (E:=3)) (.cons .nil) (.sel (.cons .h (.cons .q3 .nil))))
 refine aM ?_
 refine Ci hF (fun oJ hF=>?_) (fun oJ hF=>?_)
 · refine aG ?_
   refine bD rfl (bz (g:=true) bI.h bH.h (.cons (.int _ _) (.cons (.int _ _) (.cons (.int _ _) .nil))) (vs:=[(zi (-1)),(zi 99),(zi 100)]) rfl rfl rfl (by intro v hv; simp at hv; rcases hv with rfl|rfl|rfl<;>rfl)) (fun Br=>?_)
   refine bX (.cons .h .nil) (bB (Ro:=(ay aF)) (E:=3) (F:=([]++([]++([]++[])))) (xs:=([(-1),99,100]:List Int)) (aY (bF (fun _=>rfl)) (aY (bF (fun _=>rfl)) (aY (bF (fun _=>rfl)) bA aR) aR) aR) rfl rfl) ?_
   refine bnd hF fun mF oI hF=>iN (.cons .h (.cons .h (.rd .q2 rfl .nil))) (dW bU (fun _=>(.cons .nil)) (iI (.cons (.t .h) (.rd (.t .h) rfl (.rd .h rfl .nil))) (bG l9.h bi (@lJ aB (⟨ah.b,dP.2.i,dP.2.h⟩:ai) ae ([(-1),99,100]:List Int) (⟨(some ⟨Br,0,none⟩),3,1⟩) _ oI)))) (fun p56=>?_)
   refine au ?_
   refine As (zg [(zi 0),(.slice none 0 0),(zi 0),(zi mF.1),(zi 1)]) ?_
   refine aU ?_
   refine As (zg [(zi 0),(.slice none 0 0),(zi 0),(zi mF.1),(zi 1)]) ?_
   refine aG ?_
   cases hF
   exact fq (⟨none,0,0⟩,[]) (.cellA rfl rfl .h rfl vg.h iP.h.sz rfl rfl .nil) rfl (.conv .nil (jq (Ro:=(ay aF)) (E:=3)) (.cons .nil) (.sel (.cons .h (.cons .q3 .nil))))
 refine aU ?_
 refine As (zg [(zi 0),(.slice none 0 0),(zi 0),(zi 0),(zi 1)]) ?_
 refine aG ?_
 cases hF
 exact fq (⟨none,0,0⟩,[]) (.cellA rfl rfl .h rfl vg.h iP.h.sz rfl rfl .nil) rfl (.conv .nil (jq (Ro:=(ay aF)) (E:=3)) (.cons .nil) (.sel (.cons .h (.cons (.t .h) .nil))))
def ut(fuel:Nat)(ah:ai)(aa:List Int):Option (aL×ai):=
 (rf aa).bind fun r4=>
 if r4 then (
   (wV fuel ah aa 10).bind fun r7=>
   (dR (⟨ah.b,r7.2.i,r7.2.h⟩:ai) 8).bind fun dm=>
   if ((dm.1:Int)==0)then (
     (dR (⟨ah.b,dm.2.i,dm.2.h⟩:ai) 5).bind fun dx=>
     some ((⟨(IntKind.i64.wrap (dx.1-1)),r7.1.Values⟩:aL),(⟨ah.b,dx.2.i,dx.2.h⟩:ai)))
   else (
     if ((dm.1:Int)==1)then (
       (iY (⟨ah.b,dm.2.i,dm.2.h⟩:ai) ([(-1),9,10]:List Int)).bind fun iW=>
       (fP (decide (0<=0)&&decide (0<(r7.1.Values.length:Int)))).bind fun u23=>
       (some (r7.1.Values.set (0:Int).toNat iW.1)).bind fun z25=>
       some ((⟨r7.1.Rel,z25⟩:aL),(⟨ah.b,iW.2.i,iW.2.h⟩:ai)))
     else (
       if ((dm.1:Int)==2)then (
         (app r7.1.Values ([1]:List Int)).bind fun z29=>
         some ((⟨r7.1.Rel,z29⟩:aL),(⟨ah.b,dm.2.i,dm.2.h⟩:ai)))
       else (
         some (r7.1,(⟨ah.b,dm.2.i,dm.2.h⟩:ai))))))
 else (
   (dR ah 8).bind fun dP=>
   if ((dP.1:Int)==0)then (
     (dR (⟨ah.b,dP.2.i,dP.2.h⟩:ai) 5).bind fun oP=>
     some ((⟨(IntKind.i64.wrap (oP.1-1)),([1]:List Int)⟩:aL),(⟨ah.b,oP.2.i,oP.2.h⟩:ai)))
   else (
     if ((dP.1:Int)==1)then (
       (iY (⟨ah.b,dP.2.i,dP.2.h⟩:ai) ([(-1),9,10]:List Int)).bind fun ji=>
       (fP (decide (0<=0)&&decide (0<(([1]:List Int).length:Int)))).bind fun u48=>
       (some (([1]:List Int).set (0:Int).toNat ji.1)).bind fun z50=>
       some ((⟨0,z50⟩:aL),(⟨ah.b,ji.2.i,ji.2.h⟩:ai)))
     else (
       if ((dP.1:Int)==2)then (
         (app ([1]:List Int) ([1]:List Int)).bind fun z54=>
         some ((⟨0,z54⟩:aL),(⟨ah.b,dP.2.i,dP.2.h⟩:ai)))
       else (
         some ((⟨0,([1]:List Int)⟩:aL),(⟨ah.b,dP.2.i,dP.2.h⟩:ai))))))
theorem Gp{fuel aB:Nat}{ah:ai}{ae:Sv}{aa:List Int}{aN:Sv}{R:aL×ai}(hF:ut fuel ah aa=some R):
   Fw.Spec Tryz.prog 112 [(pz aB),aN.v] [bK aB 98 (zg [ae.v,(zi ah.i),(zi ah.h)]),dU ae ah.b,b_ aN aa] (fun p:Sv×List Nat=>(zg [(zi R.1.Rel),p.1.v])) (fun p=>[d_ p.2 p.1 R.1.Values,bK aB 98 (zg [ae.v,(zi R.2.i),(zi R.2.h)])]):=by
 refine Se 37 Tryz.func112 [.cell 4 136] ?_
 intro H0 F0
 unfold ut at hF
 refine au ?_
 refine iC (fun k1=>?_)
 refine aG ?_
 refine bD rfl (bz (g:=true) bI.h bH.h (.cons (.int _ _) .nil) (vs:=[(zi 1)]) rfl rfl rfl (by intro v hv; simp at hv; rcases hv with rfl<;>rfl)) (fun k2=>?_)
 refine bX (.cons .h .nil) (bB (Ro:=(ay aF)) (E:=3) (F:=([]++[])) (xs:=([1]:List Int)) (aY (bF (fun _=>rfl)) bA aR) rfl rfl) ?_
 refine ax (kw fU.h rfl (vs:=[(.slice (some ⟨k2,0,none⟩) 1 1)]) bi (cells:=[(zi 0),(.slice (some ⟨k2,0,none⟩) 1 1)]) rfl) ?_
 refine iC (fun k3=>?_)
 refine As (zg [(zi 0),(.slice (some ⟨k2,0,none⟩) 1 1)]) ?_
 refine aM ?_
 refine bnd hF fun r4 hx5 hF=>dF (BX hx5) (fun _=>?_)
 refine au ?_
 refine Ci hF (fun D7 hF=>?_) (fun D7 hF=>?_)
 · refine aU ?_
   refine bnd hF fun r7 iF hF=>kg (Hd iF) (fun p9=>?_)
   refine As (zg [(zi r7.1.Rel),p9.1.v]) ?_
   refine aM ?_
   refine bnd hF fun dm rZ hF=>cu (eH rZ) (fun K9=>?_)
   refine au ?_
   refine bN (bL (ax (jV (i:=dm.1) (j:=0) (.tmp rfl rfl) (.int _ _)) ?_))
   refine aG ?_
   refine Ci hF (fun D5 hF=>?_) (fun D5 hF=>?_)
   · refine aG ?_
     refine bnd hF fun dx jN hF=>cu (eH jN) (fun nK=>?_)
     refine aG ?_
     refine As (zg [(zi (IntKind.i64.wrap (dx.1-1))),p9.1.v]) ?_
     refine aU ?_
     refine As (zg [(zi (IntKind.i64.wrap (dx.1-1))),p9.1.v]) ?_
     refine aG ?_
     cases hF
     exact Er (p9.1,p9.2)
   refine aM ?_
   refine Ci hF (fun yh hF=>?_) (fun yh hF=>?_)
   · refine mW [0,1,2,3,4,5,6] [0,1,0,0,12,31,63] [4,6] mixed (by decide+kernel) ?_
     refine du ?_
     refine iJ rfl .no (.t .h) (fun ha hp=>fD (v:=p9.1.v) jL.h (EN ha (.tmp rfl rfl) rfl) hp.2 rfl rfl) ?_
     refine du ?_
     refine lc rfl .no rfl (fun ha=>bz (g:=true) (len:=3) (parts:=[(0,.const (zi (-1))),(1,.const (zi 9)),(2,.const (zi 10))]) bI.h bH.h (.cons (EN ha (.int _ _) rfl) (.cons (EN ha (.int _ _) rfl) (.cons (EN ha (.int _ _) rfl) .nil))) (vs:=[(zi (-1)),(zi 9),(zi 10)]) rfl rfl rfl (by intro v hv; simp at hv; rcases hv with rfl|rfl|rfl<;>rfl)) (fun k16=>?_)
     refine mD (.cons .h .nil) (bB (Ro:=(ay aF)) (E:=3) (F:=([]++([]++([]++[])))) (xs:=([(-1),9,10]:List Int)) (aY (bF (fun _=>rfl)) (aY (bF (fun _=>rfl)) (aY (bF (fun _=>rfl)) bA aR) aR) aR) rfl rfl) ?_
     refine bnd hF fun iW fw hF=>CZ rfl rfl .no (.cons .h (.cons .h (.rd .q4 rfl .nil))) (.dep rfl (.own .h (fun _ h=>h) .nil)) (fun ha=>dW bU (fun _=>(.cons .nil)) (iI (.cons (.t .h) (.rd (.t .h) rfl (.rd .h rfl .nil))) (bG l9.h (.cons (EN ha (.tmp rfl rfl) rfl) (.cons (EN ha (.tmp rfl rfl) rfl) .nil)) (@lJ aB (⟨ah.b,dm.2.i,dm.2.h⟩:ai) ae ([(-1),9,10]:List Int) (⟨(some ⟨k16,0,none⟩),3,1⟩) _ fw)))) (fun kM=>?_)
     refine bnd hF fun u23 hx24 hF=>?_
     have hi22:=iy hx24
     refine JE bI.h bH.h.sz rfl .no (.tmp rfl rfl) (.int _ _) rfl rfl .q3 hi22 (fun k20 UF=>?_)
     refine bnd hF fun z25 j3 hF=>?_
     replace j3:=Option.some.inj j3
     refine gI rfl rfl .no (.cons .q3 .nil) (.dep rfl (.dep rfl (.dep rfl .nil))) (fun ha=>Cx (Ro:=(ay aF)) (a:=iW.1) (i:=0) bH.h.sz rfl (EN ha (.tmp rfl rfl) rfl) (EN ha (.tmp rfl rfl) rfl) UF hi22 (bF (fun _=>rfl)) (fun _ _ _ _ h=>by obtain⟨-,h⟩:=h; cases h; rfl)) (fun F27=>?_)
     rw[j3]
     refine du ?_
     refine aG ?_
     refine As (zg [(zi r7.1.Rel),p9.1.v]) ?_
     refine aG ?_
     cases hF
     exact Er (p9.1,F27)
   refine aM ?_
   refine Ci hF (fun kG hF=>?_) (fun kG hF=>?_)
   · refine aU ?_
     refine bD rfl (bz (g:=true) bI.h bH.h (.cons (.int _ _) .nil) (vs:=[(zi 1)]) rfl rfl rfl (by intro v hv; simp at hv; rcases hv with rfl<;>rfl)) (fun k28=>?_)
     refine bX (.cons .h .nil) (bB (Ro:=(ay aF)) (E:=3) (F:=([]++[])) (xs:=([1]:List Int)) (aY (bF (fun _=>rfl)) bA aR) rfl rfl) ?_
     refine bnd hF fun z29 DX hF=>aZ (.cons .q3 (.cons .h .nil)) (dH (Ro:=(ay aF)) bI.h gK bH.h rfl rfl rfl (.tmp rfl rfl) (.tmp rfl rfl) DX dS) (fun p31=>?_)
     refine au ?_
     refine As (zg [(zi r7.1.Rel),p31.1.v]) ?_
     refine aU ?_
     refine As (zg [(zi r7.1.Rel),p31.1.v]) ?_
     refine aG ?_
     cases hF
     exact Er (p31.1,p31.2)
   refine aU ?_
   refine As (zg [(zi r7.1.Rel),p9.1.v]) ?_
   refine aG ?_
   cases hF
   exact Er (p9.1,p9.2)
 refine aM ?_
 refine bnd hF fun dP qf hF=>cu (eH qf) (fun p37=>?_)
 refine au ?_
 refine bN (bL (ax (jV (i:=dP.1) (j:=0) (.tmp rfl rfl) (.int _ _)) ?_))
 refine aG ?_
 refine Ci hF (fun D8 hF=>?_) (fun D8 hF=>?_)
 · refine aG ?_
   refine bnd hF fun oP hx39 hF=>cu (eH hx39) (fun p40=>?_)
   refine aG ?_
   refine As (zg [(zi (IntKind.i64.wrap (oP.1-1))),(.slice (some ⟨k2,0,none⟩) 1 1)]) ?_
   refine aU ?_
   refine As (zg [(zi (IntKind.i64.wrap (oP.1-1))),(.slice (some ⟨k2,0,none⟩) 1 1)]) ?_
   refine aG ?_
   cases hF
   exact Er (⟨(some ⟨k2,0,none⟩),1,1⟩,(k2::([]++[])))
 refine aM ?_
 refine Ci hF (fun rX hF=>?_) (fun rX hF=>?_)
 · refine mW [0,1,2,3,4,5,6] [0,1,0,0,12,31,63] [4,6] mixed (by decide+kernel) ?_
   refine du ?_
   refine iJ rfl .no (.t .h) (fun ha hp=>fD (v:=(.slice (some ⟨k2,0,none⟩) 1 1)) jL.h (EN ha (.tmp rfl rfl) rfl) hp.2 rfl rfl) ?_
   refine du ?_
   refine lc rfl .no rfl (fun ha=>bz (g:=true) (len:=3) (parts:=[(0,.const (zi (-1))),(1,.const (zi 9)),(2,.const (zi 10))]) bI.h bH.h (.cons (EN ha (.int _ _) rfl) (.cons (EN ha (.int _ _) rfl) (.cons (EN ha (.int _ _) rfl) .nil))) (vs:=[(zi (-1)),(zi 9),(zi 10)]) rfl rfl rfl (by intro v hv; simp at hv; rcases hv with rfl|rfl|rfl<;>rfl)) (fun Ww=>?_)
   refine mD (.cons .h .nil) (bB (Ro:=(ay aF)) (E:=3) (F:=([]++([]++([]++[])))) (xs:=([(-1),9,10]:List Int)) (aY (bF (fun _=>rfl)) (aY (bF (fun _=>rfl)) (aY (bF (fun _=>rfl)) bA aR) aR) aR) rfl rfl) ?_
   refine bnd hF fun ji mf hF=>CZ rfl rfl .no (.cons .h (.cons .h (.rd .q3 rfl .nil))) (.dep rfl (.own .h (fun _ h=>h) .nil)) (fun ha=>dW bU (fun _=>(.cons .nil)) (iI (.cons (.t .h) (.rd (.t .h) rfl (.rd .h rfl .nil))) (bG l9.h (.cons (EN ha (.tmp rfl rfl) rfl) (.cons (EN ha (.tmp rfl rfl) rfl) .nil)) (@lJ aB (⟨ah.b,dP.2.i,dP.2.h⟩:ai) ae ([(-1),9,10]:List Int) (⟨(some ⟨Ww,0,none⟩),3,1⟩) _ mf)))) (fun p44=>?_)
   refine bnd hF fun u48 x9 hF=>?_
   have KF:=iy x9
   refine JE bI.h bH.h.sz rfl .no (.tmp rfl rfl) (.int _ _) rfl rfl .q3 KF (fun K8 UG=>?_)
   refine bnd hF fun z50 rY hF=>?_
   replace rY:=Option.some.inj rY
   refine gI rfl rfl .no (.cons .q3 .nil) (.dep rfl (.dep rfl (.dep rfl .nil))) (fun ha=>Cx (Ro:=(ay aF)) (a:=ji.1) (i:=0) bH.h.sz rfl (EN ha (.tmp rfl rfl) rfl) (EN ha (.tmp rfl rfl) rfl) UG KF (bF (fun _=>rfl)) (fun _ _ _ _ h=>by obtain⟨-,h⟩:=h; cases h; rfl)) (fun yT=>?_)
   rw[rY]
   refine du ?_
   refine aG ?_
   refine As (zg [(zi 0),(.slice (some ⟨k2,0,none⟩) 1 1)]) ?_
   refine aG ?_
   cases hF
   exact Er (⟨(some ⟨k2,0,none⟩),1,1⟩,yT)
 refine aM ?_
 refine Ci hF (fun oJ hF=>?_) (fun oJ hF=>?_)
 · refine aU ?_
   refine bD rfl (bz (g:=true) bI.h bH.h (.cons (.int _ _) .nil) (vs:=[(zi 1)]) rfl rfl rfl (by intro v hv; simp at hv; rcases hv with rfl<;>rfl)) (fun Br=>?_)
   refine bX (.cons .h .nil) (bB (Ro:=(ay aF)) (E:=3) (F:=([]++[])) (xs:=([1]:List Int)) (aY (bF (fun _=>rfl)) bA aR) rfl rfl) ?_
   refine bnd hF fun z54 oI hF=>aZ (.cons .q3 (.cons .h .nil)) (dH (Ro:=(ay aF)) bI.h gK bH.h rfl rfl rfl (.tmp rfl rfl) (.tmp rfl rfl) oI dS) (fun p56=>?_)
   refine au ?_
   refine As (zg [(zi 0),p56.1.v]) ?_
   refine aU ?_
   refine As (zg [(zi 0),p56.1.v]) ?_
   refine aG ?_
   cases hF
   exact Er (p56.1,p56.2)
 refine aU ?_
 refine As (zg [(zi 0),(.slice (some ⟨k2,0,none⟩) 1 1)]) ?_
 refine aG ?_
 cases hF
 exact Er (⟨(some ⟨k2,0,none⟩),1,1⟩,(k2::([]++[])))
def wy(fuel:Nat)(ah:ai)(aa:List Int):Option ((List aL)×ai):=
 (rf aa).bind fun r2=>
 if r2 then (
   (uE fuel ah aa 8).bind fun r5=>
   (pM (⟨ah.b,r5.2.i,r5.2.h⟩:ai) 10).bind fun r8=>
   if r8.1 then (
     (ut fuel (⟨ah.b,r8.2.i,r8.2.h⟩:ai) aa).bind fun mG=>
     (app r5.1 ([mG.1]:List aL)).bind fun K_=>
     some (K_,(⟨ah.b,mG.2.i,mG.2.h⟩:ai)))
   else (
     some (r5.1,(⟨ah.b,r8.2.i,r8.2.h⟩:ai))))
 else (
   (pM ah 10).bind fun jT=>
   if jT.1 then (
     (ut fuel (⟨ah.b,jT.2.i,jT.2.h⟩:ai) aa).bind fun fo=>
     (app ([]:List aL) ([fo.1]:List aL)).bind fun z26=>
     some (z26,(⟨ah.b,fo.2.i,fo.2.h⟩:ai)))
   else (
     some (([]:List aL),(⟨ah.b,jT.2.i,jT.2.h⟩:ai))))
theorem ME{fuel aB:Nat}{ah:ai}{ae:Sv}{aa:List Int}{aN:Sv}{R:(List aL)×ai}(hF:wy fuel ah aa=some R):
   Fw.Spec Tryz.prog 75 [(pz aB),aN.v] [bK aB 98 (zg [ae.v,(zi ah.i),(zi ah.h)]),dU ae ah.b,b_ aN aa] (fun p:Sv×List Nat=>p.1.v) (fun p=>[pW p.2 p.1 R.1,bK aB 98 (zg [ae.v,(zi R.2.i),(zi R.2.h)])]):=by
 refine Se 21 Tryz.func75 [.tmp 4] ?_
 intro H0 F0
 unfold wy at hF
 refine aM ?_
 refine bD rfl (bz (g:=true) jM.h fU.h .nil (vs:=[]) rfl rfl rfl (by simp)) (fun k1=>?_)
 refine bX (.cons .h .nil) (bB (Ro:=gB) (E:=136) (F:=[]) (xs:=([]:List aL)) bA rfl rfl) ?_
 refine aV ?_
 refine bnd hF fun r2 hx3 hF=>dF (BX hx3) (fun _=>?_)
 refine au ?_
 refine Ci hF (fun yj hF=>?_) (fun yj hF=>?_)
 · refine aU ?_
   refine bnd hF fun r5 hx6 hF=>kg (GZ hx6) (fun p7=>?_)
   refine aV ?_
   refine bnd hF fun r8 fC hF=>cu (wE fC) (fun La=>?_)
   refine au ?_
   refine Ci hF (fun yl hF=>?_) (fun yl hF=>?_)
   · refine aM ?_
     refine bnd hF fun mG r_ hF=>kg (Gp r_) (fun Bt=>?_)
     refine bD rfl (bz (g:=true) jM.h fU.h bi (vs:=[(zg [(zi mG.1.Rel),Bt.1.v])]) rfl rfl rfl (by intro v hv; simp at hv; rcases hv with rfl<;>rfl)) (fun k14=>?_)
     refine bX (.cons .h (.cons .h .nil)) (bB (Ro:=gB) (E:=136) (F:=(Bt.2++[])) (xs:=([mG.1]:List aL)) (aY uW bA aR) rfl rfl) ?_
     refine bnd hF fun K_ hx16 hF=>aZ (.cons .q2 (.cons .h .nil)) (dH (Ro:=gB) jM.h vo fU.h rfl rfl rfl (.tmp rfl rfl) (.tmp rfl rfl) hx16 dS) (fun EK=>?_)
     refine bE ?_
     cases hF
     exact Er (EK.1,EK.2)
   refine bC ?_
   cases hF
   exact Er (p7.1,p7.2)
 refine aM ?_
 refine bnd hF fun jT lv hF=>cu (wE lv) (fun Wx=>?_)
 refine au ?_
 refine Ci hF (fun yc hF=>?_) (fun yc hF=>?_)
 · refine aM ?_
   refine bnd hF fun fo iQ hF=>kg (Gp iQ) (fun kL=>?_)
   refine bD rfl (bz (g:=true) jM.h fU.h bi (vs:=[(zg [(zi fo.1.Rel),kL.1.v])]) rfl rfl rfl (by intro v hv; simp at hv; rcases hv with rfl<;>rfl)) (fun k25=>?_)
   refine bX (.cons .h (.cons .h .nil)) (bB (Ro:=gB) (E:=136) (F:=(kL.2++[])) (xs:=([fo.1]:List aL)) (aY uW bA aR) rfl rfl) ?_
   refine bnd hF fun z26 hx27 hF=>aZ (.cons .q2 (.cons .h .nil)) (dH (Ro:=gB) jM.h vo fU.h rfl rfl rfl (.tmp rfl rfl) (.tmp rfl rfl) hx27 dS) (fun p28=>?_)
   refine bE ?_
   cases hF
   exact Er (p28.1,p28.2)
 refine bC ?_
 cases hF
 exact Er (⟨(some ⟨k1,0,none⟩),0,1⟩,(k1::[]))
def zz(ah:ai):Option ((List Int)×ai):=
 (wI ah).bind fun r1=>
 (pM (⟨ah.b,r1.2.i,r1.2.h⟩:ai) 14).bind fun r4=>
 if r4.1 then (
   (iY (⟨ah.b,r4.2.i,r4.2.h⟩:ai) ([0,1,4]:List Int)).bind fun r8=>
   (app r1.1 ([r8.1]:List Int)).bind fun z12=>
   some (z12,(⟨ah.b,r8.2.i,r8.2.h⟩:ai)))
 else (
   some (r1.1,(⟨ah.b,r4.2.i,r4.2.h⟩:ai)))
theorem Mr{aB:Nat}{ah:ai}{ae:Sv}{R:(List Int)×ai}(hF:zz ah=some R):
   Fw.Spec Tryz.prog 76 [(pz aB)] [bK aB 98 (zg [ae.v,(zi ah.i),(zi ah.h)]),dU ae ah.b] (fun p:Sv×List Nat=>p.1.v) (fun p=>[d_ p.2 p.1 R.1,bK aB 98 (zg [ae.v,(zi R.2.i),(zi R.2.h)])]):=by
 refine Se 15 Tryz.func76 [.tmp 2] ?_
 intro H0 F0
 unfold zz at hF
 refine aV ?_
 refine bnd hF fun r1 hx2 hF=>kg (GA hx2) (fun p3=>?_)
 refine aV ?_
 refine bnd hF fun r4 hx5 hF=>cu (wE hx5) (fun p6=>?_)
 refine au ?_
 refine Ci hF (fun ym hF=>?_) (fun ym hF=>?_)
 · refine aU ?_
   refine bD rfl (bz (g:=true) bI.h bH.h (.cons (.int _ _) (.cons (.int _ _) (.cons (.int _ _) .nil))) (vs:=[(zi 0),(zi 1),(zi 4)]) rfl rfl rfl (by intro v hv; simp at hv; rcases hv with rfl|rfl|rfl<;>rfl)) (fun k7=>?_)
   refine bX (.cons .h .nil) (bB (Ro:=(ay aF)) (E:=3) (F:=([]++([]++([]++[])))) (xs:=([0,1,4]:List Int)) (aY (bF (fun _=>rfl)) (aY (bF (fun _=>rfl)) (aY (bF (fun _=>rfl)) bA aR) aR) aR) rfl rfl) ?_
   refine bnd hF fun r8 fC hF=>iN (.cons .h (.cons .h (.rd (.t .h) rfl .nil))) (dW bU (fun _=>(.cons .nil)) (iI (.cons (.t .h) (.rd (.t .h) rfl (.rd .h rfl .nil))) (bG l9.h bi (@lJ aB (⟨ah.b,r4.2.i,r4.2.h⟩:ai) ae ([0,1,4]:List Int) (⟨(some ⟨k7,0,none⟩),3,1⟩) _ fC)))) (fun La=>?_)
   refine bD rfl (bz (g:=true) bI.h bH.h bi (vs:=[(zi r8.1)]) rfl rfl rfl (by intro v hv; simp at hv; rcases hv with rfl<;>rfl)) (fun k11=>?_)
   refine bX (.cons .h .nil) (bB (Ro:=(ay aF)) (E:=3) (F:=([]++[])) (xs:=([r8.1]:List Int)) (aY (bF (fun _=>rfl)) bA aR) rfl rfl) ?_
   refine bnd hF fun z12 h_ hF=>aZ (.cons .q3 (.cons .h .nil)) (dH (Ro:=(ay aF)) bI.h gK bH.h rfl rfl rfl (.tmp rfl rfl) (.tmp rfl rfl) h_ dS) (fun yP=>?_)
   refine bE ?_
   cases hF
   exact Er (yP.1,yP.2)
 refine bC ?_
 cases hF
 exact Er (p3.1,p3.2)
def wW(fuel:Nat)(ah:ai):Option ((List Int)×(List Method)×(List aL)×ai):=
 (wI ah).bind fun r1=>
 (zG fuel (⟨ah.b,r1.2.i,r1.2.h⟩:ai) r1.1).bind fun r4=>
 (uE fuel (⟨ah.b,r4.2.i,r4.2.h⟩:ai) r1.1 8).bind fun r7=>
 (dR (⟨ah.b,r7.2.i,r7.2.h⟩:ai) 20).bind fun dm=>
 if ((dm.1:Int)==0)then (
   (wo fuel (⟨ah.b,dm.2.i,dm.2.h⟩:ai) r1.1).bind fun dx=>
   (app r4.1 ([dx.1]:List Method)).bind fun z17=>
   some (r1.1,z17,r7.1,(⟨ah.b,dx.2.i,dx.2.h⟩:ai)))
 else (
   if ((dm.1:Int)==1)then (
     (wy fuel (⟨ah.b,dm.2.i,dm.2.h⟩:ai) r1.1).bind fun lH=>
     some (r1.1,r4.1,lH.1,(⟨ah.b,lH.2.i,lH.2.h⟩:ai)))
   else (
     if ((dm.1:Int)==2)then (
       (zz (⟨ah.b,dm.2.i,dm.2.h⟩:ai)).bind fun mH=>
       some (mH.1,r4.1,r7.1,(⟨ah.b,mH.2.i,mH.2.h⟩:ai)))
     else (
       some (r1.1,r4.1,r7.1,(⟨ah.b,dm.2.i,dm.2.h⟩:ai)))))
theorem NM{fuel aB:Nat}{ah:ai}{ae:Sv}{R:(List Int)×(List Method)×(List aL)×ai}(hF:wW fuel ah=some R):
   Fw.Spec Tryz.prog 47 [(pz aB)] [bK aB 98 (zg [ae.v,(zi ah.i),(zi ah.h)]),dU ae ah.b] (fun p:Sv×List Nat×Sv×List Nat×Sv×List Nat=>(.tuple [p.1.v,p.2.2.1.v,p.2.2.2.2.1.v].toArray)) (fun p=>[d_ p.2.1 p.1 R.1,nC p.2.2.2.1 p.2.2.1 R.2.1,pW p.2.2.2.2.2 p.2.2.2.2.1 R.2.2.1,bK aB 98 (zg [ae.v,(zi R.2.2.2.i),(zi R.2.2.2.h)])]):=by
 refine Se 38 Tryz.func47 [.tmp 2,.tmp 3,.tmp 4] ?_
 intro H0 F0
 unfold wW at hF
 refine bE ?_
 refine bnd hF fun r1 hx2 hF=>kg (GA hx2) (fun p3=>?_)
 refine aV ?_
 refine bnd hF fun r4 hx5 hF=>lZ (.cons .h (.cons .h (.rd .h rfl .nil))) (dW bU (fun _=>(.cons (.cons .nil))) (iI (.cons (.t .h) (.rd (.t .h) rfl (.rd .h rfl .nil))) (bG TQ.h bi (MW hx5)))) (fun p6=>?_)
 refine aV ?_
 refine bnd hF fun r7 iF hF=>lZ (.cons .h (.cons (.t .h) (.rd (.t .h) rfl .nil))) (dW bU (fun _=>(.cons (.cons .nil))) (iI (.cons (.t .h) (.rd (.t .h) rfl (.rd .h rfl .nil))) (bG TR.h (.cons (.tmp rfl rfl) (.cons (.tmp rfl rfl) (.cons (.int _ _) .nil))) (GZ iF)))) (fun p9=>?_)
 refine aV ?_
 refine bnd hF fun dm rZ hF=>cu (eH rZ) (fun K9=>?_)
 refine au ?_
 refine bN (bL (ax (jV (i:=dm.1) (j:=0) (.tmp rfl rfl) (.int _ _)) ?_))
 refine aG ?_
 refine Ci hF (fun D9 hF=>?_) (fun D9 hF=>?_)
 · refine aM ?_
   refine bnd hF fun dx jN hF=>lZ (.cons (.t .h) (.cons .h (.rd .q2 rfl .nil))) (dW bU (fun _=>(.cons (.cons .nil))) (iI (.cons (.t .h) (.rd (.t .h) rfl (.rd .h rfl .nil))) (bG TS.h bi (Mq jN)))) (fun nK=>?_)
   refine bD rfl (bz (g:=true) qd.h iP.h bi (vs:=[(zg [(zi dx.1.Rel),nK.1.v,(zi dx.1.Limit),(zi dx.1.Cost),(zi dx.1.Quota)])]) rfl rfl rfl (by intro v hv; simp at hv; rcases hv with rfl<;>rfl)) (fun k16=>?_)
   refine bX (.cons .h (.cons (.t .h) .nil)) (bB (Ro:=lu) (E:=36) (F:=(nK.2++[])) (xs:=([dx.1]:List Method)) (aY Kr bA aR) rfl rfl) ?_
   refine bnd hF fun z17 fw hF=>aZ (.cons .q4 (.cons .h .nil)) (dH (Ro:=lu) qd.h Kt iP.h rfl rfl rfl (.tmp rfl rfl) (.tmp rfl rfl) fw dS) (fun kM=>?_)
   refine lY ?_
   cases hF
   exact Er (p3.1,p3.2,kM.1,kM.2,p9.1,p9.2)
 refine aM ?_
 refine Ci hF (fun yn hF=>?_) (fun yn hF=>?_)
 · refine aU ?_
   refine bnd hF fun lH nE hF=>lZ (.cons (.t .h) (.cons .h (.rd .q2 rfl .nil))) (dW bU (fun _=>(.cons (.cons .nil))) (iI (.cons (.t .h) (.rd (.t .h) rfl (.rd .h rfl .nil))) (bG TT.h bi (ME nE)))) (fun nL=>?_)
   refine lY ?_
   cases hF
   exact Er (p3.1,p3.2,p6.1,p6.2,nL.1,nL.2)
 refine aM ?_
 refine Ci hF (fun UH hF=>?_) (fun UH hF=>?_)
 · refine aG ?_
   refine bnd hF fun mH hx24 hF=>kg (Mr hx24) (fun p25=>?_)
   refine lY ?_
   cases hF
   exact Er (p25.1,p25.2,p6.1,p6.2,p9.1,p9.2)
 refine oD ?_
 cases hF
 exact Er (p3.1,p3.2,p6.1,p6.2,p9.1,p9.2)
def qL(ah:ai)(aA:List Method)(r2:Int×ai):Nat->Int->Int->(List Int)->Int->Option (ak×ai)
 |0,_,_,_,_=>none
 |sZ+1,gU,eG,c31,c34=>(ix aA r2.1).bind fun x43=>
   if (decide ((c34:Int)<(x43.Inputs.length:Int)))then (
     (dR ({b:=ah.b,i:=gU,h:=eG}:ai) 4).bind fun jS=>
     (app c31 ([jS.1]:List Int)).bind fun z54=>
     qL ah aA r2 sZ jS.2.i jS.2.h z54 (IntKind.i64.wrap (c34+1)))
   else (
     some (({Method:=r2.1,Values:=c31}:ak),({b:=ah.b,i:=gU,h:=eG}:ai)))
def wK(fuel:Nat)(ah:ai)(aA:List Method):Option (ak×ai):=
 if (((aA.length:Int):Int)==0)then (
   some (({Method:=0,Values:=[]}:ak),ah))
 else (
   (dR ah (aA.length:Int)).bind fun r2=>
   qL ah aA r2 fuel r2.2.i r2.2.h ([]:List Int) 0)
theorem M5{fuel aB:Nat}{ah:ai}{ae:Sv}{aA:List Method}{aN:Sv}{R:ak×ai}(hF:wK fuel ah aA=some R):
   Fw.Spec Tryz.prog 77 [(.pointer (some ⟨aB,0,some 0⟩)),aN.v] [bK aB 98 (.agg [ae.v,(.int .i64 ah.i),(.int .i64 ah.h)].toArray),bS (bf 5 ek) ae.v ah.b,bS (bf 36 lq) aN.v aA] (fun p:Sv×List Nat=>(.agg [(.int .i64 R.1.Method),p.1.v].toArray)) (fun p=>[aS (aH 3 (ay aF)) p.2 p.1.v R.1.Values,bK aB 98 (.agg [ae.v,(.int .i64 R.2.i),(.int .i64 R.2.h)].toArray)]):=by
 refine pE (n:=37) Tryz.func77 rfl rfl (rs:=[.cell 4 34]) rfl rfl rfl ?_
 intro H0 F0
 unfold wK at hF
 refine bL (bD rfl (mU (g:=true) bQ.h rfl rfl) (fun k1=>?_))
 refine bO (gZ (bL (Cm aN.v rfl rfl ?_)))
 refine eB (.t (.t (.t .h))) (fun hp=>n_ (l:=aA.length) qd.h (.tmp rfl rfl) (rD hp)) ?_
 refine ax (jV (i:=(aA.length:Int)) (j:=0) (.tmp rfl rfl) (.int _ _)) ?_
 refine bO (iZ (b:=(((aA.length:Int):Int)==0)) (.tmp rfl rfl) (fun rX=>?_) (fun rX=>?_))
 · rw[if_pos rX]at hF
   refine bL (ax (kw bQ.h rfl (vs:=[]) .nil (cells:=[(.int .i64 0),(.slice none 0 0)]) rfl) ?_)
   refine aZ (.cons .h .nil) (fH (e':=(.agg [(.int .i64 0),(.slice none 0 0)].toArray)) (v:=(.agg [(.int .i64 0),(.slice none 0 0)].toArray)) bQ.h.sz (.tmp rfl rfl) (.tmp rfl rfl) rfl rfl rfl rfl rfl) (fun _=>?_)
   refine bO (jI ?_)
   obtain rfl:=Option.some.inj hF
   exact fq (⟨none,0,0⟩,[]) (.cellA rfl rfl .h rfl ja.h bQ.h.sz rfl rfl .nil) rfl (.conv .nil (jq (Ro:=(ay aF)) (E:=3)) (.cons .nil) (.sel (.cons .h (.cons (.t .h) .nil))))
 rw[if_neg (by rw[rX]; exact Bool.false_ne_true)]at hF
 refine kU (bL (Cm (.pointer (some ⟨aB,0,some 0⟩)) rfl rfl ?_))
 refine Cm aN.v rfl rfl ?_
 refine eB (.t (.t (.t .h))) (fun hp=>n_ (l:=aA.length) qd.h (.tmp rfl rfl) (rD hp)) ?_
 obtain⟨r2,hx3,hF⟩:=bind_some hF
 refine aZ (.cons (.t .h) (.rd (.t .h) rfl .nil)) (bG lm.h (.cons (.tmp rfl rfl) (.cons (.tmp rfl rfl) .nil)) (@eH aB ah ae (aA.length:Int) _ hx3)) (fun p4=>?_)
 refine ax (kw bQ.h rfl (vs:=[(.int .i64 r2.1)]) (.cons (.tmp rfl rfl) .nil) (cells:=[(.int .i64 r2.1),(.slice none 0 0)]) rfl) ?_
 refine bD rfl (mU (g:=true) bQ.h rfl rfl) (fun k5=>?_)
 refine aZ (.cons .h .nil) (fH (e':=(.agg [(.int .i64 r2.1),(.slice none 0 0)].toArray)) (v:=(.agg [(.int .i64 r2.1),(.slice none 0 0)].toArray)) bQ.h.sz (.tmp rfl rfl) (.tmp rfl rfl) rfl rfl rfl rfl rfl) (fun _=>?_)
 refine bO (gZ (bL (ax (gG (v:=(.int .i64 0)) (.int _ _)) ?_)))
 refine bO (bN (dG (m:=fuel) (fun sZ f' cs'=>∃(g:Fr)(gU:Int)(eG:Int)(c31:List Int)(c34:Int)(v32:Sv)(E5:List Nat),f'=aX g [(0,(.pointer (some ⟨aB,0,some 0⟩))),(1,aN.v),(4,(.pointer (some ⟨k1,0,some 0⟩))),(5,(.pointer (some ⟨k5,0,some 0⟩))),(6,(.int .i64 c34))]/\aT cs' [bK aB 98 (.agg [ae.v,(.int .i64 gU),(.int .i64 eG)].toArray),bS (bf 5 ek) ae.v ah.b,bS (bf 36 lq) aN.v aA,bK k1 34 (.agg [(.int .i64 0),(.slice none 0 0)].toArray),bK k5 34 (.agg [(.int .i64 r2.1),v32.v].toArray),aS (aH 3 (ay aF)) E5 v32.v c31]/\qL ah aA r2 sZ gU eG c31 c34=some R) ⟨_,_,_,_,_,⟨none,0,0⟩,[],(bn.cons rfl (bn.cons rfl (bn.cons rfl (bn.cons rfl (bn.cons rfl (bn.nil)))))).eq,(.conv .nil (jq (Ro:=(ay aF)) (E:=3)) (.cons .nil) (.sel (.cons (.t (.t .h)) (.rd (.t (.t (.t .h))) rfl (.rd (.t (.t (.t (.t .h)))) rfl (.cons (.t (.t .h)) (.cons (.t .h) (.cons .h .nil)))))))),hF⟩ ?_))
 clear hF
 rintro sZ _ _ ⟨Lb,gU,eG,c31,c34,v32,E5,rfl,hE,hF⟩
 refine bV hE ?_
 clear hE
 rcases sZ with _|sZ
 · rw[qL]at hF
   exact absurd hF (by simp)
 rw[qL]at hF
 refine gZ (bL (Cm (.int .i64 c34) rfl rfl ?_))
 refine Cm aN.v rfl rfl ?_
 refine ax (jH (off:=0) JG.h (.tmp rfl rfl)) ?_
 refine eB (.t (.t (.t (.t .h)))) (fun hp=>fD (v:=(.int .i64 r2.1)) lC.h (.tmp rfl rfl) hp.2 rfl rfl) ?_
 obtain⟨x43,yo,hF⟩:=bind_some hF
 obtain⟨UI,yt⟩:=nT yo
 refine Ar (a:=x43) qd.h iP.h.sz (.tmp rfl rfl) (.tmp rfl rfl) (.t (.t .h)) UI yt (fun Wy ZP=>?_)
 refine ax (jH (off:=1) C8.h (.tmp rfl rfl)) ?_
 refine De (R':=(bf 3 aF)) jL.h (.tmp rfl rfl) .h QD (fun ZQ=>?_)
 refine eB .h (fun hp=>n_ (l:=x43.Inputs.length) bI.h (.tmp rfl rfl) (rD hp)) ?_
 refine ax (uT (i:=c34) (j:=(x43.Inputs.length:Int)) (.tmp rfl rfl) (.tmp rfl rfl)) ?_
 refine bO (iZ (b:=(decide ((c34:Int)<(x43.Inputs.length:Int)))) (.tmp rfl rfl) (fun oJ=>?_) (fun oJ=>?_))
 · rw[if_pos oJ]at hF
   refine kU (Ac (bL (Cm (.pointer (some ⟨aB,0,some 0⟩)) rfl rfl ?_)))
   obtain⟨jS,rY,hF⟩:=bind_some hF
   refine aZ (.cons (.t (.t .h)) (.rd (.t (.t .h)) rfl .nil)) (bG lm.h (.cons (.tmp rfl rfl) (.cons (.int _ _) .nil)) (@eH aB ({b:=ah.b,i:=gU,h:=eG}:ai) ae 4 _ rY)) (fun p52=>?_)
   refine Ca (.int .i64 jS.1) rfl rfl ?_
   refine bO (kS (ax (jH (off:=1) Aj.h (.tmp rfl rfl)) ?_))
   refine eB (.t (.t (.t (.t (.t (.t .h)))))) (fun hp=>fD (v:=v32.v) jL.h (.tmp rfl rfl) hp.2 rfl rfl) ?_
   refine Cm (.int .i64 jS.1) rfl rfl ?_
   refine bD rfl (bz (g:=true) bI.h bH.h (.cons (.tmp rfl rfl) .nil) (vs:=[(.int .i64 jS.1)]) rfl rfl rfl (by intro v hv; simp at hv; rcases hv with rfl<;>rfl)) (fun Br=>?_)
   refine uP (.cons .h .nil) (bB (Ro:=(ay aF)) (E:=3) (F:=([]++[])) (xs:=([jS.1]:List Int)) (aY (bF (fun _=>rfl)) bA aR) rfl rfl) aR ?_
   obtain⟨z54,oI,hF⟩:=bind_some hF
   refine aZ (.cons (.t (.t (.t (.t (.t (.t (.t (.t .h)))))))) (.cons .h .nil)) (dH (Ro:=(ay aF)) bI.h gK bH.h rfl rfl rfl (.tmp rfl rfl) (.tmp rfl rfl) oI dS) (fun p56=>?_)
   refine ax (jH (off:=1) Aj.h (.tmp rfl rfl)) ?_
   refine aZ (.cons (.t (.t (.t (.t (.t (.t (.t .h))))))) .nil) (fH (e':=(.agg [(.int .i64 r2.1),p56.1.v].toArray)) rR.h.sz (.tmp rfl rfl) (.tmp rfl rfl) rfl rfl rfl rfl rfl) (fun _=>?_)
   refine bO (kS (Cm (.int .i64 c34) rfl rfl ?_))
   refine ax (m_ (i:=c34) (j:=1) (.tmp rfl rfl) (.int _ _)) ?_
   refine Ca (.int .i64 (IntKind.i64.wrap (c34+1))) rfl rfl ?_
   refine bO ?_
   exact⟨sZ,Nat.lt_succ_self _,_,_,_,_,_,p56.1,p56.2,(bn.cons rfl (bn.cons rfl (bn.cons rfl (bn.cons rfl (bn.cons rfl (bn.nil)))))).eq,(.sel (.cons (.t (.t .h)) (.rd (.t (.t (.t (.t .h)))) rfl (.rd (.t (.t (.t (.t (.t .h))))) rfl (.cons (.t (.t (.t (.t (.t (.t .h)))))) (.cons .h (.cons .h .nil))))))),hF⟩
 rw[if_neg (by rw[oJ]; exact Bool.false_ne_true)]at hF
 refine w9 ?_
 iterate 2 refine uw ?_
 refine wU (bL (eB (.t (.t (.t (.t (.t (.t .h)))))) (fun hp=>ku ja.h bQ.h.sz rfl (.tmp rfl rfl) hp.2 rfl) ?_))
 refine aZ (.cons (.t (.t (.t (.t (.t .h))))) .nil) (fH (e':=(.agg [(.int .i64 r2.1),v32.v].toArray)) (v:=(.agg [(.int .i64 r2.1),v32.v].toArray)) bQ.h.sz (.tmp rfl rfl) (.tmp rfl rfl) rfl rfl rfl rfl rfl) (fun _=>?_)
 refine bO (jI ?_)
 obtain rfl:=Option.some.inj hF
 exact fq (v32,E5) (.cellA rfl rfl .h rfl ja.h bQ.h.sz rfl rfl .nil) rfl (.sel (.cons (.t (.t (.t (.t (.t (.t (.t .h))))))) (.cons (.t (.t (.t .h))) .nil)))
def zA(fuel:Nat)(ah:ai)(aA:List Method):Option (ak×ai):=
 (wK fuel ah aA).bind fun r2=>
 (dR ({b:=ah.b,i:=r2.2.i,h:=r2.2.h}:ai) 12).bind fun r6=>
 if ((r6.1:Int)==0)then (
   (dR ({b:=ah.b,i:=r6.2.i,h:=r6.2.h}:ai) 7).bind fun r9=>
   some (({Method:=(IntKind.i64.wrap (r9.1-1)),Values:=r2.1.Values}:ak),({b:=ah.b,i:=r9.2.i,h:=r9.2.h}:ai)))
 else (
   if ((r6.1:Int)==1)then (
     (iY ({b:=ah.b,i:=r6.2.i,h:=r6.2.h}:ai) ([(-1),3,10]:List Int)).bind fun dx=>
     (app r2.1.Values ([dx.1]:List Int)).bind fun z17=>
     some (({Method:=r2.1.Method,Values:=z17}:ak),({b:=ah.b,i:=dx.2.i,h:=dx.2.h}:ai)))
   else (
     some (r2.1,({b:=ah.b,i:=r6.2.i,h:=r6.2.h}:ai))))
theorem Ms{fuel aB:Nat}{ah:ai}{ae:Sv}{aA:List Method}{aN:Sv}{R:ak×ai}(hF:zA fuel ah aA=some R):
   Fw.Spec Tryz.prog 48 [(.pointer (some ⟨aB,0,some 0⟩)),aN.v] [bK aB 98 (.agg [ae.v,(.int .i64 ah.i),(.int .i64 ah.h)].toArray),bS (bf 5 ek) ae.v ah.b,bS (bf 36 lq) aN.v aA] (fun p:Sv×List Nat=>(.agg [(.int .i64 R.1.Method),p.1.v].toArray)) (fun p=>[aS (aH 3 (ay aF)) p.2 p.1.v R.1.Values,bK aB 98 (.agg [ae.v,(.int .i64 R.2.i),(.int .i64 R.2.h)].toArray)]):=by
 refine pE (n:=28) Tryz.func48 rfl rfl (rs:=[.cell 4 34]) rfl rfl rfl ?_
 intro H0 F0
 unfold zA at hF
 refine bL (bD rfl (mU (g:=true) bQ.h rfl rfl) (fun k1=>?_))
 refine bO (bL (Cm (.pointer (some ⟨aB,0,some 0⟩)) rfl rfl ?_))
 refine Cm aN.v rfl rfl ?_
 obtain⟨r2,hx3,hF⟩:=bind_some hF
 refine iN (.cons (.t .h) (.rd (.t .h) rfl (.rd (.t (.t .h)) rfl .nil))) (bG TV.h (.cons (.tmp rfl rfl) (.cons (.tmp rfl rfl) .nil)) (@M5 fuel aB ah ae aA aN _ hx3)) (fun p4=>?_)
 refine bD rfl (mU (g:=true) bQ.h rfl rfl) (fun k5=>?_)
 refine aZ (.cons .h .nil) (fH (e':=(.agg [(.int .i64 r2.1.Method),p4.1.v].toArray)) (v:=(.agg [(.int .i64 r2.1.Method),p4.1.v].toArray)) bQ.h.sz (.tmp rfl rfl) (.tmp rfl rfl) rfl rfl rfl rfl rfl) (fun _=>?_)
 refine bO (gZ (bL (Cm (.pointer (some ⟨aB,0,some 0⟩)) rfl rfl ?_)))
 obtain⟨r6,hx7,hF⟩:=bind_some hF
 refine aZ (.cons (.t (.t .h)) (.rd (.t (.t (.t .h))) rfl .nil)) (bG lm.h (.cons (.tmp rfl rfl) (.cons (.int _ _) .nil)) (@eH aB ({b:=ah.b,i:=r2.2.i,h:=r2.2.h}:ai) ae 12 _ hx7)) (fun p8=>?_)
 refine bO (bN (bL (ax (jV (i:=r6.1) (j:=0) (.tmp rfl rfl) (.int _ _)) ?_)))
 refine Ca (.bool ((r6.1:Int)==0)) rfl rfl ?_
 refine bO (iZ (b:=((r6.1:Int)==0)) (.tmp rfl rfl) (fun ma=>?_) (fun ma=>?_))
 · rw[if_pos ma]at hF
   refine kS (Cm (.pointer (some ⟨aB,0,some 0⟩)) rfl rfl ?_)
   obtain⟨r9,jB,hF⟩:=bind_some hF
   refine aZ (.cons .h (.rd (.t (.t (.t .h))) rfl .nil)) (bG lm.h (.cons (.tmp rfl rfl) (.cons (.int _ _) .nil)) (@eH aB ({b:=ah.b,i:=r6.2.i,h:=r6.2.h}:ai) ae 7 _ jB)) (fun EJ=>?_)
   refine ax (Da (i:=r9.1) (j:=1) (.tmp rfl rfl) (.int _ _)) ?_
   refine ax (jH (off:=0) JG.h (.tmp rfl rfl)) ?_
   refine aZ (.cons (.t .h) .nil) (fH (e':=(.agg [(.int .i64 (IntKind.i64.wrap (r9.1-1))),p4.1.v].toArray)) (v:=(.int .i64 (IntKind.i64.wrap (r9.1-1)))) bH.h.sz (.tmp rfl rfl) (.tmp rfl rfl) rfl rfl rfl rfl rfl) (fun _=>?_)
   refine bO (bL (eB .h (fun hp=>ku ja.h bQ.h.sz rfl (.tmp rfl rfl) hp.2 rfl) ?_))
   refine aZ (.cons (.t (.t (.t .h))) .nil) (fH (e':=(.agg [(.int .i64 (IntKind.i64.wrap (r9.1-1))),p4.1.v].toArray)) (v:=(.agg [(.int .i64 (IntKind.i64.wrap (r9.1-1))),p4.1.v].toArray)) bQ.h.sz (.tmp rfl rfl) (.tmp rfl rfl) rfl rfl rfl rfl rfl) (fun _=>?_)
   refine bO (jI ?_)
   obtain rfl:=Option.some.inj hF
   exact fq (p4.1,p4.2) (.cellA rfl rfl .h rfl ja.h bQ.h.sz rfl rfl .nil) rfl (.sel (.cons (.t (.t (.t .h))) (.cons (.t (.t .h)) .nil)))
 rw[if_neg (by rw[ma]; exact Bool.false_ne_true)]at hF
 refine bL (ax (jV (i:=r6.1) (j:=1) (.tmp rfl rfl) (.int _ _)) ?_)
 refine Ca (.bool ((r6.1:Int)==1)) rfl rfl ?_
 refine bO (iZ (b:=((r6.1:Int)==1)) (.tmp rfl rfl) (fun kF=>?_) (fun kF=>?_))
 · rw[if_pos kF]at hF
   refine mW [0,1,2,3,4,5,6,7,8] [0,1,0,0,12,28,63,127,255] [4,6,8] mixed (by decide+kernel) ?_
   refine bY rfl .no (fun ha=>jH (off:=1) Aj.h (EN ha (.tmp rfl rfl) rfl)) ?_
   refine iJ rfl .no (.t .h) (fun ha hp=>fD (v:=p4.1.v) jL.h (EN ha (.tmp rfl rfl) rfl) hp.2 rfl rfl) ?_
   refine Dm (.pointer (some ⟨aB,0,some 0⟩)) rfl rfl rfl rfl ?_
   refine lc rfl .no rfl (fun ha=>bz (g:=true) (len:=3) (parts:=[(0,.const (.int .i64 (-1))),(1,.const (.int .i64 3)),(2,.const (.int .i64 10))]) bI.h bH.h (.cons (EN ha (.int _ _) rfl) (.cons (EN ha (.int _ _) rfl) (.cons (EN ha (.int _ _) rfl) .nil))) (vs:=[(.int .i64 (-1)),(.int .i64 3),(.int .i64 10)]) rfl rfl rfl (by intro v hv; simp at hv; rcases hv with rfl|rfl|rfl<;>rfl)) (fun k12=>?_)
   refine CX (.cons .h .nil) (bB (Ro:=(ay aF)) (E:=3) (F:=([]++([]++([]++[])))) (xs:=([(-1),3,10]:List Int)) (aY (bF (fun _=>rfl)) (aY (bF (fun _=>rfl)) (aY (bF (fun _=>rfl)) bA aR) aR) aR) rfl rfl) aR ?_
   obtain⟨dx,jN,hF⟩:=bind_some hF
   refine CZ rfl rfl .no (.cons .h (.cons .h (.rd (.t (.t (.t .h))) rfl .nil))) (.dep rfl (.own .h (fun _ h=>h) .nil)) (fun ha=>dW bU (fun _=>(.cons .nil)) (iI (.cons (.t .h) (.rd (.t .h) rfl (.rd .h rfl .nil))) (bG l9.h (.cons (EN ha (.tmp rfl rfl) rfl) (.cons (EN ha (.tmp rfl rfl) rfl) .nil)) (@lJ aB ({b:=ah.b,i:=r6.2.i,h:=r6.2.h}:ai) ae ([(-1),3,10]:List Int) (⟨(some ⟨k12,0,none⟩),3,1⟩) _ jN)))) (fun nK=>?_)
   refine lc rfl .no rfl (fun ha=>bz (g:=true) (len:=1) (parts:=[(0,.tmp 23)]) bI.h bH.h (.cons (EN ha (.tmp rfl rfl) rfl) .nil) (vs:=[(.int .i64 dx.1)]) rfl rfl rfl (by intro v hv; simp at hv; rcases hv with rfl<;>rfl)) (fun k16=>?_)
   refine CX (.cons .h .nil) (bB (Ro:=(ay aF)) (E:=3) (F:=([]++[])) (xs:=([dx.1]:List Int)) (aY (bF (fun _=>rfl)) bA aR) rfl rfl) aR ?_
   obtain⟨z17,fw,hF⟩:=bind_some hF
   refine gI rfl rfl .no (.cons (.t (.t (.t (.t .h)))) (.cons .h .nil)) (.dep rfl (.dep rfl (.dep rfl .nil))) (fun ha=>dH (Ro:=(ay aF)) bI.h gK bH.h rfl rfl rfl (EN ha (.tmp rfl rfl) rfl) (EN ha (.tmp rfl rfl) rfl) fw dS) (fun kM=>?_)
   refine bY rfl .no (fun ha=>jH (off:=1) Aj.h (EN ha (.tmp rfl rfl) rfl)) ?_
   refine gI rfl rfl .no (.cons (.t (.t (.t .h))) .nil) (.dep rfl (.dep rfl (.dep rfl .nil))) (fun ha=>fH (e':=(.agg [(.int .i64 r2.1.Method),kM.1.v].toArray)) rR.h.sz (EN ha (.tmp rfl rfl) rfl) (EN ha (.tmp rfl rfl) rfl) rfl rfl rfl rfl rfl) (fun _=>?_)
   refine J3 (bL (eB .h (fun hp=>ku ja.h bQ.h.sz rfl (.tmp rfl rfl) hp.2 rfl) ?_))
   refine aZ (.cons (.t (.t (.t (.t .h)))) .nil) (fH (e':=(.agg [(.int .i64 r2.1.Method),kM.1.v].toArray)) (v:=(.agg [(.int .i64 r2.1.Method),kM.1.v].toArray)) bQ.h.sz (.tmp rfl rfl) (.tmp rfl rfl) rfl rfl rfl rfl rfl) (fun _=>?_)
   refine bO (jI ?_)
   obtain rfl:=Option.some.inj hF
   exact fq (kM.1,kM.2) (.cellA rfl rfl .h rfl ja.h bQ.h.sz rfl rfl .nil) rfl (.sel (.cons (.t (.t .h)) (.cons (.t (.t (.t .h))) .nil)))
 rw[if_neg (by rw[kF]; exact Bool.false_ne_true)]at hF
 refine kU (bL (eB (.t .h) (fun hp=>ku ja.h bQ.h.sz rfl (.tmp rfl rfl) hp.2 rfl) ?_))
 refine aZ (.cons (.t (.t (.t .h))) .nil) (fH (e':=(.agg [(.int .i64 r2.1.Method),p4.1.v].toArray)) (v:=(.agg [(.int .i64 r2.1.Method),p4.1.v].toArray)) bQ.h.sz (.tmp rfl rfl) (.tmp rfl rfl) rfl rfl rfl rfl rfl) (fun _=>?_)
 refine bO (jI ?_)
 obtain rfl:=Option.some.inj hF
 exact fq (p4.1,p4.2) (.cellA rfl rfl .h rfl ja.h bQ.h.sz rfl rfl .nil) rfl (.sel (.cons (.t (.t (.t .h))) (.cons (.t .h) .nil)))
def ru(r1:ai)(fuel:Nat)(r4:(List Int)×(List Method)×(List aL)×ai):Nat->Int->Int->(List ak)->Int->Option ((List Method)×(List ak))
 |0,_,_,_,_=>none
 |tq+1,eG,c31,c32,iX=>if (decide ((0:Int)<iX))then (
     (zA fuel (⟨r1.b,eG,c31⟩:ai) r4.2.1).bind fun vP=>
     (app c32 ([vP.1]:List ak)).bind fun z48=>
     ru r1 fuel r4 tq vP.2.i vP.2.h z48 (IntKind.i64.wrap (iX-1)))
   else (
     some (r4.2.1,c32))
def uL(fuel:Nat)(bv:List UInt8):Option ((List Method)×(List ak)):=
 (xc bv).bind fun r1=>
 (wW fuel r1).bind fun r4=>
 (dR (⟨r1.b,r4.2.2.2.i,r4.2.2.2.h⟩:ai) 8).bind fun r8=>
 ru r1 fuel r4 ((r8.1-0).toNat+2) r8.2.i r8.2.h ([]:List ak) r8.1
theorem Ck{fuel:Nat}{bv:List UInt8}{ae:Sv}{R:(List Method)×(List ak)}(hF:uL fuel bv=some R):
   Fw.Spec Tryz.prog 23 [ae.v] [dU ae bv] (fun p:Sv×List Nat×Sv×List Nat=>(.tuple [p.1.v,p.2.2.1.v].toArray)) (fun p=>[nC p.2.1 p.1 R.1,jb p.2.2.2 p.2.2.1 R.2]):=by
 refine Se 33 Tryz.func23 [.tmp 2,.tmp 3] ?_
 intro H0 F0
 unfold uL at hF
 refine bC ?_
 refine bnd hF fun r1 hx2 hF=>kg (Hr hx2) (fun p3=>?_)
 refine aM ?_
 refine bnd hF fun r4 hx5 hF=>V_ (NM hx5) (fun p6=>?_)
 refine au ?_
 refine zx ?_
 refine zx ?_
 refine zx ?_
 refine aV ?_
 refine bD rfl (bz (g:=true) fM.h bQ.h .nil (vs:=[]) rfl rfl rfl (by simp)) (fun k7=>?_)
 refine bX (.cons .h .nil) (bB (Ro:=fA) (E:=34) (F:=[]) (xs:=([]:List ak)) bA rfl rfl) ?_
 refine aV ?_
 refine bnd hF fun r8 fC hF=>cu (eH fC) (fun La=>?_)
 refine aG ?_
 refine bN (dG (m:=((r8.1-0).toNat+2)) (fun tq f' cs'=>∃(g:Fr)(eG c31:Int)(c32:List ak)(iX:Int)(v33:Sv)(E8:List Nat),f'=aX g [(4,(.pointer (some ⟨p3.1,0,some 0⟩))),(6,p6.2.2.1.v),(8,v33.v),(9,(zi iX))]/\aT cs' [bK p3.1 98 (zg [p3.2.v,(zi eG),(zi c31)]),dU p3.2 r1.b,nC p6.2.2.2.1 p6.2.2.1 r4.2.1,jb E8 v33 c32]/\ru r1 fuel r4 tq eG c31 c32 iX=some R) ⟨_,_,_,_,_,⟨(some ⟨k7,0,none⟩),0,1⟩,(k7::[]),aK,aJ,hF⟩ ?_)
 rintro tq _ _ ⟨Wz,eG,c31,c32,iX,v33,E8,rfl,hE,hF⟩
 refine bV hE ?_
 rcases tq with _|tq
 · rw[ru]at hF
   exact absurd hF (by simp)
 rw[ru]at hF
 refine aV ?_
 refine Ci hF (fun UJ hF=>?_) (fun UJ hF=>?_)
 · refine bC ?_
   refine bnd hF fun vP xZ hF=>lZ (.cons .q2 (.cons .h (.rd .h rfl .nil))) (dW bU (fun _=>(.cons (.cons .nil))) (iI (.cons (.t .h) (.rd (.t .h) rfl (.rd .h rfl .nil))) (bG TU.h bi (Ms xZ)))) (fun p46=>?_)
   refine bD rfl (bz (g:=true) fM.h bQ.h bi (vs:=[(zg [(zi vP.1.Method),p46.1.v])]) rfl rfl rfl (by intro v hv; simp at hv; rcases hv with rfl<;>rfl)) (fun Wy=>?_)
   refine bX (.cons .h (.cons (.t .h) .nil)) (bB (Ro:=fA) (E:=34) (F:=(p46.2++[])) (xs:=([vP.1]:List ak)) (aY xW bA aR) rfl rfl) ?_
   refine bnd hF fun z48 x9 hF=>aZ (.cons .q4 (.cons .h .nil)) (dH (Ro:=fA) fM.h vv bQ.h rfl rfl rfl (.tmp rfl rfl) (.tmp rfl rfl) x9 dS) (fun p50=>?_)
   refine bE ?_
   exact⟨tq,dM _,_,_,_,_,_,p50.1,p50.2,aK,aJ,hF⟩
 refine lY ?_
 cases hF
 exact Er (p6.2.2.1,p6.2.2.2.1,v33,E8)
def wz(fuel:Nat)(bv:List UInt8):Option ((List Method)×(List ak)×Int):=
 (uL fuel bv).bind fun r1=>
 some (r1.1,r1.2,(IntKind.i64.wrap ((Int.tmod (bv.length:Int) 4)-1)))
theorem MF{fuel:Nat}{bv:List UInt8}{ae:Sv}{R:(List Method)×(List ak)×Int}(hF:wz fuel bv=some R):
   Fw.Spec Tryz.prog 5 [ae.v] [dU ae bv] (fun p:Sv×List Nat×Sv×List Nat=>(.tuple [p.1.v,p.2.2.1.v,(zi R.2.2)].toArray)) (fun p=>[nC p.2.1 p.1 R.1,jb p.2.2.2 p.2.2.1 R.2.1]):=by
 refine Se 18 Tryz.func5 [.tmp 2,.tmp 3,.tmp 4] ?_
 intro H0 F0
 unfold wz at hF
 refine bE ?_
 refine bnd hF fun r1 hx2 hF=>kg (Ck hx2) (fun p3=>?_)
 refine au ?_
 refine zx ?_
 refine zx ?_
 refine g_ ?_
 refine ax (lX (i:=(bv.length:Int)) (j:=4) (.tmp rfl rfl) (.int _ _) (by decide)) ?_
 refine bC ?_
 cases hF
 exact Er (p3.1,p3.2.1,p3.2.2.1,p3.2.2.2)
def vV(aa:List Int):Option ((List Int)):=
 (app ([]:List Int) aa).bind fun z5=>
 some z5
theorem LU{aa:List Int}{ae:Sv}{R:(List Int)}(hF:vV aa=some R):
   Fw.Spec Tryz.prog 79 [ae.v] [b_ ae aa] (fun p:Sv×List Nat=>p.1.v) (fun p=>[d_ p.2 p.1 R]):=by
 refine Se 8 Tryz.func79 [.tmp 2] ?_
 intro H0 F0
 unfold vV at hF
 refine bC ?_
 refine PY (xs:=aa) bI.h (.tmp rfl rfl) .h Pi (fun ZR hn2=>?_)
 refine au ?_
 refine Cc (fun hb3=>?_) (fun hb3=>?_)
 · have hnil:=hn2 hb3
   replace hF:some []=some R:=by rw[hnil]at hF; simpa[app]using hF
   refine aM ?_
   cases hF
   exact fq (⟨none,0,0⟩,[]) (.tmp rfl rfl .nil) rfl (.conv .nil (jq (Ro:=(ay aF)) (E:=3)) (.cons .nil) (.sel (.cons .h .nil)))
 refine aG ?_
 refine bD rfl (bz (g:=true) bI.h bH.h .nil (vs:=[]) rfl rfl rfl (by simp)) (fun k4=>?_)
 refine bX (.cons .h .nil) (bB (Ro:=(ay aF)) (E:=3) (F:=[]) (xs:=([]:List Int)) bA rfl rfl) ?_
 refine au ?_
 refine bnd hF fun z5 hx6 hF=>aZ (.cons .h (.rd .h rfl .nil)) (dH (Ro:=(ay aF)) bI.h gK bH.h rfl rfl rfl (.tmp rfl rfl) (.tmp rfl rfl) hx6 xn) (fun p7=>?_)
 refine aU ?_
 cases hF
 exact Er (p7.1,p7.2)
def wB(aC:ak):Option (ak):=
 (vV aC.Values).bind fun r3=>
 some (⟨aC.Method,r3⟩:ak)
theorem MG{aC:ak}{eZ:Sv}{R:ak}(hF:wB aC=some R):
   Fw.Spec Tryz.prog 50 [(zg [(zi aC.Method),eZ.v])] [b_ eZ aC.Values] (fun p:Sv×List Nat=>(zg [(zi R.Method),p.1.v])) (fun p=>[d_ p.2 p.1 R.Values]):=by
 refine Se 9 Tryz.func50 [.cell 2 34] ?_
 intro H0 F0
 unfold wB at hF
 refine au ?_
 refine j_ (fun k1=>?_)
 refine iC (fun k2=>?_)
 refine au ?_
 refine gH [0,1,2,3,4,5,6] [0,1,0,4,12,31,63] [4,6] mixed (by decide+kernel) ?_
 refine xY ?_
 refine bnd hF fun r3 hx4 hF=>vI (LU hx4) (fun p5=>?_)
 refine bY rfl .no (fun ha=>kw bQ.h rfl (vs:=[(zi aC.Method),p5.1.v]) (.cons (EN ha (.tmp rfl rfl) rfl) (.cons (EN ha (.tmp rfl rfl) rfl) .nil)) (cells:=[(zi aC.Method),p5.1.v]) rfl) ?_
 refine gI rfl rfl .no (.cons (.t .h) .nil) .nil (fun ha=>fH (e':=(zg [(zi aC.Method),p5.1.v])) (v:=(zg [(zi aC.Method),p5.1.v])) bQ.h.sz (EN ha (.tmp rfl rfl) rfl) (EN ha (.tmp rfl rfl) rfl) rfl rfl rfl rfl rfl) (fun _=>?_)
 refine du ?_
 refine au ?_
 cases hF
 exact Er (p5.1,p5.2)
def qz:List ak->Nat->(List ak)->Option ((List ak))
 |[],k8,c2=>some c2
 |gW::dz,k8,c2=>(wB gW).bind fun kN=>
   (app c2 ([kN]:List ak)).bind fun z25=>
   qz dz (k8+1) z25
def zt(aA:List ak):Option ((List ak)):=
 qz aA 0 ([]:List ak)
theorem Mc{aA:List ak}{ae:Sv}{R:(List ak)}(hF:zt aA=some R):
   Fw.Spec Tryz.prog 25 [ae.v] [dK ae aA] (fun p:Sv×List Nat=>p.1.v) (fun p=>[jb p.2 p.1 R]):=by
 refine Se 20 Tryz.func25 [.tmp 2] ?_
 intro H0 F0
 unfold zt at hF
 refine aM ?_
 refine bD rfl (bz (g:=true) fM.h bQ.h .nil (vs:=[]) rfl rfl rfl (by simp)) (fun k1=>?_)
 refine bX (.cons .h .nil) (bB (Ro:=fA) (E:=34) (F:=[]) (xs:=([]:List ak)) bA rfl rfl) ?_
 refine g_ ?_
 refine bN (dG (m:=aA.length) (fun m6 f' cs'=>∃(g:Fr)(k8:Nat)(dz c2:List ak)(v3:Sv)(F4:List Nat),m6=dz.length/\f'=aX g [(3,v3.v),(7,ae.v),(8,(zi (aA.length:Int))),(9,(zi (k8:Int)))]/\List.drop k8 aA=dz/\aT cs' [jb F4 v3 c2,dK ae aA]/\qz dz k8 c2=some R) ⟨_,0,_,_,⟨(some ⟨k1,0,none⟩),0,1⟩,(k1::[]),rfl,aK,rfl,aJ,hF⟩ ?_)
 rintro m6 _ _ ⟨g7,k8,dz,c2,v3,F4,rfl,rfl,ib,hE,hF⟩
 refine Kb hE aA (fun AB=>?_)
 rcases dz with _|⟨gW,dz⟩
 · have oK:=dn ib
   rw[qz]at hF
   refine aM ?_
   refine fZ ?_
   refine fO ?_
   cases hF
   exact Er (v3,F4)
 obtain⟨oK,h_,lw⟩:=fQ ib
 rw[qz]at hF
 refine aM ?_
 refine fV ?_
 refine aU ?_
 refine Ai h_ (fun k17 EI=>?_)
 refine rQ (mQ gW) nP (fun kM=>?_)
 refine iC (fun k20=>?_)
 refine As (zg [(zi gW.Method),kM.v]) ?_
 refine aM ?_
 refine bnd hF fun kN si hF=>cu (MG si) (fun vQ=>?_)
 refine bD rfl (bz (g:=true) fM.h bQ.h bi (vs:=[(zg [(zi kN.Method),vQ.1.v])]) rfl rfl rfl (by intro v hv; simp at hv; rcases hv with rfl<;>rfl)) (fun k24=>?_)
 refine bX (.cons .h (.cons .h .nil)) (bB (Ro:=fA) (E:=34) (F:=(vQ.2++[])) (xs:=([kN]:List ak)) (aY xW bA aR) rfl rfl) ?_
 refine bnd hF fun z25 j3 hF=>aZ (.cons .q4 (.cons .h .nil)) (dH (Ro:=fA) fM.h vv bQ.h rfl rfl rfl (.tmp rfl rfl) (.tmp rfl rfl) j3 dS) (fun p27=>?_)
 refine bC ?_
 rw[wk k8]
 exact⟨_,dM _,_,k8+1,dz,_,p27.1,p27.2,rfl,aK,lw,aJ,hF⟩
def nR(bZ:Int)(kz:Int)(lV:Int):Option (Bool):=
 some ((decide ((kz:Int)<=bZ))&&(decide ((bZ:Int)<=lV)))
theorem zH{bZ kz lV:Int}{R:Bool}(hF:nR bZ kz lV=some R):
   Fw.Spec Tryz.prog 27 [(zi bZ),(zi kz),(zi lV)] [] (fun _:Unit=>(.bool R)) (fun _=>[]):=by
 refine Se 15 Tryz.func27 [.tmp 6] ?_
 intro H0 F0
 unfold nR at hF
 refine aM ?_
 refine fJ (fun f' cs'=>∃(g:Fr),f'=aX g [(6,(.bool ((decide ((kz:Int)<=bZ))&&(decide ((bZ:Int)<=lV)))))]/\aT cs' []) ?_ ?_
 · refine aM ?_
   rcases dL (decide ((kz:Int)<=bZ))with hg1|hg1
   · rw[hg1]
     try rw[hg1]at hF; dsimp only[bu,bq]at hF
     refine fO ?_
     exact⟨_,aK,aJ⟩
   rw[hg1]
   try rw[hg1]at hF; dsimp only[bu,bq]at hF
   refine bC ?_
   exact⟨_,aK,aJ⟩
 rintro _ _ ⟨g2,rfl,hE⟩
 refine bV hE ?_
 exact ze hF
def lM(aC:ak)(eD:List Method)(eO:Int):Option (Bool):=
 ((nR aC.Method 0 (IntKind.i64.wrap ((eD.length:Int)-1))).bind fun r4=>
   bif (!r4)then (some true)
   else ((ix eD aC.Method).bind fun x8=>
     some ((x8.Rel:Int)!=eO))).bind fun o2=>
 match o2 with
 |c14=>some c14
theorem GG{aC:ak}{eZ:Sv}{iq:Nat}{eD:List Method}{iK:Sv}{iw:Nat}{eO:Int}{R:Bool}(hF:lM aC eD eO=some R):
   Fw.Spec Tryz.prog 26 [(zg [(zi aC.Method),eZ.v]),(pz iq),(pz iw)] [b_ eZ aC.Values,gu iq 24 iK.v,jZ iK eD,gu iw 3 (zi eO)] (fun _:Unit=>(.bool R)) (fun _=>[]):=by
 refine Se 22 Tryz.func26 [.tmp 4] ?_
 intro H0 F0
 unfold lM at hF
 refine au ?_
 refine j_ (fun k1=>?_)
 refine aG ?_
 obtain⟨o2,yu,hO3⟩:=bind_some hF
 refine gH [0,1,2,3,4,5,6,7,8,9,10,11,12,13,14,15,16,17] [0,1,0,4,12,31,63,127,255,255,767,2047,4095,8191,255,32767,65535,131071] [5] mixed (by decide+kernel) ?_
 refine Dh (fun f' cs'=>∃(c14:Bool)(g:Fr),c14=o2/\f'=aX g [(4,(.bool c14))]/\aT cs' []) ?_ ?_
 · replace hF:=yu
   refine DF ?_
   refine bnd hF fun r4 hx5 hF=>qo (zH hx5) (fun _=>?_)
   refine dQ ?_
   rcases dL (!r4)with jl|jl
   · rw[jl]
     try rw[jl]at hF; dsimp only[bu,bq]at hF
     exact rT hF
   rw[jl]
   try rw[jl]at hF; dsimp only[bu,bq]at hF
   refine jA ?_
   refine zI hF fun x8 Yg rZ hF=>?_
   refine Di rZ (fun k12 j13=>?_)
   refine du ?_
   refine Dl C9 ?_
   exact rT hF
 rintro _ _ ⟨c14,g15,rfl,rfl,hE⟩
 replace hF:=hO3
 try dsimp only at hF
 refine bV hE ?_
 exact ze hF
def tT(eD:List Method)(eO:Int):List ak->Nat->Option (Int)
 |[],k4=>some (-1)
 |x6::aW,k4=>(lM x6 eD eO).bind fun r16=>
   if r16 then (
     some (k4:Int))
   else (
     tT eD eO aW (k4+1))
def BI(aa:List ak)(eD:List Method)(eO:Int):Option (Int):=
 tT eD eO aa 0
theorem LC{aa:List ak}{ae:Sv}{iq:Nat}{eD:List Method}{iK:Sv}{iw:Nat}{eO R:Int}(hF:BI aa eD eO=some R):
   Fw.Spec Tryz.prog 49 [ae.v,(.func (.func 26) [].toArray [(pz iq),(pz iw)].toArray)] [dK ae aa,gu iq 24 iK.v,jZ iK eD,gu iw 3 (zi eO)] (fun _:Unit=>(zi R)) (fun _=>[]):=by
 refine Se 19 Tryz.func49 [.tmp 4] ?_
 intro H0 F0
 unfold BI at hF
 refine fO ?_
 refine bN (dG (m:=aa.length) (fun m2 f' cs'=>∃(g:Fr)(k4:Nat)(aW:List ak),m2=aW.length/\f'=aX g [(0,ae.v),(1,(.func (.func 26) [].toArray [(pz iq),(pz iw)].toArray)),(7,(zi (aa.length:Int))),(8,(zi (k4:Int)))]/\List.drop k4 aa=aW/\aT cs' [dK ae aa,gu iq 24 iK.v,jZ iK eD,gu iw 3 (zi eO)]/\tT eD eO aW k4=some R) ⟨_,0,_,rfl,aK,rfl,aJ,hF⟩ ?_)
 rintro m2 _ _ ⟨g3,k4,aW,rfl,rfl,hd7,hE,hF⟩
 refine Kb hE aa (fun pX=>?_)
 rcases aW with _|⟨x6,aW⟩
 · have jk:=dn hd7
   rw[tT]at hF
   refine aM ?_
   refine fZ ?_
   exact ze hF
 obtain⟨jk,fC,jc⟩:=fQ hd7
 rw[tT]at hF
 refine aM ?_
 refine fV ?_
 refine oD ?_
 refine Ai fC (fun k13 tu=>?_)
 refine rQ (mQ x6) nP (fun nK=>?_)
 refine bnd hF fun r16 iR hF=>qc (.rd .h rfl (.rd .q3 rfl (.rd .q4 rfl (.rd .q5 rfl .nil)))) (zV Ku.h (.tmp rfl rfl) bi (GG iR)) (fun _=>?_)
 refine au ?_
 refine Ci hF (fun kF hF=>?_) (fun kF hF=>?_)
 · exact ze hF
 refine aV ?_
 rw[wk k4]
 exact⟨_,dM _,_,k4+1,aW,rfl,aK,jc,aJ,hF⟩
def za(aa:List ak)(eD:List Method)(eO:Int):Option (List ak):=
 u6 (fun WA=>lM WA eD eO) aa
theorem LA(qs:List (Value×ak))(v:Sv)(F:List Nat)(iq:Nat)(eD:List Method)(iK:Sv)(iw:Nat)(eO:Int)(p:Value×ak->Bool)(hcl:∀q∈qs,lM q.2 eD eO=some (p q))(hidx:BI (qs.map Prod.snd) eD eO=some (ik p qs 0))(hbd:qs.length<4611686018427387904):
   Fw.Spec Tryz.prog 24 [v.v,(.func (.func 26) [].toArray [(.pointer (some ⟨iq,0,some 0⟩)),(.pointer (some ⟨iw,0,some 0⟩))].toArray)] [aS (aH 34 (ay (rq jY))) F v.v qs,gu iq 24 iK.v,bS (bf 36 lq) iK.v eD,gu iw 3 (.int .i64 eO)] (fun q:Sv×List Nat=>q.1.v) (fun q=>[aS (aH 34 (ay (rq jY))) q.2 q.1.v (qs.filter fun a=>!p a)]):=by
 refine pE (n:=42) Tryz.func24 rfl rfl (rs:=[.tmp 4]) rfl rfl rfl ?_
 intro H0 F0
 refine bL ?_
 refine ax (gG (v:=(.slice none 0 0)) EV.nilSlice) ?_
 refine bO ?_
 refine bL ?_
 refine ax (gq (v:=v.v) (.tmp rfl rfl)) ?_
 refine ax (gq (v:=(.func (.func 26) [].toArray [(.pointer (some ⟨iq,0,some 0⟩)),(.pointer (some ⟨iw,0,some 0⟩))].toArray)) (.tmp rfl rfl)) ?_
 refine aZ (.cons .h (.rd .h rfl (.rd (.t .h) rfl (.rd (.t (.t .h)) rfl .nil)))) (PW Qx (fun _=>.nil) (iI (.rd (.t (.t (.t .h))) rfl (.rd .h rfl (.rd (.t .h) rfl (.rd (.t (.t .h)) rfl .nil)))) (bG TZ.h (.cons (.tmp rfl rfl) (.cons (.tmp rfl rfl) .nil)) (@LC (qs.map Prod.snd) v iq eD iK iw eO _ hidx)))) (fun _=>?_)
 generalize hR:ik p qs 0=R0
 refine ax (gG (v:=(.int .i64 R0)) (.tmp rfl rfl)) ?_
 refine bO ?_
 refine gZ ?_
 refine bL ?_
 refine ax (gq (v:=(.int .i64 R0)) (.tmp rfl rfl)) ?_
 refine ax (jV (i:=R0) (j:=(-1)) (.tmp rfl rfl) (.int _ _)) ?_
 refine bO ?_
 refine iZ (b:=(R0==(-1:Int))) (.tmp rfl rfl) (fun hb=>?_) (fun hb=>?_)
 · refine bL ?_
   refine ax (gq (v:=v.v) (.tmp rfl rfl)) ?_
   refine ax (gG (v:=v.v) (.tmp rfl rfl)) ?_
   refine bO ?_
   refine jI ?_
   have e:qs.filter (fun q=>!p q)=qs:=II (k:=0) (by rw[hR]; simpa using hb)
   rw[e]
   exact fq (v,F) (.tmp rfl rfl .nil) rfl (.sel (.cons .h .nil))
 refine kU ?_
 obtain⟨i0,hi0,hi1⟩:∃i:Nat,R0=(i:Int)/\i<qs.length:=by
   rcases Ie p qs 0 with h|⟨i,h,hi⟩
   · rw[hR]at h; subst h; simp at hb
   · exact⟨i,by rw[←hR,h],by omega⟩
 subst hi0
 refine gZ ?_
 refine bL ?_
 refine ax (gq (v:=(.int .i64 (i0:Int))) (.tmp rfl rfl)) ?_
 refine ax (m_ (i:=(i0:Int)) (j:=1) (.tmp rfl rfl) (.int _ _)) ?_
 rw[show IntKind.i64.wrap ((i0:Int)+1)=((i0+1:Nat):Int)from by rw[dD (by omega) (by omega)]; rfl]
 refine ax (gG (v:=(.int .i64 ((i0+1:Nat):Int))) (.tmp rfl rfl)) ?_
 refine bO ?_
 refine bN ?_
 refine dG (m:=qs.length-(i0+1)) (fun m f' cs'=>∃(g:Fr)(cur:List (Value×ak))(i j:Nat)(F':List Nat),m=qs.length-j/\f'=aX g [(0,v.v),(1,(.func (.func 26) [].toArray [(.pointer (some ⟨iq,0,some 0⟩)),(.pointer (some ⟨iw,0,some 0⟩))].toArray)),(5,(.int .i64 (i:Int))),(6,(.int .i64 (j:Int)))]/\jX p qs cur i j/\aT cs' [aS (aH 34 (ay (rq jY))) F' v.v cur,gu iq 24 iK.v,bS (bf 36 lq) iK.v eD,gu iw 3 (.int .i64 eO)]) ⟨_,qs,i0,i0+1,F,rfl,(bn.cons rfl (bn.cons rfl (bn.cons rfl (bn.cons rfl (bn.nil))))).eq,jX.init (by rw[hR]),.sel (.cons .h (.rd .h rfl (.rd (.t .h) rfl (.rd (.t (.t .h)) rfl .nil))))⟩ ?_
 rintro m _ _ ⟨g,cur,i,j,F',rfl,rfl,hI,hE⟩
 refine bV hE ?_
 clear hE
 refine gZ ?_
 refine bL ?_
 refine ax (gq (v:=(.int .i64 (j:Int))) (.tmp rfl rfl)) ?_
 refine ax (gq (v:=v.v) (.tmp rfl rfl)) ?_
 refine eB .h (fun hp=>n_ (l:=cur.length) fM.h (.tmp rfl rfl) (Iy hp)) ?_
 refine ax (uT (i:=(j:Int)) (j:=(cur.length:Int)) (.tmp rfl rfl) (.tmp rfl rfl)) ?_
 refine bO ?_
 have hlen:=hI.len
 have hij:=hI.lt
 have hjl:=hI.le
 refine iZ (b:=(decide ((j:Int)<(cur.length:Int)))) (.tmp rfl rfl) (fun hb2=>?_) (fun hb2=>?_)
 · refine kU ?_
   have hj:j<qs.length:=by simp at hb2; omega
   obtain⟨x,hx1,hx2⟩:=hI.at hj
   refine Ac ?_
   refine bL ?_
   refine ax (gq (v:=v.v) (.tmp rfl rfl)) ?_
   refine ax (gq (v:=(.int .i64 (j:Int))) (.tmp rfl rfl)) ?_
   refine uQ fM.h bQ.h.sz (.tmp rfl rfl) (.tmp rfl rfl) .h (by simp; omega) (fun k hk=>?_)
   refine Qw (a:=x) (ul:=fun i:Sv=>[(.int .i64 x.2.Method),i.v]) (cc:=fun i=>[bS (bf 3 aF) i.v x.2.Values]) ja.h bQ.h.sz rfl (.tmp rfl rfl) .h hk (by simpa using hx1) (fun H e h=>by obtain⟨-,v0,h1,h0⟩:=h; exact⟨v0,h1,rfl,by simp[bS,h0]⟩) (fun w=>?_)
   refine bD rfl (mU (g:=true) bQ.h rfl rfl) (fun k1=>?_)
   refine aZ (.cons .h .nil) (fH (e:=(.agg [(.int .i64 0),(.slice none 0 0)].toArray)) (e':=(.agg [(.int .i64 x.2.Method),w.v].toArray)) (v:=(.agg [(.int .i64 x.2.Method),w.v].toArray)) bQ.h.sz (.tmp rfl rfl) (.tmp rfl rfl) rfl rfl rfl rfl rfl) (fun _=>?_)
   refine bO ?_
   refine bL ?_
   refine ax (gq (v:=(.func (.func 26) [].toArray [(.pointer (some ⟨iq,0,some 0⟩)),(.pointer (some ⟨iw,0,some 0⟩))].toArray)) (.tmp rfl rfl)) ?_
   refine eB .h (fun hp=>ku ja.h bQ.h.sz rfl (.tmp rfl rfl) hp.2 rfl) ?_
   refine qc (.rd (.t (.t .h)) rfl (.rd (.t (.t (.t (.t .h)))) rfl (.rd (.t (.t (.t (.t (.t .h))))) rfl (.rd (.t (.t (.t (.t (.t (.t .h)))))) rfl .nil)))) (zV Ku.h (.tmp rfl rfl) (.cons (.tmp rfl rfl) .nil) (@GG x.2 w iq eD iK iw eO _ (hcl x (List.mem_of_getElem? hx2)))) (fun _=>?_)
   refine ax (Ao (b:=p x) (.tmp rfl rfl)) ?_
   refine bO ?_
   refine iZ (b:=(!p x)) (.tmp rfl rfl) (fun hb3=>?_) (fun hb3=>?_)
   · refine bL ?_
     refine ax (gq (v:=v.v) (.tmp rfl rfl)) ?_
     refine ax (gq (v:=(.int .i64 (i:Int))) (.tmp rfl rfl)) ?_
     refine eB .h (fun hp=>ku ja.h bQ.h.sz rfl (.tmp rfl rfl) hp.2 rfl) ?_
     have hii:(decide ((0:Int)<=(i:Int))&&decide ((i:Int)<(cur.length:Int)))=true:=by simp; omega
     refine uQ fM.h bQ.h.sz (.tmp rfl rfl) (.tmp rfl rfl) (.t (.t (.t .h))) hii (fun k2 hk2=>?_)
     refine aZ (.cons (.t (.t (.t .h))) (.rd (.t .h) rfl .nil)) (Cx (Ro:=ay (rq jY)) (a:=x) (i:=(i:Int)) bQ.h.sz rfl (.tmp rfl rfl) (.tmp rfl rfl) hk2 hii QU (fun _ _ _ _ h=>by obtain⟨-,-,v0,rfl,_⟩:=h; rfl)) (fun F2=>?_)
     refine bO ?_
     refine kS ?_
     refine ax (gq (v:=(.int .i64 (i:Int))) (.tmp rfl rfl)) ?_
     refine ax (m_ (i:=(i:Int)) (j:=1) (.tmp rfl rfl) (.int _ _)) ?_
     rw[show IntKind.i64.wrap ((i:Int)+1)=((i+1:Nat):Int)from by rw[dD (by omega) (by omega)]; rfl]
     refine ax (gG (v:=(.int .i64 ((i+1:Nat):Int))) (.tmp rfl rfl)) ?_
     refine bO ?_
     refine kS ?_
     refine ax (gq (v:=(.int .i64 (j:Int))) (.tmp rfl rfl)) ?_
     refine ax (m_ (i:=(j:Int)) (j:=1) (.tmp rfl rfl) (.int _ _)) ?_
     rw[show IntKind.i64.wrap ((j:Int)+1)=((j+1:Nat):Int)from by rw[dD (by omega) (by omega)]; rfl]
     refine ax (gG (v:=(.int .i64 ((j+1:Nat):Int))) (.tmp rfl rfl)) ?_
     refine bO ?_
     exact⟨_,by omega,_,cur.set i x,i+1,j+1,F2,rfl,(bn.cons rfl (bn.cons rfl (bn.cons rfl (bn.cons rfl (bn.nil))))).eq,hI.no hx2 (by simpa using hb3),.sel (.cons .h (.rd (.t (.t (.t .h))) rfl (.rd (.t (.t (.t (.t .h)))) rfl (.rd (.t (.t (.t (.t (.t .h))))) rfl .nil))))⟩
   · refine kU ?_
     refine kS ?_
     refine ax (gq (v:=(.int .i64 (j:Int))) (.tmp rfl rfl)) ?_
     refine ax (m_ (i:=(j:Int)) (j:=1) (.tmp rfl rfl) (.int _ _)) ?_
     rw[show IntKind.i64.wrap ((j:Int)+1)=((j+1:Nat):Int)from by rw[dD (by omega) (by omega)]; rfl]
     refine ax (gG (v:=(.int .i64 ((j+1:Nat):Int))) (.tmp rfl rfl)) ?_
     refine bO ?_
     exact⟨_,by omega,_,cur,i,j+1,F',rfl,(bn.cons rfl (bn.cons rfl (bn.cons rfl (bn.cons rfl (bn.nil))))).eq,hI.yes hx2 (by simpa using hb3),.sel (.cons (.t (.t (.t .h))) (.rd (.t (.t (.t .h))) rfl (.rd (.t (.t (.t (.t .h)))) rfl (.rd (.t (.t (.t (.t (.t .h))))) rfl .nil))))⟩
 · refine w9 ?_
   refine uw ?_
   refine uw ?_
   refine wU ?_
   have hj:qs.length<=j:=by simp at hb2; omega
   refine Jy .h (Ps (by intro e; rw[e]at hlen; simp at hlen; omega)) (fun hv=>?_)
   obtain⟨k0,m0,rfl,hm0⟩:=hv
   refine bL ?_
   refine ax (gq (v:=(.slice (some ⟨k0,0,none⟩) cur.length m0)) (.tmp rfl rfl)) ?_
   refine ax (gq (v:=(.int .i64 (i:Int))) (.tmp rfl rfl)) ?_
   refine OP fM.h bQ.h.sz (.tmp rfl rfl) (.tmp rfl rfl) .h (by omega) (by omega) ?_
   refine aZ (.cons .h .nil) (P5 (l:=cur.length) (m:=m0) (k:=k0) (i:=i) (j:=cur.length-i) fM.h bQ.h rfl rfl rfl rfl rfl (by omega) (.tmp rfl rfl)) (fun _=>?_)
   refine bO ?_
   refine bL ?_
   refine ax (gq (v:=(.slice (some ⟨k0,0,none⟩) cur.length m0)) (.tmp rfl rfl)) ?_
   refine ax (gq (v:=(.int .i64 (i:Int))) (.tmp rfl rfl)) ?_
   refine OQ fM.h bQ.h.sz (.tmp rfl rfl) hm0 (.tmp rfl rfl) .h rfl (by omega) (by omega) (by omega) ?_
   refine ax (gG (v:=(.slice (some ⟨k0,0,none⟩) i 2)) (.tmp rfl rfl)) ?_
   refine bO ?_
   refine jI ?_
   rw[←hI.fin hj]
   exact fq (⟨some ⟨k0,0,none⟩,i,2⟩,F') (.tmp rfl rfl .nil) rfl (.sel (.cons .h .nil))
theorem LB{aa:List ak}{ae:Sv}{mh:List Nat}{iq:Nat}{eD:List Method}{iK:Sv}{iw:Nat}{eO:Int}{R:List ak}(hF:za aa eD eO=some R):
   Fw.Spec Tryz.prog 24 [ae.v,(.func (.func 26) [].toArray [(.pointer (some ⟨iq,0,some 0⟩)),(.pointer (some ⟨iw,0,some 0⟩))].toArray)] [aS (aH 34 fA) mh ae.v aa,gu iq 24 iK.v,bS (bf 36 lq) iK.v eD,gu iw 3 (.int .i64 eO)] (fun p:Sv×List Nat=>p.1.v) (fun p=>[aS (aH 34 fA) p.2 p.1.v R]):=by
 unfold za at hF
 obtain⟨h1,h2⟩:=Ic hF
 refine OT Od (fun hb=>?_)
 refine OO (R:=jY) rfl (fun es F1 hel=>⟨(es.zip aa).filter (fun a=>!(lM a.2 eD eO).getD false),List.filter_sublist,by rw[h2]; exact Oh (fun a=>(lM a eD eO).getD false) es aa hel,?_⟩)
 refine LA (es.zip aa) ae F1 iq eD iK iw eO (fun a=>(lM a.2 eD eO).getD false) (fun q hq=>h1 q.2 (List.of_mem_zip hq).2) ?_ (by simp; omega)
 rw[List.map_snd_zip (Nat.le_of_eq hel.symm),←Jc Prod.snd (fun a=>(lM a eD eO).getD false),List.map_snd_zip (Nat.le_of_eq hel.symm)]
 exact Cj (L:=tT eD eO) (fun _=>rfl) (fun _ _ _=>rfl) aa 0 h1
def pO(aA:List Method)(cK:List ak)(dE:Int):Option ((List ak)):=
 (zt cK).bind fun r3=>
 (za r3 aA dE).bind fun r6=>
 some r6
theorem zJ{aA:List Method}{ae:Sv}{cK:List ak}{aN:Sv}{dE:Int}{R:(List ak)}(hF:pO aA cK dE=some R):
   Fw.Spec Tryz.prog 6 [ae.v,aN.v,(zi dE)] [jZ ae aA,dK aN cK] (fun p:Sv×List Nat=>p.1.v) (fun p=>[jb p.2 p.1 R]):=by
 refine Se 11 Tryz.func6 [.tmp 6] ?_
 intro H0 F0
 unfold pO at hF
 refine au ?_
 refine j_ (fun k1=>?_)
 refine j_ (fun k2=>?_)
 refine aM ?_
 refine bnd hF fun r3 hx4 hF=>cu (Mc hx4) (fun p5=>?_)
 refine ax (Oc (fn:=.func 26) (vs:=[]) (us:=[(pz k1),(pz k2)]) .nil bi) ?_
 refine bnd hF fun r6 hx7 hF=>cu (LB hx7) (fun p8=>?_)
 refine aU ?_
 cases hF
 exact Er (p8.1,p8.2)
def wL(tC:Int)(nQ:List Int):Option (ak):=
 (app ([]:List Int) nQ).bind fun z3=>
 some (⟨tC,z3⟩:ak)
theorem M6{tC:Int}{nQ:List Int}{aN:Sv}{R:ak}(hF:wL tC nQ=some R):
   Fw.Spec Tryz.prog 30 [(zi tC),aN.v] [b_ aN nQ] (fun p:Sv×List Nat=>(zg [(zi R.Method),p.1.v])) (fun p=>[d_ p.2 p.1 R.Values]):=by
 refine Se 10 Tryz.func30 [.cell 4 34] ?_
 intro H0 F0
 unfold wL at hF
 refine au ?_
 refine iC (fun k1=>?_)
 refine aU ?_
 refine bD rfl (bz (g:=true) bI.h bH.h .nil (vs:=[]) rfl rfl rfl (by simp)) (fun k2=>?_)
 refine bX (.cons .h .nil) (bB (Ro:=(ay aF)) (E:=3) (F:=[]) (xs:=([]:List Int)) bA rfl rfl) ?_
 refine au ?_
 refine bnd hF fun z3 hx4 hF=>aZ (.cons .h (.rd (.t .h) rfl .nil)) (dH (Ro:=(ay aF)) bI.h gK bH.h rfl rfl rfl (.tmp rfl rfl) (.tmp rfl rfl) hx4 xn) (fun p5=>?_)
 refine ax (kw bQ.h rfl (vs:=[(zi tC),p5.1.v]) bi (cells:=[(zi tC),p5.1.v]) rfl) ?_
 refine As (zg [(zi tC),p5.1.v]) ?_
 refine aG ?_
 cases hF
 exact Er (p5.1,p5.2)
def qV(aA:List Method)(dE:Int):List ak->Nat->(List ak)->Option ((List ak))
 |[],k8,c2=>some c2
 |gW::dz,k8,c2=>(((lU gW.Method 0 (IntKind.i64.wrap ((aA.length:Int)-1))).bind fun mH=>
       bif mH then ((ix aA gW.Method).bind fun x29=>
         some ((x29.Rel:Int)==dE))
       else (some false)).bind fun E9=>
     match E9 with
     |iX=>if iX then (
         (wL gW.Method gW.Values).bind fun Bu=>
         (app c2 ([Bu]:List ak)).bind fun z45=>
         some z45)
       else (
         some c2)).bind fun E_=>
   match E_ with
   |lI=>qV aA dE dz (k8+1) lI
def pQ(aA:List Method)(cK:List ak)(dE:Int):Option ((List ak)):=
 qV aA dE cK 0 ([]:List ak)
theorem zK{aA:List Method}{ae:Sv}{cK:List ak}{aN:Sv}{dE:Int}{R:(List ak)}(hF:pQ aA cK dE=some R):
   Fw.Spec Tryz.prog 8 [ae.v,aN.v,(zi dE)] [jZ ae aA,dK aN cK] (fun p:Sv×List Nat=>p.1.v) (fun p=>[jb p.2 p.1 R]):=by
 refine Se 53 Tryz.func8 [.tmp 6] ?_
 intro H0 F0
 unfold pQ at hF
 refine aM ?_
 refine bD rfl (bz (g:=true) fM.h bQ.h .nil (vs:=[]) rfl rfl rfl (by simp)) (fun k1=>?_)
 refine bX (.cons .h .nil) (bB (Ro:=fA) (E:=34) (F:=[]) (xs:=([]:List ak)) bA rfl rfl) ?_
 refine bC ?_
 refine bN (dG (m:=cK.length) (fun m6 f' cs'=>∃(g:Fr)(k8:Nat)(dz c2:List ak)(v3:Sv)(F4:List Nat),m6=dz.length/\f'=aX g [(0,ae.v),(1,aN.v),(2,(zi dE)),(7,v3.v),(8,(zi (k8:Int)))]/\List.drop k8 cK=dz/\aT cs' [jZ ae aA,dK aN cK,jb F4 v3 c2]/\qV aA dE dz k8 c2=some R) ⟨_,0,_,_,⟨(some ⟨k1,0,none⟩),0,1⟩,(k1::[]),rfl,aK,rfl,aJ,hF⟩ ?_)
 rintro m6 _ _ ⟨g7,k8,dz,c2,v3,F4,rfl,rfl,ib,hE,hF⟩
 refine Kb hE cK (fun AB=>?_)
 rcases dz with _|⟨gW,dz⟩
 · have oK:=dn ib
   rw[qV]at hF
   refine bE ?_
   refine fZ ?_
   refine fO ?_
   cases hF
   exact Er (v3,F4)
 obtain⟨oK,h_,lw⟩:=fQ ib
 rw[qV]at hF
 refine bE ?_
 refine fV ?_
 refine au ?_
 obtain⟨E_,RY,UK⟩:=bind_some hF
 refine jW (fun f' cs'=>∃(lI:List ak)(v51:Sv)(yT:List Nat)(g:Fr),lI=E_/\f'=aX g [(0,ae.v),(1,aN.v),(2,(zi dE)),(7,v51.v),(8,(zi (k8:Int)))]/\aT cs' [jZ ae aA,dK aN cK,jb yT v51 lI]) ?_ ?_
 · replace hF:=RY
   refine bN ?_
   obtain⟨E9,RZ,UL⟩:=bind_some hF
   refine au ?_
   refine fJ (fun f' cs'=>∃(iX:Bool)(g:Fr),iX=E9/\f'=aX g [(0,ae.v),(1,aN.v),(2,(zi dE)),(7,v3.v),(8,(zi (k8:Int))),(37,(.bool iX))]/\aT cs' [jZ ae aA,dK aN cK,jb F4 v3 c2]) ?_ ?_
   · replace hF:=RZ
     refine aG ?_
     refine Ai h_ (fun k21 WB=>?_)
     refine au ?_
     refine Al uR ?_
     refine aU ?_
     refine bnd hF fun mH hx24 hF=>dF (wR hx24) (fun _=>?_)
     refine au ?_
     rcases dL mH with yw|yw
     · rw[yw]
       try rw[yw]at hF; dsimp only[bu,bq]at hF
       refine bE ?_
       refine Ai h_ (fun k27 ZT=>?_)
       refine aU ?_
       refine Al uR ?_
       refine au ?_
       refine zI hF fun x29 Yh hx32 hF=>?_
       refine Ai hx32 (fun ZU ZV=>?_)
       refine aU ?_
       refine Al C9 ?_
       exact dh hF
     rw[yw]
     try rw[yw]at hF; dsimp only[bu,bq]at hF
     exact dh hF
   rintro _ _ ⟨iX,ZW,rfl,rfl,hE⟩
   replace hF:=UL
   try dsimp only at hF
   refine bV hE ?_
   refine Ci hF (fun hb48 hF=>?_) (fun hb48 hF=>?_)
   · refine mW [0,1,2,3,4,5,6,7,8,9,10,11,12,13,14] [0,0,0,6,14,30,0,0,192,448,960,2046,4094,8191,16383] [11,13] mixed (by decide+kernel) ?_
     refine jA ?_
     refine Di h_ (fun Fe ZX=>?_)
     refine du ?_
     refine Dl uR ?_
     refine dQ ?_
     refine Di h_ (fun EZ ZY=>?_)
     refine du ?_
     refine Dg (R':=(bf 3 aF)) jL.h rfl .no (.tmp rfl rfl) rfl .h C_ (fun ZZ=>?_)
     refine bnd hF fun Bu UM hF=>vI (M6 UM) (fun p43=>?_)
     refine lc rfl .no rfl (fun ha=>bz (g:=true) (len:=1) (parts:=[(0,.tmp 49)]) fM.h bQ.h (.cons (EN ha (.tmp rfl rfl) rfl) .nil) (vs:=[(zg [(zi Bu.Method),p43.1.v])]) rfl rfl rfl (by intro v hv; simp at hv; rcases hv with rfl<;>rfl)) (fun Z0=>?_)
     refine mD (.cons .h (.cons .h .nil)) (bB (Ro:=fA) (E:=34) (F:=(p43.2++[])) (xs:=([Bu]:List ak)) (aY xW bA aR) rfl rfl) ?_
     refine bnd hF fun z45 yt hF=>gI rfl rfl .no (.cons .q6 (.cons .h .nil)) (.dep rfl .nil) (fun ha=>dH (Ro:=fA) fM.h vv bQ.h rfl rfl rfl (EN ha (.tmp rfl rfl) rfl) (EN ha (.tmp rfl rfl) rfl) yt dS) (fun p47=>?_)
     refine dQ ?_
     cases hF
     exact⟨_,p47.1,p47.2,_,rfl,aK,aJ⟩
   refine au ?_
   cases hF
   exact⟨_,v3,F4,_,rfl,aK,aJ⟩
 rintro _ _ ⟨lI,v51,yT,WC,rfl,rfl,hE⟩
 replace hF:=UK
 try dsimp only at hF
 refine bV hE ?_
 refine aV ?_
 rw[wk k8]
 exact⟨_,dM _,_,k8+1,dz,_,v51,yT,rfl,aK,lw,aJ,hF⟩
def qW(bg:List Int):List Int->Nat->Option (Bool)
 |[],k4=>some true
 |x6::aW,k4=>(ix bg (k4:Int)).bind fun iG=>
   if ((x6:Int)!=iG)then (
     some false)
   else (
     qW bg aW (k4+1))
def zY(aC:List Int)(bg:List Int):Option (Bool):=
 if (((aC.length:Int):Int)!=(bg.length:Int))then (
   some false)
 else (
   qW bg aC 0)
theorem NN{aC:List Int}{ae:Sv}{bg:List Int}{aN:Sv}{R:Bool}(hF:zY aC bg=some R):
   Fw.Spec Tryz.prog 51 [ae.v,aN.v] [b_ ae aC,b_ aN bg] (fun _:Unit=>(.bool R)) (fun _=>[]):=by
 refine Se 26 Tryz.func51 [.tmp 4] ?_
 intro H0 F0
 unfold zY at hF
 refine lY ?_
 refine Ci hF (fun sj hF=>?_) (fun sj hF=>?_)
 · exact ze hF
 refine aV ?_
 refine bN (dG (m:=aC.length) (fun m2 f' cs'=>∃(g:Fr)(k4:Nat)(aW:List Int),m2=aW.length/\f'=aX g [(0,ae.v),(1,aN.v),(5,(zi (k4:Int)))]/\List.drop k4 aC=aW/\aT cs' [b_ ae aC,b_ aN bg]/\qW bg aW k4=some R) ⟨_,0,_,rfl,aK,rfl,aJ,hF⟩ ?_)
 rintro m2 _ _ ⟨g3,k4,aW,rfl,rfl,hd7,hE,hF⟩
 refine Kb hE aC (fun pX=>?_)
 rcases aW with _|⟨x6,aW⟩
 · have jk:=dn hd7
   rw[qW]at hF
   refine bE ?_
   refine fZ ?_
   exact ze hF
 obtain⟨jk,fC,jc⟩:=fQ hd7
 rw[qW]at hF
 refine bE ?_
 refine fV ?_
 refine aG ?_
 refine gH [0,1,2,3,4,5,6,7,8] [0,0,3,7,0,0,48,112,255] [] mixed (by decide+kernel) ?_
 refine dQ ?_
 refine Di fC (fun k13 tu=>?_)
 refine Dl gJ ?_
 refine dQ ?_
 refine zI hF fun iG x_ fw hF=>?_
 refine Di fw (fun k19 ET=>?_)
 refine Dl gJ ?_
 refine dQ ?_
 refine Ci hF (fun rW hF=>?_) (fun rW hF=>?_)
 · exact ze hF
 refine bC ?_
 rw[wk k4]
 exact⟨_,dM _,_,k4+1,aW,rfl,aK,jc,aJ,hF⟩
def uH(aC:ak)(bg:ak):Option (Bool):=
 (bif ((aC.Method:Int)==bg.Method)then ((zY aC.Values bg.Values).bind fun r6=>
     some r6)
   else (some false)).bind fun o3=>
 match o3 with
 |c9=>some c9
theorem NP{aC:ak}{eZ:Sv}{bg:ak}{fF:Sv}{R:Bool}(hF:uH aC bg=some R):
   Fw.Spec Tryz.prog 28 [(zg [(zi aC.Method),eZ.v]),(zg [(zi bg.Method),fF.v])] [b_ eZ aC.Values,b_ fF bg.Values] (fun _:Unit=>(.bool R)) (fun _=>[]):=by
 refine Se 17 Tryz.func28 [.tmp 4] ?_
 intro H0 F0
 unfold uH at hF
 refine au ?_
 refine j_ (fun k1=>?_)
 refine j_ (fun k2=>?_)
 refine aG ?_
 obtain⟨o3,D_,hO4⟩:=bind_some hF
 refine au ?_
 refine fJ (fun f' cs'=>∃(c9:Bool)(g:Fr),c9=o3/\f'=aX g [(4,(.bool c9))]/\aT cs' []) ?_ ?_
 · replace hF:=D_
   refine bC ?_
   rcases dL ((aC.Method:Int)==bg.Method)with hg5|hg5
   · rw[hg5]
     try rw[hg5]at hF; dsimp only[bu,bq]at hF
     refine fO ?_
     refine bnd hF fun r6 hx7 hF=>dF (NN hx7) (fun _=>?_)
     exact dh hF
   rw[hg5]
   try rw[hg5]at hF; dsimp only[bu,bq]at hF
   exact dh hF
 rintro _ _ ⟨c9,g10,rfl,rfl,hE⟩
 replace hF:=hO4
 try dsimp only at hF
 refine bV hE ?_
 exact ze hF
def qA(bg:List ak):List ak->Nat->Option (Bool)
 |[],k4=>some true
 |x6::aW,k4=>(ix bg (k4:Int)).bind fun jm=>
   (uH x6 jm).bind fun mH=>
   if (!mH)then (
     some false)
   else (
     qA bg aW (k4+1))
def uf(aC:List ak)(bg:List ak):Option (Bool):=
 if (((aC.length:Int):Int)!=(bg.length:Int))then (
   some false)
 else (
   qA bg aC 0)
theorem BL{aC:List ak}{ae:Sv}{bg:List ak}{aN:Sv}{R:Bool}(hF:uf aC bg=some R):
   Fw.Spec Tryz.prog 7 [ae.v,aN.v] [dK ae aC,dK aN bg] (fun _:Unit=>(.bool R)) (fun _=>[]):=by
 refine Se 27 Tryz.func7 [.tmp 4] ?_
 intro H0 F0
 unfold uf at hF
 refine lY ?_
 refine Ci hF (fun D9 hF=>?_) (fun D9 hF=>?_)
 · exact ze hF
 refine aV ?_
 refine bN (dG (m:=aC.length) (fun m2 f' cs'=>∃(g:Fr)(k4:Nat)(aW:List ak),m2=aW.length/\f'=aX g [(0,ae.v),(1,aN.v),(5,(zi (k4:Int)))]/\List.drop k4 aC=aW/\aT cs' [dK ae aC,dK aN bg]/\qA bg aW k4=some R) ⟨_,0,_,rfl,aK,rfl,aJ,hF⟩ ?_)
 rintro m2 _ _ ⟨g3,k4,aW,rfl,rfl,hd7,hE,hF⟩
 refine Kb hE aC (fun pX=>?_)
 rcases aW with _|⟨x6,aW⟩
 · have jk:=dn hd7
   rw[qA]at hF
   refine bE ?_
   refine fZ ?_
   exact ze hF
 obtain⟨jk,fC,jc⟩:=fQ hd7
 rw[qA]at hF
 refine bE ?_
 refine fV ?_
 refine aG ?_
 refine gH [0,1,2,3,4,5,6,7,8,9] [0,0,3,7,0,0,48,112,255,511] [8] mixed (by decide+kernel) ?_
 refine dQ ?_
 refine Di fC (fun k13 tu=>?_)
 refine AR (mQ x6) nP (fun nK=>?_)
 refine dQ ?_
 refine zI hF fun jm Yi rU hF=>?_
 refine Di rU (fun k20 Bv=>?_)
 refine AR (mQ jm) nP (fun nL=>?_)
 refine bnd hF fun mH hx24 hF=>qo (NP hx24) (fun _=>?_)
 refine dQ ?_
 refine Ci hF (fun yn hF=>?_) (fun yn hF=>?_)
 · exact ze hF
 refine bC ?_
 rw[wk k4]
 exact⟨_,dM _,_,k4+1,aW,rfl,aK,jc,aJ,hF⟩
def BK(dB:List Int):Option (List Int):=
 some (dB.mergeSort fun x y=>decide (x<=y))
theorem LY{dB:List Int}{ae:Sv}{mh:List Nat}{R:List Int}(hF:BK dB=some R):
   Fw.Spec Tryz.prog 31 [ae.v] [d_ mh ae dB] (fun _:List Nat=>(.tuple [].toArray)) (fun p=>[d_ p ae R]):=by
 cases hF
 exact OX bH.h (Go.Proofs.Any.slices_Sort_int_none Jj) (Go.Proofs.Any.slices_Sort_int Jj)
def BJ(dB:List Int):Option (List Int):=
 some (Lib.compact dB)
theorem LQ{dB:List Int}{ae:Sv}{mh:List Nat}{R:List Int}(hF:BJ dB=some R):
   Fw.Spec Tryz.prog 32 [ae.v] [d_ mh ae dB] (fun p:Sv×List Nat=>p.1.v) (fun p=>[d_ p.2 p.1 R]):=by
 cases hF
 exact Nr bH.h Oq rfl (Go.Proofs.Any.slices_Compact_int_empty IL) (Go.Proofs.Any.slices_Compact_int IL)
def o6:List ak->Nat->(List Int)->Option ((List Int))
 |[],oU,c28=>(BK c28).bind fun Lc=>
   (BJ Lc).bind fun Ld=>
   some Ld
 |Bw::ol,oU,c28=>(app c28 Bw.Values).bind fun z53=>
   o6 ol (oU+1) z53
def wC(aA:List Method)(cK:List ak)(dE:Int):Option ((List Int)):=
 (pO aA cK dE).bind fun r2=>
 o6 r2 0 ([]:List Int)
theorem MH{aA:List Method}{ae:Sv}{cK:List ak}{aN:Sv}{dE:Int}{R:(List Int)}(hF:wC aA cK dE=some R):
   Fw.Spec Tryz.prog 10 [ae.v,aN.v,(zi dE)] [jZ ae aA,dK aN cK] (fun p:Sv×List Nat=>p.1.v) (fun p=>[d_ p.2 p.1 R]):=by
 refine Se 29 Tryz.func10 [.tmp 6] ?_
 intro H0 F0
 unfold wC at hF
 refine aM ?_
 refine bD rfl (bz (g:=true) bI.h bH.h .nil (vs:=[]) rfl rfl rfl (by simp)) (fun k1=>?_)
 refine bX (.cons .h .nil) (bB (Ro:=(ay aF)) (E:=3) (F:=[]) (xs:=([]:List Int)) bA rfl rfl) ?_
 refine bE ?_
 refine bnd hF fun r2 hx3 hF=>cu (zJ hx3) (fun p4=>?_)
 refine aU ?_
 refine bN (xB .h bU ?_)
 refine dG (m:=r2.length) (fun m32 f' cs'=>∃(g:Fr)(oU:Nat)(ol:List ak)(c28:List Int)(v29:Sv)(Le:List Nat),m32=ol.length/\f'=aX g [(7,v29.v),(14,p4.1.v),(15,(zi (r2.length:Int))),(16,(zi (oU:Int)))]/\List.drop oU r2=ol/\aT cs' [d_ Le v29 c28,dK p4.1 r2]/\o6 ol oU c28=some R) ⟨_,0,_,_,⟨(some ⟨k1,0,none⟩),0,1⟩,(k1::[]),rfl,aK,rfl,aJ,hF⟩ ?_
 rintro m32 _ _ ⟨WE,oU,ol,c28,v29,Le,rfl,rfl,KG,hE,hF⟩
 refine Kb hE r2 (fun Xp=>?_)
 rcases ol with _|⟨Bw,ol⟩
 · have UN:=dn KG
   rw[o6]at hF
   refine aM ?_
   refine fZ ?_
   refine bC ?_
   refine bnd hF fun Lc yo hF=>cu (LY yo) (fun p45=>?_)
   refine aU ?_
   refine bnd hF fun Ld rV hF=>cu (LQ rV) (fun p48=>?_)
   refine aU ?_
   cases hF
   exact Er (p48.1,p48.2)
 obtain⟨UN,hx39,UO⟩:=fQ KG
 rw[o6]at hF
 refine aM ?_
 refine fV ?_
 refine aU ?_
 refine Ai hx39 (fun EY Wv=>?_)
 refine rQ (mQ Bw) nP (fun p51=>?_)
 refine iC (fun Z4=>?_)
 refine As (zg [(zi Bw.Method),p51.v]) ?_
 refine aV ?_
 refine bnd hF fun z53 UQ hF=>aZ (.cons .q3 (.rd (.t .h) rfl .nil)) (dH (Ro:=(ay aF)) bI.h gK bH.h rfl rfl rfl (.tmp rfl rfl) (.tmp rfl rfl) UQ xn) (fun p55=>?_)
 refine bC ?_
 rw[wk oU]
 exact⟨_,dM _,_,oU+1,ol,_,p55.1,p55.2,rfl,aK,UO,aJ,hF⟩
def uy(dB:Int):List Int->Nat->Option (Bool)
 |[],k4=>some false
 |x6::aW,k4=>if ((x6:Int)==dB)then (
     some true)
   else (
     uy dB aW (k4+1))
def xe(aA:List Int)(dB:Int):Option (Bool):=
 uy dB aA 0
theorem Ot{aA:List Int}{ae:Sv}{dB:Int}{R:Bool}(hF:xe aA dB=some R):
   Fw.Spec Tryz.prog 54 [ae.v,(zi dB)] [b_ ae aA] (fun _:Unit=>(.bool R)) (fun _=>[]):=by
 refine Se 18 Tryz.func54 [.tmp 4] ?_
 intro H0 F0
 unfold xe at hF
 refine bE ?_
 refine bN (dG (m:=aA.length) (fun m2 f' cs'=>∃(g:Fr)(k4:Nat)(aW:List Int),m2=aW.length/\f'=aX g [(0,ae.v),(1,(zi dB)),(5,(zi (k4:Int)))]/\List.drop k4 aA=aW/\aT cs' [b_ ae aA]/\uy dB aW k4=some R) ⟨_,0,_,rfl,aK,rfl,aJ,hF⟩ ?_)
 rintro m2 _ _ ⟨g3,k4,aW,rfl,rfl,hd7,hE,hF⟩
 refine Kb hE aA (fun pX=>?_)
 rcases aW with _|⟨x6,aW⟩
 · have jk:=dn hd7
   rw[uy]at hF
   refine bE ?_
   refine fZ ?_
   exact ze hF
 obtain⟨jk,fC,jc⟩:=fQ hd7
 rw[uy]at hF
 refine bE ?_
 refine fV ?_
 refine aV ?_
 refine Ai fC (fun k13 tu=>?_)
 refine Al gJ ?_
 refine aU ?_
 refine Ci hF (fun UR hF=>?_) (fun UR hF=>?_)
 · exact ze hF
 refine bC ?_
 rw[wk k4]
 exact⟨_,dM _,_,k4+1,aW,rfl,aK,jc,aJ,hF⟩
def ry(aA:List Int)(dB:Int):Nat->(List Int)->Bool->Int->Option ((List Int))
 |0,_,_,_=>none
 |m10+1,c5,c8,c9=>if (decide ((c9:Int)<(aA.length:Int)))then (
     ((bif (!c8)then ((ix aA c9).bind fun tF=>
           some (decide ((dB:Int)<tF)))
         else (some false)).bind fun Ff=>
       match Ff with
       |eG=>if eG then (
           (app c5 ([dB]:List Int)).bind fun z32=>
           (ix aA c9).bind fun x38=>
           (app z32 ([x38]:List Int)).bind fun z43=>
           some (z43,true))
         else (
           (ix aA c9).bind fun yU=>
           (app c5 ([yU]:List Int)).bind fun z54=>
           some (z54,c8))).bind fun Fg=>
     match Fg with
     |(c59,kP)=>ry aA dB m10 c59 kP (IntKind.i64.wrap (c9+1)))
   else (
     if (!c8)then (
       (app c5 ([dB]:List Int)).bind fun z65=>
       some z65)
     else (
       some c5))
def xg(aA:List Int)(dB:Int):Option ((List Int)):=
 (xe aA dB).bind fun r1=>
 if r1 then (
   some aA)
 else (
   ry aA dB (((aA.length:Int)-0).toNat+2) ([]:List Int) false 0)
theorem Ou{aA:List Int}{ae:Sv}{mh:List Nat}{dB:Int}{R:(List Int)}(hF:xg aA dB=some R):
   Fw.Spec Tryz.prog 33 [ae.v,(zi dB)] [d_ mh ae aA] (fun p:Sv×List Nat=>p.1.v) (fun p=>[d_ p.2 p.1 R]):=by
 refine Se 47 Tryz.func33 [.tmp 4] ?_
 intro H0 F0
 unfold xg at hF
 refine bE ?_
 refine bnd hF fun r1 hx2 hF=>aZ (.cons .h .nil) (dW bU (fun _=>.nil) (bG Ua.h bi (Ot hx2))) (fun _=>?_)
 refine au ?_
 refine Ci hF (fun UT hF=>?_) (fun UT hF=>?_)
 · refine aV ?_
   cases hF
   exact Er (ae,mh)
 refine aG ?_
 refine bD rfl (bz (g:=true) bI.h bH.h .nil (vs:=[]) rfl rfl rfl (by simp)) (fun k4=>?_)
 refine bX (.cons .h .nil) (bB (Ro:=(ay aF)) (E:=3) (F:=[]) (xs:=([]:List Int)) bA rfl rfl) ?_
 refine fO ?_
 refine bN (dG (m:=(((aA.length:Int)-0).toNat+2)) (fun m10 f' cs'=>∃(g:Fr)(c5:List Int)(c8:Bool)(c9:Int)(v6:Sv)(F7:List Nat),f'=aX g [(0,ae.v),(1,(zi dB)),(5,v6.v),(6,(.bool c8)),(7,(zi c9))]/\aT cs' [d_ mh ae aA,d_ F7 v6 c5]/\ry aA dB m10 c5 c8 c9=some R) ⟨_,_,_,_,⟨(some ⟨k4,0,none⟩),0,1⟩,(k4::[]),aK,aJ,hF⟩ ?_)
 rintro m10 _ _ ⟨g11,c5,c8,c9,v6,F7,rfl,hE,hF⟩
 refine bV hE ?_
 rcases m10 with _|m10
 · rw[ry]at hF
   exact absurd hF (by simp)
 rw[ry]at hF
 refine bE ?_
 refine Ci hF (fun DK hF=>?_) (fun DK hF=>?_)
 · refine au ?_
   obtain⟨Fg,R3,UU⟩:=bind_some hF
   refine jW (fun f' cs'=>∃(c59:List Int)(kP:Bool)(v60:Sv)(Fh:List Nat)(g:Fr),Fg=(c59,kP)/\f'=aX g [(0,ae.v),(1,(zi dB)),(5,v60.v),(6,(.bool kP)),(7,(zi c9))]/\aT cs' [d_ mh ae aA,d_ Fh v60 c59]) ?_ ?_
   · replace hF:=R3
     refine bN (gZ ?_)
     obtain⟨Ff,R4,UV⟩:=bind_some hF
     refine au ?_
     refine fJ (fun f' cs'=>∃(eG:Bool)(g:Fr),eG=Ff/\f'=aX g [(0,ae.v),(1,(zi dB)),(5,v6.v),(6,(.bool c8)),(7,(zi c9)),(28,(.bool eG))]/\aT cs' [d_ mh ae aA,d_ F7 v6 c5]) ?_ ?_
     · replace hF:=R4
       refine aU ?_
       rcases dL (!c8)with mi|mi
       · rw[mi]
         try rw[mi]at hF; dsimp only[bu,bq]at hF
         refine aV ?_
         refine bnd hF fun tF hx27 hF=>?_
         have UW:=Ag hx27
         obtain⟨Yj,hx29⟩:=nT hx27
         refine uQ bI.h bH.h.sz (.tmp rfl rfl) (.tmp rfl rfl) .h UW (fun k23 UX=>?_)
         refine au ?_
         refine Au (w:=(zi tF)) lC.h (.tmp rfl rfl) .h UX hx29 Dk ?_
         exact dh hF
       rw[mi]
       try rw[mi]at hF; dsimp only[bu,bq]at hF
       exact dh hF
     rintro _ _ ⟨eG,Z5,rfl,rfl,hE⟩
     replace hF:=UV
     try dsimp only at hF
     refine bV hE ?_
     refine Ci hF (fun oJ hF=>?_) (fun oJ hF=>?_)
     · refine aU ?_
       refine bD rfl (bz (g:=true) bI.h bH.h bi (vs:=[(zi dB)]) rfl rfl rfl (by intro v hv; simp at hv; rcases hv with rfl<;>rfl)) (fun Ws=>?_)
       refine bX (.cons .h .nil) (bB (Ro:=(ay aF)) (E:=3) (F:=([]++[])) (xs:=([dB]:List Int)) (aY (bF (fun _=>rfl)) bA aR) rfl rfl) ?_
       refine bnd hF fun z32 Ea hF=>aZ (.cons .q2 (.cons .h .nil)) (dH (Ro:=(ay aF)) bI.h gK bH.h rfl rfl rfl (.tmp rfl rfl) (.tmp rfl rfl) Ea dS) (fun p34=>?_)
       refine fO ?_
       refine bnd hF fun x38 hx39 hF=>?_
       have UY:=Ag hx39
       obtain⟨Yk,yg⟩:=nT hx39
       refine uQ bI.h bH.h.sz (.tmp rfl rfl) (.tmp rfl rfl) (.t .h) UY (fun Wu UZ=>?_)
       refine Au (w:=(zi x38)) lC.h (.tmp rfl rfl) (.t .h) UZ yg Dk ?_
       refine bD rfl (bz (g:=true) bI.h bH.h bi (vs:=[(zi x38)]) rfl rfl rfl (by intro v hv; simp at hv; rcases hv with rfl<;>rfl)) (fun Wn=>?_)
       refine bX (.cons .h .nil) (bB (Ro:=(ay aF)) (E:=3) (F:=([]++[])) (xs:=([x38]:List Int)) (aY (bF (fun _=>rfl)) bA aR) rfl rfl) ?_
       refine bnd hF fun z43 yo hF=>aZ (.cons (.t .h) (.cons .h .nil)) (dH (Ro:=(ay aF)) bI.h gK bH.h rfl rfl rfl (.tmp rfl rfl) (.tmp rfl rfl) yo dS) (fun p45=>?_)
       refine aG ?_
       cases hF
       exact⟨_,_,p45.1,p45.2,_,rfl,aK,aJ⟩
     refine aV ?_
     refine bnd hF fun yU vw hF=>?_
     have U0:=Ag vw
     obtain⟨Yl,Eb⟩:=nT vw
     refine uQ bI.h bH.h.sz (.tmp rfl rfl) (.tmp rfl rfl) .h U0 (fun Wp U1=>?_)
     refine Au (w:=(zi yU)) lC.h (.tmp rfl rfl) .h U1 Eb Dk ?_
     refine bD rfl (bz (g:=true) bI.h bH.h bi (vs:=[(zi yU)]) rfl rfl rfl (by intro v hv; simp at hv; rcases hv with rfl<;>rfl)) (fun Br=>?_)
     refine bX (.cons .h .nil) (bB (Ro:=(ay aF)) (E:=3) (F:=([]++[])) (xs:=([yU]:List Int)) (aY (bF (fun _=>rfl)) bA aR) rfl rfl) ?_
     refine bnd hF fun z54 oI hF=>aZ (.cons .q2 (.cons .h .nil)) (dH (Ro:=(ay aF)) bI.h gK bH.h rfl rfl rfl (.tmp rfl rfl) (.tmp rfl rfl) oI dS) (fun p56=>?_)
     refine aG ?_
     cases hF
     exact⟨_,_,p56.1,p56.2,_,rfl,aK,aJ⟩
   rintro _ _ ⟨c59,kP,v60,Fh,Z6,rfl,rfl,hE⟩
   replace hF:=UU
   try dsimp only at hF
   refine bV hE ?_
   refine aV ?_
   exact⟨m10,dM _,_,_,_,_,v60,Fh,aK,aJ,hF⟩
 refine fO ?_
 refine Ci hF (fun U2 hF=>?_) (fun U2 hF=>?_)
 · refine aU ?_
   refine bD rfl (bz (g:=true) bI.h bH.h bi (vs:=[(zi dB)]) rfl rfl rfl (by intro v hv; simp at hv; rcases hv with rfl<;>rfl)) (fun Wm=>?_)
   refine bX (.cons .h .nil) (bB (Ro:=(ay aF)) (E:=3) (F:=([]++[])) (xs:=([dB]:List Int)) (aY (bF (fun _=>rfl)) bA aR) rfl rfl) ?_
   refine bnd hF fun z65 Ec hF=>aZ (.cons .q2 (.cons .h .nil)) (dH (Ro:=(ay aF)) bI.h gK bH.h rfl rfl rfl (.tmp rfl rfl) (.tmp rfl rfl) Ec dS) (fun p67=>?_)
   refine bE ?_
   cases hF
   exact Er (p67.1,p67.2)
 refine bC ?_
 cases hF
 exact Er (v6,F7)
def qB(x101:ak):Nat->(List Int)->Int->Option ((List Int))
 |0,_,_=>none
 |su+1,vz,sw=>if (decide ((sw:Int)<(x101.Values.length:Int)))then (
     (ix x101.Values sw).bind fun KH=>
     (xg vz KH).bind fun KI=>
     qB x101 su KI (IntKind.i64.wrap (sw+1)))
   else (
     some vz)
def qC:List ak->Nat->(List Int)->Option ((List Int))
 |[],mI,c93=>some c93
 |x101::nU,mI,c93=>(qB x101 (((x101.Values.length:Int)-0).toNat+2) c93 0).bind fun AZ=>
   match AZ with
   |c138=>qC nU (mI+1) c138
def wD(aA:List Method)(cK:List ak)(dE:Int):Option ((List Int)):=
 (pQ aA cK dE).bind fun r2=>
 qC r2 0 ([]:List Int)
theorem MI{aA:List Method}{ae:Sv}{cK:List ak}{aN:Sv}{dE:Int}{R:(List Int)}(hF:wD aA cK dE=some R):
   Fw.Spec Tryz.prog 11 [ae.v,aN.v,(zi dE)] [jZ ae aA,dK aN cK] (fun p:Sv×List Nat=>p.1.v) (fun p=>[d_ p.2 p.1 R]):=by
 refine Se 43 Tryz.func11 [.tmp 6] ?_
 intro H0 F0
 unfold wD at hF
 refine aM ?_
 refine bD rfl (bz (g:=true) bI.h bH.h .nil (vs:=[]) rfl rfl rfl (by simp)) (fun k1=>?_)
 refine bX (.cons .h .nil) (bB (Ro:=(ay aF)) (E:=3) (F:=[]) (xs:=([]:List Int)) bA rfl rfl) ?_
 refine bC ?_
 refine bnd hF fun r2 hx3 hF=>cu (zK hx3) (fun p4=>?_)
 refine bC ?_
 refine bN (xB .h bU ?_)
 refine dG (m:=r2.length) (fun Lf f' cs'=>∃(g:Fr)(mI:Nat)(nU:List ak)(c93:List Int)(yV:Sv)(Bz:List Nat),Lf=nU.length/\f'=aX g [(7,yV.v),(8,p4.1.v),(9,(zi (mI:Int)))]/\List.drop mI r2=nU/\aT cs' [d_ Bz yV c93,dK p4.1 r2]/\qC nU mI c93=some R) ⟨_,0,_,_,⟨(some ⟨k1,0,none⟩),0,1⟩,(k1::[]),rfl,aK,rfl,aJ,hF⟩ ?_
 rintro Lf _ _ ⟨Z7,mI,nU,c93,yV,Bz,rfl,rfl,hd102,hE,hF⟩
 refine Kb hE r2 (fun WR=>?_)
 rcases nU with _|⟨x101,nU⟩
 · have R5:=dn hd102
   rw[qC]at hF
   refine bE ?_
   refine fZ ?_
   refine fO ?_
   cases hF
   exact Er (yV,Bz)
 obtain⟨R5,hx104,R6⟩:=fQ hd102
 rw[qC]at hF
 refine bE ?_
 refine fV ?_
 refine au ?_
 obtain⟨AZ,QE,R7⟩:=bind_some hF
 refine jW (fun f' cs'=>∃(c138:List Int)(v139:Sv)(Ed:List Nat)(g:Fr),c138=AZ/\f'=aX g [(7,v139.v),(8,p4.1.v),(9,(zi (mI:Int)))]/\aT cs' [d_ Ed v139 c138,dK p4.1 r2]) ?_ ?_
 · replace hF:=QE
   refine bN (bL (ax (gG (v:=(zi 0)) (.int _ _)) ?_))
   refine au ?_
   refine bN (dG (m:=(((x101.Values.length:Int)-0).toNat+2)) (fun su f' cs'=>∃(g:Fr)(vz:List Int)(sw:Int)(A7:Sv)(Ee:List Nat),f'=aX g [(7,A7.v),(8,p4.1.v),(9,(zi (mI:Int))),(10,(zi sw))]/\aT cs' [d_ Ee A7 vz,dK p4.1 r2]/\qB x101 su vz sw=some AZ) ⟨_,_,_,yV,Bz,aK,aJ,hF⟩ ?_)
   rintro su _ _ ⟨Ym,vz,sw,A7,Ee,rfl,hE,hF⟩
   refine bV hE ?_
   rcases su with _|su
   · rw[qB]at hF
     exact absurd hF (by simp)
   rw[qB]at hF
   refine aV ?_
   refine Ai hx104 (fun Yn Yo=>?_)
   refine au ?_
   refine De (R':=(bf 3 aF)) jL.h (.tmp rfl rfl) .h C_ (fun Yp=>?_)
   refine aU ?_
   refine Ci hF (fun R8 hF=>?_) (fun R8 hF=>?_)
   · refine bC ?_
     refine Ai hx104 (fun Yq Yr=>?_)
     refine au ?_
     refine De (R':=(bf 3 aF)) jL.h (.tmp rfl rfl) .h C_ (fun Yt=>?_)
     refine au ?_
     refine zI hF fun KH Xq R9 hF=>?_
     refine Ai R9 (fun Yu Yv=>?_)
     refine Al gJ ?_
     refine bnd hF fun KI R_ hF=>cu (Ou R_) (fun KJ=>?_)
     refine bE ?_
     exact⟨su,dM _,_,_,_,KJ.1,KJ.2,aK,aJ,hF⟩
   refine aM ?_
   cases hF
   exact⟨_,A7,Ee,_,rfl,aK,aJ⟩
 rintro _ _ ⟨c138,v139,Ed,Yw,rfl,rfl,hE⟩
 replace hF:=R7
 try dsimp only at hF
 refine bV hE ?_
 refine aV ?_
 rw[wk mI]
 exact⟨_,dM _,_,mI+1,nU,_,v139,Ed,rfl,aK,R6,aJ,hF⟩
def qM(bg:List Int):List Int->Nat->Option (Bool)
 |[],k4=>some true
 |x6::aW,k4=>(ix bg (k4:Int)).bind fun iG=>
   if ((x6:Int)!=iG)then (
     some false)
   else (
     qM bg aW (k4+1))
def zO(aC:List Int)(bg:List Int):Option (Bool):=
 if (((aC.length:Int):Int)!=(bg.length:Int))then (
   some false)
 else (
   qM bg aC 0)
theorem M7{aC:List Int}{ae:Sv}{bg:List Int}{aN:Sv}{R:Bool}(hF:zO aC bg=some R):
   Fw.Spec Tryz.prog 9 [ae.v,aN.v] [b_ ae aC,b_ aN bg] (fun _:Unit=>(.bool R)) (fun _=>[]):=by
 refine Se 26 Tryz.func9 [.tmp 4] ?_
 intro H0 F0
 unfold zO at hF
 refine lY ?_
 refine Ci hF (fun sj hF=>?_) (fun sj hF=>?_)
 · exact ze hF
 refine aV ?_
 refine bN (dG (m:=aC.length) (fun m2 f' cs'=>∃(g:Fr)(k4:Nat)(aW:List Int),m2=aW.length/\f'=aX g [(0,ae.v),(1,aN.v),(5,(zi (k4:Int)))]/\List.drop k4 aC=aW/\aT cs' [b_ ae aC,b_ aN bg]/\qM bg aW k4=some R) ⟨_,0,_,rfl,aK,rfl,aJ,hF⟩ ?_)
 rintro m2 _ _ ⟨g3,k4,aW,rfl,rfl,hd7,hE,hF⟩
 refine Kb hE aC (fun pX=>?_)
 rcases aW with _|⟨x6,aW⟩
 · have jk:=dn hd7
   rw[qM]at hF
   refine bE ?_
   refine fZ ?_
   exact ze hF
 obtain⟨jk,fC,jc⟩:=fQ hd7
 rw[qM]at hF
 refine bE ?_
 refine fV ?_
 refine aG ?_
 refine gH [0,1,2,3,4,5,6,7,8] [0,0,3,7,0,0,48,112,255] [] mixed (by decide+kernel) ?_
 refine dQ ?_
 refine Di fC (fun k13 tu=>?_)
 refine Dl gJ ?_
 refine dQ ?_
 refine zI hF fun iG x_ fw hF=>?_
 refine Di fw (fun k19 ET=>?_)
 refine Dl gJ ?_
 refine dQ ?_
 refine Ci hF (fun rW hF=>?_) (fun rW hF=>?_)
 · exact ze hF
 refine bC ?_
 rw[wk k4]
 exact⟨_,dM _,_,k4+1,aW,rfl,aK,jc,aJ,hF⟩
def tZ(fuel:Nat)(bv:List UInt8):Option ((List ak)):=
 (uL fuel bv).bind fun r1=>
 some r1.2
theorem FQ{fuel:Nat}{bv:List UInt8}{ae:Sv}{R:(List ak)}(hF:tZ fuel bv=some R):
   Fw.Spec Tryz.prog 34 [ae.v] [dU ae bv] (fun p:Sv×List Nat=>p.1.v) (fun p=>[jb p.2 p.1 R]):=by
 refine Se 11 Tryz.func34 [.tmp 2] ?_
 intro H0 F0
 unfold tZ at hF
 refine aV ?_
 refine bnd hF fun r1 hx2 hF=>kg (Ck hx2) (fun p3=>?_)
 refine au ?_
 refine zx ?_
 refine zx ?_
 refine g_ ?_
 cases hF
 exact Er (p3.2.2.1,p3.2.2.2)
def vX(fuel:Nat)(bv:List UInt8):Option ((List ak)):=
 (tZ fuel bv).bind fun r1=>
 some r1
theorem L_{fuel:Nat}{bv:List UInt8}{ae:Sv}{R:(List ak)}(hF:vX fuel bv=some R):
   Fw.Spec Tryz.prog 12 [ae.v] [dU ae bv] (fun p:Sv×List Nat=>p.1.v) (fun p=>[jb p.2 p.1 R]):=by
 refine Se 5 Tryz.func12 [.tmp 2] ?_
 intro H0 F0
 unfold vX at hF
 refine aV ?_
 refine bnd hF fun r1 hx2 hF=>cu (FQ hx2) (fun p3=>?_)
 refine aU ?_
 cases hF
 exact Er (p3.1,p3.2)
def ug(vR:List (List UInt8))(d9:List UInt8):Option (List UInt8):=
 if vR.length<4294967296/\(Lib.join vR d9).length<4294967296 then some (Lib.join vR d9)else none
theorem FZ{vR:List (List UInt8)}{ae:Sv}{d9 R:List UInt8}(hF:ug vR d9=some R):
   Fw.Spec Tryz.prog 36 [ae.v,sv d9] [oO ae vR] (fun _:Unit=>(sv R)) (fun _=>[]):=by
 unfold ug at hF
 split at hF
 · rename_i h
   cases hF
   exact OV jQ.h.sz (Go.Proofs.Any.strings_Join_none Jk extra) (Go.Proofs.Any.strings_Join Jk extra) h.1 h.2
 · simp at hF
def Cs(bZ:Int):Option (Bool):=
 (nR bZ 0 9).bind fun r1=>
 some r1
theorem Ny{bZ:Int}{R:Bool}(hF:Cs bZ=some R):
   Fw.Spec Tryz.prog 93 [(zi bZ)] [] (fun _:Unit=>(.bool R)) (fun _=>[]):=by
 refine Se 5 Tryz.func93 [.tmp 2] ?_
 intro H0 F0
 unfold Cs at hF
 refine aV ?_
 refine bnd hF fun r1 hx2 hF=>dF (zH hx2) (fun _=>?_)
 exact ze hF
def zB(bZ:Int):Option (Bool):=
 (Cs bZ).bind fun r1=>
 some (!r1)
theorem Mt{bZ:Int}{R:Bool}(hF:zB bZ=some R):
   Fw.Spec Tryz.prog 92 [(zi bZ)] [] (fun _:Unit=>(.bool R)) (fun _=>[]):=by
 refine Se 6 Tryz.func92 [.tmp 2] ?_
 intro H0 F0
 unfold zB at hF
 refine aV ?_
 refine bnd hF fun r1 hx2 hF=>dF (Ny hx2) (fun _=>?_)
 exact ze hF
def tV:List Int->Nat->Option (Int)
 |[],k4=>some (-1)
 |x6::aW,k4=>(zB x6).bind fun lD=>
   if lD then (
     some (k4:Int))
   else (
     tV aW (k4+1))
def zb(aa:List Int):Option (Int):=
 tV aa 0
theorem LG{aa:List Int}{ae:Sv}{R:Int}(hF:zb aa=some R):
   Fw.Spec Tryz.prog 119 [ae.v,(.func (.func 92) [].toArray [].toArray)] [b_ ae aa] (fun _:Unit=>(zi R)) (fun _=>[]):=by
 refine Se 19 Tryz.func119 [.tmp 4] ?_
 intro H0 F0
 unfold zb at hF
 refine fO ?_
 refine bN (dG (m:=aa.length) (fun m2 f' cs'=>∃(g:Fr)(k4:Nat)(aW:List Int),m2=aW.length/\f'=aX g [(0,ae.v),(1,(.func (.func 92) [].toArray [].toArray)),(7,(zi (aa.length:Int))),(8,(zi (k4:Int)))]/\List.drop k4 aa=aW/\aT cs' [b_ ae aa]/\tV aW k4=some R) ⟨_,0,_,rfl,aK,rfl,aJ,hF⟩ ?_)
 rintro m2 _ _ ⟨g3,k4,aW,rfl,rfl,hd7,hE,hF⟩
 refine Kb hE aa (fun pX=>?_)
 rcases aW with _|⟨x6,aW⟩
 · have jk:=dn hd7
   rw[tV]at hF
   refine aM ?_
   refine fZ ?_
   exact ze hF
 obtain⟨jk,fC,jc⟩:=fQ hd7
 rw[tV]at hF
 refine aM ?_
 refine fV ?_
 refine oD ?_
 refine Ai fC (fun k13 tu=>?_)
 refine Al gJ ?_
 refine bnd hF fun lD hx16 hF=>qc .nil (zV Ue.h (.tmp rfl rfl) bi (Mt hx16)) (fun _=>?_)
 refine au ?_
 refine Ci hF (fun U3 hF=>?_) (fun U3 hF=>?_)
 · exact ze hF
 refine aV ?_
 rw[wk k4]
 exact⟨_,dM _,_,k4+1,aW,rfl,aK,jc,aJ,hF⟩
def vT(aa:List Int):Option (Bool):=
 (zb aa).bind fun r1=>
 some (decide ((0:Int)<=r1))
theorem LD{aa:List Int}{ae:Sv}{R:Bool}(hF:vT aa=some R):
   Fw.Spec Tryz.prog 91 [ae.v,(.func (.func 92) [].toArray [].toArray)] [b_ ae aa] (fun _:Unit=>(.bool R)) (fun _=>[]):=by
 refine Se 9 Tryz.func91 [.tmp 4] ?_
 intro H0 F0
 unfold vT at hF
 refine bC ?_
 refine bnd hF fun r1 hx2 hF=>dF (LG hx2) (fun _=>?_)
 exact ze hF
def wF(aA:List Int):Option (Bool):=
 (vT aA).bind fun r1=>
 some (!r1)
theorem MX{aA:List Int}{ae:Sv}{R:Bool}(hF:wF aA=some R):
   Fw.Spec Tryz.prog 55 [ae.v] [b_ ae aA] (fun _:Unit=>(.bool R)) (fun _=>[]):=by
 refine Se 6 Tryz.func55 [.tmp 2] ?_
 intro H0 F0
 unfold wF at hF
 refine aV ?_
 refine bnd hF fun r1 hx2 hF=>dF (LD hx2) (fun _=>?_)
 exact ze hF
def vY(bZ:Int):Option (List UInt8):=
 if -9223372036854775808<=bZ/\bZ<=9223372036854775807 then some (Lib.itoa bZ)else none
theorem Md{bZ:Int}{R:List UInt8}(hF:vY bZ=some R):
   Fw.Spec Tryz.prog 94 [.int .i64 bZ] [] (fun _:Unit=>(sv R)) (fun _=>[]):=by
 unfold vY at hF
 split at hF
 · rename_i h
   cases hF
   exact OU fun w hv=>Go.Proofs.Any.strconv_Itoa Pw bZ h.1 h.2 w (jf.var (fun w0 (h:aO.V Tryz.prog w0)=>And.left h) hv.choose_spec)
 · simp at hF
def nN(bZ:Int):Option ((List UInt8)):=
 (vY bZ).bind fun r1=>
 some r1
theorem BS{bZ:Int}{R:(List UInt8)}(hF:nN bZ=some R):
   Fw.Spec Tryz.prog 56 [(zi bZ)] [] (fun _:Unit=>(sv R)) (fun _=>[]):=by
 refine Se 5 Tryz.func56 [.tmp 2] ?_
 intro H0 F0
 unfold nN at hF
 refine aV ?_
 refine bnd hF fun r1 hx2 hF=>dF (Md hx2) (fun _=>?_)
 exact ze hF
def pq(ic:List UInt8):List Int->Nat->(List (List UInt8))->Option ((List UInt8))
 |[],k8,c2=>(ug c2 ic).bind fun iW=>
   some iW
 |gW::dz,k8,c2=>(nN gW).bind fun fo=>
   (app c2 ([fo]:List (List UInt8))).bind fun z26=>
   pq ic dz (k8+1) z26
def wX(aA:List Int)(ic:List UInt8):Option ((List UInt8)):=
 pq ic aA 0 ([]:List (List UInt8))
theorem NQ{aA:List Int}{ae:Sv}{ic:List UInt8}{R:(List UInt8)}(hF:wX aA ic=some R):
   Fw.Spec Tryz.prog 57 [ae.v,(sv ic)] [b_ ae aA] (fun _:Unit=>(sv R)) (fun _=>[]):=by
 refine Se 24 Tryz.func57 [.tmp 4] ?_
 intro H0 F0
 unfold wX at hF
 refine aM ?_
 refine bD rfl (bz (g:=true) kE.h jQ.h .nil (vs:=[]) rfl rfl rfl (by simp)) (fun k1=>?_)
 refine bX (.cons .h .nil) (bB (Ro:=(ay rdStr)) (E:=9) (F:=[]) (xs:=([]:List (List UInt8))) bA rfl rfl) ?_
 refine g_ ?_
 refine bN (dG (m:=aA.length) (fun m6 f' cs'=>∃(g:Fr)(k8:Nat)(dz:List Int)(c2:List (List UInt8))(v3:Sv)(F4:List Nat),m6=dz.length/\f'=aX g [(1,(sv ic)),(5,v3.v),(9,ae.v),(10,(zi (aA.length:Int))),(11,(zi (k8:Int)))]/\List.drop k8 aA=dz/\aT cs' [vJ F4 v3 c2,b_ ae aA]/\pq ic dz k8 c2=some R) ⟨_,0,_,_,⟨(some ⟨k1,0,none⟩),0,1⟩,(k1::[]),rfl,aK,rfl,aJ,hF⟩ ?_)
 rintro m6 _ _ ⟨g7,k8,dz,c2,v3,F4,rfl,rfl,ib,hE,hF⟩
 refine Kb hE aA (fun AB=>?_)
 rcases dz with _|⟨gW,dz⟩
 · have oK:=dn ib
   rw[pq]at hF
   refine aM ?_
   refine fZ ?_
   refine bE ?_
   refine bnd hF fun iW fw hF=>aZ (.cons .h .nil) (dW bU (fun _=>.nil) (bG Kv.h bi (FZ fw))) (fun _=>?_)
   exact ze hF
 obtain⟨oK,h_,lw⟩:=fQ ib
 rw[pq]at hF
 refine aM ?_
 refine fV ?_
 refine aU ?_
 refine Ai h_ (fun k20 Bv=>?_)
 refine Al gJ ?_
 refine aV ?_
 refine bnd hF fun fo iQ hF=>dF (BS iQ) (fun _=>?_)
 refine bD rfl (bz (g:=true) kE.h jQ.h bi (vs:=[(sv fo)]) rfl rfl rfl (by intro v hv; simp at hv; rcases hv with rfl<;>rfl)) (fun k25=>?_)
 refine bX (.cons .h .nil) (bB (Ro:=(ay rdStr)) (E:=9) (F:=([]++[])) (xs:=([fo]:List (List UInt8))) (aY (bF (fun _=>rfl)) bA aR) rfl rfl) ?_
 refine bnd hF fun z26 hx27 hF=>aZ (.cons .q2 (.cons .h .nil)) (dH (Ro:=(ay rdStr)) kE.h AU jQ.h rfl rfl rfl (.tmp rfl rfl) (.tmp rfl rfl) hx27 dS) (fun p28=>?_)
 refine bC ?_
 rw[wk k8]
 exact⟨_,dM _,_,k8+1,dz,_,p28.1,p28.2,rfl,aK,lw,aJ,hF⟩
def uh(aC:ak):Option ((List UInt8)):=
 ((nR aC.Method 0 4).bind fun r4=>
   bif (!r4)then (some true)
   else (bif (decide ((3:Int)<(aC.Values.length:Int)))then (some true)
     else ((wF aC.Values).bind fun r9=>
       some (!r9)))).bind fun o2=>
 match o2 with
 |c12=>if c12 then (
     some [])
   else (
     (nN aC.Method).bind fun dx=>
     (bM [109] dx).bind fun jm=>
     (bM jm [40]).bind fun x20=>
     (wX aC.Values [44]).bind fun gV=>
     (bM x20 gV).bind fun x27=>
     (bM x27 [41]).bind fun x31=>
     some x31)
theorem F3{aC:ak}{eZ:Sv}{R:(List UInt8)}(hF:uh aC=some R):
   Fw.Spec Tryz.prog 35 [(zg [(zi aC.Method),eZ.v])] [b_ eZ aC.Values] (fun _:Unit=>(sv R)) (fun _=>[]):=by
 refine Se 29 Tryz.func35 [.tmp 2] ?_
 intro H0 F0
 unfold uh at hF
 refine au ?_
 refine j_ (fun k1=>?_)
 refine aU ?_
 obtain⟨o2,yu,hO3⟩:=bind_some hF
 refine au ?_
 refine fJ (fun f' cs'=>∃(c12:Bool)(g:Fr),c12=o2/\f'=aX g [(1,(pz k1)),(18,(.bool c12))]/\aT cs' [gu k1 34 (zg [(zi aC.Method),eZ.v]),b_ eZ aC.Values]) ?_ ?_
 · replace hF:=yu
   refine aG ?_
   refine bnd hF fun r4 hx5 hF=>dF (zH hx5) (fun _=>?_)
   refine aG ?_
   rcases dL (!r4)with jl|jl
   · rw[jl]
     try rw[jl]at hF; dsimp only[bu,bq]at hF
     exact dh hF
   rw[jl]
   try rw[jl]at hF; dsimp only[bu,bq]at hF
   refine oD ?_
   rcases dL (decide ((3:Int)<(aC.Values.length:Int)))with yX|yX
   · rw[yX]
     try rw[yX]at hF; dsimp only[bu,bq]at hF
     exact dh hF
   rw[yX]
   try rw[yX]at hF; dsimp only[bu,bq]at hF
   refine aV ?_
   refine bnd hF fun r9 jB hF=>dF (MX jB) (fun _=>?_)
   exact dh hF
 rintro _ _ ⟨c12,Lb,rfl,rfl,hE⟩
 replace hF:=hO3
 try dsimp only at hF
 refine bV hE ?_
 refine Ci hF (fun Ef hF=>?_) (fun Ef hF=>?_)
 · exact ze hF
 refine au ?_
 refine gH [0,1,5,6,2,3,4,7,8,9,10] [0,1,3,7,15,0,32,103,255,511,1023] [2,7] mixed (by decide+kernel) ?_
 refine xY ?_
 refine bnd hF fun dx jN hF=>qo (BS jN) (fun _=>?_)
 refine bnd hF fun jm iR hF=>?_
 obtain⟨KL,KM⟩:=fT iR
 refine bY rfl .no (fun ha=>f_ (s:=[109]) (t:=dx) (u:=jm) (EN ha (.sv _) rfl) (EN ha (.tmp rfl rfl) rfl) iR) ?_
 refine bnd hF fun x20 nE hF=>?_
 obtain⟨Yx,Yy⟩:=fT nE
 refine bY rfl .no (fun ha=>f_ (s:=jm) (t:=[40]) (u:=x20) (EN ha (.tmp rfl rfl) rfl) (EN ha (.sv _) rfl) nE) ?_
 refine bnd hF fun gV hx25 hF=>qo (NQ hx25) (fun _=>?_)
 refine bnd hF fun x27 hx28 hF=>?_
 obtain⟨U4,U5⟩:=fT hx28
 refine bY rfl .no (fun ha=>f_ (s:=x20) (t:=gV) (u:=x27) (EN ha (.tmp rfl rfl) rfl) (EN ha (.tmp rfl rfl) rfl) hx28) ?_
 refine bnd hF fun x31 hx32 hF=>?_
 obtain⟨U6,U7⟩:=fT hx32
 refine bY rfl .no (fun ha=>f_ (s:=x27) (t:=[41]) (u:=x31) (EN ha (.tmp rfl rfl) rfl) (EN ha (.sv _) rfl) hx32) ?_
 refine dQ ?_
 exact ze hF
def o7:List ak->Nat->(List (List UInt8))->Option ((List UInt8))
 |[],k8,c2=>(ug c2 [32]).bind fun iW=>
   some iW
 |gW::dz,k8,c2=>(uh gW).bind fun gV=>
   if (gV==[])then (
     some [])
   else (
     (app c2 ([gV]:List (List UInt8))).bind fun z28=>
     o7 dz (k8+1) z28)
def uu(cK:List ak):Option ((List UInt8)):=
 if (((cK.length:Int):Int)==0)then (
   some [110,111,110,101])
 else (
   o7 cK 0 ([]:List (List UInt8)))
theorem Gq{cK:List ak}{ae:Sv}{R:(List UInt8)}(hF:uu cK=some R):
   Fw.Spec Tryz.prog 13 [ae.v] [dK ae cK] (fun _:Unit=>(sv R)) (fun _=>[]):=by
 refine Se 28 Tryz.func13 [.tmp 2] ?_
 intro H0 F0
 unfold uu at hF
 refine fO ?_
 refine Ci hF (fun yh hF=>?_) (fun yh hF=>?_)
 · exact ze hF
 refine aG ?_
 refine bD rfl (bz (g:=true) kE.h jQ.h .nil (vs:=[]) rfl rfl rfl (by simp)) (fun k1=>?_)
 refine bX (.cons .h .nil) (bB (Ro:=(ay rdStr)) (E:=9) (F:=[]) (xs:=([]:List (List UInt8))) bA rfl rfl) ?_
 refine g_ ?_
 refine bN (dG (m:=cK.length) (fun m6 f' cs'=>∃(g:Fr)(k8:Nat)(dz:List ak)(c2:List (List UInt8))(v3:Sv)(F4:List Nat),m6=dz.length/\f'=aX g [(3,v3.v),(11,ae.v),(12,(zi (cK.length:Int))),(13,(zi (k8:Int)))]/\List.drop k8 cK=dz/\aT cs' [vJ F4 v3 c2,dK ae cK]/\o7 dz k8 c2=some R) ⟨_,0,_,_,⟨(some ⟨k1,0,none⟩),0,1⟩,(k1::[]),rfl,aK,rfl,aJ,hF⟩ ?_)
 rintro m6 _ _ ⟨g7,k8,dz,c2,v3,F4,rfl,rfl,ib,hE,hF⟩
 refine Kb hE cK (fun AB=>?_)
 rcases dz with _|⟨gW,dz⟩
 · have oK:=dn ib
   rw[o7]at hF
   refine aM ?_
   refine fZ ?_
   refine bC ?_
   refine bnd hF fun iW fw hF=>aZ (.cons .h .nil) (dW bU (fun _=>.nil) (bG Kv.h (.cons (.tmp rfl rfl) (.cons (.sv _) .nil)) (FZ fw))) (fun _=>?_)
   exact ze hF
 obtain⟨oK,h_,lw⟩:=fQ ib
 rw[o7]at hF
 refine aM ?_
 refine fV ?_
 refine aU ?_
 refine Ai h_ (fun k20 Bv=>?_)
 refine rQ (mQ gW) nP (fun nL=>?_)
 refine iC (fun k23=>?_)
 refine As (zg [(zi gW.Method),nL.v]) ?_
 refine aU ?_
 refine bnd hF fun gV hx25 hF=>dF (F3 hx25) (fun _=>?_)
 refine aV ?_
 refine ax (kZ (s:=gV) (t:=[]) (.tmp rfl rfl) (.sv _)) ?_
 refine au ?_
 refine Ci hF (fun kG hF=>?_) (fun kG hF=>?_)
 · exact ze hF
 refine aM ?_
 refine bD rfl (bz (g:=true) kE.h jQ.h bi (vs:=[(sv gV)]) rfl rfl rfl (by intro v hv; simp at hv; rcases hv with rfl<;>rfl)) (fun k27=>?_)
 refine bX (.cons .h .nil) (bB (Ro:=(ay rdStr)) (E:=9) (F:=([]++[])) (xs:=([gV]:List (List UInt8))) (aY (bF (fun _=>rfl)) bA aR) rfl rfl) ?_
 refine bnd hF fun z28 hx29 hF=>aZ (.cons .q4 (.cons .h .nil)) (dH (Ro:=(ay rdStr)) kE.h AU jQ.h rfl rfl rfl (.tmp rfl rfl) (.tmp rfl rfl) hx29 dS) (fun p30=>?_)
 refine bC ?_
 rw[wk k8]
 exact⟨_,dM _,_,k8+1,dz,_,p30.1,p30.2,rfl,aK,lw,aJ,hF⟩
end Go.Proofs.YtmmlepaliceaiaaGreatDoor
