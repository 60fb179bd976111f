/-
  Functions of the program as Lean functions, and that the calls return what these say: part 1. No conditions.
-/
import Derived.Test.YtgcphpodckldbaaGreatFc
import Derived.Shelf.Sort.Plain
import Derived.Shelf.Slices.In.SortNone
import Derived.Shelf.Slices.CompactI
import Derived.Test.YtgcphpodckldbaaGreatProg
import Derived.KernelRfl
set_option maxRecDepth 100000
set_option maxHeartbeats 1000000
set_option linter.unusedVariables false
namespace Go.Proofs.YtgcphpodckldbaaGreat
open Go Go.Fw

theorem kg{G:Prop}(h:G:=by (unfold FD; kernel_rfl)):G:=h
theorem nk{G:Prop}(h:G:=by (unfold AG; kernel_rfl)):G:=h
theorem yV{G:Prop}(h:G:=by (unfold SL; kernel_rfl)):G:=h
theorem nu{G:Prop}(h:G:=by (unfold TY; kernel_rfl)):G:=h
instance:dx Tryz.prog:=⟨fun _=>True⟩
instance cf4:bg Tryz.prog 4:=⟨Tryz.call4⟩
instance aCS:sP Tryz.prog 22 5:=⟨yV⟩
instance cf5:bg Tryz.prog 5:=⟨Tryz.call5⟩
structure Method where
 Rel:Int
 Inputs:List Int
 Limit:Int
 Cost:Int
 Quota:Int
structure Atom where
 Rel:Int
 Terms:List Int
structure aO where
 Head:List Int
 Atoms:List Atom
structure Fact where
 Rel:Int
 Values:List Int
instance gI:jr Tryz.prog 28 2 48 (.agg [(.slice none 0 0),(.slice none 0 0)].toArray):=⟨nu⟩
instance aCT:bg Tryz.prog 26:=⟨Tryz.call26⟩
structure aN where
 b:List UInt8
 i:Int
 h:Int
instance ty5:jr Tryz.prog 5 1 1 (.int .u8 0):=⟨nu⟩
theorem aiv{a:UInt8}:∀H e,xD H e a->e.cells.toList[0]?=some (.int .u8 (a.toNat:Int)):=by
 intro H e h
 subst h
 rfl
instance ag5:jq Tryz.prog 5 false:=⟨nk⟩
theorem ik5:IK Tryz.prog 5 .u8:=by unfold IK; kernel_rfl
theorem SA:IK Tryz.prog 3 .i64:=by unfold IK; kernel_rfl
instance atp:jr Tryz.prog 101 3 40 (.agg [(.slice none 0 0),(.int .i64 0),(.int .i64 0)].toArray):=⟨nu⟩
instance aCU:bg Tryz.prog 27:=⟨Tryz.call27⟩
instance aCV:bg Tryz.prog 68:=⟨Tryz.call68⟩
instance aAK:bg Tryz.prog 122:=⟨Tryz.call122⟩
instance bH:sP Tryz.prog 24 3:=⟨yV⟩
instance bC:jr Tryz.prog 3 1 8 (.int .i64 0):=⟨nu⟩
instance Bv:bg Tryz.prog 64:=⟨Tryz.call64⟩
instance aAL:bg Tryz.prog 119:=⟨Tryz.call119⟩
instance az5:jQ Tryz.prog 101 2 2:=⟨kg⟩
instance oI:jq Tryz.prog 3 false:=⟨nk⟩
theorem mixed:Tryz.prog.follows .mixedOrders=true:=by kernel_rfl
instance az6:jQ Tryz.prog 101 1 1:=⟨kg⟩
instance az7:jQ Tryz.prog 101 0 0:=⟨kg⟩
instance ajn:jq Tryz.prog 22 false:=⟨nk⟩
instance axt:bg Tryz.prog 69:=⟨Tryz.call69⟩
theorem gL:xu Tryz.prog 24:=.inr ⟨3,by kernel_rfl⟩
instance atq:bg Tryz.prog 123:=⟨Tryz.call123⟩
instance sD:sP Tryz.prog 25 92:=⟨yV⟩
instance kV:jr Tryz.prog 92 5 56 (.agg [(.int .i64 0),(.slice none 0 0),(.int .i64 0),(.int .i64 0),(.int .i64 0)].toArray):=⟨nu⟩
def lC(H:aF)(v:Value)(a:Method):Prop:=∃v0:Sv,v= .agg [(.int .i64 a.Rel),v0.v,(.int .i64 a.Limit),(.int .i64 a.Cost),(.int .i64 a.Quota)].toArray/\(aW 3 ax) H v0.v a.Inputs
instance:dZ lC:=⟨fun h hi=>by
 obtain⟨v0,h,h0⟩:=h
 exact⟨v0,h,dZ.up h0 hi⟩⟩
instance:Cells lC 5:=⟨fun h=>by
 obtain⟨v0,rfl,h0⟩:=h
 exact⟨rfl,rfl⟩⟩
def wu:gQ Method:=fun F H v a=>∃(v0:Sv)(F0:List Nat),v= .agg [(.int .i64 a.Rel),v0.v,(.int .i64 a.Limit),(.int .i64 a.Cost),(.int .i64 a.Quota)].toArray/\F0=F/\(az 3 (aj ax)) F0 H v0.v a.Inputs
instance:fH wu:=⟨fun h hi hg=>by
 obtain⟨v0,F0,rfl,rfl,h0⟩:=h
 exact⟨v0,F0,rfl,rfl,fH.keep h0 hi (fun k hk=>hg k (by simp[hk]))⟩⟩
instance:Local wu:=⟨fun h hg=>by
 obtain⟨v0,F0,rfl,rfl,h0⟩:=h
 exact⟨v0,F0,rfl,rfl,Local.keep h0 (fun k hk=>hg k (by simp[hk]))⟩⟩
instance:mP wu:=⟨fun h k hk=>by
 obtain⟨v0,F0,rfl,rfl,h0⟩:=h
 exact mP.owns h0 k hk
⟩
instance:m_ wu 5:=⟨fun h=>by
 obtain⟨v0,F0,rfl,rfl,h0⟩:=h
 exact⟨rfl,rfl⟩⟩
instance:lX wu lC:=⟨fun h hg=>by
 obtain⟨v0,F0,rfl,rfl,h0⟩:=h
 exact⟨v0,rfl,lX.frz h0 (fun k hk=>hg k (by simp[hk]))⟩⟩
instance aAM:bg Tryz.prog 182:=⟨Tryz.call182⟩
instance uf:bg Tryz.prog 129:=⟨Tryz.call129⟩
theorem dN{a:Int}:∀H e,ax H e a->e.cells.toList[0]?=some (.int .i64 a):=by
 intro H e h
 subst h
 rfl
instance arK:jQ Tryz.prog 92 0 0:=⟨kg⟩
instance ah5:jQ Tryz.prog 92 1 1:=⟨kg⟩
instance fT:jq Tryz.prog 24 false:=⟨nk⟩
instance fB:jr Tryz.prog 24 1 24 (.slice none 0 0):=⟨nu⟩
instance IG:jq Tryz.prog 92 true:=⟨nk⟩
theorem ajo{a:Method}{v0:Sv}{F0:List Nat}:Mk wu F0 (.agg [(.int .i64 a.Rel),v0.v,(.int .i64 a.Limit),(.int .i64 a.Cost),(.int .i64 a.Quota)].toArray) a [aJ (az 3 (aj ax)) F0 v0.v a.Inputs]:=
 ⟨fun H h=>⟨v0,F0,rfl,rfl,h (aJ (az 3 (aj ax)) F0 v0.v a.Inputs) (by simp)⟩,by simp[aJ]⟩
theorem QH:xu Tryz.prog 25:=.inr ⟨92,by kernel_rfl⟩
instance atr:bg Tryz.prog 124:=⟨Tryz.call124⟩
instance kM:jr Tryz.prog 66 2 32 (.agg [(.int .i64 0),(.slice none 0 0)].toArray):=⟨nu⟩
instance aAf:jQ Tryz.prog 66 0 0:=⟨kg⟩
instance arL:jQ Tryz.prog 66 1 1:=⟨kg⟩
instance aav:jQ Tryz.prog 28 1 1:=⟨kg⟩
instance Em:jq Tryz.prog 26 false:=⟨nk⟩
instance ajp:jq Tryz.prog 66 true:=⟨nk⟩
instance oC:sP Tryz.prog 26 66:=⟨yV⟩
def En(H:aF)(v:Value)(a:Atom):Prop:=∃v0:Sv,v= .agg [(.int .i64 a.Rel),v0.v].toArray/\(aW 3 ax) H v0.v a.Terms
instance:dZ En:=⟨fun h hi=>by
 obtain⟨v0,h,h0⟩:=h
 exact⟨v0,h,dZ.up h0 hi⟩⟩
instance:Cells En 2:=⟨fun h=>by
 obtain⟨v0,rfl,h0⟩:=h
 exact⟨rfl,rfl⟩⟩
def jO:gQ Atom:=fun F H v a=>∃(v0:Sv)(F0:List Nat),v= .agg [(.int .i64 a.Rel),v0.v].toArray/\F0=F/\(az 3 (aj ax)) F0 H v0.v a.Terms
instance:fH jO:=⟨fun h hi hg=>by
 obtain⟨v0,F0,rfl,rfl,h0⟩:=h
 exact⟨v0,F0,rfl,rfl,fH.keep h0 hi (fun k hk=>hg k (by simp[hk]))⟩⟩
instance:Local jO:=⟨fun h hg=>by
 obtain⟨v0,F0,rfl,rfl,h0⟩:=h
 exact⟨v0,F0,rfl,rfl,Local.keep h0 (fun k hk=>hg k (by simp[hk]))⟩⟩
instance:mP jO:=⟨fun h k hk=>by
 obtain⟨v0,F0,rfl,rfl,h0⟩:=h
 exact mP.owns h0 k hk
⟩
instance:m_ jO 2:=⟨fun h=>by
 obtain⟨v0,F0,rfl,rfl,h0⟩:=h
 exact⟨rfl,rfl⟩⟩
instance:lX jO En:=⟨fun h hg=>by
 obtain⟨v0,F0,rfl,rfl,h0⟩:=h
 exact⟨v0,rfl,lX.frz h0 (fun k hk=>hg k (by simp[hk]))⟩⟩
theorem Bw{a:Atom}{v0:Sv}{F0:List Nat}:Mk jO F0 (.agg [(.int .i64 a.Rel),v0.v].toArray) a [aJ (az 3 (aj ax)) F0 v0.v a.Terms]:=
 ⟨fun H h=>⟨v0,F0,rfl,rfl,h (aJ (az 3 (aj ax)) F0 v0.v a.Terms) (by simp)⟩,by simp[aJ]⟩
theorem Mh:xu Tryz.prog 26:=.inr ⟨66,by kernel_rfl⟩
instance We:jr Tryz.prog 26 1 24 (.slice none 0 0):=⟨nu⟩
instance jo:jq Tryz.prog 28 true:=⟨nk⟩
instance axu:bg Tryz.prog 59:=⟨Tryz.call59⟩
theorem uS{a:Atom}:∀H e,En H e a-> ∃w:Sv,e.cells.toList[1]?=some w.v/\(aW 3 ax) H w.v a.Terms:=by
 intro H e h
 obtain⟨v0,rfl,h0⟩:=h
 exact⟨v0,rfl,h0⟩
instance aAN:bg Tryz.prog 113:=⟨Tryz.call113⟩
instance aCW:bg Tryz.prog 61:=⟨Tryz.call61⟩
instance aAO:bg Tryz.prog 111:=⟨Tryz.call111⟩
instance Wh:bg Tryz.prog 60:=⟨Tryz.call60⟩
theorem Qa{a:Int}:∀F H e,(aj ax) F H e a->e.cells.toList[0]?=some (.int .i64 a):=by
 intro F H e h
 obtain⟨-,h⟩:=h
 subst h
 rfl
instance aAg:jQ Tryz.prog 28 0 0:=⟨kg⟩
instance att:bg Tryz.prog 125:=⟨Tryz.call125⟩
instance axv:bg Tryz.prog 42:=⟨Tryz.call42⟩
instance aAh:jQ Tryz.prog 92 2 2:=⟨kg⟩
instance aAi:jQ Tryz.prog 92 4 4:=⟨kg⟩
instance aAj:jQ Tryz.prog 92 3 3:=⟨kg⟩
instance atu:bg Tryz.prog 126:=⟨Tryz.call126⟩
theorem ajq{a:Atom}:Un jO a (fun p:Sv×List Nat=>.agg [(.int .i64 a.Rel),p.1.v].toArray) (fun p=>[aJ (az 3 (aj ax)) p.2 p.1.v a.Terms]):=⟨fun F H e h=>by
 obtain⟨v0,F0,rfl,rfl,h0⟩:=h
 refine⟨(v0,F0),rfl,fun c hc=>?_,by simp[foot,aJ]⟩
 simp only[List.mem_cons,List.not_mem_nil,or_false]at hc
 rcases hc with rfl
 · exact h0⟩
theorem ah6{a:Atom}{d:Int}:∀F H e,jO F H e a->jO F H (r_ e 0 (Value.cells (.int .i64 d)).toList) {a with Rel:=d}:=by
 intro F H e h
 obtain⟨v0,F0,rfl,rfl,h0⟩:=h
 exact⟨v0,F0,rfl,rfl,h0⟩
theorem ahy{a:Atom}:∀F H e,jO F H e a->0+1<=e.cells.size:=by
 intro F H e h
 obtain⟨v0,F0,rfl,rfl,h0⟩:=h
 exact Nat.le_of_ble_eq_true rfl
instance aAP:bg Tryz.prog 127:=⟨Tryz.call127⟩
instance aCX:bg Tryz.prog 70:=⟨Tryz.call70⟩
def qZ(a:Atom)(p:Sv):List Value:=[(.int .i64 a.Rel),p.v]
theorem rZ{a:Atom}:∀H e,En H e a-> ∃i:Sv,0+2<=e.cells.size/\(e.cells.toList.drop 0).take 2=qZ a i/\ ∀c∈([bT (aW 3 ax) i.v a.Terms]:List aH),c.P H/\c.F=[]:=by
 intro H e h
 obtain⟨v0,rfl,h0⟩:=h
 refine⟨v0,Nat.le_of_ble_eq_true rfl,rfl,fun c hc=>by
   simp only[List.mem_cons,List.not_mem_nil,or_false]at hc
   rcases hc with rfl
   · exact⟨h0,rfl⟩
⟩
instance ajr:bg Tryz.prog 37:=⟨Tryz.call37⟩
instance axw:bg Tryz.prog 28:=⟨Tryz.call28⟩
instance fU:sP Tryz.prog 29 71:=⟨yV⟩
instance eG:jr Tryz.prog 71 2 32 (.agg [(.int .i64 0),(.slice none 0 0)].toArray):=⟨nu⟩
def lV(H:aF)(v:Value)(a:Fact):Prop:=∃v0:Sv,v= .agg [(.int .i64 a.Rel),v0.v].toArray/\(aW 3 ax) H v0.v a.Values
instance:dZ lV:=⟨fun h hi=>by
 obtain⟨v0,h,h0⟩:=h
 exact⟨v0,h,dZ.up h0 hi⟩⟩
instance:Cells lV 2:=⟨fun h=>by
 obtain⟨v0,rfl,h0⟩:=h
 exact⟨rfl,rfl⟩⟩
def gD:gQ Fact:=fun F H v a=>∃(v0:Sv)(F0:List Nat),v= .agg [(.int .i64 a.Rel),v0.v].toArray/\F0=F/\(az 3 (aj ax)) F0 H v0.v a.Values
instance:fH gD:=⟨fun h hi hg=>by
 obtain⟨v0,F0,rfl,rfl,h0⟩:=h
 exact⟨v0,F0,rfl,rfl,fH.keep h0 hi (fun k hk=>hg k (by simp[hk]))⟩⟩
instance:Local gD:=⟨fun h hg=>by
 obtain⟨v0,F0,rfl,rfl,h0⟩:=h
 exact⟨v0,F0,rfl,rfl,Local.keep h0 (fun k hk=>hg k (by simp[hk]))⟩⟩
instance:mP gD:=⟨fun h k hk=>by
 obtain⟨v0,F0,rfl,rfl,h0⟩:=h
 exact mP.owns h0 k hk
⟩
instance:m_ gD 2:=⟨fun h=>by
 obtain⟨v0,F0,rfl,rfl,h0⟩:=h
 exact⟨rfl,rfl⟩⟩
instance:lX gD lV:=⟨fun h hg=>by
 obtain⟨v0,F0,rfl,rfl,h0⟩:=h
 exact⟨v0,rfl,lX.frz h0 (fun k hk=>hg k (by simp[hk]))⟩⟩
instance aCY:bg Tryz.prog 71:=⟨Tryz.call71⟩
instance aAQ:bg Tryz.prog 128:=⟨Tryz.call128⟩
instance arM:jQ Tryz.prog 71 0 0:=⟨kg⟩
instance aaw:jQ Tryz.prog 71 1 1:=⟨kg⟩
instance Bz:jq Tryz.prog 71 true:=⟨nk⟩
instance aaJ:bg Tryz.prog 108:=⟨Tryz.call108⟩
instance aAR:bg Tryz.prog 173:=⟨Tryz.call173⟩
def mZ(a:Fact)(p:Sv):List Value:=[(.int .i64 a.Rel),p.v]
theorem nI{a:Fact}:∀H e,lV H e a-> ∃i:Sv,0+2<=e.cells.size/\(e.cells.toList.drop 0).take 2=mZ a i/\ ∀c∈([bT (aW 3 ax) i.v a.Values]:List aH),c.P H/\c.F=[]:=by
 intro H e h
 obtain⟨v0,rfl,h0⟩:=h
 refine⟨v0,Nat.le_of_ble_eq_true rfl,rfl,fun c hc=>by
   simp only[List.mem_cons,List.not_mem_nil,or_false]at hc
   rcases hc with rfl
   · exact⟨h0,rfl⟩
⟩
instance aCZ:bg Tryz.prog 41:=⟨Tryz.call41⟩
instance aAS:bg Tryz.prog 120:=⟨Tryz.call120⟩
theorem xE{a:Fact}{v0:Sv}{F0:List Nat}:Mk gD F0 (.agg [(.int .i64 a.Rel),v0.v].toArray) a [aJ (az 3 (aj ax)) F0 v0.v a.Values]:=
 ⟨fun H h=>⟨v0,F0,rfl,rfl,h (aJ (az 3 (aj ax)) F0 v0.v a.Values) (by simp)⟩,by simp[aJ]⟩
theorem xG:xu Tryz.prog 29:=.inr ⟨71,by kernel_rfl⟩
theorem PU{a:Fact}:∀H e,lV H e a->e.cells.toList[0]?=some (.int .i64 a.Rel):=by
 intro H e h
 obtain⟨_,rfl,_⟩:=h
 rfl
theorem LK{a:Fact}:∀H e,lV H e a-> ∃w:Sv,e.cells.toList[1]?=some w.v/\(aW 3 ax) H w.v a.Values:=by
 intro H e h
 obtain⟨v0,rfl,h0⟩:=h
 exact⟨v0,rfl,h0⟩
instance aC0:bg Tryz.prog 72:=⟨Tryz.call72⟩
instance cf6:bg Tryz.prog 6:=⟨Tryz.call6⟩
instance cf7:bg Tryz.prog 7:=⟨Tryz.call7⟩
instance cf8:bg Tryz.prog 8:=⟨Tryz.call8⟩
instance aC1:bg Tryz.prog 33:=⟨Tryz.call33⟩
instance aC2:bg Tryz.prog 48:=⟨Tryz.call48⟩
instance aC3:bg Tryz.prog 75:=⟨Tryz.call75⟩
instance aAT:bg Tryz.prog 135:=⟨Tryz.call135⟩
instance aAU:bg Tryz.prog 136:=⟨Tryz.call136⟩
instance aAV:bg Tryz.prog 185:=⟨Tryz.call185⟩
instance atv:bg Tryz.prog 137:=⟨Tryz.call137⟩
instance aAW:bg Tryz.prog 100:=⟨Tryz.call100⟩
instance atw:bg Tryz.prog 168:=⟨Tryz.call168⟩
def yF(a:Method)(p:Sv):List Value:=[(.int .i64 a.Rel),p.v,(.int .i64 a.Limit),(.int .i64 a.Cost),(.int .i64 a.Quota)]
theorem zZ{a:Method}:∀H e,lC H e a-> ∃i:Sv,0+5<=e.cells.size/\(e.cells.toList.drop 0).take 5=yF a i/\ ∀c∈([bT (aW 3 ax) i.v a.Inputs]:List aH),c.P H/\c.F=[]:=by
 intro H e h
 obtain⟨v0,rfl,h0⟩:=h
 refine⟨v0,Nat.le_of_ble_eq_true rfl,rfl,fun c hc=>by
   simp only[List.mem_cons,List.not_mem_nil,or_false]at hc
   rcases hc with rfl
   · exact⟨h0,rfl⟩
⟩
instance atx:bg Tryz.prog 101:=⟨Tryz.call101⟩
instance aAX:bg Tryz.prog 102:=⟨Tryz.call102⟩
instance aAY:bg Tryz.prog 130:=⟨Tryz.call130⟩
instance aAZ:bg Tryz.prog 169:=⟨Tryz.call169⟩
instance aA0:bg Tryz.prog 208:=⟨Tryz.call208⟩
instance aty:bg Tryz.prog 209:=⟨Tryz.call209⟩
instance aA1:bg Tryz.prog 210:=⟨Tryz.call210⟩
instance axx:bg Tryz.prog 80:=⟨Tryz.call80⟩
instance aA2:bg Tryz.prog 141:=⟨Tryz.call141⟩
instance aA3:bg Tryz.prog 189:=⟨Tryz.call189⟩
instance atz:bg Tryz.prog 142:=⟨Tryz.call142⟩
instance aA4:bg Tryz.prog 143:=⟨Tryz.call143⟩
instance aA5:bg Tryz.prog 190:=⟨Tryz.call190⟩
instance atB:bg Tryz.prog 215:=⟨Tryz.call215⟩
instance aA6:bg Tryz.prog 216:=⟨Tryz.call216⟩
instance axy:bg Tryz.prog 99:=⟨Tryz.call99⟩
instance atC:bg Tryz.prog 171:=⟨Tryz.call171⟩
instance aA7:bg Tryz.prog 144:=⟨Tryz.call144⟩
instance aA8:bg Tryz.prog 153:=⟨Tryz.call153⟩
instance aC4:bg Tryz.prog 98:=⟨Tryz.call98⟩
instance aA9:bg Tryz.prog 166:=⟨Tryz.call166⟩
def aoX:Go.Shelf.Ren:=⟨fun|189=>166|125=>207|257=>206|128=>234|129=>235|294=>225|295=>226|296=>227|297=>228|298=>229|299=>230|216=>231|300=>232|301=>233|328=>242|329=>243|330=>244|331=>245|332=>246|215=>184|343=>249|n=>n,fun|28=>24|3=>3|46=>184|0=>0|51=>218|53=>220|4=>4|183=>210|182=>209|131=>215|5=>5|9=>9|218=>223|222=>227|228=>231|229=>232|n=>n,fun|n=>n⟩
theorem ahz:Go.Proofs.Lays.n189 Tryz.prog aoX:={
 mixed:=by kernel_rfl
 f125:=Tryz.func207.trans (congrArg some (by kernel_rfl))
 f128:=Tryz.func234.trans (congrArg some (by kernel_rfl))
 f129:=Tryz.func235.trans (congrArg some (by kernel_rfl))
 f189:=Tryz.func166.trans (congrArg some (by kernel_rfl))
 f215:=Tryz.func184.trans (congrArg some (by kernel_rfl))
 f216:=Tryz.func231.trans (congrArg some (by kernel_rfl))
 f257:=Tryz.func206.trans (congrArg some (by kernel_rfl))
 f294:=Tryz.func225.trans (congrArg some (by kernel_rfl))
 f295:=Tryz.func226.trans (congrArg some (by kernel_rfl))
 f296:=Tryz.func227.trans (congrArg some (by kernel_rfl))
 f297:=Tryz.func228.trans (congrArg some (by kernel_rfl))
 f298:=Tryz.func229.trans (congrArg some (by kernel_rfl))
 f299:=Tryz.func230.trans (congrArg some (by kernel_rfl))
 f300:=Tryz.func232.trans (congrArg some (by kernel_rfl))
 f301:=Tryz.func233.trans (congrArg some (by kernel_rfl))
 f328:=Tryz.func242.trans (congrArg some (by kernel_rfl))
 f329:=Tryz.func243.trans (congrArg some (by kernel_rfl))
 f330:=Tryz.func244.trans (congrArg some (by kernel_rfl))
 f331:=Tryz.func245.trans (congrArg some (by kernel_rfl))
 f332:=Tryz.func246.trans (congrArg some (by kernel_rfl))
 f343:=Tryz.func249.trans (congrArg some (by kernel_rfl))
 t0:=Tryz.underlying0
 a0:=Tryz.isAgg0
 z0:=Tryz.sizeOf0
 v0:=Tryz.zeroValue0
 t3:=Tryz.underlying3
 a3:=Tryz.isAgg3
 z3:=Tryz.sizeOf3
 v3:=Tryz.zeroValue3
 t4:=Tryz.underlying4
 a4:=Tryz.isAgg4
 z4:=Tryz.sizeOf4
 v4:=Tryz.zeroValue4
 t5:=Tryz.underlying5
 a5:=Tryz.isAgg5
 z5:=Tryz.sizeOf5
 v5:=Tryz.zeroValue5
 t9:=Tryz.underlying9
 a9:=Tryz.isAgg9
 z9:=Tryz.sizeOf9
 v9:=Tryz.zeroValue9
 t28:=Tryz.underlying24
 a28:=Tryz.isAgg24
 z28:=Tryz.sizeOf24
 v28:=Tryz.zeroValue24
 t46:=Tryz.underlying184
 a46:=Tryz.isAgg184
 z46:=Tryz.sizeOf184
 v46:=Tryz.zeroValue184
 t51:=Tryz.underlying218
 a51:=Tryz.isAgg218
 z51:=Tryz.sizeOf218
 v51:=Tryz.zeroValue218
 t53:=Tryz.underlying220
 a53:=Tryz.isAgg220
 z53:=Tryz.sizeOf220
 v53:=Tryz.zeroValue220
 t131:=Tryz.underlying215
 a131:=Tryz.isAgg215
 z131:=Tryz.sizeOf215
 v131:=Tryz.zeroValue215
 t182:=Tryz.underlying209
 a182:=Tryz.isAgg209
 z182:=Tryz.sizeOf209
 v182:=Tryz.zeroValue209
 t183:=Tryz.underlying210
 a183:=Tryz.isAgg210
 z183:=Tryz.sizeOf210
 v183:=Tryz.zeroValue210
 t218:=Tryz.underlying223
 a218:=Tryz.isAgg223
 z218:=Tryz.sizeOf223
 v218:=Tryz.zeroValue223
 t222:=Tryz.underlying227
 a222:=Tryz.isAgg227
 z222:=Tryz.sizeOf227
 v222:=Tryz.zeroValue227
 t228:=Tryz.underlying231
 a228:=Tryz.isAgg231
 z228:=Tryz.sizeOf231
 v228:=Tryz.zeroValue231
 t229:=Tryz.underlying232
 a229:=Tryz.isAgg232
 z229:=Tryz.sizeOf232
 v229:=Tryz.zeroValue232}
instance aA_:bg Tryz.prog 167:=⟨Tryz.call167⟩
def aoq:Go.Shelf.Ren:=⟨fun|20=>167|n=>n,fun|22=>24|3=>3|4=>4|0=>0|n=>n,fun|n=>n⟩
theorem agS:Go.Proofs.Lays2.n20 Tryz.prog aoq:={
 mixed:=by kernel_rfl
 f20:=Tryz.func167.trans (congrArg some (by kernel_rfl))
 t0:=Tryz.underlying0
 a0:=Tryz.isAgg0
 z0:=Tryz.sizeOf0
 v0:=Tryz.zeroValue0
 t3:=Tryz.underlying3
 a3:=Tryz.isAgg3
 z3:=Tryz.sizeOf3
 v3:=Tryz.zeroValue3
 t4:=Tryz.underlying4
 a4:=Tryz.isAgg4
 z4:=Tryz.sizeOf4
 v4:=Tryz.zeroValue4
 t22:=Tryz.underlying24
 a22:=Tryz.isAgg24
 z22:=Tryz.sizeOf24
 v22:=Tryz.zeroValue24
 i3:=by kernel_rfl}
instance atD:bg Tryz.prog 191:=⟨Tryz.call191⟩
instance aA':bg Tryz.prog 154:=⟨Tryz.call154⟩
instance aBa:bg Tryz.prog 201:=⟨Tryz.call201⟩
instance aC5:bg Tryz.prog 30:=⟨Tryz.call30⟩
instance aC6:bg Tryz.prog 77:=⟨Tryz.call77⟩
instance aBb:bg Tryz.prog 140:=⟨Tryz.call140⟩
theorem aq3{a:Method}{d:Int}:∀F H e,(aj lC) F H e a->(aj lC) F H (r_ e 0 (Value.cells (.int .i64 d)).toList) {a with Rel:=d}:=by
 intro F H e h
 obtain⟨rfl,v0,rfl,h0⟩:=h
 exact⟨rfl,v0,rfl,h0⟩
theorem aqA{a:Method}:∀F H e,(aj lC) F H e a->0+1<=e.cells.size:=by
 intro F H e h
 obtain⟨rfl,v0,rfl,h0⟩:=h
 exact Nat.le_of_ble_eq_true rfl
instance ajs:bg Tryz.prog 76:=⟨Tryz.call76⟩
structure Step where
 Atom:Int
 Method:Int
instance aBc:bg Tryz.prog 138:=⟨Tryz.call138⟩
instance aC7:jr Tryz.prog 25 1 24 (.slice none 0 0):=⟨nu⟩
instance aBd:jr Tryz.prog 155 1 8 .nilFunc:=⟨nu⟩
instance Eo:sP Tryz.prog 60 64:=⟨yV⟩
instance uW:jr Tryz.prog 64 2 16 (.agg [(.int .i64 0),(.int .i64 0)].toArray):=⟨nu⟩
def ww(_:aF)(v:Value)(a:Step):Prop:=v= .agg [(.int .i64 a.Atom),(.int .i64 a.Method)].toArray
instance:Pure ww:=⟨fun h=>h⟩
instance:Cells ww 2:=⟨fun h=>by
 subst h
 exact⟨rfl,rfl⟩⟩
instance aaK:sP Tryz.prog 106 4:=⟨yV⟩
instance XG:jr Tryz.prog 4 1 1 (.bool false):=⟨nu⟩
instance aBe:jr Tryz.prog 106 1 24 (.slice none 0 0):=⟨nu⟩
instance aiw:bg Tryz.prog 186:=⟨Tryz.call186⟩
instance ajt:jq Tryz.prog 64 true:=⟨nk⟩
instance aC8:jq Tryz.prog 25 false:=⟨nk⟩
instance atE:bg Tryz.prog 187:=⟨Tryz.call187⟩
instance aBf:bg Tryz.prog 188:=⟨Tryz.call188⟩
instance atF:bg Tryz.prog 214:=⟨Tryz.call214⟩
instance aBg:jq Tryz.prog 155 false:=⟨nk⟩
instance atG:bg Tryz.prog 139:=⟨Tryz.call139⟩
instance atH:jq Tryz.prog 106 false:=⟨nk⟩
theorem atI{a:Bool}:∀H e,rdBool H e a->e.cells.toList[0]?=some (.bool a):=by
 intro H e h
 subst h
 rfl
instance ag4:jq Tryz.prog 4 false:=⟨nk⟩
instance aAk:jQ Tryz.prog 64 0 0:=⟨kg⟩
theorem aju:xu Tryz.prog 60:=.inr ⟨64,by kernel_rfl⟩
instance aC9:bg Tryz.prog 78:=⟨Tryz.call78⟩
theorem atJ{a:Bool}:∀F H e,(aj rdBool) F H e a->e.cells.toList[0]?=some (.bool a):=by
 intro F H e h
 obtain⟨-,h⟩:=h
 subst h
 rfl
instance axz:bg Tryz.prog 79:=⟨Tryz.call79⟩
instance axA:bg Tryz.prog 32:=⟨Tryz.call32⟩
structure aM where
 Vars:List Int
 Values:List Int
instance d_:jr Tryz.prog 85 2 48 (.agg [(.slice none 0 0),(.slice none 0 0)].toArray):=⟨nu⟩
instance abx:bg Tryz.prog 47:=⟨Tryz.call47⟩
instance gJ:sP Tryz.prog 32 24:=⟨yV⟩
instance ajv:bg Tryz.prog 85:=⟨Tryz.call85⟩
instance aBh:bg Tryz.prog 156:=⟨Tryz.call156⟩
theorem rC{a:List Int}:∀H e,(aW 3 ax) H e a-> ∃w:Sv,e.cells.toList[0]?=some w.v/\(aW 3 ax) H w.v a:=by
 intro H e h
 obtain⟨a0,m,rfl⟩:=aW.len h
 exact⟨⟨a0,_,m⟩,rfl,h⟩
instance ajw:bg Tryz.prog 84:=⟨Tryz.call84⟩
instance jN:jq Tryz.prog 85 true:=⟨nk⟩
instance aAl:jQ Tryz.prog 85 0 0:=⟨kg⟩
instance aAm:jQ Tryz.prog 85 1 1:=⟨kg⟩
instance atK:bg Tryz.prog 155:=⟨Tryz.call155⟩
instance VK:bg Tryz.prog 106:=⟨Tryz.call106⟩
instance atL:bg Tryz.prog 172:=⟨Tryz.call172⟩
instance atM:bg Tryz.prog 147:=⟨Tryz.call147⟩
instance atN:bg Tryz.prog 194:=⟨Tryz.call194⟩
instance aBi:bg Tryz.prog 218:=⟨Tryz.call218⟩
instance aix:bg Tryz.prog 195:=⟨Tryz.call195⟩
instance atO:bg Tryz.prog 219:=⟨Tryz.call219⟩
instance aC_:bg Tryz.prog 74:=⟨Tryz.call74⟩
instance aBj:bg Tryz.prog 133:=⟨Tryz.call133⟩
instance aBk:bg Tryz.prog 184:=⟨Tryz.call184⟩
instance aBl:bg Tryz.prog 134:=⟨Tryz.call134⟩
instance atP:bg Tryz.prog 132:=⟨Tryz.call132⟩
instance atQ:bg Tryz.prog 196:=⟨Tryz.call196⟩
instance aBm:bg Tryz.prog 198:=⟨Tryz.call198⟩
instance aBn:bg Tryz.prog 197:=⟨Tryz.call197⟩
theorem arN:∀args w,(callFunc 220 args).run Tryz.prog w=((Extern.SlicesOverlaps.overlaps #[29,29] #[4] args).run Tryz.prog w).andThen fun v w'=>.ok (.value v) w':=fun args w=>run_callFunc_extern Tryz.func220 (by kernel_rfl) (by kernel_rfl) (by kernel_rfl) (e:=Extern.SlicesOverlaps.overlaps #[29,29] #[4]) (by kernel_rfl) args w
instance ajx:bg Tryz.prog 52:=⟨Tryz.call52⟩
instance axB:bg Tryz.prog 86:=⟨Tryz.call86⟩
instance aC':bg Tryz.prog 95:=⟨Tryz.call95⟩
instance rJ:sP Tryz.prog 75 85:=⟨yV⟩
def Ep(H:aF)(v:Value)(a:aM):Prop:=∃v0 v1:Sv,v= .agg [v0.v,v1.v].toArray/\(aW 3 ax) H v0.v a.Vars/\(aW 3 ax) H v1.v a.Values
instance:dZ Ep:=⟨fun h hi=>by
 obtain⟨v0,v1,h,h0,h1⟩:=h
 exact⟨v0,v1,h,dZ.up h0 hi,dZ.up h1 hi⟩⟩
instance:Cells Ep 2:=⟨fun h=>by
 obtain⟨v0,v1,rfl,h0,h1⟩:=h
 exact⟨rfl,rfl⟩⟩
def pE:gQ aM:=fun F H v a=>∃(v0 v1:Sv)(F0 F1:List Nat),v= .agg [v0.v,v1.v].toArray/\F=(F0++F1)/\(az 3 (aj ax)) F0 H v0.v a.Vars/\(az 3 (aj ax)) F1 H v1.v a.Values
instance:fH pE:=⟨fun h hi hg=>by
 obtain⟨v0,v1,F0,F1,rfl,rfl,h0,h1⟩:=h
 exact⟨v0,v1,F0,F1,rfl,rfl,fH.keep h0 hi (fun k hk=>hg k (by simp[hk])),fH.keep h1 hi (fun k hk=>hg k (by simp[hk]))⟩⟩
instance:Local pE:=⟨fun h hg=>by
 obtain⟨v0,v1,F0,F1,rfl,rfl,h0,h1⟩:=h
 exact⟨v0,v1,F0,F1,rfl,rfl,Local.keep h0 (fun k hk=>hg k (by simp[hk])),Local.keep h1 (fun k hk=>hg k (by simp[hk]))⟩⟩
instance:mP pE:=⟨fun h k hk=>by
 obtain⟨v0,v1,F0,F1,rfl,rfl,h0,h1⟩:=h
 simp only[List.mem_append]at hk
 rcases hk with hk|hk
 · exact mP.owns h0 k hk
 · exact mP.owns h1 k hk
⟩
instance:m_ pE 2:=⟨fun h=>by
 obtain⟨v0,v1,F0,F1,rfl,rfl,h0,h1⟩:=h
 exact⟨rfl,rfl⟩⟩
instance:lX pE Ep:=⟨fun h hg=>by
 obtain⟨v0,v1,F0,F1,rfl,rfl,h0,h1⟩:=h
 exact⟨v0,v1,rfl,lX.frz h0 (fun k hk=>hg k (by simp[hk])),lX.frz h1 (fun k hk=>hg k (by simp[hk]))⟩⟩
theorem QI{a:aM}{v0 v1:Sv}{F0 F1:List Nat}:Mk pE (F0++F1) (.agg [v0.v,v1.v].toArray) a [aJ (az 3 (aj ax)) F0 v0.v a.Vars,aJ (az 3 (aj ax)) F1 v1.v a.Values]:=
 ⟨fun H h=>⟨v0,v1,F0,F1,rfl,rfl,h (aJ (az 3 (aj ax)) F0 v0.v a.Vars) (by simp),h (aJ (az 3 (aj ax)) F1 v1.v a.Values) (by simp)⟩,by simp[aJ]⟩
instance aaL:bg Tryz.prog 148:=⟨Tryz.call148⟩
def z_(a:aM)(p:Sv×Sv):List Value:=[p.1.v,p.2.v]
theorem DX{a:aM}:∀H e,Ep H e a-> ∃i:Sv×Sv,0+2<=e.cells.size/\(e.cells.toList.drop 0).take 2=z_ a i/\ ∀c∈([bT (aW 3 ax) i.1.v a.Vars,bT (aW 3 ax) i.2.v a.Values]:List aH),c.P H/\c.F=[]:=by
 intro H e h
 obtain⟨v0,v1,rfl,h0,h1⟩:=h
 refine⟨(v0,v1),Nat.le_of_ble_eq_true rfl,rfl,fun c hc=>by
   simp only[List.mem_cons,List.not_mem_nil,or_false]at hc
   rcases hc with rfl|rfl
   · exact⟨h0,rfl⟩
   · exact⟨h1,rfl⟩
⟩
instance aBo:bg Tryz.prog 199:=⟨Tryz.call199⟩
instance aBp:bg Tryz.prog 222:=⟨Tryz.call222⟩
theorem Wi:xu Tryz.prog 75:=.inr ⟨85,by kernel_rfl⟩
instance atS:bg Tryz.prog 115:=⟨Tryz.call115⟩
instance aDa:bg Tryz.prog 29:=⟨Tryz.call29⟩
instance aDb:bg Tryz.prog 73:=⟨Tryz.call73⟩
instance aBq:bg Tryz.prog 131:=⟨Tryz.call131⟩
instance atT:bg Tryz.prog 183:=⟨Tryz.call183⟩
instance axC:bg Tryz.prog 31:=⟨Tryz.call31⟩
instance ajy:jr Tryz.prog 29 1 24 (.slice none 0 0):=⟨nu⟩
instance axD:bg Tryz.prog 81:=⟨Tryz.call81⟩
structure aV where
 Method:Int
 Values:List Int
structure Run where
 Answers:List (List Int)
 Log:List aV
 Got:List Fact
 Cost:Int
instance atU:jr Tryz.prog 112 4 80 (.agg [(.slice none 0 0),(.slice none 0 0),(.slice none 0 0),(.int .i64 0)].toArray):=⟨nu⟩
instance az8:jQ Tryz.prog 112 1 1:=⟨kg⟩
instance aby:jq Tryz.prog 78 false:=⟨nk⟩
instance ajz:bg Tryz.prog 94:=⟨Tryz.call94⟩
instance aBr:bg Tryz.prog 162:=⟨Tryz.call162⟩
instance abz:bg Tryz.prog 63:=⟨Tryz.call63⟩
instance aBs:bg Tryz.prog 117:=⟨Tryz.call117⟩
instance aiy:bg Tryz.prog 170:=⟨Tryz.call170⟩
instance atW:bg Tryz.prog 118:=⟨Tryz.call118⟩
instance atX:bg Tryz.prog 203:=⟨Tryz.call203⟩
instance aBt:bg Tryz.prog 204:=⟨Tryz.call204⟩
theorem arO:∀args w,(callFunc 223 args).run Tryz.prog w=((Extern.SlicesOverlaps.overlaps #[32,32] #[4] args).run Tryz.prog w).andThen fun v w'=>.ok (.value v) w':=fun args w=>run_callFunc_extern Tryz.func223 (by kernel_rfl) (by kernel_rfl) (by kernel_rfl) (e:=Extern.SlicesOverlaps.overlaps #[32,32] #[4]) (by kernel_rfl) args w
theorem Es:xu Tryz.prog 32:=.inr ⟨24,by kernel_rfl⟩
instance az9:jQ Tryz.prog 112 0 0:=⟨kg⟩
instance atY:bg Tryz.prog 149:=⟨Tryz.call149⟩
instance pF:sP Tryz.prog 78 115:=⟨yV⟩
def xz(H:aF)(v:Value)(a:aV):Prop:=∃v0:Sv,v= .agg [(.int .i64 a.Method),v0.v].toArray/\(aW 3 ax) H v0.v a.Values
instance:dZ xz:=⟨fun h hi=>by
 obtain⟨v0,h,h0⟩:=h
 exact⟨v0,h,dZ.up h0 hi⟩⟩
instance:Cells xz 2:=⟨fun h=>by
 obtain⟨v0,rfl,h0⟩:=h
 exact⟨rfl,rfl⟩⟩
instance lv:jr Tryz.prog 115 2 32 (.agg [(.int .i64 0),(.slice none 0 0)].toArray):=⟨nu⟩
def zQ(a:aV)(p:Sv):List Value:=[(.int .i64 a.Method),p.v]
theorem Dv{a:aV}:∀H e,xz H e a-> ∃i:Sv,0+2<=e.cells.size/\(e.cells.toList.drop 0).take 2=zQ a i/\ ∀c∈([bT (aW 3 ax) i.v a.Values]:List aH),c.P H/\c.F=[]:=by
 intro H e h
 obtain⟨v0,rfl,h0⟩:=h
 refine⟨v0,Nat.le_of_ble_eq_true rfl,rfl,fun c hc=>by
   simp only[List.mem_cons,List.not_mem_nil,or_false]at hc
   rcases hc with rfl
   · exact⟨h0,rfl⟩
⟩
instance aaM:jq Tryz.prog 115 true:=⟨nk⟩
instance az_:jQ Tryz.prog 115 0 0:=⟨kg⟩
instance aBu:bg Tryz.prog 200:=⟨Tryz.call200⟩
theorem ah7{a:Method}:∀H e,lC H e a->e.cells.toList[3]?=some (.int .i64 a.Cost):=by
 intro H e h
 obtain⟨_,rfl,_⟩:=h
 rfl
instance axE:jr Tryz.prog 32 1 24 (.slice none 0 0):=⟨nu⟩
instance az':jQ Tryz.prog 112 3 3:=⟨kg⟩
instance aBv:jq Tryz.prog 112 true:=⟨nk⟩
def j4:gQ aV:=fun F H v a=>∃(v0:Sv)(F0:List Nat),v= .agg [(.int .i64 a.Method),v0.v].toArray/\F0=F/\(az 3 (aj ax)) F0 H v0.v a.Values
instance:fH j4:=⟨fun h hi hg=>by
 obtain⟨v0,F0,rfl,rfl,h0⟩:=h
 exact⟨v0,F0,rfl,rfl,fH.keep h0 hi (fun k hk=>hg k (by simp[hk]))⟩⟩
instance:Local j4:=⟨fun h hg=>by
 obtain⟨v0,F0,rfl,rfl,h0⟩:=h
 exact⟨v0,F0,rfl,rfl,Local.keep h0 (fun k hk=>hg k (by simp[hk]))⟩⟩
instance:mP j4:=⟨fun h k hk=>by
 obtain⟨v0,F0,rfl,rfl,h0⟩:=h
 exact mP.owns h0 k hk
⟩
instance:m_ j4 2:=⟨fun h=>by
 obtain⟨v0,F0,rfl,rfl,h0⟩:=h
 exact⟨rfl,rfl⟩⟩
instance:lX j4 xz:=⟨fun h hg=>by
 obtain⟨v0,F0,rfl,rfl,h0⟩:=h
 exact⟨v0,rfl,lX.frz h0 (fun k hk=>hg k (by simp[hk]))⟩⟩
def af6(a:Step)(_:Unit):List Value:=[(.int .i64 a.Atom),(.int .i64 a.Method)]
theorem ap'{a:Step}:∀H e,ww H e a-> ∃i:Unit,0+2<=e.cells.size/\(e.cells.toList.drop 0).take 2=af6 a i/\ ∀c∈([]:List aH),c.P H/\c.F=[]:=by
 intro H e h
 subst h
 refine⟨(),Nat.le_of_ble_eq_true rfl,rfl,fun c hc=>by simp at hc⟩
instance aAn:jQ Tryz.prog 64 1 1:=⟨kg⟩
instance atZ:bg Tryz.prog 145:=⟨Tryz.call145⟩
theorem ah8{a:Method}:∀H e,lC H e a-> ∃w:Sv,e.cells.toList[1]?=some w.v/\(aW 3 ax) H w.v a.Inputs:=by
 intro H e h
 obtain⟨v0,rfl,h0⟩:=h
 exact⟨v0,rfl,h0⟩
instance aAa:jQ Tryz.prog 115 1 1:=⟨kg⟩
instance axF:bg Tryz.prog 82:=⟨Tryz.call82⟩
instance QJ:jq Tryz.prog 29 false:=⟨nk⟩
instance axG:bg Tryz.prog 83:=⟨Tryz.call83⟩
instance aBw:bg Tryz.prog 151:=⟨Tryz.call151⟩
instance aBx:bg Tryz.prog 150:=⟨Tryz.call150⟩
instance aiz:bg Tryz.prog 152:=⟨Tryz.call152⟩
instance aiA:bg Tryz.prog 146:=⟨Tryz.call146⟩
instance aBy:bg Tryz.prog 192:=⟨Tryz.call192⟩
instance aBz:bg Tryz.prog 217:=⟨Tryz.call217⟩
instance at0:bg Tryz.prog 193:=⟨Tryz.call193⟩
instance at1:bg Tryz.prog 180:=⟨Tryz.call180⟩
theorem Qb{a:aV}{v0:Sv}{F0:List Nat}:Mk j4 F0 (.agg [(.int .i64 a.Method),v0.v].toArray) a [aJ (az 3 (aj ax)) F0 v0.v a.Values]:=
 ⟨fun H h=>⟨v0,F0,rfl,rfl,h (aJ (az 3 (aj ax)) F0 v0.v a.Values) (by simp)⟩,by simp[aJ]⟩
theorem Mi:xu Tryz.prog 78:=.inr ⟨115,by kernel_rfl⟩
instance ajA:jr Tryz.prog 78 1 24 (.slice none 0 0):=⟨nu⟩
instance aAb:jQ Tryz.prog 112 2 2:=⟨kg⟩
theorem ajB{a:aM}{v0 v1:Sv}:Mk (aj Ep) [] (.agg [v0.v,v1.v].toArray) a [bT (aW 3 ax) v0.v a.Vars,bT (aW 3 ax) v1.v a.Values]:=
 ⟨fun H h=>⟨rfl,v0,v1,rfl,h (bT (aW 3 ax) v0.v a.Vars) (by simp),h (bT (aW 3 ax) v1.v a.Values) (by simp)⟩,by simp[bT]⟩
theorem aqB:M5 Tryz.prog 112 0 0 32:=by unfold M5; kernel_rfl
instance axH:jq Tryz.prog 32 false:=⟨nk⟩
instance cf9:bg Tryz.prog 9:=⟨Tryz.call9⟩
instance aDc:bg Tryz.prog 34:=⟨Tryz.call34⟩
instance aDd:bg Tryz.prog 21:=⟨Tryz.call21⟩
instance aDe:bg Tryz.prog 57:=⟨Tryz.call57⟩
instance axI:bg Tryz.prog 22:=⟨Tryz.call22⟩
instance aDf:bg Tryz.prog 58:=⟨Tryz.call58⟩
instance aBA:bg Tryz.prog 112:=⟨Tryz.call112⟩
instance aDg:bg Tryz.prog 36:=⟨Tryz.call36⟩
theorem ajC{a:Method}{v0:Sv}:Mk (aj lC) [] (.agg [(.int .i64 a.Rel),v0.v,(.int .i64 a.Limit),(.int .i64 a.Cost),(.int .i64 a.Quota)].toArray) a [bT (aW 3 ax) v0.v a.Inputs]:=
 ⟨fun H h=>⟨rfl,v0,rfl,h (bT (aW 3 ax) v0.v a.Inputs) (by simp)⟩,by simp[bT]⟩
instance axJ:bg Tryz.prog 35:=⟨Tryz.call35⟩
instance axK:bg Tryz.prog 87:=⟨Tryz.call87⟩
instance aBB:bg Tryz.prog 157:=⟨Tryz.call157⟩
instance axL:bg Tryz.prog 88:=⟨Tryz.call88⟩
theorem arP{a:Step}:∀F H e,(aj ww) F H e a->e.cells.toList[0]?=some (.int .i64 a.Atom):=by
 intro F H e h
 obtain⟨-,h⟩:=h
 subst h
 rfl
theorem PV{a:Atom}:∀H e,En H e a->e.cells.toList[0]?=some (.int .i64 a.Rel):=by
 intro H e h
 obtain⟨_,rfl,_⟩:=h
 rfl
instance axM:bg Tryz.prog 10:=⟨Tryz.call10⟩
instance axN:bg Tryz.prog 38:=⟨Tryz.call38⟩
instance aDh:bg Tryz.prog 89:=⟨Tryz.call89⟩
instance aBC:bg Tryz.prog 158:=⟨Tryz.call158⟩
instance ajD:bg Tryz.prog 55:=⟨Tryz.call55⟩
instance axO:bg Tryz.prog 53:=⟨Tryz.call53⟩
instance aiB:bg Tryz.prog 107:=⟨Tryz.call107⟩
instance ajE:bg Tryz.prog 91:=⟨Tryz.call91⟩
theorem axP{a:Fact}{v0:Sv}:Mk (aj lV) [] (.agg [(.int .i64 a.Rel),v0.v].toArray) a [bT (aW 3 ax) v0.v a.Values]:=
 ⟨fun H h=>⟨rfl,v0,rfl,h (bT (aW 3 ax) v0.v a.Values) (by simp)⟩,by simp[bT]⟩
instance ajF:bg Tryz.prog 56:=⟨Tryz.call56⟩
instance axQ:bg Tryz.prog 90:=⟨Tryz.call90⟩
instance aDi:bg Tryz.prog 44:=⟨Tryz.call44⟩
instance axR:bg Tryz.prog 93:=⟨Tryz.call93⟩
instance at5:bg Tryz.prog 161:=⟨Tryz.call161⟩
instance aBD:bg Tryz.prog 159:=⟨Tryz.call159⟩
instance at6:bg Tryz.prog 202:=⟨Tryz.call202⟩
instance axS:bg Tryz.prog 39:=⟨Tryz.call39⟩
instance axT:bg Tryz.prog 11:=⟨Tryz.call11⟩
instance axU:bg Tryz.prog 12:=⟨Tryz.call12⟩
instance aDj:bg Tryz.prog 40:=⟨Tryz.call40⟩
instance axV:bg Tryz.prog 13:=⟨Tryz.call13⟩
instance axW:bg Tryz.prog 43:=⟨Tryz.call43⟩
instance axX:bg Tryz.prog 92:=⟨Tryz.call92⟩
instance aBE:bg Tryz.prog 160:=⟨Tryz.call160⟩
instance ajG:bg Tryz.prog 14:=⟨Tryz.call14⟩
instance axY:bg Tryz.prog 15:=⟨Tryz.call15⟩
instance Wj:bg Tryz.prog 46:=⟨Tryz.call46⟩
structure Reached where
 Facts:List Fact
 Values:List Int
 Log:List aV
 Rounds:Int
instance pI:jr Tryz.prog 80 4 80 (.agg [(.slice none 0 0),(.slice none 0 0),(.slice none 0 0),(.int .i64 0)].toArray):=⟨nu⟩
instance aDk:bg Tryz.prog 96:=⟨Tryz.call96⟩
instance at7:bg Tryz.prog 163:=⟨Tryz.call163⟩
instance yX:jq Tryz.prog 80 true:=⟨nk⟩
instance aDl:bg Tryz.prog 97:=⟨Tryz.call97⟩
instance aua:bg Tryz.prog 164:=⟨Tryz.call164⟩
instance ah9:jQ Tryz.prog 80 1 1:=⟨kg⟩
instance aBF:bg Tryz.prog 205:=⟨Tryz.call205⟩
instance ah_:jQ Tryz.prog 80 2 2:=⟨kg⟩
instance ah':jQ Tryz.prog 80 3 3:=⟨kg⟩
instance aub:bg Tryz.prog 165:=⟨Tryz.call165⟩
theorem auc{a:aV}:Un j4 a (fun p:Sv×List Nat=>.agg [(.int .i64 a.Method),p.1.v].toArray) (fun p=>[aJ (az 3 (aj ax)) p.2 p.1.v a.Values]):=⟨fun F H e h=>by
 obtain⟨v0,F0,rfl,rfl,h0⟩:=h
 refine⟨(v0,F0),rfl,fun c hc=>?_,by simp[foot,aJ]⟩
 simp only[List.mem_cons,List.not_mem_nil,or_false]at hc
 rcases hc with rfl
 · exact h0⟩
theorem axZ{a:Fact}:Un gD a (fun p:Sv×List Nat=>.agg [(.int .i64 a.Rel),p.1.v].toArray) (fun p=>[aJ (az 3 (aj ax)) p.2 p.1.v a.Values]):=⟨fun F H e h=>by
 obtain⟨v0,F0,rfl,rfl,h0⟩:=h
 refine⟨(v0,F0),rfl,fun c hc=>?_,by simp[foot,aJ]⟩
 simp only[List.mem_cons,List.not_mem_nil,or_false]at hc
 rcases hc with rfl
 · exact h0⟩
instance aia:jQ Tryz.prog 80 0 0:=⟨kg⟩
theorem ahA:M5 Tryz.prog 80 0 0 29:=by unfold M5; kernel_rfl
instance ax0:bg Tryz.prog 45:=⟨Tryz.call45⟩
instance ax1:bg Tryz.prog 16:=⟨Tryz.call16⟩
instance aDm:bg Tryz.prog 50:=⟨Tryz.call50⟩
instance ax2:bg Tryz.prog 49:=⟨Tryz.call49⟩
instance aBG:bg Tryz.prog 104:=⟨Tryz.call104⟩
instance aBH:bg Tryz.prog 103:=⟨Tryz.call103⟩
instance aiC:bg Tryz.prog 105:=⟨Tryz.call105⟩
instance ax3:bg Tryz.prog 17:=⟨Tryz.call17⟩
structure l9 where
 All:List Fact
 Some:List Fact
 Tuple:List Int
instance lD:jr Tryz.prog 44 3 72 (.agg [(.slice none 0 0),(.slice none 0 0),(.slice none 0 0)].toArray):=⟨nu⟩
instance sF:jq Tryz.prog 44 true:=⟨nk⟩
instance aDn:bg Tryz.prog 51:=⟨Tryz.call51⟩
instance aDo:bg Tryz.prog 18:=⟨Tryz.call18⟩
instance ajH:bg Tryz.prog 54:=⟨Tryz.call54⟩
instance aBI:bg Tryz.prog 109:=⟨Tryz.call109⟩
instance aBJ:bg Tryz.prog 110:=⟨Tryz.call110⟩
instance aBK:bg Tryz.prog 174:=⟨Tryz.call174⟩
instance aBL:bg Tryz.prog 175:=⟨Tryz.call175⟩
instance ax4:bg Tryz.prog 65:=⟨Tryz.call65⟩
instance aBM:bg Tryz.prog 211:=⟨Tryz.call211⟩
theorem ahB{a:aV}:∀H e,xz H e a->e.cells.toList[0]?=some (.int .i64 a.Method):=by
 intro H e h
 obtain⟨_,rfl,_⟩:=h
 rfl
theorem ahC{a:aV}:∀H e,xz H e a-> ∃w:Sv,e.cells.toList[1]?=some w.v/\(aW 3 ax) H w.v a.Values:=by
 intro H e h
 obtain⟨v0,rfl,h0⟩:=h
 exact⟨v0,rfl,h0⟩
instance aBN:bg Tryz.prog 236:=⟨Tryz.call236⟩
instance aBO:bg Tryz.prog 176:=⟨Tryz.call176⟩
instance aBP:bg Tryz.prog 212:=⟨Tryz.call212⟩
theorem arQ{a:Method}:∀H e,lC H e a->e.cells.toList[2]?=some (.int .i64 a.Limit):=by
 intro H e h
 obtain⟨_,rfl,_⟩:=h
 rfl
instance aBQ:bg Tryz.prog 237:=⟨Tryz.call237⟩
instance aud:bg Tryz.prog 238:=⟨Tryz.call238⟩
instance aBR:bg Tryz.prog 181:=⟨Tryz.call181⟩
theorem aue{a:aV}{v0:Sv}:Mk (aj xz) [] (.agg [(.int .i64 a.Method),v0.v].toArray) a [bT (aW 3 ax) v0.v a.Values]:=
 ⟨fun H h=>⟨rfl,v0,rfl,h (bT (aW 3 ax) v0.v a.Values) (by simp)⟩,by simp[bT]⟩
instance aBS:bg Tryz.prog 213:=⟨Tryz.call213⟩
instance aBT:bg Tryz.prog 239:=⟨Tryz.call239⟩
instance aAo:jQ Tryz.prog 44 0 0:=⟨kg⟩
instance ajI:bg Tryz.prog 19:=⟨Tryz.call19⟩
instance aAp:jQ Tryz.prog 44 1 1:=⟨kg⟩
instance aAq:jQ Tryz.prog 44 2 2:=⟨kg⟩
instance ax5:bg Tryz.prog 20:=⟨Tryz.call20⟩
instance Wl:bg Tryz.prog 23:=⟨Tryz.call23⟩
instance ax6:bg Tryz.prog 62:=⟨Tryz.call62⟩
instance aBU:bg Tryz.prog 114:=⟨Tryz.call114⟩
instance aBV:bg Tryz.prog 177:=⟨Tryz.call177⟩
instance auf:bg Tryz.prog 178:=⟨Tryz.call178⟩
instance aBW:bg Tryz.prog 116:=⟨Tryz.call116⟩
instance aBX:bg Tryz.prog 179:=⟨Tryz.call179⟩
instance aDp:bg Tryz.prog 24:=⟨Tryz.call24⟩
instance ajJ:bg Tryz.prog 25:=⟨Tryz.call25⟩
instance aDq:bg Tryz.prog 66:=⟨Tryz.call66⟩
instance aBY:bg Tryz.prog 121:=⟨Tryz.call121⟩
instance ajK:bg Tryz.prog 67:=⟨Tryz.call67⟩
theorem zI{α β:Type}{l:List α}{i:Int}{f:α->Option β}{R:β}{G:Prop}(hF:(ix l i).bind f=some R)(k:∀x,0<=i->l[i.toNat]?=some x->f x=some R->G):G:=by
 obtain⟨x,h,e⟩:=Option.bind_eq_some_iff.1 hF
 obtain⟨h1,h2⟩:=qf h
 exact k x h1 h2 e
theorem lT{G N:Prop}(k:N)(h:N->G:=by (intro k; (iterate 10 refine au ?_); exact k)):G:=h k
theorem v_{G N:Prop}(k:N)(h:N->G:=by (intro k; (iterate 11 refine au ?_); exact k)):G:=h k
theorem Ei{G N:Prop}(k:N)(h:N->G:=by (intro k; (iterate 12 refine au ?_); exact k)):G:=h k
theorem aiD{G N:Prop}(k:N)(h:N->G:=by (intro k; (iterate 13 refine au ?_); exact k)):G:=h k
theorem aiE{G N:Prop}(k:N)(h:N->G:=by (intro k; (iterate 14 refine au ?_); exact k)):G:=h k
theorem VL{G N:Prop}(k:N)(h:N->G:=by (intro k; (iterate 16 refine au ?_); exact k)):G:=h k
theorem aaN{G N:Prop}(k:N)(h:N->G:=by (intro k; (iterate 18 refine au ?_); exact k)):G:=h k
theorem aT{G N:Prop}(k:N)(h:N->G:=by (intro k; (iterate 2 refine au ?_); exact k)):G:=h k
theorem aZ{G N:Prop}(k:N)(h:N->G:=by (intro k; (iterate 3 refine au ?_); exact k)):G:=h k
theorem aL{G N:Prop}(k:N)(h:N->G:=by (intro k; (iterate 4 refine au ?_); exact k)):G:=h k
theorem bf{G N:Prop}(k:N)(h:N->G:=by (intro k; (iterate 5 refine au ?_); exact k)):G:=h k
theorem bG{G N:Prop}(k:N)(h:N->G:=by (intro k; (iterate 6 refine au ?_); exact k)):G:=h k
theorem bQ{G N:Prop}(k:N)(h:N->G:=by (intro k; (iterate 7 refine au ?_); exact k)):G:=h k
theorem fI{G N:Prop}(k:N)(h:N->G:=by (intro k; (iterate 8 refine au ?_); exact k)):G:=h k
theorem eU{G N:Prop}(k:N)(h:N->G:=by (intro k; (iterate 9 refine au ?_); exact k)):G:=h k
theorem df(b:Bool):b=true\/b=false:=Bool.eq_false_or_eq_true b
theorem aX{α:Sort _}{a b:α}:cond false a b=b:=rfl
theorem aY{α:Sort _}{a b:α}:cond true a b=a:=rfl
theorem bV{G N:Prop}(k:N)(h:N->G:=by (intro k; (iterate 2 refine du ?_); exact k)):G:=h k
theorem fw{G N:Prop}(k:N)(h:N->G:=by (intro k; (iterate 3 refine du ?_); exact k)):G:=h k
theorem sG{G N:Prop}(k:N)(h:N->G:=by (intro k; (iterate 4 refine du ?_); exact k)):G:=h k
theorem xH{G N:Prop}(k:N)(h:N->G:=by (intro k; (iterate 5 refine du ?_); exact k)):G:=h k
theorem Mj{G N:Prop}(k:N)(h:N->G:=by (intro k; (iterate 6 refine du ?_); exact k)):G:=h k
theorem ax7{G N:Prop}(k:N)(h:N->G:=by (intro k; (iterate 7 refine du ?_); exact k)):G:=h k
theorem ajL{G N:Prop}(k:N)(h:N->G:=by (intro k; (iterate 8 refine du ?_); exact k)):G:=h k
theorem ze{G P:Prop}(hF:P)(h:P->G:=by (intro hF; (repeat refine au ?_); cases hF; exact Er ())):G:=h hF
theorem cK{G P:Prop}(hF:P)(h:P->G:=by (intro hF; (repeat refine au ?_); cases hF; exact⟨_,_,rfl,aB,aA⟩)):G:=h hF
theorem QK{G P:Prop}(hF:P)(h:P->G:=by (intro hF; (repeat refine au ?_); cases hF; exact⟨_,_,_,rfl,aB,aA⟩)):G:=h hF
theorem Wm{G P:Prop}(hF:P)(h:P->G:=by (intro hF; (repeat refine au ?_); cases hF; exact⟨_,_,_,_,rfl,aB,aA⟩)):G:=h hF
theorem iC{G P:Prop}(hF:P)(h:P->G:=by (intro hF; (repeat refine du ?_); cases hF; exact⟨_,_,rfl,aB,aA⟩)):G:=h hF
abbrev zg(l:List Value):Value:=.agg l.toArray
abbrev zi(n:Int):Value:=.int .i64 n
theorem bY(n:Nat):n<n.succ:=Nat.lt_succ_self n
abbrev mM(F:List Nat)(v:Sv):=aJ (az 115 j4) F v.v
abbrev mq(F:List Nat)(v:Sv):=aJ (az 66 jO) F v.v
abbrev h_(F:List Nat)(v:Sv):=aJ (az 71 gD) F v.v
abbrev pJ(F:List Nat)(v:Sv):=aJ (az 85 pE) F v.v
abbrev Et(F:List Nat)(v:Sv):=aJ (az 92 wu) F v.v
abbrev Qd(F:List Nat)(v:Sv):=aJ (az 115 (aj xz)) F v.v
abbrev bv(F:List Nat)(v:Sv):=aJ (az 3 (aj ax)) F v.v
abbrev XH(F:List Nat)(v:Sv):=aJ (az 4 (aj rdBool)) F v.v
abbrev wy(F:List Nat)(v:Sv):=aJ (az 64 (aj ww)) F v.v
abbrev abA(F:List Nat)(v:Sv):=aJ (az 71 (aj lV)) F v.v
abbrev II(F:List Nat)(v:Sv):=aJ (az 92 (aj lC)) F v.v
abbrev gU(v:Sv):=bT (aW 115 xz) v.v
abbrev ah(v:Sv):=bT (aW 3 ax) v.v
abbrev zr4(v:Sv):=bT (aW 4 rdBool) v.v
abbrev iZ(v:Sv):=bT (aW 5 xD) v.v
abbrev Ml(v:Sv):=bT (aW 64 ww) v.v
abbrev bX(v:Sv):=bT (aW 66 En) v.v
abbrev cz(v:Sv):=bT (aW 71 lV) v.v
abbrev nQ(v:Sv):=bT (aW 85 Ep) v.v
abbrev dQ(v:Sv):=bT (aW 92 lC) v.v
theorem zx{G N:Prop}(k:N)(h:N->G:=by (intro k; exact aK (qz (.tmp rfl rfl) rfl) k)):G:=h k
theorem _root_.Go.Fw.Mem.q2{c d0 d1:aH}{l:List aH}:Fw.Mem c (d0::d1::c::l):=.t (.t .h)
theorem _root_.Go.Fw.Mem.q3{c d0 d1 d2:aH}{l:List aH}:Fw.Mem c (d0::d1::d2::c::l):=.t (.t (.t .h))
theorem _root_.Go.Fw.Mem.q4{c d0 d1 d2 d3:aH}{l:List aH}:Fw.Mem c (d0::d1::d2::d3::c::l):=.t (.t (.t (.t .h)))
theorem _root_.Go.Fw.Mem.q5{c d0 d1 d2 d3 d4:aH}{l:List aH}:Fw.Mem c (d0::d1::d2::d3::d4::c::l):=.t (.t (.t (.t (.t .h))))
theorem _root_.Go.Fw.Mem.q6{c d0 d1 d2 d3 d4 d5:aH}{l:List aH}:Fw.Mem c (d0::d1::d2::d3::d4::d5::c::l):=.t (.t (.t (.t (.t (.t .h)))))
theorem _root_.Go.Fw.Mem.q7{c d0 d1 d2 d3 d4 d5 d6:aH}{l:List aH}:Fw.Mem c (d0::d1::d2::d3::d4::d5::d6::c::l):=.t (.t (.t (.t (.t (.t (.t .h))))))
theorem _root_.Go.Fw.Mem.q8{c d0 d1 d2 d3 d4 d5 d6 d7:aH}{l:List aH}:Fw.Mem c (d0::d1::d2::d3::d4::d5::d6::d7::c::l):=.t (.t (.t (.t (.t (.t (.t (.t .h)))))))
theorem _root_.Go.Fw.Mem.q9{c d0 d1 d2 d3 d4 d5 d6 d7 d8:aH}{l:List aH}:Fw.Mem c (d0::d1::d2::d3::d4::d5::d6::d7::d8::c::l):=.t (.t (.t (.t (.t (.t (.t (.t (.t .h))))))))
theorem _root_.Go.Fw.Mem.q10{c d0 d1 d2 d3 d4 d5 d6 d7 d8 d9:aH}{l:List aH}:Fw.Mem c (d0::d1::d2::d3::d4::d5::d6::d7::d8::d9::c::l):=.t (.t (.t (.t (.t (.t (.t (.t (.t (.t .h)))))))))
theorem _root_.Go.Fw.Mem.q11{c d0 d1 d2 d3 d4 d5 d6 d7 d8 d9 pV:aH}{l:List aH}:Fw.Mem c (d0::d1::d2::d3::d4::d5::d6::d7::d8::d9::pV::c::l):=.t (.t (.t (.t (.t (.t (.t (.t (.t (.t (.t .h))))))))))
theorem _root_.Go.Fw.Mem.q12{c d0 d1 d2 d3 d4 d5 d6 d7 d8 d9 pV uz:aH}{l:List aH}:Fw.Mem c (d0::d1::d2::d3::d4::d5::d6::d7::d8::d9::pV::uz::c::l):=.t (.t (.t (.t (.t (.t (.t (.t (.t (.t (.t (.t .h)))))))))))
theorem _root_.Go.Fw.Mem.q13{c d0 d1 d2 d3 d4 d5 d6 d7 d8 d9 pV uz Cj:aH}{l:List aH}:Fw.Mem c (d0::d1::d2::d3::d4::d5::d6::d7::d8::d9::pV::uz::Cj::c::l):=.t (.t (.t (.t (.t (.t (.t (.t (.t (.t (.t (.t (.t .h))))))))))))
theorem _root_.Go.Fw.Mem.q14{c d0 d1 d2 d3 d4 d5 d6 d7 d8 d9 pV uz Cj XI:aH}{l:List aH}:Fw.Mem c (d0::d1::d2::d3::d4::d5::d6::d7::d8::d9::pV::uz::Cj::XI::c::l):=.t (.t (.t (.t (.t (.t (.t (.t (.t (.t (.t (.t (.t (.t .h)))))))))))))
theorem _root_.Go.Fw.Sel.q2{c d0 d1:aH}{l:List aH}:Fw.Sel (d0::d1::c::l) c (d0::d1::l):=.t (.t .h)
theorem _root_.Go.Fw.Sel.q3{c d0 d1 d2:aH}{l:List aH}:Fw.Sel (d0::d1::d2::c::l) c (d0::d1::d2::l):=.t (.t (.t .h))
theorem _root_.Go.Fw.Sel.q4{c d0 d1 d2 d3:aH}{l:List aH}:Fw.Sel (d0::d1::d2::d3::c::l) c (d0::d1::d2::d3::l):=.t (.t (.t (.t .h)))
theorem _root_.Go.Fw.Sel.q5{c d0 d1 d2 d3 d4:aH}{l:List aH}:Fw.Sel (d0::d1::d2::d3::d4::c::l) c (d0::d1::d2::d3::d4::l):=.t (.t (.t (.t (.t .h))))
theorem _root_.Go.Fw.Sel.q6{c d0 d1 d2 d3 d4 d5:aH}{l:List aH}:Fw.Sel (d0::d1::d2::d3::d4::d5::c::l) c (d0::d1::d2::d3::d4::d5::l):=.t (.t (.t (.t (.t (.t .h)))))
theorem _root_.Go.Fw.Sel.q7{c d0 d1 d2 d3 d4 d5 d6:aH}{l:List aH}:Fw.Sel (d0::d1::d2::d3::d4::d5::d6::c::l) c (d0::d1::d2::d3::d4::d5::d6::l):=.t (.t (.t (.t (.t (.t (.t .h))))))
theorem _root_.Go.Fw.Sel.q8{c d0 d1 d2 d3 d4 d5 d6 d7:aH}{l:List aH}:Fw.Sel (d0::d1::d2::d3::d4::d5::d6::d7::c::l) c (d0::d1::d2::d3::d4::d5::d6::d7::l):=.t (.t (.t (.t (.t (.t (.t (.t .h)))))))
theorem _root_.Go.Fw.Sel.q9{c d0 d1 d2 d3 d4 d5 d6 d7 d8:aH}{l:List aH}:Fw.Sel (d0::d1::d2::d3::d4::d5::d6::d7::d8::c::l) c (d0::d1::d2::d3::d4::d5::d6::d7::d8::l):=.t (.t (.t (.t (.t (.t (.t (.t (.t .h))))))))
theorem _root_.Go.Fw.Sel.q10{c d0 d1 d2 d3 d4 d5 d6 d7 d8 d9:aH}{l:List aH}:Fw.Sel (d0::d1::d2::d3::d4::d5::d6::d7::d8::d9::c::l) c (d0::d1::d2::d3::d4::d5::d6::d7::d8::d9::l):=.t (.t (.t (.t (.t (.t (.t (.t (.t (.t .h)))))))))
theorem _root_.Go.Fw.Sel.q11{c d0 d1 d2 d3 d4 d5 d6 d7 d8 d9 pV:aH}{l:List aH}:Fw.Sel (d0::d1::d2::d3::d4::d5::d6::d7::d8::d9::pV::c::l) c (d0::d1::d2::d3::d4::d5::d6::d7::d8::d9::pV::l):=.t (.t (.t (.t (.t (.t (.t (.t (.t (.t (.t .h))))))))))
theorem _root_.Go.Fw.Sel.q12{c d0 d1 d2 d3 d4 d5 d6 d7 d8 d9 pV uz:aH}{l:List aH}:Fw.Sel (d0::d1::d2::d3::d4::d5::d6::d7::d8::d9::pV::uz::c::l) c (d0::d1::d2::d3::d4::d5::d6::d7::d8::d9::pV::uz::l):=.t (.t (.t (.t (.t (.t (.t (.t (.t (.t (.t (.t .h)))))))))))
theorem _root_.Go.Fw.Sel.q13{c d0 d1 d2 d3 d4 d5 d6 d7 d8 d9 pV uz Cj:aH}{l:List aH}:Fw.Sel (d0::d1::d2::d3::d4::d5::d6::d7::d8::d9::pV::uz::Cj::c::l) c (d0::d1::d2::d3::d4::d5::d6::d7::d8::d9::pV::uz::Cj::l):=.t (.t (.t (.t (.t (.t (.t (.t (.t (.t (.t (.t (.t .h))))))))))))
theorem _root_.Go.Fw.Sel.q14{c d0 d1 d2 d3 d4 d5 d6 d7 d8 d9 pV uz Cj XI:aH}{l:List aH}:Fw.Sel (d0::d1::d2::d3::d4::d5::d6::d7::d8::d9::pV::uz::Cj::XI::c::l) c (d0::d1::d2::d3::d4::d5::d6::d7::d8::d9::pV::uz::Cj::XI::l):=.t (.t (.t (.t (.t (.t (.t (.t (.t (.t (.t (.t (.t (.t .h)))))))))))))
def VM(iR:List UInt8):Option (Bool):=
 some (decide ((1048576:Int)<(iR.length:Int)))
theorem aqC{iR:List UInt8}{aa:Sv}{R:Bool}(hF:VM iR=some R):
   Fw.Spec Tryz.prog 4 [aa.v] [iZ aa iR] (fun _:Unit=>(.bool R)) (fun _=>[]):=by
 refine Se 6 Tryz.func4 [.tmp 2] ?_
 intro H0 F0
 unfold VM at hF
 exact ze hF
def G6(iR:List UInt8):Nat->Int->Int->Option (aN)
 |0,_,_=>none
 |m3+1,c1,c2=>if ((decide ((c2:Int)<(iR.length:Int)))&&(decide ((c2:Int)<4000)))then (
     (ix iR c2).bind fun Js=>
     G6 iR m3 (yU .i64 (IntKind.i64.wrap ((IntKind.i64.wrap ((IntKind.i64.wrap (c1*131))+(Js.toNat:Int)))+7)) 1073741823) (IntKind.i64.wrap (c2+1)))
   else (
     some (⟨iR,0,c1⟩:aN))
def PM(iR:List UInt8):Option (aN):=
 G6 iR (((iR.length:Int)-0).toNat+2) (IntKind.i64.wrap (10101+(iR.length:Int))) 0
theorem afG{iR:List UInt8}{aa:Sv}{R:aN}(hF:PM iR=some R):
   Fw.Spec Tryz.prog 26 [aa.v] [iZ aa iR] (fun p:Nat×Sv=>(.pointer (some ⟨p.1,0,some 0⟩))) (fun p=>[bq p.1 101 (zg [p.2.v,(zi R.i),(zi R.h)]),iZ p.2 R.b]):=by
 refine Se 32 Tryz.func26 [.tmp 2] ?_
 intro H0 F0
 unfold PM at hF
 refine aiD ?_
 refine bn (bU (m:=(((iR.length:Int)-0).toNat+2)) (fun m3 f' cs'=>∃(g:Fr)(c1 c2:Int),f'=aR g [(0,aa.v),(3,(zi c1)),(4,(zi c2))]/\aP cs' [iZ aa iR]/\G6 iR m3 c1 c2=some R) ⟨_,_,_,aB,aA,hF⟩ ?_)
 rintro m3 _ _ ⟨g4,c1,c2,rfl,hE,hF⟩
 refine bM hE ?_
 rcases m3 with _|m3
 · rw[G6]at hF
   exact absurd hF (by simp)
 rw[G6]at hF
 refine aT ?_
 refine gB (fun f' cs'=>∃(g:Fr),f'=aR g [(0,aa.v),(3,(zi c1)),(4,(zi c2)),(15,(.bool ((decide ((c2:Int)<(iR.length:Int)))&&(decide ((c2:Int)<4000)))))]/\aP cs' [iZ aa iR]) ?_ ?_
 · refine bf ?_
   rcases df (decide ((c2:Int)<(iR.length:Int)))with jE|jE
   · rw[jE]
     try rw[jE]at hF; dsimp only[aY,aX]at hF
     refine bG ?_
     exact⟨_,aB,aA⟩
   rw[jE]
   try rw[jE]at hF; dsimp only[aY,aX]at hF
   refine aL ?_
   exact⟨_,aB,aA⟩
 rintro _ _ ⟨g12,rfl,hE⟩
 refine bM hE ?_
 refine Ci hF (fun kW hF=>?_) (fun kW hF=>?_)
 · refine bQ ?_
   refine zI hF fun Js ax8 hx16 hF=>?_
   refine Ai hx16 (fun k17 SB=>?_)
   refine Al aiv ?_
   refine aK (aeU (u:=Js) ik5 SA (.tmp rfl rfl)) ?_
   refine aT ?_
   refine aK (aaI (i:=(IntKind.i64.wrap ((IntKind.i64.wrap ((IntKind.i64.wrap (c1*131))+(Js.toNat:Int)))+7))) (j:=1073741823) (.tmp rfl rfl) (.int _ _)) ?_
   refine bQ ?_
   exact⟨m3,bY _,_,_,_,aB,aA,hF⟩
 refine bQ ?_
 refine aK (gH atp.h rfl (vs:=[aa.v,(zi c1)]) bz (cells:=[aa.v,(zi 0),(zi c1)]) rfl) ?_
 refine AbW (fun k19=>?_)
 refine aZ ?_
 cases hF
 exact Er (k19,aa)
def Ac(aC:aN):Option (Int×aN):=
 (V9 .i64 (IntKind.i64.wrap ((IntKind.i64.wrap (aC.h*6364136223846793005))+1442695040888963407)) 33).bind fun x1=>
 (V9 .i64 (IntKind.i64.wrap ((IntKind.i64.wrap (aC.h*6364136223846793005))+1442695040888963407)) 45).bind fun x3=>
 if (decide ((aC.i:Int)<(aC.b.length:Int)))then (
   (ix aC.b aC.i).bind fun x5=>
   some ((yU .i64 (IntKind.i64.wrap ((yU .i64 (Mf .i64 x1 x3) 255)+(x5.toNat:Int))) 255),(⟨aC.b,(IntKind.i64.wrap (aC.i+1)),(IntKind.i64.wrap ((IntKind.i64.wrap (aC.h*6364136223846793005))+1442695040888963407))⟩:aN)))
 else (
   some ((yU .i64 (Mf .i64 x1 x3) 255),(⟨aC.b,aC.i,(IntKind.i64.wrap ((IntKind.i64.wrap (aC.h*6364136223846793005))+1442695040888963407))⟩:aN)))
theorem Oc{bE:Nat}{aC:aN}{aa:Sv}{R:Int×aN}(hF:Ac aC=some R):
   Fw.Spec Tryz.prog 119 [(pz bE)] [bq bE 101 (zg [aa.v,(zi aC.i),(zi aC.h)]),iZ aa aC.b] (fun _:Unit=>(zi R.1)) (fun _=>[bq bE 101 (zg [aa.v,(zi R.2.i),(zi R.2.h)])]):=by
 refine Se 58 Tryz.func119 [.tmp 2] ?_
 intro H0 F0
 unfold Ac at hF
 refine bG ?_
 refine aK (oU (v:=(pz bE)) rfl (.tmp rfl rfl)) ?_
 refine aL ?_
 refine aK (oU (v:=(pz bE)) rfl (.tmp rfl rfl)) ?_
 refine au ?_
 refine As (zg [aa.v,(zi aC.i),(zi (IntKind.i64.wrap ((IntKind.i64.wrap (aC.h*6364136223846793005))+1442695040888963407)))]) ?_
 refine au ?_
 refine dM [0,1,2,3,4,5,6,7,8,9,10,11,12] [0,1,3,7,15,0,32,96,224,480,1023,2047,4095] [] mixed (by decide+kernel) ?_
 refine du ?_
 refine dJ rfl .no (fun ha=>oU (v:=(pz bE)) rfl (EN ha (.tmp rfl rfl) rfl)) ?_
 refine du ?_
 refine dH rfl .no .h (fun ha hp=>fZ (v:=(zi (IntKind.i64.wrap ((IntKind.i64.wrap (aC.h*6364136223846793005))+1442695040888963407)))) oI.h (EN ha (.tmp rfl rfl) rfl) hp.2 rfl rfl) ?_
 refine bnd hF fun x1 hx2 hF=>dJ rfl .no (fun ha=>air (i:=(IntKind.i64.wrap ((IntKind.i64.wrap (aC.h*6364136223846793005))+1442695040888963407))) (j:=33) (EN ha (.tmp rfl rfl) rfl) (EN ha (.int _ _) rfl) hx2) ?_
 refine du ?_
 refine dJ rfl .no (fun ha=>oU (v:=(pz bE)) rfl (EN ha (.tmp rfl rfl) rfl)) ?_
 refine du ?_
 refine dH rfl .no .h (fun ha hp=>fZ (v:=(zi (IntKind.i64.wrap ((IntKind.i64.wrap (aC.h*6364136223846793005))+1442695040888963407)))) oI.h (EN ha (.tmp rfl rfl) rfl) hp.2 rfl rfl) ?_
 refine bnd hF fun x3 hx4 hF=>dJ rfl .no (fun ha=>air (i:=(IntKind.i64.wrap ((IntKind.i64.wrap (aC.h*6364136223846793005))+1442695040888963407))) (j:=45) (EN ha (.tmp rfl rfl) rfl) (EN ha (.int _ _) rfl) hx4) ?_
 refine dJ rfl .no (fun ha=>asL (i:=x1) (j:=x3) (EN ha (.tmp rfl rfl) rfl) (EN ha (.tmp rfl rfl) rfl)) ?_
 refine dJ rfl .no (fun ha=>aaI (i:=(Mf .i64 x1 x3)) (j:=255) (EN ha (.tmp rfl rfl) rfl) (EN ha (.int _ _) rfl)) ?_
 refine bV ?_
 refine au ?_
 refine dM [0,1,2,3,4,5,6,7,8,9] [0,1,3,7,0,16,48,112,240,511] [] mixed (by decide+kernel) ?_
 refine du ?_
 refine dJ rfl .no (fun ha=>oU (v:=(pz bE)) rfl (EN ha (.tmp rfl rfl) rfl)) ?_
 refine du ?_
 refine dH rfl .no .h (fun ha hp=>fZ (v:=(zi aC.i)) oI.h (EN ha (.tmp rfl rfl) rfl) hp.2 rfl rfl) ?_
 refine du ?_
 refine dJ rfl .no (fun ha=>oU (v:=(pz bE)) rfl (EN ha (.tmp rfl rfl) rfl)) ?_
 refine du ?_
 refine dH rfl .no .h (fun ha hp=>fZ (v:=aa.v) ajn.h (EN ha (.tmp rfl rfl) rfl) hp.2 rfl rfl) ?_
 refine fw ?_
 refine Ci hF (fun QL hF=>?_) (fun QL hF=>?_)
 · refine dM [0,1,2,3,4,5,6,7,8,9,10,11,12,13,14] [0,0,2,6,14,0,32,96,224,510,1022,2046,4095,8191,16383] [] mixed (by decide+kernel) ?_
   refine bV ?_
   refine dJ rfl .no (fun ha=>oU (v:=(pz bE)) rfl (EN ha (.tmp rfl rfl) rfl)) ?_
   refine du ?_
   refine dH rfl .no .h (fun ha hp=>fZ (v:=aa.v) ajn.h (EN ha (.tmp rfl rfl) rfl) hp.2 rfl rfl) ?_
   refine du ?_
   refine dJ rfl .no (fun ha=>oU (v:=(pz bE)) rfl (EN ha (.tmp rfl rfl) rfl)) ?_
   refine du ?_
   refine dH rfl .no .h (fun ha hp=>fZ (v:=(zi aC.i)) oI.h (EN ha (.tmp rfl rfl) rfl) hp.2 rfl rfl) ?_
   refine zI hF fun x5 hp7 nY hF=>?_
   refine Di nY (fun k9 j10=>?_)
   refine Dl aiv ?_
   refine dJ rfl .no (fun ha=>aeU (u:=x5) ik5 SA (EN ha (.tmp rfl rfl) rfl)) ?_
   refine du ?_
   refine dJ rfl .no (fun ha=>aaI (i:=(IntKind.i64.wrap ((yU .i64 (Mf .i64 x1 x3) 255)+(x5.toNat:Int)))) (j:=255) (EN ha (.tmp rfl rfl) rfl) (EN ha (.int _ _) rfl)) ?_
   refine bV ?_
   refine aZ ?_
   refine aK (oU (v:=(pz bE)) rfl (.tmp rfl rfl)) ?_
   refine aZ ?_
   refine aK (oU (v:=(pz bE)) rfl (.tmp rfl rfl)) ?_
   refine au ?_
   refine As (zg [aa.v,(zi (IntKind.i64.wrap (aC.i+1))),(zi (IntKind.i64.wrap ((IntKind.i64.wrap (aC.h*6364136223846793005))+1442695040888963407)))]) ?_
   exact ze hF
 exact ze hF
def jb(aC:aN)(ed:Int):Option (Int×aN):=
 if (decide ((ed:Int)<=0))then (
   some (0,aC))
 else (
   if (decide ((ed:Int)<=256))then (
     (Ac aC).bind fun r1=>
     (Mg r1.1 ed).bind fun x4=>
     some (x4,(⟨aC.b,r1.2.i,r1.2.h⟩:aN)))
   else (
     (Ac aC).bind fun r6=>
     (Ac (⟨aC.b,r6.2.i,r6.2.h⟩:aN)).bind fun r9=>
     (Ac (⟨aC.b,r9.2.i,r9.2.h⟩:aN)).bind fun eZ=>
     (Ac (⟨aC.b,eZ.2.i,eZ.2.h⟩:aN)).bind fun eT=>
     (Mg (IntKind.i64.wrap ((IntKind.i64.wrap ((IntKind.i64.wrap ((IntKind.i64.wrap (r6.1*16777216))+(IntKind.i64.wrap (r9.1*65536))))+(IntKind.i64.wrap (eZ.1*256))))+eT.1)) ed).bind fun uA=>
     some (uA,(⟨aC.b,eT.2.i,eT.2.h⟩:aN))))
theorem kG{bE:Nat}{aC:aN}{aa:Sv}{ed:Int}{R:Int×aN}(hF:jb aC ed=some R):
   Fw.Spec Tryz.prog 64 [(pz bE),(zi ed)] [bq bE 101 (zg [aa.v,(zi aC.i),(zi aC.h)]),iZ aa aC.b] (fun _:Unit=>(zi R.1)) (fun _=>[bq bE 101 (zg [aa.v,(zi R.2.i),(zi R.2.h)])]):=by
 refine Se 37 Tryz.func64 [.tmp 4] ?_
 intro H0 F0
 unfold jb at hF
 refine fI ?_
 refine Ci hF (fun xI hF=>?_) (fun xI hF=>?_)
 · exact ze hF
 refine bG ?_
 refine Ci hF (fun kW hF=>?_) (fun kW hF=>?_)
 · refine aT ?_
   refine bnd hF fun r1 hx2 hF=>dW (Oc hx2) (fun p3=>?_)
   refine au ?_
   refine bnd hF fun x4 hx5 hF=>aK (ahZ (i:=r1.1) (j:=ed) (.tmp rfl rfl) (.tmp rfl rfl) hx5) ?_
   exact ze hF
 refine aZ ?_
 refine bnd hF fun r6 hx7 hF=>dW (Oc hx7) (fun p8=>?_)
 refine aL ?_
 refine bnd hF fun r9 gu hF=>dW (Oc gu) (fun jI=>?_)
 refine aL ?_
 refine bnd hF fun eZ jc hF=>dW (Oc jc) (fun pX=>?_)
 refine aL ?_
 refine bnd hF fun eT hx16 hF=>dW (Oc hx16) (fun sS=>?_)
 refine aiE ?_
 refine bnd hF fun uA kC hF=>aK (ahZ (i:=(IntKind.i64.wrap ((IntKind.i64.wrap ((IntKind.i64.wrap ((IntKind.i64.wrap (r6.1*16777216))+(IntKind.i64.wrap (r9.1*65536))))+(IntKind.i64.wrap (eZ.1*256))))+eT.1))) (j:=ed) (.tmp rfl rfl) (.tmp rfl rfl) kC) ?_
 exact ze hF
def vU(aC:aN)(ed:Int):Option (Bool×aN):=
 (jb aC ed).bind fun r1=>
 some (((r1.1:Int)==0),(⟨aC.b,r1.2.i,r1.2.h⟩:aN))
theorem zR{bE:Nat}{aC:aN}{aa:Sv}{ed:Int}{R:Bool×aN}(hF:vU aC ed=some R):
   Fw.Spec Tryz.prog 69 [(pz bE),(zi ed)] [bq bE 101 (zg [aa.v,(zi aC.i),(zi aC.h)]),iZ aa aC.b] (fun _:Unit=>(.bool R.1)) (fun _=>[bq bE 101 (zg [aa.v,(zi R.2.i),(zi R.2.h)])]):=by
 refine Se 9 Tryz.func69 [.tmp 4] ?_
 intro H0 F0
 unfold vU at hF
 refine bG ?_
 refine bnd hF fun r1 hx2 hF=>dW (kG hx2) (fun p3=>?_)
 exact ze hF
def Gd(aC:aN):Nat->Int->Int->(List Int)->Int->Option ((List Int)×aN)
 |0,_,_,_,_=>none
 |Jt+1,qw,c40,vC,vD=>if (decide ((0:Int)<vD))then (
     ((jb (⟨aC.b,qw,c40⟩:aN) 2).bind fun Ck=>
       (vU (⟨aC.b,Ck.2.i,Ck.2.h⟩:aN) 4).bind fun sU=>
       if sU.1 then (
         (app vC ([3]:List Int)).bind fun z62=>
         some (sU.2.i,sU.2.h,z62))
       else (
         (app vC ([(IntKind.i64.wrap (1+Ck.1))]:List Int)).bind fun z66=>
         some (sU.2.i,sU.2.h,z66))).bind fun o53=>
     match o53 with
     |(c70,lZ,c72)=>Gd aC Jt c70 lZ c72 (IntKind.i64.wrap (vD-1)))
   else (
     some (vC,(⟨aC.b,qw,c40⟩:aN)))
def Oy(aC:aN):Option ((List Int)×aN):=
 (jb aC 3).bind fun r2=>
 Gd aC (((IntKind.i64.wrap (1+r2.1))-0).toNat+2) r2.2.i r2.2.h ([]:List Int) (IntKind.i64.wrap (1+r2.1))
theorem aeH{bE:Nat}{aC:aN}{aa:Sv}{R:(List Int)×aN}(hF:Oy aC=some R):
   Fw.Spec Tryz.prog 122 [(pz bE)] [bq bE 101 (zg [aa.v,(zi aC.i),(zi aC.h)]),iZ aa aC.b] (fun p:Sv×List Nat=>p.1.v) (fun p=>[bv p.2 p.1 R.1,bq bE 101 (zg [aa.v,(zi R.2.i),(zi R.2.h)])]):=by
 refine Se 24 Tryz.func122 [.tmp 2] ?_
 intro H0 F0
 unfold Oy at hF
 refine aL ?_
 refine b_ rfl (bI (g:=true) bH.h bC.h .nil (vs:=[]) rfl rfl rfl (by simp)) (fun k1=>?_)
 refine dh (.cons .h .nil) (bK (Ro:=(aj ax)) (E:=3) (F:=[]) (xs:=([]:List Int)) bJ rfl rfl) ?_
 refine bf ?_
 refine bnd hF fun r2 hx3 hF=>dW (kG hx3) (fun p4=>?_)
 refine aZ ?_
 refine bn (bU (m:=(((IntKind.i64.wrap (1+r2.1))-0).toNat+2)) (fun Jt f' cs'=>∃(g:Fr)(qw c40:Int)(vC:List Int)(vD:Int)(v42:Sv)(F43:List Nat),f'=aR g [(0,(pz bE)),(3,v42.v),(4,(zi vD))]/\aP cs' [bq bE 101 (zg [aa.v,(zi qw),(zi c40)]),iZ aa aC.b,bv F43 v42 vC]/\Gd aC Jt qw c40 vC vD=some R) ⟨_,_,_,_,_,⟨(some ⟨k1,0,none⟩),0,1⟩,(k1::[]),aB,aA,hF⟩ ?_)
 rintro Jt _ _ ⟨g46,qw,c40,vC,vD,v42,F43,rfl,hE,hF⟩
 refine bM hE ?_
 rcases Jt with _|Jt
 · rw[Gd]at hF
   exact absurd hF (by simp)
 rw[Gd]at hF
 refine bf ?_
 refine Ci hF (fun ax9 hF=>?_) (fun ax9 hF=>?_)
 · refine au ?_
   obtain⟨o53,aug,ax_⟩:=bind_some hF
   refine gN (fun f' cs'=>∃(c70 lZ:Int)(c72:List Int)(v73:Sv)(F74:List Nat)(g:Fr),o53=(c70,lZ,c72)/\f'=aR g [(0,(pz bE)),(3,v73.v),(4,(zi vD))]/\aP cs' [bq bE 101 (zg [aa.v,(zi c70),(zi lZ)]),iZ aa aC.b,bv F74 v73 c72]) ?_ ?_
   · replace hF:=aug
     refine bn (cB (Cm (pz bE) rfl rfl ?_))
     refine bnd hF fun Ck QM hF=>dW (kG QM) (fun p57=>?_)
     refine bG ?_
     refine bnd hF fun sU xJ hF=>dW (zR xJ) (fun p60=>?_)
     refine au ?_
     refine Ci hF (fun QN hF=>?_) (fun QN hF=>?_)
     · refine bG ?_
       refine b_ rfl (bI (g:=true) bH.h bC.h bz (vs:=[(zi 3)]) rfl rfl rfl (by intro v hv; simp at hv; rcases hv with rfl<;>rfl)) (fun k61=>?_)
       refine dh (.cons .h .nil) (bK (Ro:=(aj ax)) (E:=3) (F:=([]++[])) (xs:=([3]:List Int)) (bS (dK (fun _=>rfl)) bJ bB) rfl rfl) ?_
       refine bnd hF fun z62 BA hF=>dC (.cons .q3 (.cons .h .nil)) (dL (Ro:=(aj ax)) bH.h gL bC.h rfl rfl rfl (.tmp rfl rfl) (.tmp rfl rfl) BA eX) (fun p64=>?_)
       refine aT ?_
       cases hF
       exact⟨_,_,_,p64.1,p64.2,_,rfl,aB,aA⟩
     refine aL ?_
     refine b_ rfl (bI (g:=true) bH.h bC.h bz (vs:=[(zi (IntKind.i64.wrap (1+Ck.1)))]) rfl rfl rfl (by intro v hv; simp at hv; rcases hv with rfl<;>rfl)) (fun XJ=>?_)
     refine dh (.cons .h .nil) (bK (Ro:=(aj ax)) (E:=3) (F:=([]++[])) (xs:=([(IntKind.i64.wrap (1+Ck.1))]:List Int)) (bS (dK (fun _=>rfl)) bJ bB) rfl rfl) ?_
     refine bnd hF fun z66 abB hF=>dC (.cons .q3 (.cons .h .nil)) (dL (Ro:=(aj ax)) bH.h gL bC.h rfl rfl rfl (.tmp rfl rfl) (.tmp rfl rfl) abB eX) (fun p68=>?_)
     refine aT ?_
     cases hF
     exact⟨_,_,_,p68.1,p68.2,_,rfl,aB,aA⟩
   rintro _ _ ⟨c70,lZ,c72,v73,F74,g75,rfl,rfl,hE⟩
   replace hF:=ax_
   try dsimp only at hF
   refine bM hE ?_
   refine bf ?_
   exact⟨Jt,bY _,_,_,_,_,_,v73,F74,aB,aA,hF⟩
 refine eU ?_
 cases hF
 exact Er (v42,F43)
def l_(aC:aN)(PW:List Int):Option (Int×aN):=
 (jb aC (PW.length:Int)).bind fun r1=>
 (ix PW r1.1).bind fun x4=>
 some (x4,(⟨aC.b,r1.2.i,r1.2.h⟩:aN))
theorem tT{bE:Nat}{aC:aN}{aa:Sv}{PW:List Int}{ak:Sv}{R:Int×aN}(hF:l_ aC PW=some R):
   Fw.Spec Tryz.prog 129 [(pz bE),ak.v] [bq bE 101 (zg [aa.v,(zi aC.i),(zi aC.h)]),iZ aa aC.b,ah ak PW] (fun _:Unit=>(zi R.1)) (fun _=>[bq bE 101 (zg [aa.v,(zi R.2.i),(zi R.2.h)])]):=by
 refine Se 12 Tryz.func129 [.tmp 4] ?_
 intro H0 F0
 unfold l_ at hF
 refine fI ?_
 refine bnd hF fun r1 hx2 hF=>dW (kG hx2) (fun p3=>?_)
 refine zI hF fun x4 hp6 hx7 hF=>?_
 refine Ai hx7 (fun k8 j9=>?_)
 refine Al dN ?_
 exact ze hF
def Gf(aC:aN)(ae:List Int)(r2:Int×aN)(r6:Int×aN)(r9:Int×aN)(eZ:Int×aN):Nat->Int->Int->(List Int)->Int->Option (Method×aN)
 |0,_,_,_,_=>none
 |sV+1,c46,Ju,sW,c51=>(ix ae r2.1).bind fun uB=>
   if (decide ((c51:Int)<uB))then (
     ((vU ({b:=aC.b,i:=c46,h:=Ju}:aN) 3).bind fun Jv=>
       if Jv.1 then (
         (app sW ([c51]:List Int)).bind fun z72=>
         some (Jv.2.i,Jv.2.h,z72))
       else (
         some (Jv.2.i,Jv.2.h,sW))).bind fun o66=>
     match o66 with
     |(c76,SC,yf)=>Gf aC ae r2 r6 r9 eZ sV c76 SC yf (IntKind.i64.wrap (c51+1)))
   else (
     some (({Rel:=r2.1,Inputs:=sW,Limit:=r6.1,Cost:=r9.1,Quota:=(IntKind.i64.wrap (1+eZ.1))}:Method),({b:=aC.b,i:=c46,h:=Ju}:aN)))
def Oz(fuel:Nat)(aC:aN)(ae:List Int):Option (Method×aN):=
 (jb aC (ae.length:Int)).bind fun r2=>
 (l_ ({b:=aC.b,i:=r2.2.i,h:=r2.2.h}:aN) ([0,0,0,1,2]:List Int)).bind fun r6=>
 (jb ({b:=aC.b,i:=r6.2.i,h:=r6.2.h}:aN) 5).bind fun r9=>
 (jb ({b:=aC.b,i:=r9.2.i,h:=r9.2.h}:aN) 6).bind fun eZ=>
 Gf aC ae r2 r6 r9 eZ fuel eZ.2.i eZ.2.h ([]:List Int) 0
theorem aeI{fuel bE:Nat}{aC:aN}{aa:Sv}{ae:List Int}{ak:Sv}{R:Method×aN}(hF:Oz fuel aC ae=some R):
   Fw.Spec Tryz.prog 182 [(.pointer (some ⟨bE,0,some 0⟩)),ak.v] [bq bE 101 (.agg [aa.v,(.int .i64 aC.i),(.int .i64 aC.h)].toArray),bT (aW 5 xD) aa.v aC.b,bT (aW 3 ax) ak.v ae] (fun p:Sv×List Nat=>(.agg [(.int .i64 R.1.Rel),p.1.v,(.int .i64 R.1.Limit),(.int .i64 R.1.Cost),(.int .i64 R.1.Quota)].toArray)) (fun p=>[aJ (az 3 (aj ax)) p.2 p.1.v R.1.Inputs,bq bE 101 (.agg [aa.v,(.int .i64 R.2.i),(.int .i64 R.2.h)].toArray)]):=by
 refine zV (n:=38) Tryz.func182 rfl rfl (rs:=[.cell 4 92]) rfl rfl rfl ?_
 intro H0 F0
 unfold Oz at hF
 refine cB (b_ rfl (ru (g:=true) kV.h rfl rfl) (fun k1=>?_))
 refine dS (cB (Cm (.pointer (some ⟨bE,0,some 0⟩)) rfl rfl ?_))
 refine Cm ak.v rfl rfl ?_
 refine iH (.t (.t (.t .h))) (fun hp=>qD (l:=ae.length) bH.h (.tmp rfl rfl) (Vh hp)) ?_
 obtain⟨r2,hx3,hF⟩:=bind_some hF
 refine dC (.cons (.t .h) (.rd (.t .h) rfl .nil)) (bP Bv.h (.cons (.tmp rfl rfl) (.cons (.tmp rfl rfl) .nil)) (@kG bE aC aa (ae.length:Int) _ hx3)) (fun p4=>?_)
 refine Cm (.pointer (some ⟨bE,0,some 0⟩)) rfl rfl ?_
 refine b_ rfl (bI (g:=true) bH.h bC.h (.cons (.int _ _) (.cons (.int _ _) (.cons (.int _ _) (.cons (.int _ _) (.cons (.int _ _) .nil))))) (vs:=[(.int .i64 0),(.int .i64 0),(.int .i64 0),(.int .i64 1),(.int .i64 2)]) rfl rfl rfl (by intro v hv; simp at hv; rcases hv with rfl|rfl|rfl|rfl|rfl<;>rfl)) (fun k5=>?_)
 refine Ee (.cons .h .nil) (bK (Ro:=(aj ax)) (E:=3) (F:=([]++([]++([]++([]++([]++[])))))) (xs:=([0,0,0,1,2]:List Int)) (bS (dK (fun _=>rfl)) (bS (dK (fun _=>rfl)) (bS (dK (fun _=>rfl)) (bS (dK (fun _=>rfl)) (bS (dK (fun _=>rfl)) bJ bB) bB) bB) bB) bB) rfl rfl) bB ?_
 obtain⟨r6,hx7,hF⟩:=bind_some hF
 refine jM (.cons .h (.cons .h (.rd (.t .h) rfl .nil))) (eY bi (fun _=>(.cons .nil)) (fM (.cons (.t .h) (.rd (.t .h) rfl (.rd .h rfl .nil))) (bP uf.h (.cons (.tmp rfl rfl) (.cons (.tmp rfl rfl) .nil)) (@tT bE ({b:=aC.b,i:=r2.2.i,h:=r2.2.h}:aN) aa ([0,0,0,1,2]:List Int) (⟨(some ⟨k5,0,none⟩),5,1⟩) _ hx7)))) (fun p8=>?_)
 refine Cm (.pointer (some ⟨bE,0,some 0⟩)) rfl rfl ?_
 obtain⟨r9,gu,hF⟩:=bind_some hF
 refine dC (.cons (.t .h) (.rd (.t (.t .h)) rfl .nil)) (bP Bv.h (.cons (.tmp rfl rfl) (.cons (.int _ _) .nil)) (@kG bE ({b:=aC.b,i:=r6.2.i,h:=r6.2.h}:aN) aa 5 _ gu)) (fun jI=>?_)
 refine Cm (.pointer (some ⟨bE,0,some 0⟩)) rfl rfl ?_
 obtain⟨eZ,jc,hF⟩:=bind_some hF
 refine dC (.cons .h (.rd (.t (.t .h)) rfl .nil)) (bP Bv.h (.cons (.tmp rfl rfl) (.cons (.int _ _) .nil)) (@kG bE ({b:=aC.b,i:=r9.2.i,h:=r9.2.h}:aN) aa 6 _ jc)) (fun pX=>?_)
 refine aK (kL (i:=1) (j:=eZ.1) (.int _ _) (.tmp rfl rfl)) ?_
 refine aK (gH kV.h rfl (vs:=[(.int .i64 r2.1),(.int .i64 r6.1),(.int .i64 r9.1),(.int .i64 (IntKind.i64.wrap (1+eZ.1)))]) (.cons (.tmp rfl rfl) (.cons (.tmp rfl rfl) (.cons (.tmp rfl rfl) (.cons (.tmp rfl rfl) .nil)))) (cells:=[(.int .i64 r2.1),(.slice none 0 0),(.int .i64 r6.1),(.int .i64 r9.1),(.int .i64 (IntKind.i64.wrap (1+eZ.1)))]) rfl) ?_
 refine b_ rfl (ru (g:=true) kV.h rfl rfl) (fun k15=>?_)
 refine dC (.cons .h .nil) (fA (e':=(.agg [(.int .i64 r2.1),(.slice none 0 0),(.int .i64 r6.1),(.int .i64 r9.1),(.int .i64 (IntKind.i64.wrap (1+eZ.1)))].toArray)) (v:=(.agg [(.int .i64 r2.1),(.slice none 0 0),(.int .i64 r6.1),(.int .i64 r9.1),(.int .i64 (IntKind.i64.wrap (1+eZ.1)))].toArray)) kV.h.sz (.tmp rfl rfl) (.tmp rfl rfl) rfl rfl rfl rfl rfl) (fun _=>?_)
 refine dS (j6 (cB (aK (iG (v:=(.int .i64 0)) (.int _ _)) ?_)))
 refine dS (bn (bU (m:=fuel) (fun sV f' cs'=>∃(g:Fr)(c46:Int)(Ju:Int)(sW:List Int)(c51:Int)(v49:Sv)(XK:List Nat),f'=aR g [(0,(.pointer (some ⟨bE,0,some 0⟩))),(1,ak.v),(4,(.pointer (some ⟨k1,0,some 0⟩))),(5,(.pointer (some ⟨k15,0,some 0⟩))),(6,(.int .i64 c51))]/\aP cs' [bq bE 101 (.agg [aa.v,(.int .i64 c46),(.int .i64 Ju)].toArray),bT (aW 5 xD) aa.v aC.b,bT (aW 3 ax) ak.v ae,bq k1 92 (.agg [(.int .i64 0),(.slice none 0 0),(.int .i64 0),(.int .i64 0),(.int .i64 0)].toArray),bq k15 92 (.agg [(.int .i64 r2.1),v49.v,(.int .i64 r6.1),(.int .i64 r9.1),(.int .i64 (IntKind.i64.wrap (1+eZ.1)))].toArray),aJ (az 3 (aj ax)) XK v49.v sW]/\Gf aC ae r2 r6 r9 eZ sV c46 Ju sW c51=some R) ⟨_,_,_,_,_,⟨none,0,0⟩,[],(cZ.cons rfl (cZ.cons rfl (cZ.cons rfl (cZ.cons rfl (cZ.cons rfl (cZ.nil)))))).eq,(.conv .nil (fu (Ro:=(aj ax)) (E:=3)) (.cons .nil) (.sel (.cons (.t (.t .h)) (.rd (.t (.t (.t (.t .h)))) rfl (.rd (.t (.t (.t (.t (.t .h))))) rfl (.cons (.t (.t (.t .h))) (.cons (.t .h) (.cons .h .nil)))))))),hF⟩ ?_))
 clear hF
 rintro sV _ _ ⟨g53,c46,Ju,sW,c51,v49,XK,rfl,hE,hF⟩
 refine bM hE ?_
 clear hE
 rcases sV with _|sV
 · rw[Gf]at hF
   exact absurd hF (by simp)
 rw[Gf]at hF
 refine j6 (cB (Cm (.int .i64 c51) rfl rfl ?_))
 refine Cm ak.v rfl rfl ?_
 refine aK (nH (off:=0) arK.h (.tmp rfl rfl)) ?_
 refine iH (.t (.t (.t (.t .h)))) (fun hp=>fZ (v:=(.int .i64 r2.1)) oI.h (.tmp rfl rfl) hp.2 rfl rfl) ?_
 obtain⟨uB,wz,hF⟩:=bind_some hF
 obtain⟨ajM,BA⟩:=qf wz
 refine rF (a:=uB) bH.h bC.h.sz (.tmp rfl rfl) (.tmp rfl rfl) (.t (.t .h)) ajM BA (fun k64 j65=>?_)
 refine aaF (w:=(.int .i64 uB)) oI.h (.tmp rfl rfl) .h dN ?_
 refine aK (yP (i:=c51) (j:=uB) (.tmp rfl rfl) (.tmp rfl rfl)) ?_
 refine dS (kQ (b:=(decide ((c51:Int)<uB))) (.tmp rfl rfl) (fun QO=>?_) (fun QO=>?_))
 · rw[if_pos QO]at hF
   refine qd ?_
   obtain⟨o66,auh,ajN⟩:=bind_some hF
   refine gN (fun f' cs'=>∃(c76:Int)(SC:Int)(yf:List Int)(v79:Sv)(F80:List Nat)(g:Fr),o66=(c76,SC,yf)/\f'=aR g [(0,(.pointer (some ⟨bE,0,some 0⟩))),(1,ak.v),(4,(.pointer (some ⟨k1,0,some 0⟩))),(5,(.pointer (some ⟨k15,0,some 0⟩))),(6,(.int .i64 c51))]/\aP cs' [bq bE 101 (.agg [aa.v,(.int .i64 c76),(.int .i64 SC)].toArray),bT (aW 5 xD) aa.v aC.b,bT (aW 3 ax) ak.v ae,bq k1 92 (.agg [(.int .i64 0),(.slice none 0 0),(.int .i64 0),(.int .i64 0),(.int .i64 0)].toArray),bq k15 92 (.agg [(.int .i64 r2.1),v79.v,(.int .i64 r6.1),(.int .i64 r9.1),(.int .i64 (IntKind.i64.wrap (1+eZ.1)))].toArray),aJ (az 3 (aj ax)) F80 v79.v yf]) ?_ ?_
   · replace hF:=auh
     refine bn (cB (Cm (.pointer (some ⟨bE,0,some 0⟩)) rfl rfl ?_))
     obtain⟨Jv,abC,hF⟩:=bind_some hF
     refine dC (.cons (.t .h) (.rd (.t .h) rfl .nil)) (bP axt.h (.cons (.tmp rfl rfl) (.cons (.int _ _) .nil)) (@zR bE ({b:=aC.b,i:=c46,h:=Ju}:aN) aa 3 _ abC)) (fun p70=>?_)
     refine dS (kQ (b:=Jv.1) (.tmp rfl rfl) (fun abD=>?_) (fun abD=>?_))
     · rw[if_pos abD]at hF
       refine qY (aK (nH (off:=1) ah5.h (.tmp rfl rfl)) ?_)
       refine iH (.t (.t (.t (.t (.t .h))))) (fun hp=>fZ (v:=v49.v) fT.h (.tmp rfl rfl) hp.2 rfl rfl) ?_
       refine Cm (.int .i64 c51) rfl rfl ?_
       refine b_ rfl (bI (g:=true) bH.h bC.h (.cons (.tmp rfl rfl) .nil) (vs:=[(.int .i64 c51)]) rfl rfl rfl (by intro v hv; simp at hv; rcases hv with rfl<;>rfl)) (fun k71=>?_)
       refine Ee (.cons .h .nil) (bK (Ro:=(aj ax)) (E:=3) (F:=([]++[])) (xs:=([c51]:List Int)) (bS (dK (fun _=>rfl)) bJ bB) rfl rfl) bB ?_
       obtain⟨z72,ax',hF⟩:=bind_some hF
       refine dC (.cons (.t (.t (.t (.t (.t (.t (.t .h))))))) (.cons .h .nil)) (dL (Ro:=(aj ax)) bH.h gL bC.h rfl rfl rfl (.tmp rfl rfl) (.tmp rfl rfl) ax' eX) (fun p74=>?_)
       refine aK (nH (off:=1) ah5.h (.tmp rfl rfl)) ?_
       refine dC (.cons (.t (.t (.t (.t (.t (.t .h)))))) .nil) (fA (e':=(.agg [(.int .i64 r2.1),p74.1.v,(.int .i64 r6.1),(.int .i64 r9.1),(.int .i64 (IntKind.i64.wrap (1+eZ.1)))].toArray)) fB.h.sz (.tmp rfl rfl) (.tmp rfl rfl) rfl rfl rfl rfl rfl) (fun _=>?_)
       refine dS ?_
       obtain rfl:=Option.some.inj hF
       exact⟨_,_,_,p74.1,p74.2,_,rfl,(cZ.cons rfl (cZ.cons rfl (cZ.cons rfl (cZ.cons rfl (cZ.cons rfl (cZ.nil)))))).eq,(.sel (.cons (.t (.t .h)) (.rd (.t (.t (.t .h))) rfl (.rd (.t (.t (.t (.t .h)))) rfl (.cons (.t (.t (.t (.t (.t .h))))) (.cons .h (.cons .h .nil)))))))⟩
     rw[if_neg (by rw[abD]; exact Bool.false_ne_true)]at hF
     refine qd ?_
     obtain rfl:=Option.some.inj hF
     exact⟨_,_,_,v49,XK,_,rfl,(cZ.cons rfl (cZ.cons rfl (cZ.cons rfl (cZ.cons rfl (cZ.cons rfl (cZ.nil)))))).eq,(.sel (.cons .h (.rd (.t .h) rfl (.rd (.t (.t .h)) rfl (.cons (.t (.t (.t .h))) (.cons (.t (.t (.t .h))) (.cons (.t (.t (.t .h))) .nil)))))))⟩
   rintro _ _ ⟨c76,SC,yf,v79,F80,g81,rfl,rfl,hE⟩
   replace hF:=ajN
   clear ajN
   try dsimp only at hF
   refine bM hE ?_
   refine qY (Cm (.int .i64 c51) rfl rfl ?_)
   refine aK (kL (i:=c51) (j:=1) (.tmp rfl rfl) (.int _ _)) ?_
   refine Ca (.int .i64 (IntKind.i64.wrap (c51+1))) rfl rfl ?_
   refine dS ?_
   exact⟨sV,Nat.lt_succ_self _,_,_,_,_,_,v79,F80,(cZ.cons rfl (cZ.cons rfl (cZ.cons rfl (cZ.cons rfl (cZ.cons rfl (cZ.nil)))))).eq,(.sel (.cons .h (.rd .h rfl (.rd (.t .h) rfl (.cons (.t (.t .h)) (.cons (.t (.t .h)) (.cons (.t (.t .h)) .nil))))))),hF⟩
 rw[if_neg (by rw[QO]; exact Bool.false_ne_true)]at hF
 refine H9 ?_
 iterate 2 refine zU ?_
 refine Hz (cB (iH (.t (.t (.t (.t (.t .h))))) (fun hp=>gM IG.h kV.h.sz rfl (.tmp rfl rfl) hp.2 rfl) ?_))
 refine dC (.cons (.t (.t (.t (.t .h)))) .nil) (fA (e':=(.agg [(.int .i64 r2.1),v49.v,(.int .i64 r6.1),(.int .i64 r9.1),(.int .i64 (IntKind.i64.wrap (1+eZ.1)))].toArray)) (v:=(.agg [(.int .i64 r2.1),v49.v,(.int .i64 r6.1),(.int .i64 r9.1),(.int .i64 (IntKind.i64.wrap (1+eZ.1)))].toArray)) kV.h.sz (.tmp rfl rfl) (.tmp rfl rfl) rfl rfl rfl rfl rfl) (fun _=>?_)
 refine dS (tY ?_)
 obtain rfl:=Option.some.inj hF
 exact eO (v49,XK) (.cellA rfl rfl .h rfl IG.h kV.h.sz rfl rfl .nil) rfl (.sel (.cons (.t (.t (.t (.t (.t (.t .h)))))) (.cons (.t (.t .h)) .nil)))
def FU(aC:aN)(ae:List Int)(fuel:Nat):Nat->Int->Int->(List Method)->Int->Option ((List Method)×aN)
 |0,_,_,_,_=>none
 |zn+1,vE,wQ,nD,ko=>if (decide ((0:Int)<ko))then (
     (Oz fuel (⟨aC.b,vE,wQ⟩:aN) ae).bind fun jR=>
     (app nD ([jR.1]:List Method)).bind fun z44=>
     FU aC ae fuel zn jR.2.i jR.2.h z44 (IntKind.i64.wrap (ko-1)))
   else (
     some (nD,(⟨aC.b,vE,wQ⟩:aN)))
def UF(fuel:Nat)(aC:aN)(ae:List Int):Option ((List Method)×aN):=
 (jb aC 4).bind fun r2=>
 FU aC ae fuel (((IntKind.i64.wrap (1+r2.1))-0).toNat+2) r2.2.i r2.2.h ([]:List Method) (IntKind.i64.wrap (1+r2.1))
theorem anj{fuel bE:Nat}{aC:aN}{aa:Sv}{ae:List Int}{ak:Sv}{R:(List Method)×aN}(hF:UF fuel aC ae=some R):
   Fw.Spec Tryz.prog 123 [(pz bE),ak.v] [bq bE 101 (zg [aa.v,(zi aC.i),(zi aC.h)]),iZ aa aC.b,ah ak ae] (fun p:Sv×List Nat=>p.1.v) (fun p=>[Et p.2 p.1 R.1,bq bE 101 (zg [aa.v,(zi R.2.i),(zi R.2.h)])]):=by
 refine Se 24 Tryz.func123 [.tmp 4] ?_
 intro H0 F0
 unfold UF at hF
 refine aL ?_
 refine b_ rfl (bI (g:=true) sD.h kV.h .nil (vs:=[]) rfl rfl rfl (by simp)) (fun k1=>?_)
 refine dh (.cons .h .nil) (bK (Ro:=wu) (E:=92) (F:=[]) (xs:=([]:List Method)) bJ rfl rfl) ?_
 refine bf ?_
 refine bnd hF fun r2 hx3 hF=>dW (kG hx3) (fun p4=>?_)
 refine aZ ?_
 refine bn (bU (m:=(((IntKind.i64.wrap (1+r2.1))-0).toNat+2)) (fun zn f' cs'=>∃(g:Fr)(vE wQ:Int)(nD:List Method)(ko:Int)(v28:Sv)(Cn:List Nat),f'=aR g [(0,(pz bE)),(1,ak.v),(5,v28.v),(6,(zi ko))]/\aP cs' [bq bE 101 (zg [aa.v,(zi vE),(zi wQ)]),iZ aa aC.b,ah ak ae,Et Cn v28 nD]/\FU aC ae fuel zn vE wQ nD ko=some R) ⟨_,_,_,_,_,⟨(some ⟨k1,0,none⟩),0,1⟩,(k1::[]),aB,aA,hF⟩ ?_)
 rintro zn _ _ ⟨g32,vE,wQ,nD,ko,v28,Cn,rfl,hE,hF⟩
 refine bM hE ?_
 rcases zn with _|zn
 · rw[FU]at hF
   exact absurd hF (by simp)
 rw[FU]at hF
 refine bf ?_
 refine Ci hF (fun QP hF=>?_) (fun QP hF=>?_)
 · refine bf ?_
   refine bnd hF fun jR sH hF=>mV (aeI sH) (fun p41=>?_)
   refine cO (fun k42=>?_)
   refine As (zg [(zi jR.1.Rel),p41.1.v,(zi jR.1.Limit),(zi jR.1.Cost),(zi jR.1.Quota)]) ?_
   refine aL ?_
   refine b_ rfl (bI (g:=true) sD.h kV.h bz (vs:=[(zg [(zi jR.1.Rel),p41.1.v,(zi jR.1.Limit),(zi jR.1.Cost),(zi jR.1.Quota)])]) rfl rfl rfl (by intro v hv; simp at hv; rcases hv with rfl<;>rfl)) (fun k43=>?_)
   refine dh (.cons .h (.cons (.t .h) .nil)) (bK (Ro:=wu) (E:=92) (F:=(p41.2++[])) (xs:=([jR.1]:List Method)) (bS ajo bJ bB) rfl rfl) ?_
   refine bnd hF fun z44 uj hF=>dC (.cons .q5 (.cons .h .nil)) (dL (Ro:=wu) sD.h QH kV.h rfl rfl rfl (.tmp rfl rfl) (.tmp rfl rfl) uj eX) (fun p46=>?_)
   refine bQ ?_
   exact⟨zn,bY _,_,_,_,_,_,p46.1,p46.2,aB,aA,hF⟩
 refine eU ?_
 cases hF
 exact Er (v28,Cn)
def mK(dI:Int)(uU:Int)(xx:Int):Option (Bool):=
 some ((decide ((uU:Int)<=dI))&&(decide ((dI:Int)<=xx)))
theorem qc{dI uU xx:Int}{R:Bool}(hF:mK dI uU xx=some R):
   Fw.Spec Tryz.prog 61 [(zi dI),(zi uU),(zi xx)] [] (fun _:Unit=>(.bool R)) (fun _=>[]):=by
 refine Se 15 Tryz.func61 [.tmp 6] ?_
 intro H0 F0
 unfold mK at hF
 refine aL ?_
 refine gB (fun f' cs'=>∃(g:Fr),f'=aR g [(6,(.bool ((decide ((uU:Int)<=dI))&&(decide ((dI:Int)<=xx)))))]/\aP cs' []) ?_ ?_
 · refine aL ?_
   rcases df (decide ((uU:Int)<=dI))with hg1|hg1
   · rw[hg1]
     try rw[hg1]at hF; dsimp only[aY,aX]at hF
     refine eU ?_
     exact⟨_,aB,aA⟩
   rw[hg1]
   try rw[hg1]at hF; dsimp only[aY,aX]at hF
   refine bG ?_
   exact⟨_,aB,aA⟩
 rintro _ _ ⟨g2,rfl,hE⟩
 refine bM hE ?_
 exact ze hF
def Af(dY:Int):Option (Bool):=
 (mK dY 10 17).bind fun r1=>
 some r1
theorem KZ{dY:Int}{R:Bool}(hF:Af dY=some R):
   Fw.Spec Tryz.prog 113 [(zi dY)] [] (fun _:Unit=>(.bool R)) (fun _=>[]):=by
 refine Se 5 Tryz.func113 [.tmp 2] ?_
 intro H0 F0
 unfold Af at hF
 refine bf ?_
 refine bnd hF fun r1 hx2 hF=>bR (qc hx2) (fun _=>?_)
 exact ze hF
def K3(dI:Int):List Int->Nat->Option (Bool)
 |[],k4=>some false
 |x6::aG,k4=>if ((x6:Int)==dI)then (
     some true)
   else (
     K3 dI aG (k4+1))
def Ag(ag:List Int)(dI:Int):Option (Bool):=
 K3 dI ag 0
theorem OA{ag:List Int}{aa:Sv}{dI:Int}{R:Bool}(hF:Ag ag dI=some R):
   Fw.Spec Tryz.prog 60 [aa.v,(zi dI)] [ah aa ag] (fun _:Unit=>(.bool R)) (fun _=>[]):=by
 refine Se 18 Tryz.func60 [.tmp 4] ?_
 intro H0 F0
 unfold Ag at hF
 refine bQ ?_
 refine bn (bU (m:=ag.length) (fun m2 f' cs'=>∃(g:Fr)(k4:Nat)(aG:List Int),m2=aG.length/\f'=aR g [(0,aa.v),(1,(zi dI)),(5,(zi (k4:Int)))]/\List.drop k4 ag=aG/\aP cs' [ah aa ag]/\K3 dI aG k4=some R) ⟨_,0,_,rfl,aB,rfl,aA,hF⟩ ?_)
 rintro m2 _ _ ⟨g3,k4,aG,rfl,rfl,hd7,hE,hF⟩
 refine Kb hE ag (fun jL=>?_)
 rcases aG with _|⟨x6,aG⟩
 · have fG:=dn hd7
   rw[K3]at hF
   refine bQ ?_
   refine dE ?_
   exact ze hF
 obtain⟨fG,dm,fF⟩:=dA hd7
 rw[K3]at hF
 refine bQ ?_
 refine dD ?_
 refine bf ?_
 refine Ai dm (fun k13 lc=>?_)
 refine Al dN ?_
 refine aZ ?_
 refine Ci hF (fun QQ hF=>?_) (fun QQ hF=>?_)
 · exact ze hF
 refine bG ?_
 rw[wk k4]
 exact⟨_,bY _,_,k4+1,aG,rfl,aB,fF,aA,hF⟩
def G7(ag:List Int)(dI:Int):Nat->(List Int)->Bool->Int->Option ((List Int))
 |0,_,_,_=>none
 |m10+1,c5,c8,c9=>if (decide ((c9:Int)<(ag.length:Int)))then (
     ((bif (!c8)then ((ix ag c9).bind fun Jw=>
           some (decide ((dI:Int)<Jw)))
         else (some false)).bind fun Jy=>
       match Jy with
       |ko=>if ko then (
           (app c5 ([dI]:List Int)).bind fun z32=>
           (ix ag c9).bind fun x38=>
           (app z32 ([x38]:List Int)).bind fun z43=>
           some (z43,true))
         else (
           (ix ag c9).bind fun SE=>
           (app c5 ([SE]:List Int)).bind fun z54=>
           some (z54,c8))).bind fun iD=>
     match iD with
     |(c59,jh)=>G7 ag dI m10 c59 jh (IntKind.i64.wrap (c9+1)))
   else (
     if (!c8)then (
       (app c5 ([dI]:List Int)).bind fun z65=>
       some z65)
     else (
       some c5))
def Ah(ag:List Int)(dI:Int):Option ((List Int)):=
 (Ag ag dI).bind fun r1=>
 if r1 then (
   some ag)
 else (
   G7 ag dI (((ag.length:Int)-0).toNat+2) ([]:List Int) false 0)
theorem OB{ag:List Int}{aa:Sv}{lF:List Nat}{dI:Int}{R:(List Int)}(hF:Ah ag dI=some R):
   Fw.Spec Tryz.prog 111 [aa.v,(zi dI)] [bv lF aa ag] (fun p:Sv×List Nat=>p.1.v) (fun p=>[bv p.2 p.1 R]):=by
 refine Se 47 Tryz.func111 [.tmp 4] ?_
 intro H0 F0
 unfold Ah at hF
 refine bQ ?_
 refine bnd hF fun r1 hx2 hF=>dC (.cons .h .nil) (eY bi (fun _=>.nil) (bP Wh.h bz (OA hx2))) (fun _=>?_)
 refine au ?_
 refine Ci hF (fun aya hF=>?_) (fun aya hF=>?_)
 · refine bf ?_
   cases hF
   exact Er (aa,lF)
 refine aT ?_
 refine b_ rfl (bI (g:=true) bH.h bC.h .nil (vs:=[]) rfl rfl rfl (by simp)) (fun k4=>?_)
 refine dh (.cons .h .nil) (bK (Ro:=(aj ax)) (E:=3) (F:=[]) (xs:=([]:List Int)) bJ rfl rfl) ?_
 refine eU ?_
 refine bn (bU (m:=(((ag.length:Int)-0).toNat+2)) (fun m10 f' cs'=>∃(g:Fr)(c5:List Int)(c8:Bool)(c9:Int)(v6:Sv)(F7:List Nat),f'=aR g [(0,aa.v),(1,(zi dI)),(5,v6.v),(6,(.bool c8)),(7,(zi c9))]/\aP cs' [bv lF aa ag,bv F7 v6 c5]/\G7 ag dI m10 c5 c8 c9=some R) ⟨_,_,_,_,⟨(some ⟨k4,0,none⟩),0,1⟩,(k4::[]),aB,aA,hF⟩ ?_)
 rintro m10 _ _ ⟨g11,c5,c8,c9,v6,F7,rfl,hE,hF⟩
 refine bM hE ?_
 rcases m10 with _|m10
 · rw[G7]at hF
   exact absurd hF (by simp)
 rw[G7]at hF
 refine bQ ?_
 refine Ci hF (fun QN hF=>?_) (fun QN hF=>?_)
 · refine au ?_
   obtain⟨iD,pg,pK⟩:=bind_some hF
   refine gN (fun f' cs'=>∃(c59:List Int)(jh:Bool)(v60:Sv)(sZ:List Nat)(g:Fr),iD=(c59,jh)/\f'=aR g [(0,aa.v),(1,(zi dI)),(5,v60.v),(6,(.bool jh)),(7,(zi c9))]/\aP cs' [bv lF aa ag,bv sZ v60 c59]) ?_ ?_
   · replace hF:=pg
     refine bn (j6 ?_)
     obtain⟨Jy,aaO,abE⟩:=bind_some hF
     refine au ?_
     refine gB (fun f' cs'=>∃(ko:Bool)(g:Fr),ko=Jy/\f'=aR g [(0,aa.v),(1,(zi dI)),(5,v6.v),(6,(.bool c8)),(7,(zi c9)),(28,(.bool ko))]/\aP cs' [bv lF aa ag,bv F7 v6 c5]) ?_ ?_
     · replace hF:=aaO
       refine aZ ?_
       rcases df (!c8)with QR|QR
       · rw[QR]
         try rw[QR]at hF; dsimp only[aY,aX]at hF
         refine bf ?_
         refine bnd hF fun Jw hx27 hF=>?_
         have ayb:=tZ hx27
         obtain⟨ayc,hx29⟩:=qf hx27
         refine rA bH.h bC.h.sz (.tmp rfl rfl) (.tmp rfl rfl) .h ayb (fun k23 abF=>?_)
         refine au ?_
         refine Ij (w:=(zi Jw)) oI.h (.tmp rfl rfl) .h abF hx29 Qa ?_
         exact cK hF
       rw[QR]
       try rw[QR]at hF; dsimp only[aY,aX]at hF
       exact cK hF
     rintro _ _ ⟨ko,g58,rfl,rfl,hE⟩
     replace hF:=abE
     try dsimp only at hF
     refine bM hE ?_
     refine Ci hF (fun QS hF=>?_) (fun QS hF=>?_)
     · refine aZ ?_
       refine b_ rfl (bI (g:=true) bH.h bC.h bz (vs:=[(zi dI)]) rfl rfl rfl (by intro v hv; simp at hv; rcases hv with rfl<;>rfl)) (fun SF=>?_)
       refine dh (.cons .h .nil) (bK (Ro:=(aj ax)) (E:=3) (F:=([]++[])) (xs:=([dI]:List Int)) (bS (dK (fun _=>rfl)) bJ bB) rfl rfl) ?_
       refine bnd hF fun z32 IJ hF=>dC (.cons .q2 (.cons .h .nil)) (dL (Ro:=(aj ax)) bH.h gL bC.h rfl rfl rfl (.tmp rfl rfl) (.tmp rfl rfl) IJ eX) (fun p34=>?_)
       refine eU ?_
       refine bnd hF fun x38 hx39 hF=>?_
       have ayd:=tZ hx39
       obtain⟨aDr,QT⟩:=qf hx39
       refine rA bH.h bC.h.sz (.tmp rfl rfl) (.tmp rfl rfl) (.t .h) ayd (fun lg abG=>?_)
       refine Ij (w:=(zi x38)) oI.h (.tmp rfl rfl) (.t .h) abG QT Qa ?_
       refine b_ rfl (bI (g:=true) bH.h bC.h bz (vs:=[(zi x38)]) rfl rfl rfl (by intro v hv; simp at hv; rcases hv with rfl<;>rfl)) (fun k42=>?_)
       refine dh (.cons .h .nil) (bK (Ro:=(aj ax)) (E:=3) (F:=([]++[])) (xs:=([x38]:List Int)) (bS (dK (fun _=>rfl)) bJ bB) rfl rfl) ?_
       refine bnd hF fun z43 IL hF=>dC (.cons (.t .h) (.cons .h .nil)) (dL (Ro:=(aj ax)) bH.h gL bC.h rfl rfl rfl (.tmp rfl rfl) (.tmp rfl rfl) IL eX) (fun p45=>?_)
       refine aT ?_
       cases hF
       exact⟨_,_,p45.1,p45.2,_,rfl,aB,aA⟩
     refine bf ?_
     refine bnd hF fun SE Wn hF=>?_
     have aye:=tZ Wn
     obtain⟨aDs,Mm⟩:=qf Wn
     refine rA bH.h bC.h.sz (.tmp rfl rfl) (.tmp rfl rfl) .h aye (fun vF ayf=>?_)
     refine Ij (w:=(zi SE)) oI.h (.tmp rfl rfl) .h ayf Mm Qa ?_
     refine b_ rfl (bI (g:=true) bH.h bC.h bz (vs:=[(zi SE)]) rfl rfl rfl (by intro v hv; simp at hv; rcases hv with rfl<;>rfl)) (fun SG=>?_)
     refine dh (.cons .h .nil) (bK (Ro:=(aj ax)) (E:=3) (F:=([]++[])) (xs:=([SE]:List Int)) (bS (dK (fun _=>rfl)) bJ bB) rfl rfl) ?_
     refine bnd hF fun z54 wB hF=>dC (.cons .q2 (.cons .h .nil)) (dL (Ro:=(aj ax)) bH.h gL bC.h rfl rfl rfl (.tmp rfl rfl) (.tmp rfl rfl) wB eX) (fun p56=>?_)
     refine aT ?_
     cases hF
     exact⟨_,_,p56.1,p56.2,_,rfl,aB,aA⟩
   rintro _ _ ⟨c59,jh,v60,sZ,g63,rfl,rfl,hE⟩
   replace hF:=pK
   try dsimp only at hF
   refine bM hE ?_
   refine bf ?_
   exact⟨m10,bY _,_,_,_,_,v60,sZ,aB,aA,hF⟩
 refine eU ?_
 refine Ci hF (fun ayg hF=>?_) (fun ayg hF=>?_)
 · refine aZ ?_
   refine b_ rfl (bI (g:=true) bH.h bC.h bz (vs:=[(zi dI)]) rfl rfl rfl (by intro v hv; simp at hv; rcases hv with rfl<;>rfl)) (fun k64=>?_)
   refine dh (.cons .h .nil) (bK (Ro:=(aj ax)) (E:=3) (F:=([]++[])) (xs:=([dI]:List Int)) (bS (dK (fun _=>rfl)) bJ bB) rfl rfl) ?_
   refine bnd hF fun z65 abH hF=>dC (.cons .q2 (.cons .h .nil)) (dL (Ro:=(aj ax)) bH.h gL bC.h rfl rfl rfl (.tmp rfl rfl) (.tmp rfl rfl) abH eX) (fun p67=>?_)
   refine bQ ?_
   cases hF
   exact Er (p67.1,p67.2)
 refine bG ?_
 cases hF
 exact Er (v6,F7)
def Dw(eF:Atom):Nat->(List Int)->Int->Option ((List Int))
 |0,_,_=>none
 |m24+1,c20,c23=>if (decide ((c23:Int)<(eF.Terms.length:Int)))then (
     ((ix eF.Terms c23).bind fun x40=>
       (Af x40).bind fun Co=>
       if Co then (
         (ix eF.Terms c23).bind fun yg=>
         (Ah c20 yg).bind fun sU=>
         some sU)
       else (
         some c20)).bind fun yh=>
     match yh with
     |jh=>Dw eF m24 jh (IntKind.i64.wrap (c23+1)))
   else (
     some c20)
def GH:List Atom->Nat->(List Int)->Option ((List Int))
 |[],k9,c3=>some c3
 |eF::dB,k9,c3=>(Dw eF (((eF.Terms.length:Int)-0).toNat+2) c3 0).bind fun iD=>
   match iD with
   |lH=>GH dB (k9+1) lH
def HZ(ai:aO):Option ((List Int)):=
 GH ai.Atoms 0 ([]:List Int)
theorem YZ{ai:aO}{aa aQ:Sv}{R:(List Int)}(hF:HZ ai=some R):
   Fw.Spec Tryz.prog 59 [(zg [aa.v,aQ.v])] [ah aa ai.Head,bX aQ ai.Atoms] (fun p:Sv×List Nat=>p.1.v) (fun p=>[bv p.2 p.1 R]):=by
 refine Se 47 Tryz.func59 [.tmp 2] ?_
 intro H0 F0
 unfold HZ at hF
 refine au ?_
 refine bW (fun k1=>?_)
 refine aZ ?_
 refine b_ rfl (bI (g:=true) bH.h bC.h .nil (vs:=[]) rfl rfl rfl (by simp)) (fun k2=>?_)
 refine dh (.cons .h .nil) (bK (Ro:=(aj ax)) (E:=3) (F:=[]) (xs:=([]:List Int)) bJ rfl rfl) ?_
 refine bG ?_
 refine bn (bU (m:=ai.Atoms.length) (fun m7 f' cs'=>∃(g:Fr)(k9:Nat)(dB:List Atom)(c3:List Int)(v4:Sv)(F5:List Nat),m7=dB.length/\f'=aR g [(1,(pz k1)),(3,v4.v),(4,(zi (k9:Int)))]/\List.drop k9 ai.Atoms=dB/\aP cs' [a_ k1 28 (zg [aa.v,aQ.v]),ah aa ai.Head,bX aQ ai.Atoms,bv F5 v4 c3]/\GH dB k9 c3=some R) ⟨_,0,_,_,⟨(some ⟨k2,0,none⟩),0,1⟩,(k2::[]),rfl,aB,rfl,aA,hF⟩ ?_)
 rintro m7 _ _ ⟨g8,k9,dB,c3,v4,F5,rfl,rfl,je,hE,hF⟩
 refine Kb hE ai.Atoms (fun yQ=>?_)
 rcases dB with _|⟨eF,dB⟩
 · have nR:=dn je
   rw[GH]at hF
   refine fI ?_
   refine dE ?_
   refine eU ?_
   cases hF
   exact Er (v4,F5)
 obtain⟨nR,fQ,mr⟩:=dA je
 rw[GH]at hF
 refine fI ?_
 refine dD ?_
 refine au ?_
 obtain⟨iD,pg,pK⟩:=bind_some hF
 refine gN (fun f' cs'=>∃(lH:List Int)(v68:Sv)(Jz:List Nat)(g:Fr),lH=iD/\f'=aR g [(1,(pz k1)),(3,v68.v),(4,(zi (k9:Int)))]/\aP cs' [a_ k1 28 (zg [aa.v,aQ.v]),ah aa ai.Head,bX aQ ai.Atoms,bv Jz v68 lH]) ?_ ?_
 · replace hF:=pg
   refine bn (cB (aK (iG (v:=(zi 0)) (.int _ _)) ?_))
   refine au ?_
   refine bn (bU (m:=(((eF.Terms.length:Int)-0).toNat+2)) (fun m24 f' cs'=>∃(g:Fr)(c20:List Int)(c23:Int)(v21:Sv)(uC:List Nat),f'=aR g [(1,(pz k1)),(3,v21.v),(4,(zi (k9:Int))),(5,(zi c23))]/\aP cs' [a_ k1 28 (zg [aa.v,aQ.v]),ah aa ai.Head,bX aQ ai.Atoms,bv uC v21 c20]/\Dw eF m24 c20 c23=some iD) ⟨_,_,_,v4,F5,aB,aA,hF⟩ ?_)
   rintro m24 _ _ ⟨g25,c20,c23,v21,uC,rfl,hE,hF⟩
   refine bM hE ?_
   rcases m24 with _|m24
   · rw[Dw]at hF
     exact absurd hF (by simp)
   rw[Dw]at hF
   refine bG ?_
   refine Ai fQ (fun wR j33=>?_)
   refine au ?_
   refine ng (R':=(aW 3 ax)) fT.h (.tmp rfl rfl) .h uS (fun w34=>?_)
   refine aZ ?_
   refine Ci hF (fun IM hF=>?_) (fun IM hF=>?_)
   · refine au ?_
     obtain⟨yh,Qe,QU⟩:=bind_some hF
     refine gN (fun f' cs'=>∃(jh:List Int)(v63:Sv)(qR:List Nat)(g:Fr),jh=yh/\f'=aR g [(1,(pz k1)),(3,v63.v),(4,(zi (k9:Int))),(5,(zi c23))]/\aP cs' [a_ k1 28 (zg [aa.v,aQ.v]),ah aa ai.Head,bX aQ ai.Atoms,bv qR v63 jh]) ?_ ?_
     · replace hF:=Qe
       refine bn (cB (aK (nH (off:=1) aav.h (.tmp rfl rfl)) ?_))
       refine aT ?_
       refine Ai fQ (fun uD j38=>?_)
       refine au ?_
       refine ng (R':=(aW 3 ax)) fT.h (.tmp rfl rfl) .h uS (fun w39=>?_)
       refine au ?_
       refine zI hF fun x40 ajO oD hF=>?_
       refine Ai oD (fun XL j45=>?_)
       refine Al dN ?_
       refine bnd hF fun Co BB hF=>bR (KZ BB) (fun _=>?_)
       refine au ?_
       refine Ci hF (fun IP hF=>?_) (fun IP hF=>?_)
       · refine bf ?_
         refine Ai fQ (fun JA XM=>?_)
         refine au ?_
         refine ng (R':=(aW 3 ax)) fT.h (.tmp rfl rfl) .h uS (fun w51=>?_)
         refine au ?_
         refine zI hF fun yg ayh wB hF=>?_
         refine Ai wB (fun k56 j57=>?_)
         refine Al dN ?_
         refine bnd hF fun sU xJ hF=>dW (OB xJ) (fun p60=>?_)
         refine aT ?_
         cases hF
         exact⟨_,p60.1,p60.2,_,rfl,aB,aA⟩
       refine au ?_
       cases hF
       exact⟨_,v21,uC,_,rfl,aB,aA⟩
     rintro _ _ ⟨jh,v63,qR,g65,rfl,rfl,hE⟩
     replace hF:=QU
     try dsimp only at hF
     refine bM hE ?_
     refine bf ?_
     exact⟨m24,bY _,_,_,_,v63,qR,aB,aA,hF⟩
   refine aL ?_
   cases hF
   exact⟨_,v21,uC,_,rfl,aB,aA⟩
 rintro _ _ ⟨lH,v68,Jz,g71,rfl,rfl,hE⟩
 replace hF:=pK
 try dsimp only at hF
 refine bM hE ?_
 refine bf ?_
 rw[wk k9]
 exact⟨_,bY _,_,k9+1,dB,_,v68,Jz,rfl,aB,mr,aA,hF⟩
def zN(aC:aN)(ae:List Int)(c119:List Atom)(pM:Int×aN):Nat->Int->Int->(List Int)->Int->Option (Int×Int×(List Atom))
 |0,_,_,_,_=>none
 |IQ+1,sI,Mo,BC,c182=>(ix ae pM.1).bind fun ajP=>
   if (decide ((c182:Int)<ajP))then (
     ((jb (⟨aC.b,sI,Mo⟩:aN) 4).bind fun Mq=>
       (vU (⟨aC.b,Mq.2.i,Mq.2.h⟩:aN) 4).bind fun Mr=>
       if Mr.1 then (
         (jb (⟨aC.b,Mr.2.i,Mr.2.h⟩:aN) 4).bind fun Ms=>
         (app BC ([Ms.1]:List Int)).bind fun ajQ=>
         some (Ms.2.i,Ms.2.h,ajQ))
       else (
         (app BC ([(IntKind.i64.wrap (10+Mq.1))]:List Int)).bind fun z213=>
         some (Mr.2.i,Mr.2.h,z213))).bind fun abI=>
     match abI with
     |(QV,c218,QW)=>zN aC ae c119 pM IQ QV c218 QW (IntKind.i64.wrap (c182+1)))
   else (
     (app c119 ([(⟨pM.1,BC⟩:Atom)]:List Atom)).bind fun ajR=>
     some (sI,Mo,ajR))
def Gq(aC:aN)(c119:List Atom):Nat->Int->Int->(List Int)->(List Int)->Int->Option (aO×aN)
 |0,_,_,_,_,_=>none
 |IR+1,IU,IV,yY,xK,xL=>if ((decide ((xL:Int)<(xK.length:Int)))&&(decide (((yY.length:Int):Int)<2)))then (
     ((vU (⟨aC.b,IU,IV⟩:aN) 2).bind fun Mt=>
       if Mt.1 then (
         (ix xK xL).bind fun Wo=>
         (app yY ([Wo]:List Int)).bind fun ajS=>
         some (Mt.2.i,Mt.2.h,ajS))
       else (
         some (Mt.2.i,Mt.2.h,yY))).bind fun abJ=>
     match abJ with
     |(QX,QY,QZ)=>Gq aC c119 IR QX QY QZ xK (IntKind.i64.wrap (xL+1)))
   else (
     some ((⟨yY,c119⟩:aO),(⟨aC.b,IU,IV⟩:aN)))
def zO(aC:aN)(ae:List Int)(fuel:Nat):Nat->Int->Int->(List Atom)->Int->Option (aO×aN)
 |0,_,_,_,_=>none
 |IW+1,c117,Mv,c119,mQ=>if (decide ((0:Int)<mQ))then (
     ((jb (⟨aC.b,c117,Mv⟩:aN) (ae.length:Int)).bind fun pM=>
       zN aC ae c119 pM fuel pM.2.i pM.2.h ([]:List Int) 0).bind fun Wp=>
     match Wp with
     |(c228,c229,Q0)=>zO aC ae fuel IW c228 c229 Q0 (IntKind.i64.wrap (mQ-1)))
   else (
     (HZ (⟨[],c119⟩:aO)).bind fun Wq=>
     Gq aC c119 (((Wq.length:Int)-0).toNat+2) c117 Mv ([]:List Int) Wq 0)
def Hm(fuel:Nat)(aC:aN)(ae:List Int):Option (aO×aN):=
 (jb aC 3).bind fun r3=>
 zO aC ae fuel (((IntKind.i64.wrap (1+r3.1))-0).toNat+2) r3.2.i r3.2.h ([]:List Atom) (IntKind.i64.wrap (1+r3.1))
theorem YL{fuel bE:Nat}{aC:aN}{aa:Sv}{ae:List Int}{ak:Sv}{R:aO×aN}(hF:Hm fuel aC ae=some R):
   Fw.Spec Tryz.prog 124 [(pz bE),ak.v] [bq bE 101 (zg [aa.v,(zi aC.i),(zi aC.h)]),iZ aa aC.b,ah ak ae] (fun p:Sv×List Nat×Sv×List Nat=>(zg [p.1.v,p.2.2.1.v])) (fun p=>[bv p.2.1 p.1 R.1.Head,mq p.2.2.2 p.2.2.1 R.1.Atoms,bq bE 101 (zg [aa.v,(zi R.2.i),(zi R.2.h)])]):=by
 refine Se 79 Tryz.func124 [.cell 4 28] ?_
 intro H0 F0
 unfold Hm at hF
 refine au ?_
 refine cO (fun k1=>?_)
 refine aT ?_
 refine aK (gH gI.h rfl (vs:=[]) .nil (cells:=[(.slice none 0 0),(.slice none 0 0)]) rfl) ?_
 refine cO (fun k2=>?_)
 refine As (zg [(.slice none 0 0),(.slice none 0 0)]) ?_
 refine aL ?_
 refine bnd hF fun r3 hx4 hF=>dW (kG hx4) (fun p5=>?_)
 refine aZ ?_
 refine bn (bU (m:=(((IntKind.i64.wrap (1+r3.1))-0).toNat+2)) (fun IW f' cs'=>∃(g:Fr)(c117 Mv:Int)(c119:List Atom)(mQ:Int)(ny:Sv)(wC:List Nat),f'=aR g [(0,(pz bE)),(1,ak.v),(4,(pz k1)),(5,(pz k2)),(6,(zi mQ))]/\aP cs' [bq bE 101 (zg [aa.v,(zi c117),(zi Mv)]),iZ aa aC.b,ah ak ae,bq k1 28 (zg [(.slice none 0 0),(.slice none 0 0)]),bq k2 28 (zg [(.slice none 0 0),ny.v]),mq wC ny c119]/\zO aC ae fuel IW c117 Mv c119 mQ=some R) ⟨_,_,_,_,_,⟨none,0,0⟩,[],aB,(.conv .nil (fu (Ro:=jO) (E:=66)) (.cons .nil) aA),hF⟩ ?_)
 rintro IW _ _ ⟨ayi,c117,Mv,c119,mQ,ny,wC,rfl,hE,hF⟩
 refine bM hE ?_
 rcases IW with _|IW
 · rw[zO]at hF
   exact absurd hF (by simp)
 rw[zO]at hF
 refine bf ?_
 refine Ci hF (fun aui hF=>?_) (fun aui hF=>?_)
 · refine au ?_
   obtain⟨Wp,arR,auj⟩:=bind_some hF
   refine gN (fun f' cs'=>∃(c228 c229:Int)(Q0:List Atom)(Ws:Sv)(abK:List Nat)(g:Fr),Wp=(c228,c229,Q0)/\f'=aR g [(0,(pz bE)),(1,ak.v),(4,(pz k1)),(5,(pz k2)),(6,(zi mQ))]/\aP cs' [bq bE 101 (zg [aa.v,(zi c228),(zi c229)]),iZ aa aC.b,ah ak ae,bq k1 28 (zg [(.slice none 0 0),(.slice none 0 0)]),bq k2 28 (zg [(.slice none 0 0),Ws.v]),mq abK Ws Q0]) ?_ ?_
   · replace hF:=arR
     refine bn (cB (Cm (pz bE) rfl rfl ?_))
     refine aT ?_
     refine bnd hF fun pM auk hF=>dW (kG auk) (fun aDt=>?_)
     refine aK (gH kM.h rfl (vs:=[(zi pM.1)]) bz (cells:=[(zi pM.1),(.slice none 0 0)]) rfl) ?_
     refine cO (fun Wu=>?_)
     refine As (zg [(zi pM.1),(.slice none 0 0)]) ?_
     refine bf ?_
     refine bn (bU (m:=fuel) (fun IQ f' cs'=>∃(g:Fr)(sI Mo:Int)(BC:List Int)(c182:Int)(Wv:Sv)(abL:List Nat),f'=aR g [(0,(pz bE)),(1,ak.v),(4,(pz k1)),(5,(pz k2)),(6,(zi mQ)),(7,(pz Wu)),(8,(zi c182))]/\aP cs' [bq bE 101 (zg [aa.v,(zi sI),(zi Mo)]),iZ aa aC.b,ah ak ae,bq k1 28 (zg [(.slice none 0 0),(.slice none 0 0)]),bq k2 28 (zg [(.slice none 0 0),ny.v]),mq wC ny c119,bq Wu 66 (zg [(zi pM.1),Wv.v]),bv abL Wv BC]/\zN aC ae c119 pM IQ sI Mo BC c182=some Wp) ⟨_,_,_,_,_,⟨none,0,0⟩,[],aB,(.conv .nil (fu (Ro:=(aj ax)) (E:=3)) (.cons .nil) aA),hF⟩ ?_)
     rintro IQ _ _ ⟨aDu,sI,Mo,BC,c182,Wv,abL,rfl,hE,hF⟩
     refine bM hE ?_
     rcases IQ with _|IQ
     · rw[zN]at hF
       exact absurd hF (by simp)
     rw[zN]at hF
     refine bG ?_
     refine zI hF fun ajP aBZ aul hF=>?_
     refine Ai aul (fun ayj aDv=>?_)
     refine Al dN ?_
     refine aT ?_
     refine Ci hF (fun aum hF=>?_) (fun aum hF=>?_)
     · refine au ?_
       obtain⟨abI,arS,aun⟩:=bind_some hF
       refine gN (fun f' cs'=>∃(QV c218:Int)(QW:List Int)(Ww:Sv)(abM:List Nat)(g:Fr),abI=(QV,c218,QW)/\f'=aR g [(0,(pz bE)),(1,ak.v),(4,(pz k1)),(5,(pz k2)),(6,(zi mQ)),(7,(pz Wu)),(8,(zi c182))]/\aP cs' [bq bE 101 (zg [aa.v,(zi QV),(zi c218)]),iZ aa aC.b,ah ak ae,bq k1 28 (zg [(.slice none 0 0),(.slice none 0 0)]),bq k2 28 (zg [(.slice none 0 0),ny.v]),mq wC ny c119,bq Wu 66 (zg [(zi pM.1),Ww.v]),bv abM Ww QW]) ?_ ?_
       · replace hF:=arS
         refine bn (cB (Cm (pz bE) rfl rfl ?_))
         refine bnd hF fun Mq auo hF=>dW (kG auo) (fun aDw=>?_)
         refine bG ?_
         refine bnd hF fun Mr aup hF=>dW (zR aup) (fun aDx=>?_)
         refine au ?_
         refine Ci hF (fun auq hF=>?_) (fun auq hF=>?_)
         · refine aT ?_
           refine bnd hF fun Ms aur hF=>dW (kG aur) (fun aDy=>?_)
           refine bG ?_
           refine b_ rfl (bI (g:=true) bH.h bC.h bz (vs:=[(zi Ms.1)]) rfl rfl rfl (by intro v hv; simp at hv; rcases hv with rfl<;>rfl)) (fun aDz=>?_)
           refine dh (.cons .h .nil) (bK (Ro:=(aj ax)) (E:=3) (F:=([]++[])) (xs:=([Ms.1]:List Int)) (bS (dK (fun _=>rfl)) bJ bB) rfl rfl) ?_
           refine bnd hF fun ajQ aus hF=>dC (.cons .q9 (.cons .h .nil)) (dL (Ro:=(aj ax)) bH.h gL bC.h rfl rfl rfl (.tmp rfl rfl) (.tmp rfl rfl) aus eX) (fun abN=>?_)
           refine au ?_
           refine As (zg [(zi pM.1),abN.1.v]) ?_
           refine au ?_
           cases hF
           exact⟨_,_,_,abN.1,abN.2,_,rfl,aB,aA⟩
         refine bf ?_
         refine b_ rfl (bI (g:=true) bH.h bC.h bz (vs:=[(zi (IntKind.i64.wrap (10+Mq.1)))]) rfl rfl rfl (by intro v hv; simp at hv; rcases hv with rfl<;>rfl)) (fun ayk=>?_)
         refine dh (.cons .h .nil) (bK (Ro:=(aj ax)) (E:=3) (F:=([]++[])) (xs:=([(IntKind.i64.wrap (10+Mq.1))]:List Int)) (bS (dK (fun _=>rfl)) bJ bB) rfl rfl) ?_
         refine bnd hF fun z213 aaP hF=>dC (.cons .q9 (.cons .h .nil)) (dL (Ro:=(aj ax)) bH.h gL bC.h rfl rfl rfl (.tmp rfl rfl) (.tmp rfl rfl) aaP eX) (fun IX=>?_)
         refine au ?_
         refine As (zg [(zi pM.1),IX.1.v]) ?_
         refine au ?_
         cases hF
         exact⟨_,_,_,IX.1,IX.2,_,rfl,aB,aA⟩
       rintro _ _ ⟨QV,c218,QW,Ww,abM,aDA,rfl,rfl,hE⟩
       replace hF:=aun
       try dsimp only at hF
       refine bM hE ?_
       refine bf ?_
       exact⟨IQ,bY _,_,_,_,_,_,Ww,abM,aB,aA,hF⟩
     refine fI ?_
     refine b_ rfl (bI (g:=true) oC.h kM.h bz (vs:=[(zg [(zi pM.1),Wv.v])]) rfl rfl rfl (by intro v hv; simp at hv; rcases hv with rfl<;>rfl)) (fun aDB=>?_)
     refine dh (.cons .h (.cons .q8 .nil)) (bK (Ro:=jO) (E:=66) (F:=(abL++[])) (xs:=([(⟨pM.1,BC⟩:Atom)]:List Atom)) (bS (Bw (a:=(⟨pM.1,BC⟩:Atom))) bJ bB) rfl rfl) ?_
     refine bnd hF fun ajR aiF hF=>dC (.cons .q7 (.cons .h .nil)) (dL (Ro:=jO) oC.h Mh kM.h rfl rfl rfl (.tmp rfl rfl) (.tmp rfl rfl) aiF eX) (fun abO=>?_)
     refine au ?_
     refine As (zg [(.slice none 0 0),abO.1.v]) ?_
     refine au ?_
     cases hF
     exact⟨_,_,_,abO.1,abO.2,_,rfl,aB,aA⟩
   rintro _ _ ⟨c228,c229,Q0,Ws,abK,aDC,rfl,rfl,hE⟩
   replace hF:=auj
   try dsimp only at hF
   refine bM hE ?_
   refine bf ?_
   exact⟨IW,bY _,_,_,_,_,_,Ws,abK,aB,aA,hF⟩
 refine bG ?_
 refine dh .nil (Ef (R:=ax) (E:=3)) ?_
 refine bnd hF fun Wq aut hF=>jM (.cons .q6 (.rd .h rfl .nil)) (eY bi (fun _=>(.cons .nil)) (fM (.rd (.t .h) rfl (.rd .h rfl .nil)) (bP axu.h bz (@YZ (⟨[],c119⟩:aO) (⟨none,0,0⟩) ny _ aut)))) (fun ayl=>?_)
 refine bG ?_
 refine bn (bU (m:=(((Wq.length:Int)-0).toNat+2)) (fun IR f' cs'=>∃(g:Fr)(IU IV:Int)(yY xK:List Int)(xL:Int)(BD:Sv)(Q3:List Nat)(Eu:Sv),f'=aR g [(0,(pz bE)),(4,(pz k1)),(5,(pz k2)),(10,Eu.v),(11,(zi xL))]/\aP cs' [bq bE 101 (zg [aa.v,(zi IU),(zi IV)]),iZ aa aC.b,bq k1 28 (zg [(.slice none 0 0),(.slice none 0 0)]),bq k2 28 (zg [BD.v,ny.v]),bv Q3 BD yY,mq wC ny c119,ah Eu xK]/\Gq aC c119 IR IU IV yY xK xL=some R) ⟨_,_,_,_,_,_,⟨none,0,0⟩,[],ayl.1,aB,(.conv .nil (fu (Ro:=(aj ax)) (E:=3)) (.cons .nil) (.frz .q2 bi aA)),hF⟩ ?_)
 rintro IR _ _ ⟨aDD,IU,IV,yY,xK,xL,BD,Q3,Eu,rfl,hE,hF⟩
 refine bM hE ?_
 rcases IR with _|IR
 · rw[Gq]at hF
   exact absurd hF (by simp)
 rw[Gq]at hF
 refine aT ?_
 refine gB (fun f' cs'=>∃(g:Fr),f'=aR g [(0,(pz bE)),(4,(pz k1)),(5,(pz k2)),(10,Eu.v),(11,(zi xL)),(64,(.bool ((decide ((xL:Int)<(xK.length:Int)))&&(decide (((yY.length:Int):Int)<2)))))]/\aP cs' [bq bE 101 (zg [aa.v,(zi IU),(zi IV)]),iZ aa aC.b,bq k1 28 (zg [(.slice none 0 0),(.slice none 0 0)]),bq k2 28 (zg [BD.v,ny.v]),bv Q3 BD yY,mq wC ny c119,ah Eu xK]) ?_ ?_
 · refine bf ?_
   rcases df (decide ((xL:Int)<(xK.length:Int)))with Qf|Qf
   · rw[Qf]
     try rw[Qf]at hF; dsimp only[aY,aX]at hF
     refine lT ?_
     exact⟨_,aB,aA⟩
   rw[Qf]
   try rw[Qf]at hF; dsimp only[aY,aX]at hF
   refine bG ?_
   exact⟨_,aB,aA⟩
 rintro _ _ ⟨aDE,rfl,hE⟩
 refine bM hE ?_
 refine Ci hF (fun auu hF=>?_) (fun auu hF=>?_)
 · refine au ?_
   obtain⟨abJ,arT,auv⟩:=bind_some hF
   refine gN (fun f' cs'=>∃(QX QY:Int)(QZ:List Int)(Wx:Sv)(abP:List Nat)(g:Fr),abJ=(QX,QY,QZ)/\f'=aR g [(0,(pz bE)),(4,(pz k1)),(5,(pz k2)),(10,Eu.v),(11,(zi xL))]/\aP cs' [bq bE 101 (zg [aa.v,(zi QX),(zi QY)]),iZ aa aC.b,bq k1 28 (zg [(.slice none 0 0),(.slice none 0 0)]),bq k2 28 (zg [Wx.v,ny.v]),bv abP Wx QZ,mq wC ny c119,ah Eu xK]) ?_ ?_
   · replace hF:=arT
     refine bn (cB (Cm (pz bE) rfl rfl ?_))
     refine bnd hF fun Mt auw hF=>dW (zR auw) (fun aDF=>?_)
     refine au ?_
     refine Ci hF (fun aux hF=>?_) (fun aux hF=>?_)
     · refine jK [0,1,2,3,4,5,6,7,8,9] [0,1,0,0,12,28,60,127,255,511] [7,9] mixed (by decide+kernel) ?_
       refine du ?_
       refine dH rfl .no .q3 (fun ha hp=>fZ (v:=BD.v) fT.h (EN ha (.tmp rfl rfl) rfl) hp.2 rfl rfl) ?_
       refine bV ?_
       refine zI hF fun Wo aB0 auy hF=>?_
       refine Di auy (fun aDG aDH=>?_)
       refine Dl dN ?_
       refine gP rfl .no rfl (fun ha=>bI (g:=true) (len:=1) (parts:=[(0,.tmp 74)]) bH.h bC.h (.cons (EN ha (.tmp rfl rfl) rfl) .nil) (vs:=[(zi Wo)]) rfl rfl rfl (by intro v hv; simp at hv; rcases hv with rfl<;>rfl)) (fun aDI=>?_)
       refine gZ (.cons .h .nil) (bK (Ro:=(aj ax)) (E:=3) (F:=([]++[])) (xs:=([Wo]:List Int)) (bS (dK (fun _=>rfl)) bJ bB) rfl rfl) ?_
       refine bnd hF fun ajS auz hF=>bZ rfl rfl .no (.cons .q6 (.cons .h .nil)) (.dep rfl (.dep rfl .nil)) (fun ha=>dL (Ro:=(aj ax)) bH.h gL bC.h rfl rfl rfl (EN ha (.tmp rfl rfl) rfl) (EN ha (.tmp rfl rfl) rfl) auz eX) (fun abQ=>?_)
       refine du ?_
       refine bZ rfl rfl .no (.cons .q5 .nil) (.dep rfl (.dep rfl .nil)) (fun ha=>fA (e':=(zg [abQ.1.v,ny.v])) fB.h.sz (EN ha (.tmp rfl rfl) rfl) (EN ha (.tmp rfl rfl) rfl) rfl rfl rfl rfl rfl) (fun _=>?_)
       refine du ?_
       cases hF
       exact⟨_,_,_,abQ.1,abQ.2,_,rfl,aB,aA⟩
     refine au ?_
     cases hF
     exact⟨_,_,_,BD,Q3,_,rfl,aB,aA⟩
   rintro _ _ ⟨QX,QY,QZ,Wx,abP,aDJ,rfl,rfl,hE⟩
   replace hF:=auv
   try dsimp only at hF
   refine bM hE ?_
   refine bf ?_
   exact⟨IR,bY _,_,_,_,_,_,_,Wx,abP,Eu,aB,aA,hF⟩
 refine bG ?_
 refine As (zg [BD.v,ny.v]) ?_
 refine aT ?_
 cases hF
 exact Er (BD,Q3,ny,wC)
def Gg(ae:List Int):List Int->Nat->Option (Bool)
 |[],k4=>(mK (ae.length:Int) 1 3).bind fun fC=>
   some fC
 |x6::aG,k4=>(mK x6 1 3).bind fun kr=>
   if (!kr)then (
     some false)
   else (
     Gg ae aG (k4+1))
def rX(ae:List Int):Option (Bool):=
 Gg ae ae 0
theorem xc{ae:List Int}{aa:Sv}{R:Bool}(hF:rX ae=some R):
   Fw.Spec Tryz.prog 42 [aa.v] [ah aa ae] (fun _:Unit=>(.bool R)) (fun _=>[]):=by
 refine Se 19 Tryz.func42 [.tmp 2] ?_
 intro H0 F0
 unfold rX at hF
 refine bQ ?_
 refine bn (bU (m:=ae.length) (fun m2 f' cs'=>∃(g:Fr)(k4:Nat)(aG:List Int),m2=aG.length/\f'=aR g [(0,aa.v),(3,(zi (k4:Int)))]/\List.drop k4 ae=aG/\aP cs' [ah aa ae]/\Gg ae aG k4=some R) ⟨_,0,_,rfl,aB,rfl,aA,hF⟩ ?_)
 rintro m2 _ _ ⟨g3,k4,aG,rfl,rfl,hd7,hE,hF⟩
 refine Kb hE ae (fun jL=>?_)
 rcases aG with _|⟨x6,aG⟩
 · have fG:=dn hd7
   rw[Gg]at hF
   refine bQ ?_
   refine dE ?_
   refine bQ ?_
   refine bnd hF fun fC fQ hF=>bR (qc fQ) (fun _=>?_)
   exact ze hF
 obtain⟨fG,dm,fF⟩:=dA hd7
 rw[Gg]at hF
 refine bQ ?_
 refine dD ?_
 refine bf ?_
 refine Ai dm (fun k16 XN=>?_)
 refine Al dN ?_
 refine bnd hF fun kr kC hF=>bR (qc kC) (fun _=>?_)
 refine aT ?_
 refine Ci hF (fun xM hF=>?_) (fun xM hF=>?_)
 · exact ze hF
 refine bG ?_
 rw[wk k4]
 exact⟨_,bY _,_,k4+1,aG,rfl,aB,fF,aA,hF⟩
def NH(fuel:Nat)(aC:aN)(ae:List Int):Option (Method×aN):=
 (rX ae).bind fun r3=>
 if r3 then (
   (Oz fuel aC ae).bind fun r6=>
   (jb (⟨aC.b,r6.2.i,r6.2.h⟩:aN) 10).bind fun r9=>
   if ((r9.1:Int)==0)then (
     (l_ (⟨aC.b,r9.2.i,r9.2.h⟩:aN) ([(-1),9,10]:List Int)).bind fun fC=>
     some ((⟨r6.1.Rel,r6.1.Inputs,fC.1,r6.1.Cost,r6.1.Quota⟩:Method),(⟨aC.b,fC.2.i,fC.2.h⟩:aN)))
   else (
     if ((r9.1:Int)==1)then (
       (jb (⟨aC.b,r9.2.i,r9.2.h⟩:aN) 5).bind fun r16=>
       (app r6.1.Inputs ([(IntKind.i64.wrap (r16.1-1))]:List Int)).bind fun z20=>
       some ((⟨r6.1.Rel,z20,r6.1.Limit,r6.1.Cost,r6.1.Quota⟩:Method),(⟨aC.b,r16.2.i,r16.2.h⟩:aN)))
     else (
       if ((r9.1:Int)==2)then (
         (l_ (⟨aC.b,r9.2.i,r9.2.h⟩:aN) ([0,99,100]:List Int)).bind fun iV=>
         some ((⟨r6.1.Rel,r6.1.Inputs,r6.1.Limit,r6.1.Cost,iV.1⟩:Method),(⟨aC.b,iV.2.i,iV.2.h⟩:aN)))
       else (
         if ((r9.1:Int)==3)then (
           (l_ (⟨aC.b,r9.2.i,r9.2.h⟩:aN) ([(-1),99,100]:List Int)).bind fun l5=>
           some ((⟨r6.1.Rel,r6.1.Inputs,r6.1.Limit,l5.1,r6.1.Quota⟩:Method),(⟨aC.b,l5.2.i,l5.2.h⟩:aN)))
         else (
           some (r6.1,(⟨aC.b,r9.2.i,r9.2.h⟩:aN)))))))
 else (
   (jb aC 10).bind fun il=>
   if ((il.1:Int)==0)then (
     (l_ (⟨aC.b,il.2.i,il.2.h⟩:aN) ([(-1),9,10]:List Int)).bind fun jR=>
     some ((⟨0,[],jR.1,0,1⟩:Method),(⟨aC.b,jR.2.i,jR.2.h⟩:aN)))
   else (
     if ((il.1:Int)==1)then (
       (jb (⟨aC.b,il.2.i,il.2.h⟩:aN) 5).bind fun mW=>
       (app ([]:List Int) ([(IntKind.i64.wrap (mW.1-1))]:List Int)).bind fun z46=>
       some ((⟨0,z46,0,0,1⟩:Method),(⟨aC.b,mW.2.i,mW.2.h⟩:aN)))
     else (
       if ((il.1:Int)==2)then (
         (l_ (⟨aC.b,il.2.i,il.2.h⟩:aN) ([0,99,100]:List Int)).bind fun mX=>
         some ((⟨0,[],0,0,mX.1⟩:Method),(⟨aC.b,mX.2.i,mX.2.h⟩:aN)))
       else (
         if ((il.1:Int)==3)then (
           (l_ (⟨aC.b,il.2.i,il.2.h⟩:aN) ([(-1),99,100]:List Int)).bind fun yj=>
           some ((⟨0,[],0,yj.1,1⟩:Method),(⟨aC.b,yj.2.i,yj.2.h⟩:aN)))
         else (
           some ((⟨0,[],0,0,1⟩:Method),(⟨aC.b,il.2.i,il.2.h⟩:aN)))))))
theorem amD{fuel bE:Nat}{aC:aN}{aa:Sv}{ae:List Int}{ak:Sv}{R:Method×aN}(hF:NH fuel aC ae=some R):
   Fw.Spec Tryz.prog 125 [(pz bE),ak.v] [bq bE 101 (zg [aa.v,(zi aC.i),(zi aC.h)]),iZ aa aC.b,ah ak ae] (fun p:Sv×List Nat=>(zg [(zi R.1.Rel),p.1.v,(zi R.1.Limit),(zi R.1.Cost),(zi R.1.Quota)])) (fun p=>[bv p.2 p.1 R.1.Inputs,bq bE 101 (zg [aa.v,(zi R.2.i),(zi R.2.h)])]):=by
 refine Se 43 Tryz.func125 [.cell 4 92] ?_
 intro H0 F0
 unfold NH at hF
 refine au ?_
 refine cO (fun k1=>?_)
 refine aT ?_
 refine aK (gH kV.h rfl (vs:=[(zi 1)]) (.cons (.int _ _) .nil) (cells:=[(zi 0),(.slice none 0 0),(zi 0),(zi 0),(zi 1)]) rfl) ?_
 refine cO (fun k2=>?_)
 refine As (zg [(zi 0),(.slice none 0 0),(zi 0),(zi 0),(zi 1)]) ?_
 refine aL ?_
 refine bnd hF fun r3 hx4 hF=>bR (xc hx4) (fun _=>?_)
 refine au ?_
 refine Ci hF (fun IP hF=>?_) (fun IP hF=>?_)
 · refine aZ ?_
   refine bnd hF fun r6 hx7 hF=>mV (aeI hx7) (fun p8=>?_)
   refine As (zg [(zi r6.1.Rel),p8.1.v,(zi r6.1.Limit),(zi r6.1.Cost),(zi r6.1.Quota)]) ?_
   refine aL ?_
   refine bnd hF fun r9 gu hF=>dW (kG gu) (fun jI=>?_)
   refine au ?_
   refine bn (cB (aK (rE (i:=r9.1) (j:=0) (.tmp rfl rfl) (.int _ _)) ?_))
   refine aT ?_
   refine Ci hF (fun Q4 hF=>?_) (fun Q4 hF=>?_)
   · refine aT ?_
     refine b_ rfl (bI (g:=true) bH.h bC.h (.cons (.int _ _) (.cons (.int _ _) (.cons (.int _ _) .nil))) (vs:=[(zi (-1)),(zi 9),(zi 10)]) rfl rfl rfl (by intro v hv; simp at hv; rcases hv with rfl|rfl|rfl<;>rfl)) (fun k12=>?_)
     refine dh (.cons .h .nil) (bK (Ro:=(aj ax)) (E:=3) (F:=([]++([]++([]++[])))) (xs:=([(-1),9,10]:List Int)) (bS (dK (fun _=>rfl)) (bS (dK (fun _=>rfl)) (bS (dK (fun _=>rfl)) bJ bB) bB) bB) rfl rfl) ?_
     refine bnd hF fun fC fQ hF=>jM (.cons .h (.cons .h (.rd .q3 rfl .nil))) (eY bi (fun _=>(.cons .nil)) (fM (.cons (.t .h) (.rd (.t .h) rfl (.rd .h rfl .nil))) (bP uf.h bz (@tT bE (⟨aC.b,r9.2.i,r9.2.h⟩:aN) aa ([(-1),9,10]:List Int) (⟨(some ⟨k12,0,none⟩),3,1⟩) _ fQ)))) (fun gT=>?_)
     refine au ?_
     refine As (zg [(zi r6.1.Rel),p8.1.v,(zi fC.1),(zi r6.1.Cost),(zi r6.1.Quota)]) ?_
     refine aZ ?_
     refine As (zg [(zi r6.1.Rel),p8.1.v,(zi fC.1),(zi r6.1.Cost),(zi r6.1.Quota)]) ?_
     refine aT ?_
     cases hF
     exact Er (p8.1,p8.2)
   refine aL ?_
   refine Ci hF (fun Q5 hF=>?_) (fun Q5 hF=>?_)
   · refine jK [0,1,2,3,4,5,6,7,8] [0,1,0,4,12,28,63,127,255] [3,6,8] mixed (by decide+kernel) ?_
     refine du ?_
     refine dH rfl .no (.t .h) (fun ha hp=>fZ (v:=p8.1.v) fT.h (EN ha (.tmp rfl rfl) rfl) hp.2 rfl rfl) ?_
     refine du ?_
     refine bnd hF fun r16 jy hF=>bZ rfl rfl .no (.cons .h (.rd .q3 rfl .nil)) (.own .h (fun _ h=>h) .nil) (fun ha=>bP Bv.h (.cons (EN ha (.tmp rfl rfl) rfl) (.cons (EN ha (.int _ _) rfl) .nil)) (@kG bE (⟨aC.b,r9.2.i,r9.2.h⟩:aN) aa 5 _ jy)) (fun rU=>?_)
     refine du ?_
     refine gP rfl .no rfl (fun ha=>bI (g:=true) (len:=1) (parts:=[(0,.tmp 26)]) bH.h bC.h (.cons (EN ha (.tmp rfl rfl) rfl) .nil) (vs:=[(zi (IntKind.i64.wrap (r16.1-1)))]) rfl rfl rfl (by intro v hv; simp at hv; rcases hv with rfl<;>rfl)) (fun k19=>?_)
     refine gZ (.cons .h .nil) (bK (Ro:=(aj ax)) (E:=3) (F:=([]++[])) (xs:=([(IntKind.i64.wrap (r16.1-1))]:List Int)) (bS (dK (fun _=>rfl)) bJ bB) rfl rfl) ?_
     refine bnd hF fun z20 nS hF=>bZ rfl rfl .no (.cons .q3 (.cons .h .nil)) (.dep rfl (.dep rfl .nil)) (fun ha=>dL (Ro:=(aj ax)) bH.h gL bC.h rfl rfl rfl (EN ha (.tmp rfl rfl) rfl) (EN ha (.tmp rfl rfl) rfl) nS eX) (fun iI=>?_)
     refine du ?_
     refine bZ rfl rfl .no (.cons .q2 .nil) (.dep rfl (.dep rfl .nil)) (fun ha=>fA (e':=(zg [(zi r6.1.Rel),iI.1.v,(zi r6.1.Limit),(zi r6.1.Cost),(zi r6.1.Quota)])) fB.h.sz (EN ha (.tmp rfl rfl) rfl) (EN ha (.tmp rfl rfl) rfl) rfl rfl rfl rfl rfl) (fun _=>?_)
     refine du ?_
     refine aT ?_
     refine As (zg [(zi r6.1.Rel),iI.1.v,(zi r6.1.Limit),(zi r6.1.Cost),(zi r6.1.Quota)]) ?_
     refine aT ?_
     cases hF
     exact Er (iI.1,iI.2)
   refine aL ?_
   refine Ci hF (fun BF hF=>?_) (fun BF hF=>?_)
   · refine aT ?_
     refine b_ rfl (bI (g:=true) bH.h bC.h (.cons (.int _ _) (.cons (.int _ _) (.cons (.int _ _) .nil))) (vs:=[(zi 0),(zi 99),(zi 100)]) rfl rfl rfl (by intro v hv; simp at hv; rcases hv with rfl|rfl|rfl<;>rfl)) (fun k23=>?_)
     refine dh (.cons .h .nil) (bK (Ro:=(aj ax)) (E:=3) (F:=([]++([]++([]++[])))) (xs:=([0,99,100]:List Int)) (bS (dK (fun _=>rfl)) (bS (dK (fun _=>rfl)) (bS (dK (fun _=>rfl)) bJ bB) bB) bB) rfl rfl) ?_
     refine bnd hF fun iV hx25 hF=>jM (.cons .h (.cons .h (.rd .q3 rfl .nil))) (eY bi (fun _=>(.cons .nil)) (fM (.cons (.t .h) (.rd (.t .h) rfl (.rd .h rfl .nil))) (bP uf.h bz (@tT bE (⟨aC.b,r9.2.i,r9.2.h⟩:aN) aa ([0,99,100]:List Int) (⟨(some ⟨k23,0,none⟩),3,1⟩) _ hx25)))) (fun p26=>?_)
     refine au ?_
     refine As (zg [(zi r6.1.Rel),p8.1.v,(zi r6.1.Limit),(zi r6.1.Cost),(zi iV.1)]) ?_
     refine aZ ?_
     refine As (zg [(zi r6.1.Rel),p8.1.v,(zi r6.1.Limit),(zi r6.1.Cost),(zi iV.1)]) ?_
     refine aT ?_
     cases hF
     exact Er (p8.1,p8.2)
   refine aL ?_
   refine Ci hF (fun BG hF=>?_) (fun BG hF=>?_)
   · refine aT ?_
     refine b_ rfl (bI (g:=true) bH.h bC.h (.cons (.int _ _) (.cons (.int _ _) (.cons (.int _ _) .nil))) (vs:=[(zi (-1)),(zi 99),(zi 100)]) rfl rfl rfl (by intro v hv; simp at hv; rcases hv with rfl|rfl|rfl<;>rfl)) (fun k27=>?_)
     refine dh (.cons .h .nil) (bK (Ro:=(aj ax)) (E:=3) (F:=([]++([]++([]++[])))) (xs:=([(-1),99,100]:List Int)) (bS (dK (fun _=>rfl)) (bS (dK (fun _=>rfl)) (bS (dK (fun _=>rfl)) bJ bB) bB) bB) rfl rfl) ?_
     refine bnd hF fun l5 hx29 hF=>jM (.cons .h (.cons .h (.rd .q3 rfl .nil))) (eY bi (fun _=>(.cons .nil)) (fM (.cons (.t .h) (.rd (.t .h) rfl (.rd .h rfl .nil))) (bP uf.h bz (@tT bE (⟨aC.b,r9.2.i,r9.2.h⟩:aN) aa ([(-1),99,100]:List Int) (⟨(some ⟨k27,0,none⟩),3,1⟩) _ hx29)))) (fun p30=>?_)
     refine au ?_
     refine As (zg [(zi r6.1.Rel),p8.1.v,(zi r6.1.Limit),(zi l5.1),(zi r6.1.Quota)]) ?_
     refine aZ ?_
     refine As (zg [(zi r6.1.Rel),p8.1.v,(zi r6.1.Limit),(zi l5.1),(zi r6.1.Quota)]) ?_
     refine aT ?_
     cases hF
     exact Er (p8.1,p8.2)
   refine aZ ?_
   refine As (zg [(zi r6.1.Rel),p8.1.v,(zi r6.1.Limit),(zi r6.1.Cost),(zi r6.1.Quota)]) ?_
   refine aT ?_
   cases hF
   exact Er (p8.1,p8.2)
 refine aL ?_
 refine bnd hF fun il uX hF=>dW (kG uX) (fun p37=>?_)
 refine au ?_
 refine bn (cB (aK (rE (i:=il.1) (j:=0) (.tmp rfl rfl) (.int _ _)) ?_))
 refine aT ?_
 refine Ci hF (fun abR hF=>?_) (fun abR hF=>?_)
 · refine aT ?_
   refine b_ rfl (bI (g:=true) bH.h bC.h (.cons (.int _ _) (.cons (.int _ _) (.cons (.int _ _) .nil))) (vs:=[(zi (-1)),(zi 9),(zi 10)]) rfl rfl rfl (by intro v hv; simp at hv; rcases hv with rfl|rfl|rfl<;>rfl)) (fun vG=>?_)
   refine dh (.cons .h .nil) (bK (Ro:=(aj ax)) (E:=3) (F:=([]++([]++([]++[])))) (xs:=([(-1),9,10]:List Int)) (bS (dK (fun _=>rfl)) (bS (dK (fun _=>rfl)) (bS (dK (fun _=>rfl)) bJ bB) bB) bB) rfl rfl) ?_
   refine bnd hF fun jR sH hF=>jM (.cons .h (.cons .h (.rd .q2 rfl .nil))) (eY bi (fun _=>(.cons .nil)) (fM (.cons (.t .h) (.rd (.t .h) rfl (.rd .h rfl .nil))) (bP uf.h bz (@tT bE (⟨aC.b,il.2.i,il.2.h⟩:aN) aa ([(-1),9,10]:List Int) (⟨(some ⟨vG,0,none⟩),3,1⟩) _ sH)))) (fun p41=>?_)
   refine au ?_
   refine As (zg [(zi 0),(.slice none 0 0),(zi jR.1),(zi 0),(zi 1)]) ?_
   refine aZ ?_
   refine As (zg [(zi 0),(.slice none 0 0),(zi jR.1),(zi 0),(zi 1)]) ?_
   refine aT ?_
   cases hF
   exact eO (⟨none,0,0⟩,[]) (.cellA rfl rfl .h rfl IG.h kV.h.sz rfl rfl .nil) rfl (.conv .nil (fu (Ro:=(aj ax)) (E:=3)) (.cons .nil) (.sel (.cons .h (.cons .q3 .nil))))
 refine aL ?_
 refine Ci hF (fun abS hF=>?_) (fun abS hF=>?_)
 · refine jK [0,1,2,3,4,5,6,7,8] [0,1,0,4,12,28,63,127,255] [3,6,8] mixed (by decide+kernel) ?_
   refine du ?_
   refine dH rfl .no (.t .h) (fun ha hp=>fZ (v:=(.slice none 0 0)) fT.h (EN ha (.tmp rfl rfl) rfl) hp.2 rfl rfl) ?_
   refine du ?_
   refine bnd hF fun mW oD hF=>bZ rfl rfl .no (.cons .h (.rd .q2 rfl .nil)) (.own .h (fun _ h=>h) .nil) (fun ha=>bP Bv.h (.cons (EN ha (.tmp rfl rfl) rfl) (.cons (EN ha (.int _ _) rfl) .nil)) (@kG bE (⟨aC.b,il.2.i,il.2.h⟩:aN) aa 5 _ oD)) (fun p44=>?_)
   refine du ?_
   refine gP rfl .no rfl (fun ha=>bI (g:=true) (len:=1) (parts:=[(0,.tmp 26)]) bH.h bC.h (.cons (EN ha (.tmp rfl rfl) rfl) .nil) (vs:=[(zi (IntKind.i64.wrap (mW.1-1)))]) rfl rfl rfl (by intro v hv; simp at hv; rcases hv with rfl<;>rfl)) (fun k45=>?_)
   refine gZ (.cons .h .nil) (bK (Ro:=(aj ax)) (E:=3) (F:=([]++[])) (xs:=([(IntKind.i64.wrap (mW.1-1))]:List Int)) (bS (dK (fun _=>rfl)) bJ bB) rfl rfl) ?_
   refine gZ .nil (fu (Ro:=(aj ax)) (E:=3)) ?_
   refine bnd hF fun z46 BB hF=>bZ rfl rfl .no (.cons .h (.cons .h .nil)) (.dep rfl (.dep rfl .nil)) (fun ha=>dL (Ro:=(aj ax)) bH.h gL bC.h rfl rfl rfl (EN ha (.tmp rfl rfl) rfl) (EN ha (.tmp rfl rfl) rfl) BB eX) (fun p48=>?_)
   refine du ?_
   refine bZ rfl rfl .no (.cons .q2 .nil) (.dep rfl (.dep rfl .nil)) (fun ha=>fA (e':=(zg [(zi 0),p48.1.v,(zi 0),(zi 0),(zi 1)])) fB.h.sz (EN ha (.tmp rfl rfl) rfl) (EN ha (.tmp rfl rfl) rfl) rfl rfl rfl rfl rfl) (fun _=>?_)
   refine du ?_
   refine aT ?_
   refine As (zg [(zi 0),p48.1.v,(zi 0),(zi 0),(zi 1)]) ?_
   refine aT ?_
   cases hF
   exact Er (p48.1,p48.2)
 refine aL ?_
 refine Ci hF (fun Q6 hF=>?_) (fun Q6 hF=>?_)
 · refine aT ?_
   refine b_ rfl (bI (g:=true) bH.h bC.h (.cons (.int _ _) (.cons (.int _ _) (.cons (.int _ _) .nil))) (vs:=[(zi 0),(zi 99),(zi 100)]) rfl rfl rfl (by intro v hv; simp at hv; rcases hv with rfl|rfl|rfl<;>rfl)) (fun JA=>?_)
   refine dh (.cons .h .nil) (bK (Ro:=(aj ax)) (E:=3) (F:=([]++([]++([]++[])))) (xs:=([0,99,100]:List Int)) (bS (dK (fun _=>rfl)) (bS (dK (fun _=>rfl)) (bS (dK (fun _=>rfl)) bJ bB) bB) bB) rfl rfl) ?_
   refine bnd hF fun mX uY hF=>jM (.cons .h (.cons .h (.rd .q2 rfl .nil))) (eY bi (fun _=>(.cons .nil)) (fM (.cons (.t .h) (.rd (.t .h) rfl (.rd .h rfl .nil))) (bP uf.h bz (@tT bE (⟨aC.b,il.2.i,il.2.h⟩:aN) aa ([0,99,100]:List Int) (⟨(some ⟨JA,0,none⟩),3,1⟩) _ uY)))) (fun p52=>?_)
   refine au ?_
   refine As (zg [(zi 0),(.slice none 0 0),(zi 0),(zi 0),(zi mX.1)]) ?_
   refine aZ ?_
   refine As (zg [(zi 0),(.slice none 0 0),(zi 0),(zi 0),(zi mX.1)]) ?_
   refine aT ?_
   cases hF
   exact eO (⟨none,0,0⟩,[]) (.cellA rfl rfl .h rfl IG.h kV.h.sz rfl rfl .nil) rfl (.conv .nil (fu (Ro:=(aj ax)) (E:=3)) (.cons .nil) (.sel (.cons .h (.cons .q3 .nil))))
 refine aL ?_
 refine Ci hF (fun QS hF=>?_) (fun QS hF=>?_)
 · refine aT ?_
   refine b_ rfl (bI (g:=true) bH.h bC.h (.cons (.int _ _) (.cons (.int _ _) (.cons (.int _ _) .nil))) (vs:=[(zi (-1)),(zi 99),(zi 100)]) rfl rfl rfl (by intro v hv; simp at hv; rcases hv with rfl|rfl|rfl<;>rfl)) (fun SG=>?_)
   refine dh (.cons .h .nil) (bK (Ro:=(aj ax)) (E:=3) (F:=([]++([]++([]++[])))) (xs:=([(-1),99,100]:List Int)) (bS (dK (fun _=>rfl)) (bS (dK (fun _=>rfl)) (bS (dK (fun _=>rfl)) bJ bB) bB) bB) rfl rfl) ?_
   refine bnd hF fun yj wB hF=>jM (.cons .h (.cons .h (.rd .q2 rfl .nil))) (eY bi (fun _=>(.cons .nil)) (fM (.cons (.t .h) (.rd (.t .h) rfl (.rd .h rfl .nil))) (bP uf.h bz (@tT bE (⟨aC.b,il.2.i,il.2.h⟩:aN) aa ([(-1),99,100]:List Int) (⟨(some ⟨SG,0,none⟩),3,1⟩) _ wB)))) (fun p56=>?_)
   refine au ?_
   refine As (zg [(zi 0),(.slice none 0 0),(zi 0),(zi yj.1),(zi 1)]) ?_
   refine aZ ?_
   refine As (zg [(zi 0),(.slice none 0 0),(zi 0),(zi yj.1),(zi 1)]) ?_
   refine aT ?_
   cases hF
   exact eO (⟨none,0,0⟩,[]) (.cellA rfl rfl .h rfl IG.h kV.h.sz rfl rfl .nil) rfl (.conv .nil (fu (Ro:=(aj ax)) (E:=3)) (.cons .nil) (.sel (.cons .h (.cons .q3 .nil))))
 refine aZ ?_
 refine As (zg [(zi 0),(.slice none 0 0),(zi 0),(zi 0),(zi 1)]) ?_
 refine aT ?_
 cases hF
 exact eO (⟨none,0,0⟩,[]) (.cellA rfl rfl .h rfl IG.h kV.h.sz rfl rfl .nil) rfl (.conv .nil (fu (Ro:=(aj ax)) (E:=3)) (.cons .nil) (.sel (.cons .h (.cons (.t .h) .nil))))
def Ib(fuel:Nat)(aC:aN)(ae:List Int):Option (aO×aN):=
 (rX ae).bind fun r5=>
 if r5 then (
   (Hm fuel aC ae).bind fun r8=>
   (jb (⟨aC.b,r8.2.i,r8.2.h⟩:aN) 14).bind fun fo=>
   if ((fo.1:Int)==0)then (
     (l_ (⟨aC.b,fo.2.i,fo.2.h⟩:aN) ([17,18,3,(-1)]:List Int)).bind fun eT=>
     (app r8.1.Head ([eT.1]:List Int)).bind fun Cq=>
     some ((⟨Cq,r8.1.Atoms⟩:aO),(⟨aC.b,eT.2.i,eT.2.h⟩:aN)))
   else (
     if ((fo.1:Int)==1)then (
       (ix r8.1.Atoms 0).bind fun lI=>
       (l_ (⟨aC.b,fo.2.i,fo.2.h⟩:aN) ([(-1),9,17,18]:List Int)).bind fun kE=>
       (rQ (decide (0<=0)&&decide (0<(lI.Terms.length:Int)))).bind fun u43=>
       (some (lI.Terms.set (0:Int).toNat kE.1)).bind fun z45=>
       (some (r8.1.Atoms.set (0:Int).toNat (⟨lI.Rel,z45⟩:Atom))).bind fun z48=>
       some ((⟨r8.1.Head,z48⟩:aO),(⟨aC.b,kE.2.i,kE.2.h⟩:aN)))
     else (
       if ((fo.1:Int)==2)then (
         (jb (⟨aC.b,fo.2.i,fo.2.h⟩:aN) 5).bind fun mX=>
         (ix r8.1.Atoms 0).bind fun M6=>
         (some (r8.1.Atoms.set (0:Int).toNat {M6 with Rel:=(IntKind.i64.wrap (mX.1-1))})).bind fun z60=>
         some ((⟨r8.1.Head,z60⟩:aO),(⟨aC.b,mX.2.i,mX.2.h⟩:aN)))
       else (
         some (r8.1,(⟨aC.b,fo.2.i,fo.2.h⟩:aN))))))
 else (
   (jb aC 14).bind fun pY=>
   if ((pY.1:Int)==0)then (
     (l_ (⟨aC.b,pY.2.i,pY.2.h⟩:aN) ([17,18,3,(-1)]:List Int)).bind fun M7=>
     (app ([]:List Int) ([M7.1]:List Int)).bind fun z73=>
     some ((⟨z73,([(⟨0,([10]:List Int)⟩:Atom)]:List Atom)⟩:aO),(⟨aC.b,M7.2.i,M7.2.h⟩:aN)))
   else (
     if ((pY.1:Int)==1)then (
       (ix ([(⟨0,([10]:List Int)⟩:Atom)]:List Atom) 0).bind fun SH=>
       (l_ (⟨aC.b,pY.2.i,pY.2.h⟩:aN) ([(-1),9,17,18]:List Int)).bind fun SI=>
       (rQ (decide (0<=0)&&decide (0<(SH.Terms.length:Int)))).bind fun u97=>
       (some (SH.Terms.set (0:Int).toNat SI.1)).bind fun z99=>
       (some (([(⟨0,([10]:List Int)⟩:Atom)]:List Atom).set (0:Int).toNat (⟨SH.Rel,z99⟩:Atom))).bind fun ajT=>
       some ((⟨[],ajT⟩:aO),(⟨aC.b,SI.2.i,SI.2.h⟩:aN)))
     else (
       if ((pY.1:Int)==2)then (
         (jb (⟨aC.b,pY.2.i,pY.2.h⟩:aN) 5).bind fun BH=>
         (ix ([(⟨0,([10]:List Int)⟩:Atom)]:List Atom) 0).bind fun ajU=>
         (some (([(⟨0,([10]:List Int)⟩:Atom)]:List Atom).set (0:Int).toNat {ajU with Rel:=(IntKind.i64.wrap (BH.1-1))})).bind fun ajV=>
         some ((⟨[],ajV⟩:aO),(⟨aC.b,BH.2.i,BH.2.h⟩:aN)))
       else (
         some ((⟨[],([(⟨0,([10]:List Int)⟩:Atom)]:List Atom)⟩:aO),(⟨aC.b,pY.2.i,pY.2.h⟩:aN))))))
theorem apG{fuel bE:Nat}{aC:aN}{aa:Sv}{ae:List Int}{ak:Sv}{R:aO×aN}(hF:Ib fuel aC ae=some R):
   Fw.Spec Tryz.prog 126 [(pz bE),ak.v] [bq bE 101 (zg [aa.v,(zi aC.i),(zi aC.h)]),iZ aa aC.b,ah ak ae] (fun p:Sv×List Nat×Sv×List Nat=>(zg [p.1.v,p.2.2.1.v])) (fun p=>[bv p.2.1 p.1 R.1.Head,mq p.2.2.2 p.2.2.1 R.1.Atoms,bq bE 101 (zg [aa.v,(zi R.2.i),(zi R.2.h)])]):=by
 refine Se 48 Tryz.func126 [.cell 4 28] ?_
 intro H0 F0
 unfold Ib at hF
 refine au ?_
 refine cO (fun k1=>?_)
 refine aT ?_
 refine b_ rfl (bI (g:=true) bH.h bC.h (.cons (.int _ _) .nil) (vs:=[(zi 10)]) rfl rfl rfl (by intro v hv; simp at hv; rcases hv with rfl<;>rfl)) (fun k2=>?_)
 refine dh (.cons .h .nil) (bK (Ro:=(aj ax)) (E:=3) (F:=([]++[])) (xs:=([10]:List Int)) (bS (dK (fun _=>rfl)) bJ bB) rfl rfl) ?_
 refine aK (gH kM.h rfl (vs:=[(.slice (some ⟨k2,0,none⟩) 1 1)]) bz (cells:=[(zi 0),(.slice (some ⟨k2,0,none⟩) 1 1)]) rfl) ?_
 refine b_ rfl (bI (g:=true) oC.h kM.h bz (vs:=[(zg [(zi 0),(.slice (some ⟨k2,0,none⟩) 1 1)])]) rfl rfl rfl (by intro v hv; simp at hv; rcases hv with rfl<;>rfl)) (fun k3=>?_)
 refine dh (.cons .h (.cons .h .nil)) (bK (Ro:=jO) (E:=66) (F:=((k2::([]++[]))++[])) (xs:=([(⟨0,([10]:List Int)⟩:Atom)]:List Atom)) (bS (Bw (v0:=⟨(some ⟨k2,0,none⟩),1,1⟩) (a:=(⟨0,([10]:List Int)⟩:Atom))) bJ bB) rfl rfl) ?_
 refine aK (gH gI.h rfl (vs:=[(.slice (some ⟨k3,0,none⟩) 1 1)]) bz (cells:=[(.slice none 0 0),(.slice (some ⟨k3,0,none⟩) 1 1)]) rfl) ?_
 refine cO (fun k4=>?_)
 refine As (zg [(.slice none 0 0),(.slice (some ⟨k3,0,none⟩) 1 1)]) ?_
 refine aL ?_
 refine bnd hF fun r5 hx6 hF=>bR (xc hx6) (fun _=>?_)
 refine au ?_
 refine Ci hF (fun auA hF=>?_) (fun auA hF=>?_)
 · refine aZ ?_
   refine bnd hF fun r8 dm hF=>sQ (YL dm) (fun dP=>?_)
   refine As (zg [dP.1.v,dP.2.2.1.v]) ?_
   refine aL ?_
   refine bnd hF fun fo uZ hF=>dW (kG uZ) (fun vH=>?_)
   refine au ?_
   refine bn (cB (aK (rE (i:=fo.1) (j:=0) (.tmp rfl rfl) (.int _ _)) ?_))
   refine aT ?_
   refine Ci hF (fun abT hF=>?_) (fun abT hF=>?_)
   · refine jK [0,1,2,3,4,5,6,7,8] [0,1,0,0,12,28,63,127,255] [4,6,8] mixed (by decide+kernel) ?_
     refine du ?_
     refine dH rfl .no (.t .h) (fun ha hp=>fZ (v:=dP.1.v) fT.h (EN ha (.tmp rfl rfl) rfl) hp.2 rfl rfl) ?_
     refine du ?_
     refine gP rfl .no rfl (fun ha=>bI (g:=true) (len:=4) (parts:=[(0,.const (zi 17)),(1,.const (zi 18)),(2,.const (zi 3)),(3,.const (zi (-1)))]) bH.h bC.h (.cons (EN ha (.int _ _) rfl) (.cons (EN ha (.int _ _) rfl) (.cons (EN ha (.int _ _) rfl) (.cons (EN ha (.int _ _) rfl) .nil)))) (vs:=[(zi 17),(zi 18),(zi 3),(zi (-1))]) rfl rfl rfl (by intro v hv; simp at hv; rcases hv with rfl|rfl|rfl|rfl<;>rfl)) (fun k14=>?_)
     refine gZ (.cons .h .nil) (bK (Ro:=(aj ax)) (E:=3) (F:=([]++([]++([]++([]++[]))))) (xs:=([17,18,3,(-1)]:List Int)) (bS (dK (fun _=>rfl)) (bS (dK (fun _=>rfl)) (bS (dK (fun _=>rfl)) (bS (dK (fun _=>rfl)) bJ bB) bB) bB) bB) rfl rfl) ?_
     refine bnd hF fun eT hx16 hF=>lq rfl rfl .no (.cons .h (.cons .h (.rd .q5 rfl .nil))) (.dep rfl (.own .h (fun _ h=>h) .nil)) (fun ha=>eY bi (fun _=>(.cons .nil)) (fM (.cons (.t .h) (.rd (.t .h) rfl (.rd .h rfl .nil))) (bP uf.h (.cons (EN ha (.tmp rfl rfl) rfl) (.cons (EN ha (.tmp rfl rfl) rfl) .nil)) (@tT bE (⟨aC.b,fo.2.i,fo.2.h⟩:aN) aa ([17,18,3,(-1)]:List Int) (⟨(some ⟨k14,0,none⟩),4,1⟩) _ hx16)))) (fun sS=>?_)
     refine gP rfl .no rfl (fun ha=>bI (g:=true) (len:=1) (parts:=[(0,.tmp 23)]) bH.h bC.h (.cons (EN ha (.tmp rfl rfl) rfl) .nil) (vs:=[(zi eT.1)]) rfl rfl rfl (by intro v hv; simp at hv; rcases hv with rfl<;>rfl)) (fun k18=>?_)
     refine gZ (.cons .h .nil) (bK (Ro:=(aj ax)) (E:=3) (F:=([]++[])) (xs:=([eT.1]:List Int)) (bS (dK (fun _=>rfl)) bJ bB) rfl rfl) ?_
     refine bnd hF fun Cq nT hF=>bZ rfl rfl .no (.cons .q4 (.cons .h .nil)) (.dep rfl (.dep rfl (.dep rfl .nil))) (fun ha=>dL (Ro:=(aj ax)) bH.h gL bC.h rfl rfl rfl (EN ha (.tmp rfl rfl) rfl) (EN ha (.tmp rfl rfl) rfl) nT eX) (fun oJ=>?_)
     refine du ?_
     refine bZ rfl rfl .no (.cons .q3 .nil) (.dep rfl (.dep rfl (.dep rfl .nil))) (fun ha=>fA (e':=(zg [oJ.1.v,dP.2.2.1.v])) fB.h.sz (EN ha (.tmp rfl rfl) rfl) (EN ha (.tmp rfl rfl) rfl) rfl rfl rfl rfl rfl) (fun _=>?_)
     refine du ?_
     refine aT ?_
     refine As (zg [oJ.1.v,dP.2.2.1.v]) ?_
     refine aT ?_
     cases hF
     exact Er (oJ.1,oJ.2,dP.2.2.1,dP.2.2.2)
   refine aL ?_
   refine Ci hF (fun abU hF=>?_) (fun abU hF=>?_)
   · refine jK [0,1,2,3,4,5,6,7,8,9] [0,1,3,7,15,0,0,96,255,511] [7,9] mixed (by decide+kernel) ?_
     refine du ?_
     refine dH rfl .no (.t .h) (fun ha hp=>fZ (v:=dP.2.2.1.v) Em.h (EN ha (.tmp rfl rfl) rfl) hp.2 rfl rfl) ?_
     refine bnd hF fun lI nz hF=>?_
     have aym:=tZ nz
     obtain⟨abV,hx25⟩:=qf nz
     refine agR (s:=2) ajq hx25 .q3 (fun p27 aDK Cn G30 G31 ajW ajX=>?_)
     refine Eh oC.h kM.h.sz rfl .no (.tmp rfl rfl) (.int _ _) rfl rfl .h (ahv ajX aym) (fun k34 ayn=>?_)
     refine du ?_
     refine ais (w:=p27.1.v) fT.h rfl .no (.tmp rfl rfl) rfl .h ayn ajW (ahu rfl) ?_
     refine du ?_
     refine gP rfl .no rfl (fun ha=>bI (g:=true) (len:=4) (parts:=[(0,.const (zi (-1))),(1,.const (zi 9)),(2,.const (zi 17)),(3,.const (zi 18))]) bH.h bC.h (.cons (EN ha (.int _ _) rfl) (.cons (EN ha (.int _ _) rfl) (.cons (EN ha (.int _ _) rfl) (.cons (EN ha (.int _ _) rfl) .nil)))) (vs:=[(zi (-1)),(zi 9),(zi 17),(zi 18)]) rfl rfl rfl (by intro v hv; simp at hv; rcases hv with rfl|rfl|rfl|rfl<;>rfl)) (fun k36=>?_)
     refine gZ (.cons .h .nil) (bK (Ro:=(aj ax)) (E:=3) (F:=([]++([]++([]++([]++[]))))) (xs:=([(-1),9,17,18]:List Int)) (bS (dK (fun _=>rfl)) (bS (dK (fun _=>rfl)) (bS (dK (fun _=>rfl)) (bS (dK (fun _=>rfl)) bJ bB) bB) bB) bB) rfl rfl) ?_
     refine bnd hF fun kE hx38 hF=>lq rfl rfl .no (.cons .h (.cons .q4 (.rd .q8 rfl .nil))) (.dep rfl (.own .h (fun _ h=>h) (.own .h (fun _ h=>h) (.own .q4 (fun _ h=>h) .nil)))) (fun ha=>eY bi (fun _=>(.cons .nil)) (fM (.cons (.t .h) (.rd (.t .h) rfl (.rd .h rfl .nil))) (bP uf.h (.cons (EN ha (.tmp rfl rfl) rfl) (.cons (EN ha (.tmp rfl rfl) rfl) .nil)) (@tT bE (⟨aC.b,fo.2.i,fo.2.h⟩:aN) aa ([(-1),9,17,18]:List Int) (⟨(some ⟨k36,0,none⟩),4,1⟩) _ hx38)))) (fun p39=>?_)
     refine bnd hF fun u43 IL hF=>?_
     have ajY:=HV IL
     refine Eh bH.h bC.h.sz rfl .no (.tmp rfl rfl) (.int _ _) rfl rfl .q4 ajY (fun nE abW=>?_)
     refine bnd hF fun z45 wD hF=>?_
     replace wD:=Option.some.inj wD
     refine bZ rfl rfl .no (.cons .q4 .nil) (.dep rfl (.dep rfl (.dep rfl (.dep rfl (.dep rfl .nil))))) (fun ha=>D8 (Ro:=(aj ax)) (a:=kE.1) (i:=0) bC.h.sz rfl (EN ha (.tmp rfl rfl) rfl) (EN ha (.tmp rfl rfl) rfl) abW ajY (dK (fun _=>rfl)) (fun _ _ _ _ h=>by obtain⟨-,h⟩:=h; cases h; rfl)) (fun XO=>?_)
     rw[wD]
     refine bnd hF fun z48 nU hF=>?_
     replace nU:=Option.some.inj nU
     refine gZ (.cons .q3 (.cons .q3 (.cons .h (.cons .q2 .nil)))) (afF (Bw (a:=(⟨lI.Rel,z45⟩:Atom))) ajW ajX) ?_
     rw[nU]
     refine du ?_
     refine aT ?_
     refine As (zg [dP.1.v,dP.2.2.1.v]) ?_
     refine aT ?_
     cases hF
     exact Er (dP.1,dP.2.1,dP.2.2.1,(Cn++(G30++(XO++G31))))
   refine aL ?_
   refine Ci hF (fun ayo hF=>?_) (fun ayo hF=>?_)
   · refine jK [0,1,2,3,4,5,6,7] [0,1,0,4,12,31,63,127] [3,7] mixed (by decide+kernel) ?_
     refine du ?_
     refine dH rfl .no (.t .h) (fun ha hp=>fZ (v:=dP.2.2.1.v) Em.h (EN ha (.tmp rfl rfl) rfl) hp.2 rfl rfl) ?_
     refine du ?_
     refine bnd hF fun mX uY hF=>bZ rfl rfl .no (.cons .h (.rd .q5 rfl .nil)) (.own .h (fun _ h=>h) .nil) (fun ha=>bP Bv.h (.cons (EN ha (.tmp rfl rfl) rfl) (.cons (EN ha (.int _ _) rfl) .nil)) (@kG bE (⟨aC.b,fo.2.i,fo.2.h⟩:aN) aa 5 _ uY)) (fun p52=>?_)
     refine du ?_
     refine bnd hF fun M6 Ev hF=>?_
     have ayp:=tZ Ev
     obtain⟨aDL,xJ⟩:=qf Ev
     refine Eh oC.h kM.h.sz rfl .no (.tmp rfl rfl) (.int _ _) rfl rfl .q3 ayp (fun SG abX=>?_)
     refine du ?_
     refine bnd hF fun z60 wz hF=>?_
     replace wz:=Option.some.inj wz
     refine bZ rfl rfl .no (.cons .q3 .nil) (.dep rfl (.dep rfl .nil)) (fun ha=>ZT (Ro:=jO) (i:=0) bC.h.sz rfl (EN ha (.tmp rfl rfl) rfl) (EN ha (.tmp rfl rfl) rfl) abX xJ rfl rfl ahy (ah6 (d:=(IntKind.i64.wrap (mX.1-1))))) (fun _=>?_)
     rw[wz]
     refine du ?_
     refine aT ?_
     refine As (zg [dP.1.v,dP.2.2.1.v]) ?_
     refine aT ?_
     cases hF
     exact Er (dP.1,dP.2.1,dP.2.2.1,dP.2.2.2)
   refine aZ ?_
   refine As (zg [dP.1.v,dP.2.2.1.v]) ?_
   refine aT ?_
   cases hF
   exact Er (dP.1,dP.2.1,dP.2.2.1,dP.2.2.2)
 refine aL ?_
 refine bnd hF fun pY abH hF=>dW (kG abH) (fun p67=>?_)
 refine au ?_
 refine bn (cB (aK (rE (i:=pY.1) (j:=0) (.tmp rfl rfl) (.int _ _)) ?_))
 refine aT ?_
 refine Ci hF (fun auB hF=>?_) (fun auB hF=>?_)
 · refine jK [0,1,2,3,4,5,6,7,8] [0,1,0,0,12,28,63,127,255] [4,6,8] mixed (by decide+kernel) ?_
   refine du ?_
   refine dH rfl .no (.t .h) (fun ha hp=>fZ (v:=(.slice none 0 0)) fT.h (EN ha (.tmp rfl rfl) rfl) hp.2 rfl rfl) ?_
   refine du ?_
   refine gP rfl .no rfl (fun ha=>bI (g:=true) (len:=4) (parts:=[(0,.const (zi 17)),(1,.const (zi 18)),(2,.const (zi 3)),(3,.const (zi (-1)))]) bH.h bC.h (.cons (EN ha (.int _ _) rfl) (.cons (EN ha (.int _ _) rfl) (.cons (EN ha (.int _ _) rfl) (.cons (EN ha (.int _ _) rfl) .nil)))) (vs:=[(zi 17),(zi 18),(zi 3),(zi (-1))]) rfl rfl rfl (by intro v hv; simp at hv; rcases hv with rfl|rfl|rfl|rfl<;>rfl)) (fun k68=>?_)
   refine gZ (.cons .h .nil) (bK (Ro:=(aj ax)) (E:=3) (F:=([]++([]++([]++([]++[]))))) (xs:=([17,18,3,(-1)]:List Int)) (bS (dK (fun _=>rfl)) (bS (dK (fun _=>rfl)) (bS (dK (fun _=>rfl)) (bS (dK (fun _=>rfl)) bJ bB) bB) bB) bB) rfl rfl) ?_
   refine bnd hF fun M7 ayq hF=>lq rfl rfl .no (.cons .h (.cons .h (.rd .q3 rfl .nil))) (.dep rfl (.own .h (fun _ h=>h) .nil)) (fun ha=>eY bi (fun _=>(.cons .nil)) (fM (.cons (.t .h) (.rd (.t .h) rfl (.rd .h rfl .nil))) (bP uf.h (.cons (EN ha (.tmp rfl rfl) rfl) (.cons (EN ha (.tmp rfl rfl) rfl) .nil)) (@tT bE (⟨aC.b,pY.2.i,pY.2.h⟩:aN) aa ([17,18,3,(-1)]:List Int) (⟨(some ⟨k68,0,none⟩),4,1⟩) _ ayq)))) (fun p71=>?_)
   refine gP rfl .no rfl (fun ha=>bI (g:=true) (len:=1) (parts:=[(0,.tmp 23)]) bH.h bC.h (.cons (EN ha (.tmp rfl rfl) rfl) .nil) (vs:=[(zi M7.1)]) rfl rfl rfl (by intro v hv; simp at hv; rcases hv with rfl<;>rfl)) (fun k72=>?_)
   refine gZ (.cons .h .nil) (bK (Ro:=(aj ax)) (E:=3) (F:=([]++[])) (xs:=([M7.1]:List Int)) (bS (dK (fun _=>rfl)) bJ bB) rfl rfl) ?_
   refine gZ .nil (fu (Ro:=(aj ax)) (E:=3)) ?_
   refine bnd hF fun z73 abY hF=>bZ rfl rfl .no (.cons .h (.cons .h .nil)) (.dep rfl (.dep rfl (.dep rfl .nil))) (fun ha=>dL (Ro:=(aj ax)) bH.h gL bC.h rfl rfl rfl (EN ha (.tmp rfl rfl) rfl) (EN ha (.tmp rfl rfl) rfl) abY eX) (fun p75=>?_)
   refine du ?_
   refine bZ rfl rfl .no (.cons .q3 .nil) (.dep rfl (.dep rfl (.dep rfl .nil))) (fun ha=>fA (e':=(zg [p75.1.v,(.slice (some ⟨k3,0,none⟩) 1 1)])) fB.h.sz (EN ha (.tmp rfl rfl) rfl) (EN ha (.tmp rfl rfl) rfl) rfl rfl rfl rfl rfl) (fun _=>?_)
   refine du ?_
   refine aT ?_
   refine As (zg [p75.1.v,(.slice (some ⟨k3,0,none⟩) 1 1)]) ?_
   refine aT ?_
   cases hF
   exact Er (p75.1,p75.2,⟨(some ⟨k3,0,none⟩),1,1⟩,(k3::((k2::([]++[]))++[])))
 refine aL ?_
 refine Ci hF (fun auC hF=>?_) (fun auC hF=>?_)
 · refine jK [0,1,2,3,4,5,6,7,8,9] [0,1,3,7,15,0,0,96,255,511] [7,9] mixed (by decide+kernel) ?_
   refine du ?_
   refine dH rfl .no (.t .h) (fun ha hp=>fZ (v:=(.slice (some ⟨k3,0,none⟩) 1 1)) Em.h (EN ha (.tmp rfl rfl) rfl) hp.2 rfl rfl) ?_
   refine bnd hF fun SH ajZ hF=>?_
   have ayr:=tZ ajZ
   obtain⟨aDM,ays⟩:=qf ajZ
   refine agR (s:=2) ajq ays .q2 (fun XP aDN F83 G84 G85 aj0 aj1=>?_)
   refine Eh oC.h kM.h.sz rfl .no (.tmp rfl rfl) (.int _ _) rfl rfl .h (ahv aj1 ayr) (fun k88 ayt=>?_)
   refine du ?_
   refine ais (w:=XP.1.v) fT.h rfl .no (.tmp rfl rfl) rfl .h ayt aj0 (ahu rfl) ?_
   refine du ?_
   refine gP rfl .no rfl (fun ha=>bI (g:=true) (len:=4) (parts:=[(0,.const (zi (-1))),(1,.const (zi 9)),(2,.const (zi 17)),(3,.const (zi 18))]) bH.h bC.h (.cons (EN ha (.int _ _) rfl) (.cons (EN ha (.int _ _) rfl) (.cons (EN ha (.int _ _) rfl) (.cons (EN ha (.int _ _) rfl) .nil)))) (vs:=[(zi (-1)),(zi 9),(zi 17),(zi 18)]) rfl rfl rfl (by intro v hv; simp at hv; rcases hv with rfl|rfl|rfl|rfl<;>rfl)) (fun k90=>?_)
   refine gZ (.cons .h .nil) (bK (Ro:=(aj ax)) (E:=3) (F:=([]++([]++([]++([]++[]))))) (xs:=([(-1),9,17,18]:List Int)) (bS (dK (fun _=>rfl)) (bS (dK (fun _=>rfl)) (bS (dK (fun _=>rfl)) (bS (dK (fun _=>rfl)) bJ bB) bB) bB) bB) rfl rfl) ?_
   refine bnd hF fun SI ayu hF=>lq rfl rfl .no (.cons .h (.cons .q4 (.rd .q6 rfl .nil))) (.dep rfl (.own .h (fun _ h=>h) (.own .h (fun _ h=>h) (.own .q4 (fun _ h=>h) .nil)))) (fun ha=>eY bi (fun _=>(.cons .nil)) (fM (.cons (.t .h) (.rd (.t .h) rfl (.rd .h rfl .nil))) (bP uf.h (.cons (EN ha (.tmp rfl rfl) rfl) (.cons (EN ha (.tmp rfl rfl) rfl) .nil)) (@tT bE (⟨aC.b,pY.2.i,pY.2.h⟩:aN) aa ([(-1),9,17,18]:List Int) (⟨(some ⟨k90,0,none⟩),4,1⟩) _ ayu)))) (fun p93=>?_)
   refine bnd hF fun u97 hx98 hF=>?_
   have aj2:=HV hx98
   refine Eh bH.h bC.h.sz rfl .no (.tmp rfl rfl) (.int _ _) rfl rfl .q4 aj2 (fun k94 ayv=>?_)
   refine bnd hF fun z99 aaQ hF=>?_
   replace aaQ:=Option.some.inj aaQ
   refine bZ rfl rfl .no (.cons .q4 .nil) (.dep rfl (.dep rfl (.dep rfl (.dep rfl (.dep rfl .nil))))) (fun ha=>D8 (Ro:=(aj ax)) (a:=SI.1) (i:=0) bC.h.sz rfl (EN ha (.tmp rfl rfl) rfl) (EN ha (.tmp rfl rfl) rfl) ayv aj2 (dK (fun _=>rfl)) (fun _ _ _ _ h=>by obtain⟨-,h⟩:=h; cases h; rfl)) (fun ayw=>?_)
   rw[aaQ]
   refine bnd hF fun ajT aaR hF=>?_
   replace aaR:=Option.some.inj aaR
   refine gZ (.cons .q3 (.cons .q3 (.cons .h (.cons .q2 .nil)))) (afF (Bw (a:=(⟨SH.Rel,z99⟩:Atom))) aj0 aj1) ?_
   rw[aaR]
   refine du ?_
   refine aT ?_
   refine As (zg [(.slice none 0 0),(.slice (some ⟨k3,0,none⟩) 1 1)]) ?_
   refine aT ?_
   cases hF
   exact eO (⟨none,0,0⟩,[],⟨(some ⟨k3,0,none⟩),1,1⟩,(F83++(G84++(ayw++G85)))) (.cellA rfl rfl .h rfl jo.h gI.h.sz rfl rfl .nil) rfl (.conv .nil (fu (Ro:=(aj ax)) (E:=3)) (.cons .nil) (.sel (.cons .h (.cons (.t .h) (.cons .q2 .nil)))))
 refine aL ?_
 refine Ci hF (fun auD hF=>?_) (fun auD hF=>?_)
 · refine jK [0,1,2,3,4,5,6,7] [0,1,0,4,12,31,63,127] [3,7] mixed (by decide+kernel) ?_
   refine du ?_
   refine dH rfl .no (.t .h) (fun ha hp=>fZ (v:=(.slice (some ⟨k3,0,none⟩) 1 1)) Em.h (EN ha (.tmp rfl rfl) rfl) hp.2 rfl rfl) ?_
   refine du ?_
   refine bnd hF fun BH aaS hF=>bZ rfl rfl .no (.cons .h (.rd .q3 rfl .nil)) (.own .h (fun _ h=>h) .nil) (fun ha=>bP Bv.h (.cons (EN ha (.tmp rfl rfl) rfl) (.cons (EN ha (.int _ _) rfl) .nil)) (@kG bE (⟨aC.b,pY.2.i,pY.2.h⟩:aN) aa 5 _ aaS)) (fun aDO=>?_)
   refine du ?_
   refine bnd hF fun ajU aiG hF=>?_
   have auE:=tZ aiG
   obtain⟨aB1,hx113⟩:=qf aiG
   refine Eh oC.h kM.h.sz rfl .no (.tmp rfl rfl) (.int _ _) rfl rfl .q2 auE (fun ayx auF=>?_)
   refine du ?_
   refine bnd hF fun ajV hx115 hF=>?_
   replace hx115:=Option.some.inj hx115
   refine bZ rfl rfl .no (.cons .q2 .nil) (.dep rfl (.dep rfl .nil)) (fun ha=>ZT (Ro:=jO) (i:=0) bC.h.sz rfl (EN ha (.tmp rfl rfl) rfl) (EN ha (.tmp rfl rfl) rfl) auF hx113 rfl rfl ahy (ah6 (d:=(IntKind.i64.wrap (BH.1-1))))) (fun _=>?_)
   rw[hx115]
   refine du ?_
   refine aT ?_
   refine As (zg [(.slice none 0 0),(.slice (some ⟨k3,0,none⟩) 1 1)]) ?_
   refine aT ?_
   cases hF
   exact eO (⟨none,0,0⟩,[],⟨(some ⟨k3,0,none⟩),1,1⟩,(k3::((k2::([]++[]))++[]))) (.cellA rfl rfl .h rfl jo.h gI.h.sz rfl rfl .nil) rfl (.conv .nil (fu (Ro:=(aj ax)) (E:=3)) (.cons .nil) (.sel (.cons .h (.cons (.t .h) (.cons (.t .h) .nil)))))
 refine aZ ?_
 refine As (zg [(.slice none 0 0),(.slice (some ⟨k3,0,none⟩) 1 1)]) ?_
 refine aT ?_
 cases hF
 exact eO (⟨none,0,0⟩,[],⟨(some ⟨k3,0,none⟩),1,1⟩,(k3::((k2::([]++[]))++[]))) (.cellA rfl rfl .h rfl jo.h gI.h.sz rfl rfl .nil) rfl (.conv .nil (fu (Ro:=(aj ax)) (E:=3)) (.cons .nil) (.sel (.cons .h (.cons .q3 (.cons (.t .h) .nil)))))
def Uf(aC:aN):Option ((List Int)×aN):=
 (Oy aC).bind fun r1=>
 (vU (⟨aC.b,r1.2.i,r1.2.h⟩:aN) 14).bind fun r4=>
 if r4.1 then (
   (l_ (⟨aC.b,r4.2.i,r4.2.h⟩:aN) ([0,1,4]:List Int)).bind fun r8=>
   (app r1.1 ([r8.1]:List Int)).bind fun z12=>
   some (z12,(⟨aC.b,r8.2.i,r8.2.h⟩:aN)))
 else (
   some (r1.1,(⟨aC.b,r4.2.i,r4.2.h⟩:aN)))
theorem amE{bE:Nat}{aC:aN}{aa:Sv}{R:(List Int)×aN}(hF:Uf aC=some R):
   Fw.Spec Tryz.prog 127 [(pz bE)] [bq bE 101 (zg [aa.v,(zi aC.i),(zi aC.h)]),iZ aa aC.b] (fun p:Sv×List Nat=>p.1.v) (fun p=>[bv p.2 p.1 R.1,bq bE 101 (zg [aa.v,(zi R.2.i),(zi R.2.h)])]):=by
 refine Se 15 Tryz.func127 [.tmp 2] ?_
 intro H0 F0
 unfold Uf at hF
 refine bf ?_
 refine bnd hF fun r1 hx2 hF=>mV (aeH hx2) (fun p3=>?_)
 refine bf ?_
 refine bnd hF fun r4 hx5 hF=>dW (zR hx5) (fun p6=>?_)
 refine au ?_
 refine Ci hF (fun Q7 hF=>?_) (fun Q7 hF=>?_)
 · refine aZ ?_
   refine b_ rfl (bI (g:=true) bH.h bC.h (.cons (.int _ _) (.cons (.int _ _) (.cons (.int _ _) .nil))) (vs:=[(zi 0),(zi 1),(zi 4)]) rfl rfl rfl (by intro v hv; simp at hv; rcases hv with rfl|rfl|rfl<;>rfl)) (fun k7=>?_)
   refine dh (.cons .h .nil) (bK (Ro:=(aj ax)) (E:=3) (F:=([]++([]++([]++[])))) (xs:=([0,1,4]:List Int)) (bS (dK (fun _=>rfl)) (bS (dK (fun _=>rfl)) (bS (dK (fun _=>rfl)) bJ bB) bB) bB) rfl rfl) ?_
   refine bnd hF fun r8 dm hF=>jM (.cons .h (.cons .h (.rd (.t .h) rfl .nil))) (eY bi (fun _=>(.cons .nil)) (fM (.cons (.t .h) (.rd (.t .h) rfl (.rd .h rfl .nil))) (bP uf.h bz (@tT bE (⟨aC.b,r4.2.i,r4.2.h⟩:aN) aa ([0,1,4]:List Int) (⟨(some ⟨k7,0,none⟩),3,1⟩) _ dm)))) (fun dP=>?_)
   refine b_ rfl (bI (g:=true) bH.h bC.h bz (vs:=[(zi r8.1)]) rfl rfl rfl (by intro v hv; simp at hv; rcases hv with rfl<;>rfl)) (fun k11=>?_)
   refine dh (.cons .h .nil) (bK (Ro:=(aj ax)) (E:=3) (F:=([]++[])) (xs:=([r8.1]:List Int)) (bS (dK (fun _=>rfl)) bJ bB) rfl rfl) ?_
   refine bnd hF fun z12 jc hF=>dC (.cons .q3 (.cons .h .nil)) (dL (Ro:=(aj ax)) bH.h gL bC.h rfl rfl rfl (.tmp rfl rfl) (.tmp rfl rfl) jc eX) (fun pX=>?_)
   refine bQ ?_
   cases hF
   exact Er (pX.1,pX.2)
 refine bG ?_
 cases hF
 exact Er (p3.1,p3.2)
def Pb(fuel:Nat)(aC:aN):Option ((List Int)×(List Method)×aO×aN):=
 (Oy aC).bind fun r2=>
 (UF fuel (⟨aC.b,r2.2.i,r2.2.h⟩:aN) r2.1).bind fun r5=>
 (Hm fuel (⟨aC.b,r5.2.i,r5.2.h⟩:aN) r2.1).bind fun r8=>
 (jb (⟨aC.b,r8.2.i,r8.2.h⟩:aN) 20).bind fun eZ=>
 if ((eZ.1:Int)==0)then (
   (NH fuel (⟨aC.b,eZ.2.i,eZ.2.h⟩:aN) r2.1).bind fun eT=>
   (app r5.1 ([eT.1]:List Method)).bind fun Cq=>
   some (r2.1,Cq,r8.1,(⟨aC.b,eT.2.i,eT.2.h⟩:aN)))
 else (
   if ((eZ.1:Int)==1)then (
     (Ib fuel (⟨aC.b,eZ.2.i,eZ.2.h⟩:aN) r2.1).bind fun iJ=>
     some (r2.1,r5.1,iJ.1,(⟨aC.b,iJ.2.i,iJ.2.h⟩:aN)))
   else (
     if ((eZ.1:Int)==2)then (
       (Uf (⟨aC.b,eZ.2.i,eZ.2.h⟩:aN)).bind fun jd=>
       some (jd.1,r5.1,r8.1,(⟨aC.b,jd.2.i,jd.2.h⟩:aN)))
     else (
       some (r2.1,r5.1,r8.1,(⟨aC.b,eZ.2.i,eZ.2.h⟩:aN)))))
theorem aoY{fuel bE:Nat}{aC:aN}{aa:Sv}{R:(List Int)×(List Method)×aO×aN}(hF:Pb fuel aC=some R):
   Fw.Spec Tryz.prog 68 [(pz bE)] [bq bE 101 (zg [aa.v,(zi aC.i),(zi aC.h)]),iZ aa aC.b] (fun p:Sv×List Nat×Sv×List Nat×Sv×List Nat×Sv×List Nat=>(.tuple [p.1.v,p.2.2.1.v,(zg [p.2.2.2.2.1.v,p.2.2.2.2.2.2.1.v])].toArray)) (fun p=>[bv p.2.1 p.1 R.1,Et p.2.2.2.1 p.2.2.1 R.2.1,bv p.2.2.2.2.2.1 p.2.2.2.2.1 R.2.2.1.Head,mq p.2.2.2.2.2.2.2 p.2.2.2.2.2.2.1 R.2.2.1.Atoms,bq bE 101 (zg [aa.v,(zi R.2.2.2.i),(zi R.2.2.2.h)])]):=by
 refine Se 38 Tryz.func68 [.tmp 2,.tmp 3,.cell 4 28] ?_
 intro H0 F0
 unfold Pb at hF
 refine aZ ?_
 refine cO (fun k1=>?_)
 refine aZ ?_
 refine bnd hF fun r2 hx3 hF=>mV (aeH hx3) (fun p4=>?_)
 refine bf ?_
 refine bnd hF fun r5 hx6 hF=>Bu (.cons .h (.cons .h (.rd (.t .h) rfl .nil))) (eY bi (fun _=>(.cons (.cons .nil))) (fM (.cons (.t .h) (.rd (.t .h) rfl (.rd .h rfl .nil))) (bP atq.h bz (anj hx6)))) (fun p7=>?_)
 refine bf ?_
 refine bnd hF fun r8 dm hF=>uV (.cons .h (.cons (.t .h) (.rd .q2 rfl .nil))) (eY bi (fun _=>(.cons (.cons (.cons .nil)))) (fM (.cons (.t .h) (.rd (.t .h) rfl (.rd .h rfl .nil))) (bP atr.h bz (YL dm)))) (fun dP=>?_)
 refine cO (fun k11=>?_)
 refine As (zg [dP.1.v,dP.2.2.1.v]) ?_
 refine aL ?_
 refine bnd hF fun eZ jc hF=>dW (kG jc) (fun pX=>?_)
 refine au ?_
 refine bn (cB (aK (rE (i:=eZ.1) (j:=0) (.tmp rfl rfl) (.int _ _)) ?_))
 refine aT ?_
 refine Ci hF (fun qJ hF=>?_) (fun qJ hF=>?_)
 · refine aL ?_
   refine bnd hF fun eT hx16 hF=>Bu (.cons .q2 (.cons .h (.rd .q5 rfl .nil))) (eY bi (fun _=>(.cons (.cons .nil))) (fM (.cons (.t .h) (.rd (.t .h) rfl (.rd .h rfl .nil))) (bP att.h bz (amD hx16)))) (fun sS=>?_)
   refine b_ rfl (bI (g:=true) sD.h kV.h bz (vs:=[(zg [(zi eT.1.Rel),sS.1.v,(zi eT.1.Limit),(zi eT.1.Cost),(zi eT.1.Quota)])]) rfl rfl rfl (by intro v hv; simp at hv; rcases hv with rfl<;>rfl)) (fun k18=>?_)
   refine dh (.cons .h (.cons (.t .h) .nil)) (bK (Ro:=wu) (E:=92) (F:=(sS.2++[])) (xs:=([eT.1]:List Method)) (bS ajo bJ bB) rfl rfl) ?_
   refine bnd hF fun Cq nT hF=>dC (.cons .q6 (.cons .h .nil)) (dL (Ro:=wu) sD.h QH kV.h rfl rfl rfl (.tmp rfl rfl) (.tmp rfl rfl) nT eX) (fun oJ=>?_)
   refine aT ?_
   refine dM [0,1,2,3,4,5] [0,0,0,1,11,31] [5] mixed (by decide+kernel) ?_
   refine bV ?_
   refine dH rfl .no .q3 (fun ha hp=>gM jo.h gI.h.sz rfl (EN ha (.tmp rfl rfl) rfl) hp.2 rfl) ?_
   refine bV ?_
   refine bZ rfl rfl .no (.cons .q6 .nil) (.dep rfl .nil) (fun ha=>fA (e':=(zg [dP.1.v,dP.2.2.1.v])) (v:=(zg [dP.1.v,dP.2.2.1.v])) gI.h.sz (EN ha (.tmp rfl rfl) rfl) (EN ha (.tmp rfl rfl) rfl) rfl rfl rfl rfl rfl) (fun _=>?_)
   refine du ?_
   refine au ?_
   cases hF
   exact eO (p4.1,p4.2,oJ.1,oJ.2,dP.1,dP.2.1,dP.2.2.1,dP.2.2.2) (.tmp rfl rfl (.tmp rfl rfl (.cellA rfl rfl .h rfl jo.h gI.h.sz rfl rfl .nil))) rfl (.sel (.cons .q2 (.cons (.t .h) (.cons .q3 (.cons .q3 (.cons (.t .h) .nil))))))
 refine aL ?_
 refine Ci hF (fun u6 hF=>?_) (fun u6 hF=>?_)
 · refine aZ ?_
   refine bnd hF fun iJ nz hF=>uV (.cons .q2 (.cons .h (.rd .q5 rfl .nil))) (eY bi (fun _=>(.cons (.cons (.cons .nil)))) (fM (.cons (.t .h) (.rd (.t .h) rfl (.rd .h rfl .nil))) (bP atu.h bz (apG nz)))) (fun ji=>?_)
   refine As (zg [ji.1.v,ji.2.2.1.v]) ?_
   refine au ?_
   refine dM [0,1,2,3,4,5] [0,0,0,1,11,31] [5] mixed (by decide+kernel) ?_
   refine bV ?_
   refine dH rfl .no .h (fun ha hp=>gM jo.h gI.h.sz rfl (EN ha (.tmp rfl rfl) rfl) hp.2 rfl) ?_
   refine bV ?_
   refine bZ rfl rfl .no (.cons .q8 .nil) (.dep rfl .nil) (fun ha=>fA (e':=(zg [ji.1.v,ji.2.2.1.v])) (v:=(zg [ji.1.v,ji.2.2.1.v])) gI.h.sz (EN ha (.tmp rfl rfl) rfl) (EN ha (.tmp rfl rfl) rfl) rfl rfl rfl rfl rfl) (fun _=>?_)
   refine du ?_
   refine au ?_
   cases hF
   exact eO (p4.1,p4.2,p7.1,p7.2,ji.1,ji.2.1,ji.2.2.1,ji.2.2.2) (.tmp rfl rfl (.tmp rfl rfl (.cellA rfl rfl .h rfl jo.h gI.h.sz rfl rfl .nil))) rfl (.sel (.cons .q2 (.cons .q7 (.cons .q2 (.cons .q2 (.cons .q2 .nil))))))
 refine aL ?_
 refine Ci hF (fun xN hF=>?_) (fun xN hF=>?_)
 · refine aT ?_
   refine bnd hF fun jd jP hF=>mV (amE jP) (fun p27=>?_)
   refine aT ?_
   refine dM [0,1,2,3,4,5] [0,0,0,1,11,31] [5] mixed (by decide+kernel) ?_
   refine bV ?_
   refine dH rfl .no .q2 (fun ha hp=>gM jo.h gI.h.sz rfl (EN ha (.tmp rfl rfl) rfl) hp.2 rfl) ?_
   refine bV ?_
   refine bZ rfl rfl .no (.cons .q7 .nil) (.dep rfl .nil) (fun ha=>fA (e':=(zg [dP.1.v,dP.2.2.1.v])) (v:=(zg [dP.1.v,dP.2.2.1.v])) gI.h.sz (EN ha (.tmp rfl rfl) rfl) (EN ha (.tmp rfl rfl) rfl) rfl rfl rfl rfl rfl) (fun _=>?_)
   refine du ?_
   refine au ?_
   cases hF
   exact eO (p27.1,p27.2,p7.1,p7.2,dP.1,dP.2.1,dP.2.2.1,dP.2.2.2) (.tmp rfl rfl (.tmp rfl rfl (.cellA rfl rfl .h rfl jo.h gI.h.sz rfl rfl .nil))) rfl (.sel (.cons (.t .h) (.cons .q6 (.cons .q4 (.cons .q4 (.cons (.t .h) .nil))))))
 refine au ?_
 refine dM [0,1,2,3,4,5] [0,0,0,1,11,31] [5] mixed (by decide+kernel) ?_
 refine bV ?_
 refine dH rfl .no (.t .h) (fun ha hp=>gM jo.h gI.h.sz rfl (EN ha (.tmp rfl rfl) rfl) hp.2 rfl) ?_
 refine bV ?_
 refine bZ rfl rfl .no (.cons .q6 .nil) (.dep rfl .nil) (fun ha=>fA (e':=(zg [dP.1.v,dP.2.2.1.v])) (v:=(zg [dP.1.v,dP.2.2.1.v])) gI.h.sz (EN ha (.tmp rfl rfl) rfl) (EN ha (.tmp rfl rfl) rfl) rfl rfl rfl rfl rfl) (fun _=>?_)
 refine du ?_
 refine au ?_
 cases hF
 exact eO (p4.1,p4.2,p7.1,p7.2,dP.1,dP.2.1,dP.2.2.1,dP.2.2.2) (.tmp rfl rfl (.tmp rfl rfl (.cellA rfl rfl .h rfl jo.h gI.h.sz rfl rfl .nil))) rfl (.sel (.cons .q3 (.cons .q5 (.cons .q3 (.cons .q3 (.cons (.t .h) .nil))))))
def H5(om:Int)(Vi:List Int):Option (Atom):=
 (app ([]:List Int) Vi).bind fun z3=>
 some (⟨om,z3⟩:Atom)
theorem Y0{om:Int}{Vi:List Int}{ak:Sv}{R:Atom}(hF:H5 om Vi=some R):
   Fw.Spec Tryz.prog 37 [(zi om),ak.v] [ah ak Vi] (fun p:Sv×List Nat=>(zg [(zi R.Rel),p.1.v])) (fun p=>[bv p.2 p.1 R.Terms]):=by
 refine Se 10 Tryz.func37 [.cell 4 66] ?_
 intro H0 F0
 unfold H5 at hF
 refine au ?_
 refine cO (fun k1=>?_)
 refine aZ ?_
 refine b_ rfl (bI (g:=true) bH.h bC.h .nil (vs:=[]) rfl rfl rfl (by simp)) (fun k2=>?_)
 refine dh (.cons .h .nil) (bK (Ro:=(aj ax)) (E:=3) (F:=[]) (xs:=([]:List Int)) bJ rfl rfl) ?_
 refine au ?_
 refine bnd hF fun z3 hx4 hF=>dC (.cons .h (.rd (.t .h) rfl .nil)) (dL (Ro:=(aj ax)) bH.h gL bC.h rfl rfl rfl (.tmp rfl rfl) (.tmp rfl rfl) hx4 nK) (fun p5=>?_)
 refine aK (gH kM.h rfl (vs:=[(zi om),p5.1.v]) bz (cells:=[(zi om),p5.1.v]) rfl) ?_
 refine As (zg [(zi om),p5.1.v]) ?_
 refine aT ?_
 cases hF
 exact Er (p5.1,p5.2)
def Pf(fuel:Nat)(aC:aN)(ae:List Int):Option (aO×aN):=
 (Hm fuel aC ae).bind fun r2=>
 (bif (decide (((r2.1.Atoms.length:Int):Int)<4))then ((vU (⟨aC.b,r2.2.i,r2.2.h⟩:aN) 2).bind fun r9=>
     some (r9.2.i,r9.2.h,r9.1))
   else (some (r2.2.i,r2.2.h,false))).bind fun o6=>
 match o6 with
 |(c12,c13,c14)=>if c14 then (
     (ix r2.1.Atoms 0).bind fun uA=>
     (H5 uA.Rel uA.Terms).bind fun iV=>
     (rQ (decide (0<=0)&&decide (0<(iV.Terms.length:Int)))).bind fun u31=>
     (some (iV.Terms.set (0:Int).toNat 15)).bind fun z33=>
     (app r2.1.Atoms ([(⟨iV.Rel,z33⟩:Atom)]:List Atom)).bind fun z37=>
     some ((⟨r2.1.Head,z37⟩:aO),(⟨aC.b,c12,c13⟩:aN)))
   else (
     some (r2.1,(⟨aC.b,c12,c13⟩:aN)))
theorem aoZ{fuel bE:Nat}{aC:aN}{aa:Sv}{ae:List Int}{ak:Sv}{R:aO×aN}(hF:Pf fuel aC ae=some R):
   Fw.Spec Tryz.prog 70 [(pz bE),ak.v] [bq bE 101 (zg [aa.v,(zi aC.i),(zi aC.h)]),iZ aa aC.b,ah ak ae] (fun p:Sv×List Nat×Sv=>(zg [p.1.v,p.2.2.v])) (fun p=>[bv p.2.1 p.1 R.1.Head,bX p.2.2 R.1.Atoms,bq bE 101 (zg [aa.v,(zi R.2.i),(zi R.2.h)])]):=by
 refine Se 38 Tryz.func70 [.cell 4 28] ?_
 intro H0 F0
 unfold Pf at hF
 refine au ?_
 refine cO (fun k1=>?_)
 refine aL ?_
 refine bnd hF fun r2 hx3 hF=>sQ (YL hx3) (fun p4=>?_)
 refine cO (fun k5=>?_)
 refine As (zg [p4.1.v,p4.2.2.1.v]) ?_
 refine aT ?_
 obtain⟨o6,IY,JB⟩:=bind_some hF
 refine au ?_
 refine gB (fun f' cs'=>∃(c12 c13:Int)(c14:Bool)(g:Fr),o6=(c12,c13,c14)/\f'=aR g [(0,(pz bE)),(4,(pz k1)),(5,(pz k5)),(18,(.bool c14))]/\aP cs' [bq bE 101 (zg [aa.v,(zi c12),(zi c13)]),iZ aa aC.b,bq k1 28 (zg [(.slice none 0 0),(.slice none 0 0)]),bq k5 28 (zg [p4.1.v,p4.2.2.1.v]),bv p4.2.1 p4.1 r2.1.Head,mq p4.2.2.2 p4.2.2.1 r2.1.Atoms]) ?_ ?_
 · replace hF:=IY
   refine bf ?_
   rcases df (decide (((r2.1.Atoms.length:Int):Int)<4))with dR|dR
   · rw[dR]
     try rw[dR]at hF; dsimp only[aY,aX]at hF
     refine aZ ?_
     refine bnd hF fun r9 gu hF=>dW (zR gu) (fun jI=>?_)
     exact Wm hF
   rw[dR]
   try rw[dR]at hF; dsimp only[aY,aX]at hF
   exact Wm hF
 rintro _ _ ⟨c12,c13,c14,g41,rfl,rfl,hE⟩
 replace hF:=JB
 try dsimp only at hF
 refine bM hE ?_
 refine Ci hF (fun Q8 hF=>?_) (fun Q8 hF=>?_)
 · refine arC .q5 ?_
   refine aZ ?_
   refine bnd hF fun uA kC hF=>?_
   have ayy:=tZ kC
   obtain⟨aj3,nS⟩:=qf kC
   refine rA oC.h kM.h.sz (.tmp rfl rfl) (.int _ _) .h ayy (fun k15 abZ=>?_)
   refine aho (qZ uA) ajp.h kM.h.sz rfl (.tmp rfl rfl) .h abZ nS rZ (fun iI=>?_)
   refine cO (fun k23=>?_)
   refine As (zg [(zi uA.Rel),iI.v]) ?_
   refine bG ?_
   refine bnd hF fun iV hx25 hF=>dW (Y0 hx25) (fun p26=>?_)
   refine cO (fun k27=>?_)
   refine As (zg [(zi iV.Rel),p26.1.v]) ?_
   refine aL ?_
   refine bnd hF fun u31 hx32 hF=>?_
   have aj4:=HV hx32
   refine rA bH.h bC.h.sz (.tmp rfl rfl) (.int _ _) (.t .h) aj4 (fun k28 ayz=>?_)
   refine bnd hF fun z33 hx34 hF=>?_
   replace hx34:=Option.some.inj hx34
   refine dC (.cons (.t .h) .nil) (D8 (Ro:=(aj ax)) (a:=15) (i:=0) bC.h.sz rfl (.tmp rfl rfl) (.int _ _) ayz aj4 (dK (fun _=>rfl)) (fun _ _ _ _ h=>by obtain⟨-,h⟩:=h; cases h; rfl)) (fun F35=>?_)
   rw[hx34]
   refine bf ?_
   refine b_ rfl (bI (g:=true) oC.h kM.h bz (vs:=[(zg [(zi iV.Rel),p26.1.v])]) rfl rfl rfl (by intro v hv; simp at hv; rcases hv with rfl<;>rfl)) (fun k36=>?_)
   refine dh (.cons .h (.cons .h .nil)) (bK (Ro:=jO) (E:=66) (F:=(F35++[])) (xs:=([(⟨iV.Rel,z33⟩:Atom)]:List Atom)) (bS (Bw (a:=(⟨iV.Rel,z33⟩:Atom))) bJ bB) rfl rfl) ?_
   refine VF .h bi ?_
   refine bnd hF fun z37 hx38 hF=>dC (.cons .q4 (.rd .h rfl .nil)) (dL (Ro:=(aj En)) oC.h Mh kM.h rfl rfl rfl (.tmp rfl rfl) (.tmp rfl rfl) hx38 nK) (fun p39=>?_)
   refine au ?_
   refine As (zg [p4.1.v,p39.1.v]) ?_
   refine aZ ?_
   refine As (zg [p4.1.v,p39.1.v]) ?_
   refine aT ?_
   cases hF
   exact eO (p4.1,p4.2.1,p39.1) (.cellA rfl rfl .h rfl jo.h gI.h.sz rfl rfl .nil) rfl (.frz .q2 bi (.sel (.cons .q9 (.rd .h rfl (.cons .q7 .nil)))))
 refine aZ ?_
 refine As (zg [p4.1.v,p4.2.2.1.v]) ?_
 refine aT ?_
 cases hF
 exact eO (p4.1,p4.2.1,p4.2.2.1) (.cellA rfl rfl .h rfl jo.h gI.h.sz rfl rfl .nil) rfl (.frz .q5 bi (.sel (.cons .q5 (.rd .h rfl (.cons .q2 .nil)))))
def Lc(fuel:Nat)(aC:aN):Option ((List Int)×(List Method)×aO×aN):=
 (Pb fuel aC).bind fun r2=>
 ((rX r2.1).bind fun r8=>
   bif r8 then ((vU (⟨aC.b,r2.2.2.2.i,r2.2.2.2.h⟩:aN) 3).bind fun eZ=>
     some (eZ.2.i,eZ.2.h,eZ.1))
   else (some (r2.2.2.2.i,r2.2.2.2.h,false))).bind fun o6=>
 match o6 with
 |(c15,c16,c17)=>if c17 then (
     (Pf fuel (⟨aC.b,c15,c16⟩:aN) r2.1).bind fun kr=>
     some (r2.1,r2.2.1,kr.1,(⟨aC.b,kr.2.i,kr.2.h⟩:aN)))
   else (
     some (r2.1,r2.2.1,r2.2.2.1,(⟨aC.b,c15,c16⟩:aN)))
theorem aeX{fuel bE:Nat}{aC:aN}{aa:Sv}{R:(List Int)×(List Method)×aO×aN}(hF:Lc fuel aC=some R):
   Fw.Spec Tryz.prog 27 [(pz bE)] [bq bE 101 (zg [aa.v,(zi aC.i),(zi aC.h)]),iZ aa aC.b] (fun p:Sv×Sv×List Nat×Sv×List Nat×Sv=>(.tuple [p.1.v,p.2.1.v,(zg [p.2.2.2.1.v,p.2.2.2.2.2.v])].toArray)) (fun p=>[ah p.1 R.1,Et p.2.2.1 p.2.1 R.2.1,bv p.2.2.2.2.1 p.2.2.2.1 R.2.2.1.Head,bX p.2.2.2.2.2 R.2.2.1.Atoms,bq bE 101 (zg [aa.v,(zi R.2.2.2.i),(zi R.2.2.2.h)])]):=by
 refine Se 28 Tryz.func27 [.tmp 2,.tmp 3,.cell 4 28] ?_
 intro H0 F0
 unfold Lc at hF
 refine aZ ?_
 refine cO (fun k1=>?_)
 refine aZ ?_
 refine bnd hF fun r2 hx3 hF=>XF (aoY hx3) (fun p4=>?_)
 refine au ?_
 refine zx ?_
 refine zx ?_
 refine zx ?_
 refine cO (fun k5=>?_)
 refine aT ?_
 refine As (zg [p4.2.2.2.2.1.v,p4.2.2.2.2.2.2.1.v]) ?_
 refine aT ?_
 obtain⟨o6,IY,JB⟩:=bind_some hF
 refine au ?_
 refine gB (fun f' cs'=>∃(c15 c16:Int)(c17:Bool)(g:Fr),o6=(c15,c16,c17)/\f'=aR g [(0,(pz bE)),(4,(pz k1)),(5,p4.1.v),(6,p4.2.2.1.v),(7,(pz k5)),(19,(.bool c17))]/\aP cs' [bq bE 101 (zg [aa.v,(zi c15),(zi c16)]),iZ aa aC.b,bq k1 28 (zg [(.slice none 0 0),(.slice none 0 0)]),bv p4.2.1 p4.1 r2.1,Et p4.2.2.2.1 p4.2.2.1 r2.2.1,bq k5 28 (zg [p4.2.2.2.2.1.v,p4.2.2.2.2.2.2.1.v]),bv p4.2.2.2.2.2.1 p4.2.2.2.2.1 r2.2.2.1.Head,mq p4.2.2.2.2.2.2.2 p4.2.2.2.2.2.2.1 r2.2.2.1.Atoms]) ?_ ?_
 · replace hF:=IY
   refine au ?_
   refine bnd hF fun r8 dm hF=>dC (.cons (.t .h) .nil) (eY bi (fun _=>.nil) (bP axv.h bz (xc dm))) (fun _=>?_)
   refine au ?_
   rcases df r8 with jE|jE
   · rw[jE]
     try rw[jE]at hF; dsimp only[aY,aX]at hF
     refine aZ ?_
     refine bnd hF fun eZ jc hF=>dW (zR jc) (fun pX=>?_)
     exact Wm hF
   rw[jE]
   try rw[jE]at hF; dsimp only[aY,aX]at hF
   exact Wm hF
 rintro _ _ ⟨c15,c16,c17,g22,rfl,rfl,hE⟩
 replace hF:=JB
 try dsimp only at hF
 refine bM hE ?_
 refine Ci hF (fun xI hF=>?_) (fun xI hF=>?_)
 · refine lS .q3 bi ?_
   refine bf ?_
   refine bnd hF fun kr kC hF=>sQ (aoZ kC) (fun nZ=>?_)
   refine aT ?_
   refine As (zg [nZ.1.v,nZ.2.2.v]) ?_
   refine aT ?_
   cases hF
   exact eO (p4.1,p4.2.2.1,p4.2.2.2.1,nZ.1,nZ.2.1,nZ.2.2) (.tmp rfl rfl (.tmp rfl rfl (.cellA rfl rfl .h rfl jo.h gI.h.sz rfl rfl .nil))) rfl (.sel (.rd .q4 rfl (.cons .q6 (.cons (.t .h) (.rd (.t .h) rfl (.cons .q2 .nil))))))
 refine au ?_
 refine dM [0,1,2,3,4,5] [0,0,0,1,11,31] [5] mixed (by decide+kernel) ?_
 refine bV ?_
 refine dH rfl .no .q5 (fun ha hp=>gM jo.h gI.h.sz rfl (EN ha (.tmp rfl rfl) rfl) hp.2 rfl) ?_
 refine bV ?_
 refine bZ rfl rfl .no (.cons .q2 .nil) (.dep rfl .nil) (fun ha=>fA (e':=(zg [p4.2.2.2.2.1.v,p4.2.2.2.2.2.2.1.v])) (v:=(zg [p4.2.2.2.2.1.v,p4.2.2.2.2.2.2.1.v])) gI.h.sz (EN ha (.tmp rfl rfl) rfl) (EN ha (.tmp rfl rfl) rfl) rfl rfl rfl rfl rfl) (fun _=>?_)
 refine du ?_
 refine au ?_
 cases hF
 exact eO (p4.1,p4.2.2.1,p4.2.2.2.1,p4.2.2.2.2.1,p4.2.2.2.2.2.1,p4.2.2.2.2.2.2.1) (.tmp rfl rfl (.tmp rfl rfl (.cellA rfl rfl .h rfl jo.h gI.h.sz rfl rfl .nil))) rfl (.frz .q3 bi (.frz .q7 bi (.sel (.rd (.t .h) rfl (.cons .q5 (.cons .q6 (.rd .h rfl (.cons .q3 .nil))))))))
def GI(aC:aN)(ae:List Int)(xy:Int)(r2:Int×aN):Nat->Int->Int->(List Int)->Int->Option (Fact×aN)
 |0,_,_,_,_=>none
 |JC+1,c28,l6,ko,wS=>(ix ae r2.1).bind fun wT=>
   if (decide ((wS:Int)<wT))then (
     (jb ({b:=aC.b,i:=c28,h:=l6}:aN) xy).bind fun oK=>
     (app ko ([oK.1]:List Int)).bind fun z52=>
     GI aC ae xy r2 JC oK.2.i oK.2.h z52 (IntKind.i64.wrap (wS+1)))
   else (
     some (({Rel:=r2.1,Values:=ko}:Fact),({b:=aC.b,i:=c28,h:=l6}:aN)))
def Ph(fuel:Nat)(aC:aN)(ae:List Int)(xy:Int):Option (Fact×aN):=
 (jb aC (ae.length:Int)).bind fun r2=>
 GI aC ae xy r2 fuel r2.2.i r2.2.h ([]:List Int) 0
theorem ae6{fuel bE:Nat}{aC:aN}{aa:Sv}{ae:List Int}{ak:Sv}{xy:Int}{R:Fact×aN}(hF:Ph fuel aC ae xy=some R):
   Fw.Spec Tryz.prog 128 [(.pointer (some ⟨bE,0,some 0⟩)),ak.v,(.int .i64 xy)] [bq bE 101 (.agg [aa.v,(.int .i64 aC.i),(.int .i64 aC.h)].toArray),bT (aW 5 xD) aa.v aC.b,bT (aW 3 ax) ak.v ae] (fun p:Sv×List Nat=>(.agg [(.int .i64 R.1.Rel),p.1.v].toArray)) (fun p=>[aJ (az 3 (aj ax)) p.2 p.1.v R.1.Values,bq bE 101 (.agg [aa.v,(.int .i64 R.2.i),(.int .i64 R.2.h)].toArray)]):=by
 refine zV (n:=34) Tryz.func128 rfl rfl (rs:=[.cell 6 71]) rfl rfl rfl ?_
 intro H0 F0
 unfold Ph at hF
 refine cB (b_ rfl (ru (g:=true) eG.h rfl rfl) (fun k1=>?_))
 refine dS (cB (Cm (.pointer (some ⟨bE,0,some 0⟩)) rfl rfl ?_))
 refine Cm ak.v rfl rfl ?_
 refine iH (.t (.t (.t .h))) (fun hp=>qD (l:=ae.length) bH.h (.tmp rfl rfl) (Vh hp)) ?_
 obtain⟨r2,hx3,hF⟩:=bind_some hF
 refine dC (.cons (.t .h) (.rd (.t .h) rfl .nil)) (bP Bv.h (.cons (.tmp rfl rfl) (.cons (.tmp rfl rfl) .nil)) (@kG bE aC aa (ae.length:Int) _ hx3)) (fun p4=>?_)
 refine aK (gH eG.h rfl (vs:=[(.int .i64 r2.1)]) (.cons (.tmp rfl rfl) .nil) (cells:=[(.int .i64 r2.1),(.slice none 0 0)]) rfl) ?_
 refine b_ rfl (ru (g:=true) eG.h rfl rfl) (fun k5=>?_)
 refine dC (.cons .h .nil) (fA (e':=(.agg [(.int .i64 r2.1),(.slice none 0 0)].toArray)) (v:=(.agg [(.int .i64 r2.1),(.slice none 0 0)].toArray)) eG.h.sz (.tmp rfl rfl) (.tmp rfl rfl) rfl rfl rfl rfl rfl) (fun _=>?_)
 refine dS (j6 (cB (aK (iG (v:=(.int .i64 0)) (.int _ _)) ?_)))
 refine dS (bn (bU (m:=fuel) (fun JC f' cs'=>∃(g:Fr)(c28:Int)(l6:Int)(ko:List Int)(wS:Int)(v31:Sv)(F32:List Nat),f'=aR g [(0,(.pointer (some ⟨bE,0,some 0⟩))),(1,ak.v),(2,(.int .i64 xy)),(6,(.pointer (some ⟨k1,0,some 0⟩))),(7,(.pointer (some ⟨k5,0,some 0⟩))),(8,(.int .i64 wS))]/\aP cs' [bq bE 101 (.agg [aa.v,(.int .i64 c28),(.int .i64 l6)].toArray),bT (aW 5 xD) aa.v aC.b,bT (aW 3 ax) ak.v ae,bq k1 71 (.agg [(.int .i64 0),(.slice none 0 0)].toArray),bq k5 71 (.agg [(.int .i64 r2.1),v31.v].toArray),aJ (az 3 (aj ax)) F32 v31.v ko]/\GI aC ae xy r2 JC c28 l6 ko wS=some R) ⟨_,_,_,_,_,⟨none,0,0⟩,[],(cZ.cons rfl (cZ.cons rfl (cZ.cons rfl (cZ.cons rfl (cZ.cons rfl (cZ.cons rfl (cZ.nil))))))).eq,(.conv .nil (fu (Ro:=(aj ax)) (E:=3)) (.cons .nil) (.sel (.cons (.t (.t .h)) (.rd (.t (.t (.t .h))) rfl (.rd (.t (.t (.t (.t .h)))) rfl (.cons (.t (.t .h)) (.cons (.t .h) (.cons .h .nil)))))))),hF⟩ ?_))
 clear hF
 rintro JC _ _ ⟨g35,c28,l6,ko,wS,v31,F32,rfl,hE,hF⟩
 refine bM hE ?_
 clear hE
 rcases JC with _|JC
 · rw[GI]at hF
   exact absurd hF (by simp)
 rw[GI]at hF
 refine j6 (cB (Cm (.int .i64 wS) rfl rfl ?_))
 refine Cm ak.v rfl rfl ?_
 refine aK (nH (off:=0) arM.h (.tmp rfl rfl)) ?_
 refine iH (.t (.t (.t (.t .h)))) (fun hp=>fZ (v:=(.int .i64 r2.1)) oI.h (.tmp rfl rfl) hp.2 rfl rfl) ?_
 obtain⟨wT,oD,hF⟩:=bind_some hF
 obtain⟨ayA,uj⟩:=qf oD
 refine rF (a:=wT) bH.h bC.h.sz (.tmp rfl rfl) (.tmp rfl rfl) (.t (.t .h)) ayA uj (fun vF j47=>?_)
 refine aaF (w:=(.int .i64 wT)) oI.h (.tmp rfl rfl) .h dN ?_
 refine aK (yP (i:=wS) (j:=wT) (.tmp rfl rfl) (.tmp rfl rfl)) ?_
 refine dS (kQ (b:=(decide ((wS:Int)<wT))) (.tmp rfl rfl) (fun BI=>?_) (fun BI=>?_))
 · rw[if_pos BI]at hF
   refine qd (PH (cB (Cm (.pointer (some ⟨bE,0,some 0⟩)) rfl rfl ?_)))
   refine Cm (.int .i64 xy) rfl rfl ?_
   obtain⟨oK,nU,hF⟩:=bind_some hF
   refine dC (.cons (.t .h) (.rd (.t .h) rfl .nil)) (bP Bv.h (.cons (.tmp rfl rfl) (.cons (.tmp rfl rfl) .nil)) (@kG bE ({b:=aC.b,i:=c28,h:=l6}:aN) aa xy _ nU)) (fun p50=>?_)
   refine Ca (.int .i64 oK.1) rfl rfl ?_
   refine dS (qY (aK (nH (off:=1) aaw.h (.tmp rfl rfl)) ?_))
   refine iH (.t (.t (.t (.t (.t .h))))) (fun hp=>fZ (v:=v31.v) fT.h (.tmp rfl rfl) hp.2 rfl rfl) ?_
   refine Cm (.int .i64 oK.1) rfl rfl ?_
   refine b_ rfl (bI (g:=true) bH.h bC.h (.cons (.tmp rfl rfl) .nil) (vs:=[(.int .i64 oK.1)]) rfl rfl rfl (by intro v hv; simp at hv; rcases hv with rfl<;>rfl)) (fun XQ=>?_)
   refine Ee (.cons .h .nil) (bK (Ro:=(aj ax)) (E:=3) (F:=([]++[])) (xs:=([oK.1]:List Int)) (bS (dK (fun _=>rfl)) bJ bB) rfl rfl) bB ?_
   obtain⟨z52,xO,hF⟩:=bind_some hF
   refine dC (.cons (.t (.t (.t (.t (.t (.t (.t .h))))))) (.cons .h .nil)) (dL (Ro:=(aj ax)) bH.h gL bC.h rfl rfl rfl (.tmp rfl rfl) (.tmp rfl rfl) xO eX) (fun p54=>?_)
   refine aK (nH (off:=1) aaw.h (.tmp rfl rfl)) ?_
   refine dC (.cons (.t (.t (.t (.t (.t (.t .h)))))) .nil) (fA (e':=(.agg [(.int .i64 r2.1),p54.1.v].toArray)) fB.h.sz (.tmp rfl rfl) (.tmp rfl rfl) rfl rfl rfl rfl rfl) (fun _=>?_)
   refine dS (qY (Cm (.int .i64 wS) rfl rfl ?_))
   refine aK (kL (i:=wS) (j:=1) (.tmp rfl rfl) (.int _ _)) ?_
   refine Ca (.int .i64 (IntKind.i64.wrap (wS+1))) rfl rfl ?_
   refine dS ?_
   exact⟨JC,Nat.lt_succ_self _,_,_,_,_,_,p54.1,p54.2,(cZ.cons rfl (cZ.cons rfl (cZ.cons rfl (cZ.cons rfl (cZ.cons rfl (cZ.cons rfl (cZ.nil))))))).eq,(.sel (.cons (.t (.t .h)) (.rd (.t (.t (.t .h))) rfl (.rd (.t (.t (.t (.t .h)))) rfl (.cons (.t (.t (.t (.t (.t .h))))) (.cons .h (.cons .h .nil))))))),hF⟩
 rw[if_neg (by rw[BI]; exact Bool.false_ne_true)]at hF
 refine H9 ?_
 iterate 2 refine zU ?_
 refine Hz (cB (iH (.t (.t (.t (.t (.t .h))))) (fun hp=>gM Bz.h eG.h.sz rfl (.tmp rfl rfl) hp.2 rfl) ?_))
 refine dC (.cons (.t (.t (.t (.t .h)))) .nil) (fA (e':=(.agg [(.int .i64 r2.1),v31.v].toArray)) (v:=(.agg [(.int .i64 r2.1),v31.v].toArray)) eG.h.sz (.tmp rfl rfl) (.tmp rfl rfl) rfl rfl rfl rfl rfl) (fun _=>?_)
 refine dS (tY ?_)
 obtain rfl:=Option.some.inj hF
 exact eO (v31,F32) (.cellA rfl rfl .h rfl Bz.h eG.h.sz rfl rfl .nil) rfl (.sel (.cons (.t (.t (.t (.t (.t (.t .h)))))) (.cons (.t (.t .h)) .nil)))
def CS(ay:Fact)(aI:Fact):Nat->Int->Option (Int)
 |0,_=>none
 |m5+1,c4=>if ((decide ((c4:Int)<(ay.Values.length:Int)))&&(decide ((c4:Int)<(aI.Values.length:Int))))then (
     (ix ay.Values c4).bind fun mH=>
     (ix aI.Values c4).bind fun x21=>
     if (decide ((mH:Int)<x21))then (
       some (-1))
     else (
       (ix ay.Values c4).bind fun x27=>
       (ix aI.Values c4).bind fun x33=>
       if (decide ((x33:Int)<x27))then (
         some 1)
       else (
         CS ay aI m5 (IntKind.i64.wrap (c4+1)))))
   else (
     if (decide (((ay.Values.length:Int):Int)<(aI.Values.length:Int)))then (
       some (-1))
     else (
       if (decide (((aI.Values.length:Int):Int)<(ay.Values.length:Int)))then (
         some 1)
       else (
         some 0)))
def yB(ay:Fact)(aI:Fact):Option (Int):=
 if ((ay.Rel:Int)!=aI.Rel)then (
   if (decide ((ay.Rel:Int)<aI.Rel))then (
     some (-1))
   else (
     some 1))
 else (
   CS ay aI (((ay.Values.length:Int)-0).toNat+2) 0)
theorem TU{ay:Fact}{aQ:Sv}{aI:Fact}{aU:Sv}{R:Int}(hF:yB ay aI=some R):
   Fw.Spec Tryz.prog 41 [(zg [(zi ay.Rel),aQ.v]),(zg [(zi aI.Rel),aU.v])] [ah aQ ay.Values,ah aU aI.Values] (fun _:Unit=>(zi R)) (fun _=>[]):=by
 refine Se 66 Tryz.func41 [.tmp 4] ?_
 intro H0 F0
 unfold yB at hF
 refine au ?_
 refine bW (fun k1=>?_)
 refine bW (fun k2=>?_)
 refine lT ?_
 refine Ci hF (fun Q9 hF=>?_) (fun Q9 hF=>?_)
 · refine fI ?_
   refine Ci hF (fun hb3 hF=>?_) (fun hb3 hF=>?_)
   · exact ze hF
   exact ze hF
 refine bf ?_
 refine bn (bU (m:=(((ay.Values.length:Int)-0).toNat+2)) (fun m5 f' cs'=>∃(g:Fr)(c4:Int),f'=aR g [(2,(pz k1)),(3,(pz k2)),(5,(zi c4))]/\aP cs' [a_ k1 71 (zg [(zi ay.Rel),aQ.v]),ah aQ ay.Values,a_ k2 71 (zg [(zi aI.Rel),aU.v]),ah aU aI.Values]/\CS ay aI m5 c4=some R) ⟨_,_,aB,aA,hF⟩ ?_)
 rintro m5 _ _ ⟨g6,c4,rfl,hE,hF⟩
 refine bM hE ?_
 rcases m5 with _|m5
 · rw[CS]at hF
   exact absurd hF (by simp)
 rw[CS]at hF
 refine aT ?_
 refine gB (fun f' cs'=>∃(g:Fr),f'=aR g [(2,(pz k1)),(3,(pz k2)),(5,(zi c4)),(27,(.bool ((decide ((c4:Int)<(ay.Values.length:Int)))&&(decide ((c4:Int)<(aI.Values.length:Int))))))]/\aP cs' [a_ k1 71 (zg [(zi ay.Rel),aQ.v]),ah aQ ay.Values,a_ k2 71 (zg [(zi aI.Rel),aU.v]),ah aU aI.Values]) ?_ ?_
 · refine bG ?_
   rcases df (decide ((c4:Int)<(ay.Values.length:Int)))with Q_|Q_
   · rw[Q_]
     try rw[Q_]at hF; dsimp only[aY,aX]at hF
     refine Ei ?_
     exact⟨_,aB,aA⟩
   rw[Q_]
   try rw[Q_]at hF; dsimp only[aY,aX]at hF
   refine bQ ?_
   exact⟨_,aB,aA⟩
 rintro _ _ ⟨g14,rfl,hE⟩
 refine bM hE ?_
 refine Ci hF (fun ab0 hF=>?_) (fun ab0 hF=>?_)
 · refine aZ ?_
   refine dM [0,1,2,3,4,5,6,7,8,9,10] [0,1,0,7,15,0,32,0,224,480,1023] [] mixed (by decide+kernel) ?_
   refine fw ?_
   refine zI hF fun mH ab1 iL hF=>?_
   refine Di iL (fun k19 EU=>?_)
   refine Dl dN ?_
   refine fw ?_
   refine zI hF fun x21 aDP hx24 hF=>?_
   refine Di hx24 (fun k25 j26=>?_)
   refine Dl dN ?_
   refine bV ?_
   refine Ci hF (fun Q8 hF=>?_) (fun Q8 hF=>?_)
   · exact ze hF
   refine au ?_
   refine dM [0,1,2,3,4,5,6,7,8,9,10] [0,1,0,7,15,0,32,0,224,480,1023] [] mixed (by decide+kernel) ?_
   refine fw ?_
   refine zI hF fun x27 aDQ Ra hF=>?_
   refine Di Ra (fun SF j32=>?_)
   refine Dl dN ?_
   refine fw ?_
   refine zI hF fun x33 aDR uX hF=>?_
   refine Di uX (fun uD j38=>?_)
   refine Dl dN ?_
   refine bV ?_
   refine Ci hF (fun Rc hF=>?_) (fun Rc hF=>?_)
   · exact ze hF
   refine bG ?_
   exact⟨m5,bY _,_,_,aB,aA,hF⟩
 refine aiE ?_
 refine Ci hF (fun ab2 hF=>?_) (fun ab2 hF=>?_)
 · exact ze hF
 refine v_ ?_
 refine Ci hF (fun Re hF=>?_) (fun Re hF=>?_)
 · exact ze hF
 exact ze hF
def KI(bN:Fact):List Fact->Nat->Option (Bool)
 |[],k5=>some false
 |x7::eP,k5=>(yB x7 bN).bind fun iq=>
   if ((iq:Int)==0)then (
     some true)
   else (
     KI bN eP (k5+1))
def OT(ag:List Fact)(bN:Fact):Option (Bool):=
 KI bN ag 0
theorem aor{ag:List Fact}{aa:Sv}{bN:Fact}{aU:Sv}{R:Bool}(hF:OT ag bN=some R):
   Fw.Spec Tryz.prog 173 [aa.v,(zg [(zi bN.Rel),aU.v])] [cz aa ag,ah aU bN.Values] (fun _:Unit=>(.bool R)) (fun _=>[]):=by
 refine Se 19 Tryz.func173 [.tmp 4] ?_
 intro H0 F0
 unfold OT at hF
 refine au ?_
 refine bW (fun k1=>?_)
 refine bG ?_
 refine bn (bU (m:=ag.length) (fun m3 f' cs'=>∃(g:Fr)(k5:Nat)(eP:List Fact),m3=eP.length/\f'=aR g [(0,aa.v),(3,(pz k1)),(5,(zi (k5:Int)))]/\List.drop k5 ag=eP/\aP cs' [cz aa ag,a_ k1 71 (zg [(zi bN.Rel),aU.v]),ah aU bN.Values]/\KI bN eP k5=some R) ⟨_,0,_,rfl,aB,rfl,aA,hF⟩ ?_)
 rintro m3 _ _ ⟨g4,k5,eP,rfl,rfl,mY,hE,hF⟩
 refine Kb hE ag (fun Im=>?_)
 rcases eP with _|⟨x7,eP⟩
 · have tq:=dn mY
   rw[KI]at hF
   refine bQ ?_
   refine dE ?_
   exact ze hF
 obtain⟨tq,gu,jA⟩:=dA mY
 rw[KI]at hF
 refine bQ ?_
 refine dD ?_
 refine aT ?_
 refine dM [0,1,2,3,4,5,6] [0,0,3,7,0,31,63] [5] mixed (by decide+kernel) ?_
 refine bV ?_
 refine Di gu (fun k14 M8=>?_)
 refine oz (mZ x7) nI (fun p16=>?_)
 refine du ?_
 refine bnd hF fun iq iL hF=>jB (TU iL) (fun _=>?_)
 refine bV ?_
 refine Ci hF (fun xI hF=>?_) (fun xI hF=>?_)
 · exact ze hF
 refine bG ?_
 rw[wk k5]
 exact⟨_,bY _,_,k5+1,eP,rfl,aB,jA,aA,hF⟩
def yN(om:Int)(fe:List Int):Option (Fact):=
 (app ([]:List Int) fe).bind fun z3=>
 some (⟨om,z3⟩:Fact)
theorem K4{om:Int}{fe:List Int}{ak:Sv}{R:Fact}(hF:yN om fe=some R):
   Fw.Spec Tryz.prog 120 [(zi om),ak.v] [ah ak fe] (fun p:Sv×List Nat=>(zg [(zi R.Rel),p.1.v])) (fun p=>[bv p.2 p.1 R.Values]):=by
 refine Se 10 Tryz.func120 [.cell 4 71] ?_
 intro H0 F0
 unfold yN at hF
 refine au ?_
 refine cO (fun k1=>?_)
 refine aZ ?_
 refine b_ rfl (bI (g:=true) bH.h bC.h .nil (vs:=[]) rfl rfl rfl (by simp)) (fun k2=>?_)
 refine dh (.cons .h .nil) (bK (Ro:=(aj ax)) (E:=3) (F:=[]) (xs:=([]:List Int)) bJ rfl rfl) ?_
 refine au ?_
 refine bnd hF fun z3 hx4 hF=>dC (.cons .h (.rd (.t .h) rfl .nil)) (dL (Ro:=(aj ax)) bH.h gL bC.h rfl rfl rfl (.tmp rfl rfl) (.tmp rfl rfl) hx4 nK) (fun p5=>?_)
 refine aK (gH eG.h rfl (vs:=[(zi om),p5.1.v]) bz (cells:=[(zi om),p5.1.v]) rfl) ?_
 refine As (zg [(zi om),p5.1.v]) ?_
 refine aT ?_
 cases hF
 exact Er (p5.1,p5.2)
def xe(bN:Fact):List Fact->Nat->(List Fact)->Bool->Option ((List Fact))
 |[],k13,c6,c9=>if (!c9)then (
     (yN bN.Rel bN.Values).bind fun iJ=>
     (app c6 ([iJ]:List Fact)).bind fun z26=>
     some z26)
   else (
     some c6)
 |mH::oV,k13,c6,c9=>((bif (!c9)then ((yB bN mH).bind fun Cr=>
         some (decide ((Cr:Int)<0)))
       else (some false)).bind fun o32=>
     match o32 with
     |vC=>if vC then (
         (yN bN.Rel bN.Values).bind fun mW=>
         (app c6 ([mW]:List Fact)).bind fun z46=>
         (yN mH.Rel mH.Values).bind fun yj=>
         (app z46 ([yj]:List Fact)).bind fun z58=>
         some (z58,true))
       else (
         (yN mH.Rel mH.Values).bind fun XR=>
         (app c6 ([XR]:List Fact)).bind fun z70=>
         some (z70,c9))).bind fun o30=>
   match o30 with
   |(c75,yf)=>xe bN oV (k13+1) c75 yf
def Ho(ag:List Fact)(bN:Fact):Option ((List Fact)):=
 (OT ag bN).bind fun r3=>
 xe bN ag 0 ([]:List Fact) r3
theorem YM{ag:List Fact}{aa:Sv}{bN:Fact}{aU:Sv}{R:(List Fact)}(hF:Ho ag bN=some R):
   Fw.Spec Tryz.prog 108 [aa.v,(zg [(zi bN.Rel),aU.v])] [cz aa ag,ah aU bN.Values] (fun p:Sv×List Nat=>p.1.v) (fun p=>[h_ p.2 p.1 R]):=by
 refine Se 62 Tryz.func108 [.tmp 4] ?_
 intro H0 F0
 unfold Ho at hF
 refine au ?_
 refine bW (fun k1=>?_)
 refine aZ ?_
 refine b_ rfl (bI (g:=true) fU.h eG.h .nil (vs:=[]) rfl rfl rfl (by simp)) (fun k2=>?_)
 refine dh (.cons .h .nil) (bK (Ro:=gD) (E:=71) (F:=[]) (xs:=([]:List Fact)) bJ rfl rfl) ?_
 refine bf ?_
 refine bnd hF fun r3 hx4 hF=>bR (aor hx4) (fun _=>?_)
 refine bG ?_
 refine bn (bU (m:=ag.length) (fun m11 f' cs'=>∃(g:Fr)(k13:Nat)(oV c6:List Fact)(c9:Bool)(v7:Sv)(F8:List Nat),m11=oV.length/\f'=aR g [(0,aa.v),(3,(pz k1)),(5,v7.v),(6,(.bool c9)),(7,(zi (k13:Int)))]/\List.drop k13 ag=oV/\aP cs' [cz aa ag,a_ k1 71 (zg [(zi bN.Rel),aU.v]),ah aU bN.Values,h_ F8 v7 c6]/\xe bN oV k13 c6 c9=some R) ⟨_,0,_,_,_,⟨(some ⟨k2,0,none⟩),0,1⟩,(k2::[]),rfl,aB,rfl,aA,hF⟩ ?_)
 rintro m11 _ _ ⟨g12,k13,oV,c6,c9,v7,F8,rfl,rfl,BJ,hE,hF⟩
 refine Kb hE ag (fun auG=>?_)
 rcases oV with _|⟨mH,oV⟩
 · have ab3:=dn BJ
   rw[xe]at hF
   refine bQ ?_
   refine dE ?_
   refine eU ?_
   refine Ci hF (fun u6 hF=>?_) (fun u6 hF=>?_)
   · refine bG ?_
     refine bnd hF fun iJ nz hF=>dW (K4 nz) (fun ji=>?_)
     refine b_ rfl (bI (g:=true) fU.h eG.h bz (vs:=[(zg [(zi iJ.Rel),ji.1.v])]) rfl rfl rfl (by intro v hv; simp at hv; rcases hv with rfl<;>rfl)) (fun k25=>?_)
     refine dh (.cons .h (.cons .h .nil)) (bK (Ro:=gD) (E:=71) (F:=(ji.2++[])) (xs:=([iJ]:List Fact)) (bS xE bJ bB) rfl rfl) ?_
     refine bnd hF fun z26 hx27 hF=>dC (.cons .q4 (.cons .h .nil)) (dL (Ro:=gD) fU.h xG eG.h rfl rfl rfl (.tmp rfl rfl) (.tmp rfl rfl) hx27 eX) (fun p28=>?_)
     refine bQ ?_
     cases hF
     exact Er (p28.1,p28.2)
   refine bG ?_
   cases hF
   exact Er (v7,F8)
 obtain⟨ab3,iL,ab4⟩:=dA BJ
 rw[xe]at hF
 refine bQ ?_
 refine dD ?_
 refine au ?_
 obtain⟨o30,auH,ayB⟩:=bind_some hF
 refine gN (fun f' cs'=>∃(c75:List Fact)(yf:Bool)(v76:Sv)(JD:List Nat)(g:Fr),o30=(c75,yf)/\f'=aR g [(0,aa.v),(3,(pz k1)),(5,v76.v),(6,(.bool yf)),(7,(zi (k13:Int)))]/\aP cs' [cz aa ag,a_ k1 71 (zg [(zi bN.Rel),aU.v]),ah aU bN.Values,h_ JD v76 c75]) ?_ ?_
 · replace hF:=auH
   refine bn (j6 ?_)
   obtain⟨o32,auI,ayC⟩:=bind_some hF
   refine dM [0,1,2,3,4,5,6,7,8,9,10] [0,1,3,7,7,7,55,119,255,511,1023] [8] mixed (by decide+kernel) ?_
   refine qH (fun f' cs'=>∃(vC:Bool)(g:Fr),vC=o32/\f'=aR g [(0,aa.v),(3,(pz k1)),(5,v7.v),(6,(.bool c9)),(7,(zi (k13:Int))),(28,(.bool vC))]/\aP cs' [cz aa ag,a_ k1 71 (zg [(zi bN.Rel),aU.v]),ah aU bN.Values,h_ F8 v7 c6]) ?_ ?_
   · replace hF:=auI
     refine fw ?_
     rcases df (!c9)with xP|xP
     · rw[xP]
       try rw[xP]at hF; dsimp only[aY,aX]at hF
       refine fw ?_
       refine Di iL (fun lg j36=>?_)
       refine oz (mZ mH) nI (fun p37=>?_)
       refine bnd hF fun Cr hx39 hF=>jB (TU hx39) (fun _=>?_)
       exact iC hF
     rw[xP]
     try rw[xP]at hF; dsimp only[aY,aX]at hF
     exact iC hF
   rintro _ _ ⟨vC,g74,rfl,rfl,hE⟩
   replace hF:=ayC
   try dsimp only at hF
   refine bM hE ?_
   refine Ci hF (fun ayD hF=>?_) (fun ayD hF=>?_)
   · refine bG ?_
     refine bnd hF fun mW oD hF=>dW (K4 oD) (fun p44=>?_)
     refine b_ rfl (bI (g:=true) fU.h eG.h bz (vs:=[(zg [(zi mW.Rel),p44.1.v])]) rfl rfl rfl (by intro v hv; simp at hv; rcases hv with rfl<;>rfl)) (fun k45=>?_)
     refine dh (.cons .h (.cons .h .nil)) (bK (Ro:=gD) (E:=71) (F:=(p44.2++[])) (xs:=([mW]:List Fact)) (bS xE bJ bB) rfl rfl) ?_
     refine bnd hF fun z46 BB hF=>dC (.cons .q4 (.cons .h .nil)) (dL (Ro:=gD) fU.h xG eG.h rfl rfl rfl (.tmp rfl rfl) (.tmp rfl rfl) BB eX) (fun p48=>?_)
     refine bf ?_
     refine jK [0,1,2,3,4,5,6,7,8,9,10,11,12,13,14] [0,0,0,6,14,30,0,0,192,448,960,2046,4094,8191,16383] [11,13] mixed (by decide+kernel) ?_
     refine fw ?_
     refine Di iL (fun JA XM=>?_)
     refine du ?_
     refine Dl PU ?_
     refine bV ?_
     refine Di iL (fun XQ j52=>?_)
     refine du ?_
     refine qG (R':=(aW 3 ax)) fT.h rfl .no (.tmp rfl rfl) rfl .h LK (fun w53=>?_)
     refine bnd hF fun yj wB hF=>kZ (K4 wB) (fun p56=>?_)
     refine gP rfl .no rfl (fun ha=>bI (g:=true) (len:=1) (parts:=[(0,.tmp 48)]) fU.h eG.h (.cons (EN ha (.tmp rfl rfl) rfl) .nil) (vs:=[(zg [(zi yj.Rel),p56.1.v])]) rfl rfl rfl (by intro v hv; simp at hv; rcases hv with rfl<;>rfl)) (fun k57=>?_)
     refine gZ (.cons .h (.cons .h .nil)) (bK (Ro:=gD) (E:=71) (F:=(p56.2++[])) (xs:=([yj]:List Fact)) (bS xE bJ bB) rfl rfl) ?_
     refine bnd hF fun z58 xJ hF=>bZ rfl rfl .no (.cons .q4 (.cons .h .nil)) (.dep rfl .nil) (fun ha=>dL (Ro:=gD) fU.h xG eG.h rfl rfl rfl (EN ha (.tmp rfl rfl) rfl) (EN ha (.tmp rfl rfl) rfl) xJ eX) (fun p60=>?_)
     refine bV ?_
     cases hF
     exact⟨_,_,p60.1,p60.2,_,rfl,aB,aA⟩
   refine au ?_
   refine jK [0,1,2,3,4,5,6,7,8,9,10,11,12,13,14] [0,0,0,6,14,30,0,0,192,448,960,2046,4094,8191,16383] [11,13] mixed (by decide+kernel) ?_
   refine fw ?_
   refine Di iL (fun k61 j62=>?_)
   refine du ?_
   refine Dl PU ?_
   refine bV ?_
   refine Di iL (fun k63 j64=>?_)
   refine du ?_
   refine qG (R':=(aW 3 ax)) fT.h rfl .no (.tmp rfl rfl) rfl .h LK (fun w65=>?_)
   refine bnd hF fun XR abB hF=>kZ (K4 abB) (fun p68=>?_)
   refine gP rfl .no rfl (fun ha=>bI (g:=true) (len:=1) (parts:=[(0,.tmp 48)]) fU.h eG.h (.cons (EN ha (.tmp rfl rfl) rfl) .nil) (vs:=[(zg [(zi XR.Rel),p68.1.v])]) rfl rfl rfl (by intro v hv; simp at hv; rcases hv with rfl<;>rfl)) (fun k69=>?_)
   refine gZ (.cons .h (.cons .h .nil)) (bK (Ro:=gD) (E:=71) (F:=(p68.2++[])) (xs:=([XR]:List Fact)) (bS xE bJ bB) rfl rfl) ?_
   refine bnd hF fun z70 ayE hF=>bZ rfl rfl .no (.cons .q7 (.cons .h .nil)) (.dep rfl .nil) (fun ha=>dL (Ro:=gD) fU.h xG eG.h rfl rfl rfl (EN ha (.tmp rfl rfl) rfl) (EN ha (.tmp rfl rfl) rfl) ayE eX) (fun p72=>?_)
   refine bV ?_
   cases hF
   exact⟨_,_,p72.1,p72.2,_,rfl,aB,aA⟩
 rintro _ _ ⟨c75,yf,v76,JD,g80,rfl,rfl,hE⟩
 replace hF:=ayB
 try dsimp only at hF
 refine bM hE ?_
 refine bf ?_
 rw[wk k13]
 exact⟨_,bY _,_,k13+1,oV,_,_,v76,JD,rfl,aB,ab4,aA,hF⟩
def Gr(aC:aN)(ae:List Int)(fuel:Nat):Nat->Int->Int->(List Fact)->Int->Option ((List Fact)×aN)
 |0,_,_,_,_=>none
 |tu+1,c23,c24,vE,c28=>if (decide ((0:Int)<c28))then (
     (Ph fuel (⟨aC.b,c23,c24⟩:aN) ae 4).bind fun kE=>
     (Ho vE kE.1).bind fun M9=>
     Gr aC ae fuel tu kE.2.i kE.2.h M9 (IntKind.i64.wrap (c28-1)))
   else (
     some (vE,(⟨aC.b,c23,c24⟩:aN)))
def OU(fuel:Nat)(aC:aN)(ae:List Int)(Vz:Int):Option ((List Fact)×aN):=
 (jb aC (IntKind.i64.wrap (Vz+1))).bind fun r2=>
 Gr aC ae fuel ((r2.1-0).toNat+2) r2.2.i r2.2.h ([]:List Fact) r2.1
theorem aos{fuel bE:Nat}{aC:aN}{aa:Sv}{ae:List Int}{ak:Sv}{Vz:Int}{R:(List Fact)×aN}(hF:OU fuel aC ae Vz=some R):
   Fw.Spec Tryz.prog 71 [(pz bE),ak.v,(zi Vz)] [bq bE 101 (zg [aa.v,(zi aC.i),(zi aC.h)]),iZ aa aC.b,ah ak ae] (fun p:Sv×List Nat=>p.1.v) (fun p=>[h_ p.2 p.1 R.1,bq bE 101 (zg [aa.v,(zi R.2.i),(zi R.2.h)])]):=by
 refine Se 24 Tryz.func71 [.tmp 6] ?_
 intro H0 F0
 unfold OU at hF
 refine aL ?_
 refine b_ rfl (bI (g:=true) fU.h eG.h .nil (vs:=[]) rfl rfl rfl (by simp)) (fun k1=>?_)
 refine dh (.cons .h .nil) (bK (Ro:=gD) (E:=71) (F:=[]) (xs:=([]:List Fact)) bJ rfl rfl) ?_
 refine bQ ?_
 refine bnd hF fun r2 hx3 hF=>dW (kG hx3) (fun p4=>?_)
 refine aT ?_
 refine bn (bU (m:=((r2.1-0).toNat+2)) (fun tu f' cs'=>∃(g:Fr)(c23 c24:Int)(vE:List Fact)(c28:Int)(v26:Sv)(F27:List Nat),f'=aR g [(0,(pz bE)),(1,ak.v),(7,v26.v),(8,(zi c28))]/\aP cs' [bq bE 101 (zg [aa.v,(zi c23),(zi c24)]),iZ aa aC.b,ah ak ae,h_ F27 v26 vE]/\Gr aC ae fuel tu c23 c24 vE c28=some R) ⟨_,_,_,_,_,⟨(some ⟨k1,0,none⟩),0,1⟩,(k1::[]),aB,aA,hF⟩ ?_)
 rintro tu _ _ ⟨g30,c23,c24,vE,c28,v26,F27,rfl,hE,hF⟩
 refine bM hE ?_
 rcases tu with _|tu
 · rw[Gr]at hF
   exact absurd hF (by simp)
 rw[Gr]at hF
 refine bf ?_
 refine Ci hF (fun ab0 hF=>?_) (fun ab0 hF=>?_)
 · refine bG ?_
   refine bnd hF fun kE hx38 hF=>mV (ae6 hx38) (fun p39=>?_)
   refine bnd hF fun M9 QT hF=>Bu (.cons .h (.cons .q3 .nil)) (iW (pre:=[]) (.cons bi (.cons bi .nil)) (fun _=>(.cons .nil)) (bP aaJ.h bz (YM QT))) (fun p42=>?_)
   refine bQ ?_
   exact⟨tu,bY _,_,_,_,_,_,p42.1,p42.2,aB,aA,hF⟩
 refine eU ?_
 cases hF
 exact Er (v26,F27)
def KS(fuel:Nat)(aC:aN)(ae:List Int):Option (Fact×aN):=
 (rX ae).bind fun r4=>
 if r4 then (
   (Ph fuel aC ae 10).bind fun r7=>
   (jb (⟨aC.b,r7.2.i,r7.2.h⟩:aN) 8).bind fun kK=>
   if ((kK.1:Int)==0)then (
     (jb (⟨aC.b,kK.2.i,kK.2.h⟩:aN) 5).bind fun fC=>
     some ((⟨(IntKind.i64.wrap (fC.1-1)),r7.1.Values⟩:Fact),(⟨aC.b,fC.2.i,fC.2.h⟩:aN)))
   else (
     if ((kK.1:Int)==1)then (
       (l_ (⟨aC.b,kK.2.i,kK.2.h⟩:aN) ([(-1),9,10]:List Int)).bind fun iq=>
       (rQ (decide (0<=0)&&decide (0<(r7.1.Values.length:Int)))).bind fun u23=>
       (some (r7.1.Values.set (0:Int).toNat iq.1)).bind fun z25=>
       some ((⟨r7.1.Rel,z25⟩:Fact),(⟨aC.b,iq.2.i,iq.2.h⟩:aN)))
     else (
       if ((kK.1:Int)==2)then (
         (app r7.1.Values ([1]:List Int)).bind fun z29=>
         some ((⟨r7.1.Rel,z29⟩:Fact),(⟨aC.b,kK.2.i,kK.2.h⟩:aN)))
       else (
         some (r7.1,(⟨aC.b,kK.2.i,kK.2.h⟩:aN))))))
 else (
   (jb aC 8).bind fun il=>
   if ((il.1:Int)==0)then (
     (jb (⟨aC.b,il.2.i,il.2.h⟩:aN) 5).bind fun Cr=>
     some ((⟨(IntKind.i64.wrap (Cr.1-1)),([1]:List Int)⟩:Fact),(⟨aC.b,Cr.2.i,Cr.2.h⟩:aN)))
   else (
     if ((il.1:Int)==1)then (
       (l_ (⟨aC.b,il.2.i,il.2.h⟩:aN) ([(-1),9,10]:List Int)).bind fun mW=>
       (rQ (decide (0<=0)&&decide (0<(([1]:List Int).length:Int)))).bind fun u48=>
       (some (([1]:List Int).set (0:Int).toNat mW.1)).bind fun z50=>
       some ((⟨0,z50⟩:Fact),(⟨aC.b,mW.2.i,mW.2.h⟩:aN)))
     else (
       if ((il.1:Int)==2)then (
         (app ([1]:List Int) ([1]:List Int)).bind fun z54=>
         some ((⟨0,z54⟩:Fact),(⟨aC.b,il.2.i,il.2.h⟩:aN)))
       else (
         some ((⟨0,([1]:List Int)⟩:Fact),(⟨aC.b,il.2.i,il.2.h⟩:aN))))))
theorem aeo{fuel bE:Nat}{aC:aN}{aa:Sv}{ae:List Int}{ak:Sv}{R:Fact×aN}(hF:KS fuel aC ae=some R):
   Fw.Spec Tryz.prog 72 [(pz bE),ak.v] [bq bE 101 (zg [aa.v,(zi aC.i),(zi aC.h)]),iZ aa aC.b,ah ak ae] (fun p:Sv×List Nat=>(zg [(zi R.1.Rel),p.1.v])) (fun p=>[bv p.2 p.1 R.1.Values,bq bE 101 (zg [aa.v,(zi R.2.i),(zi R.2.h)])]):=by
 refine Se 37 Tryz.func72 [.cell 4 71] ?_
 intro H0 F0
 unfold KS at hF
 refine au ?_
 refine cO (fun k1=>?_)
 refine aT ?_
 refine b_ rfl (bI (g:=true) bH.h bC.h (.cons (.int _ _) .nil) (vs:=[(zi 1)]) rfl rfl rfl (by intro v hv; simp at hv; rcases hv with rfl<;>rfl)) (fun k2=>?_)
 refine dh (.cons .h .nil) (bK (Ro:=(aj ax)) (E:=3) (F:=([]++[])) (xs:=([1]:List Int)) (bS (dK (fun _=>rfl)) bJ bB) rfl rfl) ?_
 refine aK (gH eG.h rfl (vs:=[(.slice (some ⟨k2,0,none⟩) 1 1)]) bz (cells:=[(zi 0),(.slice (some ⟨k2,0,none⟩) 1 1)]) rfl) ?_
 refine cO (fun k3=>?_)
 refine As (zg [(zi 0),(.slice (some ⟨k2,0,none⟩) 1 1)]) ?_
 refine aL ?_
 refine bnd hF fun r4 hx5 hF=>bR (xc hx5) (fun _=>?_)
 refine au ?_
 refine Ci hF (fun abR hF=>?_) (fun abR hF=>?_)
 · refine aZ ?_
   refine bnd hF fun r7 nY hF=>mV (ae6 nY) (fun p9=>?_)
   refine As (zg [(zi r7.1.Rel),p9.1.v]) ?_
   refine aL ?_
   refine bnd hF fun kK mD hF=>dW (kG mD) (fun iP=>?_)
   refine au ?_
   refine bn (cB (aK (rE (i:=kK.1) (j:=0) (.tmp rfl rfl) (.int _ _)) ?_))
   refine aT ?_
   refine Ci hF (fun Q4 hF=>?_) (fun Q4 hF=>?_)
   · refine aT ?_
     refine bnd hF fun fC fQ hF=>dW (kG fQ) (fun gT=>?_)
     refine aT ?_
     refine As (zg [(zi (IntKind.i64.wrap (fC.1-1))),p9.1.v]) ?_
     refine aZ ?_
     refine As (zg [(zi (IntKind.i64.wrap (fC.1-1))),p9.1.v]) ?_
     refine aT ?_
     cases hF
     exact Er (p9.1,p9.2)
   refine aL ?_
   refine Ci hF (fun Q5 hF=>?_) (fun Q5 hF=>?_)
   · refine jK [0,1,2,3,4,5,6] [0,1,0,0,12,31,63] [4,6] mixed (by decide+kernel) ?_
     refine du ?_
     refine dH rfl .no (.t .h) (fun ha hp=>fZ (v:=p9.1.v) fT.h (EN ha (.tmp rfl rfl) rfl) hp.2 rfl rfl) ?_
     refine du ?_
     refine gP rfl .no rfl (fun ha=>bI (g:=true) (len:=3) (parts:=[(0,.const (zi (-1))),(1,.const (zi 9)),(2,.const (zi 10))]) bH.h bC.h (.cons (EN ha (.int _ _) rfl) (.cons (EN ha (.int _ _) rfl) (.cons (EN ha (.int _ _) rfl) .nil))) (vs:=[(zi (-1)),(zi 9),(zi 10)]) rfl rfl rfl (by intro v hv; simp at hv; rcases hv with rfl|rfl|rfl<;>rfl)) (fun k16=>?_)
     refine gZ (.cons .h .nil) (bK (Ro:=(aj ax)) (E:=3) (F:=([]++([]++([]++[])))) (xs:=([(-1),9,10]:List Int)) (bS (dK (fun _=>rfl)) (bS (dK (fun _=>rfl)) (bS (dK (fun _=>rfl)) bJ bB) bB) bB) rfl rfl) ?_
     refine bnd hF fun iq iL hF=>lq rfl rfl .no (.cons .h (.cons .h (.rd .q4 rfl .nil))) (.dep rfl (.own .h (fun _ h=>h) .nil)) (fun ha=>eY bi (fun _=>(.cons .nil)) (fM (.cons (.t .h) (.rd (.t .h) rfl (.rd .h rfl .nil))) (bP uf.h (.cons (EN ha (.tmp rfl rfl) rfl) (.cons (EN ha (.tmp rfl rfl) rfl) .nil)) (@tT bE (⟨aC.b,kK.2.i,kK.2.h⟩:aN) aa ([(-1),9,10]:List Int) (⟨(some ⟨k16,0,none⟩),3,1⟩) _ iL)))) (fun yl=>?_)
     refine bnd hF fun u23 hx24 hF=>?_
     have hi22:=HV hx24
     refine Eh bH.h bC.h.sz rfl .no (.tmp rfl rfl) (.int _ _) rfl rfl .q3 hi22 (fun k20 Rh=>?_)
     refine bnd hF fun z25 jP hF=>?_
     replace jP:=Option.some.inj jP
     refine bZ rfl rfl .no (.cons .q3 .nil) (.dep rfl (.dep rfl (.dep rfl .nil))) (fun ha=>D8 (Ro:=(aj ax)) (a:=iq.1) (i:=0) bC.h.sz rfl (EN ha (.tmp rfl rfl) rfl) (EN ha (.tmp rfl rfl) rfl) Rh hi22 (dK (fun _=>rfl)) (fun _ _ _ _ h=>by obtain⟨-,h⟩:=h; cases h; rfl)) (fun F27=>?_)
     rw[jP]
     refine du ?_
     refine aT ?_
     refine As (zg [(zi r7.1.Rel),p9.1.v]) ?_
     refine aT ?_
     cases hF
     exact Er (p9.1,F27)
   refine aL ?_
   refine Ci hF (fun BF hF=>?_) (fun BF hF=>?_)
   · refine aZ ?_
     refine b_ rfl (bI (g:=true) bH.h bC.h (.cons (.int _ _) .nil) (vs:=[(zi 1)]) rfl rfl rfl (by intro v hv; simp at hv; rcases hv with rfl<;>rfl)) (fun k28=>?_)
     refine dh (.cons .h .nil) (bK (Ro:=(aj ax)) (E:=3) (F:=([]++[])) (xs:=([1]:List Int)) (bS (dK (fun _=>rfl)) bJ bB) rfl rfl) ?_
     refine bnd hF fun z29 Ra hF=>dC (.cons .q3 (.cons .h .nil)) (dL (Ro:=(aj ax)) bH.h gL bC.h rfl rfl rfl (.tmp rfl rfl) (.tmp rfl rfl) Ra eX) (fun p31=>?_)
     refine au ?_
     refine As (zg [(zi r7.1.Rel),p31.1.v]) ?_
     refine aZ ?_
     refine As (zg [(zi r7.1.Rel),p31.1.v]) ?_
     refine aT ?_
     cases hF
     exact Er (p31.1,p31.2)
   refine aZ ?_
   refine As (zg [(zi r7.1.Rel),p9.1.v]) ?_
   refine aT ?_
   cases hF
   exact Er (p9.1,p9.2)
 refine aL ?_
 refine bnd hF fun il uX hF=>dW (kG uX) (fun p37=>?_)
 refine au ?_
 refine bn (cB (aK (rE (i:=il.1) (j:=0) (.tmp rfl rfl) (.int _ _)) ?_))
 refine aT ?_
 refine Ci hF (fun abS hF=>?_) (fun abS hF=>?_)
 · refine aT ?_
   refine bnd hF fun Cr hx39 hF=>dW (kG hx39) (fun p40=>?_)
   refine aT ?_
   refine As (zg [(zi (IntKind.i64.wrap (Cr.1-1))),(.slice (some ⟨k2,0,none⟩) 1 1)]) ?_
   refine aZ ?_
   refine As (zg [(zi (IntKind.i64.wrap (Cr.1-1))),(.slice (some ⟨k2,0,none⟩) 1 1)]) ?_
   refine aT ?_
   cases hF
   exact Er (⟨(some ⟨k2,0,none⟩),1,1⟩,(k2::([]++[])))
 refine aL ?_
 refine Ci hF (fun Q6 hF=>?_) (fun Q6 hF=>?_)
 · refine jK [0,1,2,3,4,5,6] [0,1,0,0,12,31,63] [4,6] mixed (by decide+kernel) ?_
   refine du ?_
   refine dH rfl .no (.t .h) (fun ha hp=>fZ (v:=(.slice (some ⟨k2,0,none⟩) 1 1)) fT.h (EN ha (.tmp rfl rfl) rfl) hp.2 rfl rfl) ?_
   refine du ?_
   refine gP rfl .no rfl (fun ha=>bI (g:=true) (len:=3) (parts:=[(0,.const (zi (-1))),(1,.const (zi 9)),(2,.const (zi 10))]) bH.h bC.h (.cons (EN ha (.int _ _) rfl) (.cons (EN ha (.int _ _) rfl) (.cons (EN ha (.int _ _) rfl) .nil))) (vs:=[(zi (-1)),(zi 9),(zi 10)]) rfl rfl rfl (by intro v hv; simp at hv; rcases hv with rfl|rfl|rfl<;>rfl)) (fun tC=>?_)
   refine gZ (.cons .h .nil) (bK (Ro:=(aj ax)) (E:=3) (F:=([]++([]++([]++[])))) (xs:=([(-1),9,10]:List Int)) (bS (dK (fun _=>rfl)) (bS (dK (fun _=>rfl)) (bS (dK (fun _=>rfl)) bJ bB) bB) bB) rfl rfl) ?_
   refine bnd hF fun mW oD hF=>lq rfl rfl .no (.cons .h (.cons .h (.rd .q3 rfl .nil))) (.dep rfl (.own .h (fun _ h=>h) .nil)) (fun ha=>eY bi (fun _=>(.cons .nil)) (fM (.cons (.t .h) (.rd (.t .h) rfl (.rd .h rfl .nil))) (bP uf.h (.cons (EN ha (.tmp rfl rfl) rfl) (.cons (EN ha (.tmp rfl rfl) rfl) .nil)) (@tT bE (⟨aC.b,il.2.i,il.2.h⟩:aN) aa ([(-1),9,10]:List Int) (⟨(some ⟨tC,0,none⟩),3,1⟩) _ oD)))) (fun p44=>?_)
   refine bnd hF fun u48 nU hF=>?_
   have aj5:=HV nU
   refine Eh bH.h bC.h.sz rfl .no (.tmp rfl rfl) (.int _ _) rfl rfl .q3 aj5 (fun k45 ayF=>?_)
   refine bnd hF fun z50 uY hF=>?_
   replace uY:=Option.some.inj uY
   refine bZ rfl rfl .no (.cons .q3 .nil) (.dep rfl (.dep rfl (.dep rfl .nil))) (fun ha=>D8 (Ro:=(aj ax)) (a:=mW.1) (i:=0) bC.h.sz rfl (EN ha (.tmp rfl rfl) rfl) (EN ha (.tmp rfl rfl) rfl) ayF aj5 (dK (fun _=>rfl)) (fun _ _ _ _ h=>by obtain⟨-,h⟩:=h; cases h; rfl)) (fun F52=>?_)
   rw[uY]
   refine du ?_
   refine aT ?_
   refine As (zg [(zi 0),(.slice (some ⟨k2,0,none⟩) 1 1)]) ?_
   refine aT ?_
   cases hF
   exact Er (⟨(some ⟨k2,0,none⟩),1,1⟩,F52)
 refine aL ?_
 refine Ci hF (fun QS hF=>?_) (fun QS hF=>?_)
 · refine aZ ?_
   refine b_ rfl (bI (g:=true) bH.h bC.h (.cons (.int _ _) .nil) (vs:=[(zi 1)]) rfl rfl rfl (by intro v hv; simp at hv; rcases hv with rfl<;>rfl)) (fun SG=>?_)
   refine dh (.cons .h .nil) (bK (Ro:=(aj ax)) (E:=3) (F:=([]++[])) (xs:=([1]:List Int)) (bS (dK (fun _=>rfl)) bJ bB) rfl rfl) ?_
   refine bnd hF fun z54 wB hF=>dC (.cons .q3 (.cons .h .nil)) (dL (Ro:=(aj ax)) bH.h gL bC.h rfl rfl rfl (.tmp rfl rfl) (.tmp rfl rfl) wB eX) (fun p56=>?_)
   refine au ?_
   refine As (zg [(zi 0),p56.1.v]) ?_
   refine aZ ?_
   refine As (zg [(zi 0),p56.1.v]) ?_
   refine aT ?_
   cases hF
   exact Er (p56.1,p56.2)
 refine aZ ?_
 refine As (zg [(zi 0),(.slice (some ⟨k2,0,none⟩) 1 1)]) ?_
 refine aT ?_
 cases hF
 exact Er (⟨(some ⟨k2,0,none⟩),1,1⟩,(k2::([]++[])))
def KJ(fuel:Nat)(aC:aN)(ae:List Int):Option ((List Fact)×aN):=
 (rX ae).bind fun r2=>
 if r2 then (
   (OU fuel aC ae 8).bind fun r5=>
   (vU (⟨aC.b,r5.2.i,r5.2.h⟩:aN) 10).bind fun r8=>
   if r8.1 then (
     (KS fuel (⟨aC.b,r8.2.i,r8.2.h⟩:aN) ae).bind fun fo=>
     (app r5.1 ([fo.1]:List Fact)).bind fun z15=>
     some (z15,(⟨aC.b,fo.2.i,fo.2.h⟩:aN)))
   else (
     some (r5.1,(⟨aC.b,r8.2.i,r8.2.h⟩:aN))))
 else (
   (vU aC 10).bind fun tF=>
   if tF.1 then (
     (KS fuel (⟨aC.b,tF.2.i,tF.2.h⟩:aN) ae).bind fun iJ=>
     (app ([]:List Fact) ([iJ.1]:List Fact)).bind fun z26=>
     some (z26,(⟨aC.b,iJ.2.i,iJ.2.h⟩:aN)))
   else (
     some (([]:List Fact),(⟨aC.b,tF.2.i,tF.2.h⟩:aN))))
theorem adY{fuel bE:Nat}{aC:aN}{aa:Sv}{ae:List Int}{ak:Sv}{R:(List Fact)×aN}(hF:KJ fuel aC ae=some R):
   Fw.Spec Tryz.prog 28 [(pz bE),ak.v] [bq bE 101 (zg [aa.v,(zi aC.i),(zi aC.h)]),iZ aa aC.b,ah ak ae] (fun p:Sv×List Nat=>p.1.v) (fun p=>[h_ p.2 p.1 R.1,bq bE 101 (zg [aa.v,(zi R.2.i),(zi R.2.h)])]):=by
 refine Se 21 Tryz.func28 [.tmp 4] ?_
 intro H0 F0
 unfold KJ at hF
 refine aL ?_
 refine b_ rfl (bI (g:=true) fU.h eG.h .nil (vs:=[]) rfl rfl rfl (by simp)) (fun k1=>?_)
 refine dh (.cons .h .nil) (bK (Ro:=gD) (E:=71) (F:=[]) (xs:=([]:List Fact)) bJ rfl rfl) ?_
 refine bf ?_
 refine bnd hF fun r2 hx3 hF=>bR (xc hx3) (fun _=>?_)
 refine au ?_
 refine Ci hF (fun qJ hF=>?_) (fun qJ hF=>?_)
 · refine aZ ?_
   refine bnd hF fun r5 hx6 hF=>mV (aos hx6) (fun p7=>?_)
   refine bf ?_
   refine bnd hF fun r8 dm hF=>dW (zR dm) (fun dP=>?_)
   refine au ?_
   refine Ci hF (fun ayG hF=>?_) (fun ayG hF=>?_)
   · refine aL ?_
     refine bnd hF fun fo uZ hF=>mV (aeo uZ) (fun vH=>?_)
     refine b_ rfl (bI (g:=true) fU.h eG.h bz (vs:=[(zg [(zi fo.1.Rel),vH.1.v])]) rfl rfl rfl (by intro v hv; simp at hv; rcases hv with rfl<;>rfl)) (fun k14=>?_)
     refine dh (.cons .h (.cons .h .nil)) (bK (Ro:=gD) (E:=71) (F:=(vH.2++[])) (xs:=([fo.1]:List Fact)) (bS xE bJ bB) rfl rfl) ?_
     refine bnd hF fun z15 hx16 hF=>dC (.cons .q2 (.cons .h .nil)) (dL (Ro:=gD) fU.h xG eG.h rfl rfl rfl (.tmp rfl rfl) (.tmp rfl rfl) hx16 eX) (fun sS=>?_)
     refine bQ ?_
     cases hF
     exact Er (sS.1,sS.2)
   refine bG ?_
   cases hF
   exact Er (p7.1,p7.2)
 refine aL ?_
 refine bnd hF fun tF nT hF=>dW (zR nT) (fun oJ=>?_)
 refine au ?_
 refine Ci hF (fun u6 hF=>?_) (fun u6 hF=>?_)
 · refine aL ?_
   refine bnd hF fun iJ nz hF=>mV (aeo nz) (fun ji=>?_)
   refine b_ rfl (bI (g:=true) fU.h eG.h bz (vs:=[(zg [(zi iJ.1.Rel),ji.1.v])]) rfl rfl rfl (by intro v hv; simp at hv; rcases hv with rfl<;>rfl)) (fun k25=>?_)
   refine dh (.cons .h (.cons .h .nil)) (bK (Ro:=gD) (E:=71) (F:=(ji.2++[])) (xs:=([iJ.1]:List Fact)) (bS xE bJ bB) rfl rfl) ?_
   refine bnd hF fun z26 hx27 hF=>dC (.cons .q2 (.cons .h .nil)) (dL (Ro:=gD) fU.h xG eG.h rfl rfl rfl (.tmp rfl rfl) (.tmp rfl rfl) hx27 eX) (fun p28=>?_)
   refine bQ ?_
   cases hF
   exact Er (p28.1,p28.2)
 refine bG ?_
 cases hF
 exact Er (⟨(some ⟨k1,0,none⟩),0,1⟩,(k1::[]))
def TQ(fuel:Nat)(iR:List UInt8):Option ((List Int)×(List Method)×aO×(List Fact)):=
 (PM iR).bind fun r2=>
 (Lc fuel r2).bind fun r5=>
 (KJ fuel (⟨r2.b,r5.2.2.2.i,r5.2.2.2.h⟩:aN) r5.1).bind fun r9=>
 some (r5.1,r5.2.1,r5.2.2.1,r9.1)
theorem al6{fuel:Nat}{iR:List UInt8}{aa:Sv}{R:(List Int)×(List Method)×aO×(List Fact)}(hF:TQ fuel iR=some R):
   Fw.Spec Tryz.prog 5 [aa.v] [iZ aa iR] (fun p:Sv×Sv×List Nat×Sv×List Nat×Sv×Sv×List Nat=>(.tuple [p.1.v,p.2.1.v,(zg [p.2.2.2.1.v,p.2.2.2.2.2.1.v]),p.2.2.2.2.2.2.1.v].toArray)) (fun p=>[ah p.1 R.1,Et p.2.2.1 p.2.1 R.2.1,bv p.2.2.2.2.1 p.2.2.2.1 R.2.2.1.Head,bX p.2.2.2.2.2.1 R.2.2.1.Atoms,h_ p.2.2.2.2.2.2.2 p.2.2.2.2.2.2.1 R.2.2.2]):=by
 refine Se 24 Tryz.func5 [.tmp 2,.tmp 3,.cell 4 28,.tmp 5] ?_
 intro H0 F0
 unfold TQ at hF
 refine aZ ?_
 refine cO (fun k1=>?_)
 refine aL ?_
 refine bnd hF fun r2 hx3 hF=>mV (afG hx3) (fun p4=>?_)
 refine aL ?_
 refine bnd hF fun r5 hx6 hF=>XF (aeX hx6) (fun p7=>?_)
 refine au ?_
 refine zx ?_
 refine zx ?_
 refine zx ?_
 refine cO (fun k8=>?_)
 refine aT ?_
 refine As (zg [p7.2.2.2.1.v,p7.2.2.2.2.2.v]) ?_
 refine au ?_
 refine dM [0,1,2,3,4,5,6,7,8,9] [0,0,0,0,0,24,57,123,255,511] [5,8] mixed (by decide+kernel) ?_
 refine bV ?_
 refine dH rfl .no .h (fun ha hp=>gM jo.h gI.h.sz rfl (EN ha (.tmp rfl rfl) rfl) hp.2 rfl) ?_
 refine bV ?_
 refine bnd hF fun r9 gu hF=>lq rfl rfl .no (.cons .q5 (.rd .q5 rfl (.rd (.t .h) rfl .nil))) (.own .h (fun _ h=>h) .nil) (fun ha=>bP axw.h (.cons (EN ha (.tmp rfl rfl) rfl) (.cons (EN ha (.tmp rfl rfl) rfl) .nil)) (adY gu)) (fun jI=>?_)
 refine bV ?_
 refine bZ rfl rfl .no (.cons .q8 .nil) (.dep rfl .nil) (fun ha=>fA (e':=(zg [p7.2.2.2.1.v,p7.2.2.2.2.2.v])) (v:=(zg [p7.2.2.2.1.v,p7.2.2.2.2.2.v])) gI.h.sz (EN ha (.tmp rfl rfl) rfl) (EN ha (.tmp rfl rfl) rfl) rfl rfl rfl rfl rfl) (fun _=>?_)
 refine bV ?_
 refine au ?_
 cases hF
 exact eO (p7.1,p7.2.1,p7.2.2.1,p7.2.2.2.1,p7.2.2.2.2.1,p7.2.2.2.2.2,jI.1,jI.2) (.tmp rfl rfl (.tmp rfl rfl (.cellA rfl rfl .h rfl jo.h gI.h.sz rfl rfl (.tmp rfl rfl .nil)))) rfl (.sel (.rd .q4 rfl (.cons .q5 (.cons .q5 (.rd .q5 rfl (.cons (.t .h) .nil))))))
def ry(ed:Int)(uU:Int)(xx:Int):Option (Bool):=
 some ((decide ((uU:Int)<=ed))&&(decide ((ed:Int)<=xx)))
theorem vQ{ed uU xx:Int}{R:Bool}(hF:ry ed uU xx=some R):
   Fw.Spec Tryz.prog 135 [(zi ed),(zi uU),(zi xx)] [] (fun _:Unit=>(.bool R)) (fun _=>[]):=by
 refine Se 15 Tryz.func135 [.tmp 6] ?_
 intro H0 F0
 unfold ry at hF
 refine aL ?_
 refine gB (fun f' cs'=>∃(g:Fr),f'=aR g [(6,(.bool ((decide ((uU:Int)<=ed))&&(decide ((ed:Int)<=xx)))))]/\aP cs' []) ?_ ?_
 · refine aL ?_
   rcases df (decide ((uU:Int)<=ed))with hg1|hg1
   · rw[hg1]
     try rw[hg1]at hF; dsimp only[aY,aX]at hF
     refine eU ?_
     exact⟨_,aB,aA⟩
   rw[hg1]
   try rw[hg1]at hF; dsimp only[aY,aX]at hF
   refine bG ?_
   exact⟨_,aB,aA⟩
 rintro _ _ ⟨g2,rfl,hE⟩
 refine bM hE ?_
 exact ze hF
def Ut(ed:Int):Option (Bool):=
 (ry ed 1 3).bind fun r1=>
 some (!r1)
theorem amZ{ed:Int}{R:Bool}(hF:Ut ed=some R):
   Fw.Spec Tryz.prog 137 [(zi ed)] [] (fun _:Unit=>(.bool R)) (fun _=>[]):=by
 refine Se 6 Tryz.func137 [.tmp 2] ?_
 intro H0 F0
 unfold Ut at hF
 refine bf ?_
 refine bnd hF fun r1 hx2 hF=>bR (vQ hx2) (fun _=>?_)
 exact ze hF
def Kc:List Int->Nat->Option (Int)
 |[],k4=>some (-1)
 |x6::aG,k4=>(Ut x6).bind fun eT=>
   if eT then (
     some (k4:Int))
   else (
     Kc aG (k4+1))
def TF(ae:List Int):Option (Int):=
 Kc ae 0
theorem alS{ae:List Int}{aa:Sv}{R:Int}(hF:TF ae=some R):
   Fw.Spec Tryz.prog 185 [aa.v,(.func (.func 137) [].toArray [].toArray)] [ah aa ae] (fun _:Unit=>(zi R)) (fun _=>[]):=by
 refine Se 19 Tryz.func185 [.tmp 4] ?_
 intro H0 F0
 unfold TF at hF
 refine eU ?_
 refine bn (bU (m:=ae.length) (fun m2 f' cs'=>∃(g:Fr)(k4:Nat)(aG:List Int),m2=aG.length/\f'=aR g [(0,aa.v),(1,(.func (.func 137) [].toArray [].toArray)),(7,(zi (ae.length:Int))),(8,(zi (k4:Int)))]/\List.drop k4 ae=aG/\aP cs' [ah aa ae]/\Kc aG k4=some R) ⟨_,0,_,rfl,aB,rfl,aA,hF⟩ ?_)
 rintro m2 _ _ ⟨g3,k4,aG,rfl,rfl,hd7,hE,hF⟩
 refine Kb hE ae (fun jL=>?_)
 rcases aG with _|⟨x6,aG⟩
 · have fG:=dn hd7
   rw[Kc]at hF
   refine aL ?_
   refine dE ?_
   exact ze hF
 obtain⟨fG,dm,fF⟩:=dA hd7
 rw[Kc]at hF
 refine aL ?_
 refine dD ?_
 refine lT ?_
 refine Ai dm (fun k13 lc=>?_)
 refine Al dN ?_
 refine bnd hF fun eT hx16 hF=>mh .nil (lm atv.h (.tmp rfl rfl) bz (amZ hx16)) (fun _=>?_)
 refine au ?_
 refine Ci hF (fun qK hF=>?_) (fun qK hF=>?_)
 · exact ze hF
 refine bf ?_
 rw[wk k4]
 exact⟨_,bY _,_,k4+1,aG,rfl,aB,fF,aA,hF⟩
def Nq(ae:List Int):Option (Bool):=
 (TF ae).bind fun r1=>
 some (decide ((0:Int)<=r1))
theorem alI{ae:List Int}{aa:Sv}{R:Bool}(hF:Nq ae=some R):
   Fw.Spec Tryz.prog 136 [aa.v,(.func (.func 137) [].toArray [].toArray)] [ah aa ae] (fun _:Unit=>(.bool R)) (fun _=>[]):=by
 refine Se 9 Tryz.func136 [.tmp 4] ?_
 intro H0 F0
 unfold Nq at hF
 refine bG ?_
 refine bnd hF fun r1 hx2 hF=>bR (alS hx2) (fun _=>?_)
 exact ze hF
def DJ(ae:List Int):Option (Bool):=
 ((ry (ae.length:Int) 1 3).bind fun r3=>
   bif r3 then ((Nq ae).bind fun r7=>
     some (!r7))
   else (some false)).bind fun o1=>
 match o1 with
 |c10=>some c10
theorem Ug{ae:List Int}{aa:Sv}{R:Bool}(hF:DJ ae=some R):
   Fw.Spec Tryz.prog 75 [aa.v] [ah aa ae] (fun _:Unit=>(.bool R)) (fun _=>[]):=by
 refine Se 11 Tryz.func75 [.tmp 2] ?_
 intro H0 F0
 unfold DJ at hF
 refine aZ ?_
 obtain⟨o1,xQ,hO2⟩:=bind_some hF
 refine au ?_
 refine gB (fun f' cs'=>∃(c10:Bool)(g:Fr),c10=o1/\f'=aR g [(2,(.bool c10))]/\aP cs' []) ?_ ?_
 · replace hF:=xQ
   refine aT ?_
   refine bnd hF fun r3 hx4 hF=>bR (vQ hx4) (fun _=>?_)
   refine au ?_
   rcases df r3 with iA|iA
   · rw[iA]
     try rw[iA]at hF; dsimp only[aY,aX]at hF
     refine aZ ?_
     refine bnd hF fun r7 nY hF=>bR (alI nY) (fun _=>?_)
     exact cK hF
   rw[iA]
   try rw[iA]at hF; dsimp only[aY,aX]at hF
   exact cK hF
 rintro _ _ ⟨c10,g11,rfl,rfl,hE⟩
 replace hF:=hO2
 try dsimp only at hF
 refine bM hE ?_
 exact ze hF
def H6(ae:List Int)(om:Int):Option (Bool):=
 ((DJ ae).bind fun r3=>
   bif r3 then ((ry om 0 (IntKind.i64.wrap ((ae.length:Int)-1))).bind fun r7=>
     some r7)
   else (some false)).bind fun o1=>
 match o1 with
 |c10=>some c10
theorem Y1{ae:List Int}{aa:Sv}{om:Int}{R:Bool}(hF:H6 ae om=some R):
   Fw.Spec Tryz.prog 130 [aa.v,(zi om)] [ah aa ae] (fun _:Unit=>(.bool R)) (fun _=>[]):=by
 refine Se 14 Tryz.func130 [.tmp 4] ?_
 intro H0 F0
 unfold H6 at hF
 refine aZ ?_
 obtain⟨o1,xQ,hO2⟩:=bind_some hF
 refine au ?_
 refine gB (fun f' cs'=>∃(c10:Bool)(g:Fr),c10=o1/\f'=aR g [(4,(.bool c10))]/\aP cs' []) ?_ ?_
 · replace hF:=xQ
   refine au ?_
   refine bnd hF fun r3 hx4 hF=>bR (Ug hx4) (fun _=>?_)
   refine au ?_
   rcases df r3 with iA|iA
   · rw[iA]
     try rw[iA]at hF; dsimp only[aY,aX]at hF
     refine eU ?_
     refine bnd hF fun r7 nY hF=>bR (vQ nY) (fun _=>?_)
     exact cK hF
   rw[iA]
   try rw[iA]at hF; dsimp only[aY,aX]at hF
   exact cK hF
 rintro _ _ ⟨c10,g11,rfl,rfl,hE⟩
 replace hF:=hO2
 try dsimp only at hF
 refine bM hE ?_
 exact ze hF
def FV(ag:List Int):List Int->Nat->Option (Bool)
 |[],k4=>some true
 |x6::aG,k4=>(bif (decide ((0:Int)<(k4:Int)))then ((ix ag (IntKind.i64.wrap ((k4:Int)-1))).bind fun uA=>
       some (decide ((x6:Int)<=uA)))
     else (some false)).bind fun p_=>
   match p_ with
   |c24=>if c24 then (
       some false)
     else (
       FV ag aG (k4+1))
def Od(ag:List Int):Option (Bool):=
 FV ag ag 0
theorem ank{ag:List Int}{aa:Sv}{R:Bool}(hF:Od ag=some R):
   Fw.Spec Tryz.prog 208 [aa.v] [ah aa ag] (fun _:Unit=>(.bool R)) (fun _=>[]):=by
 refine Se 24 Tryz.func208 [.tmp 2] ?_
 intro H0 F0
 unfold Od at hF
 refine eU ?_
 refine bn (bU (m:=ag.length) (fun m2 f' cs'=>∃(g:Fr)(k4:Nat)(aG:List Int),m2=aG.length/\f'=aR g [(0,aa.v),(5,(zi (ag.length:Int))),(6,(zi (k4:Int)))]/\List.drop k4 ag=aG/\aP cs' [ah aa ag]/\FV ag aG k4=some R) ⟨_,0,_,rfl,aB,rfl,aA,hF⟩ ?_)
 rintro m2 _ _ ⟨g3,k4,aG,rfl,rfl,hd7,hE,hF⟩
 refine Kb hE ag (fun jL=>?_)
 rcases aG with _|⟨x6,aG⟩
 · have fG:=dn hd7
   rw[FV]at hF
   refine aL ?_
   refine dE ?_
   exact ze hF
 obtain⟨fG,dm,fF⟩:=dA hd7
 rw[FV]at hF
 refine aL ?_
 refine dD ?_
 refine bG ?_
 obtain⟨p_,Bn,BK⟩:=bind_some hF
 refine dM [0,1,2,3,4,5,6,7,8,9,10,11,12,13] [0,1,3,7,7,31,63,7,7,263,903,1927,4095,8191] [] mixed (by decide+kernel) ?_
 refine qH (fun f' cs'=>∃(c24:Bool)(g:Fr),c24=p_/\f'=aR g [(0,aa.v),(5,(zi (ag.length:Int))),(6,(zi (k4:Int))),(22,(.bool c24))]/\aP cs' [ah aa ag]) ?_ ?_
 · replace hF:=Bn
   refine fw ?_
   rcases df (decide ((0:Int)<(k4:Int)))with xR|xR
   · rw[xR]
     try rw[xR]at hF; dsimp only[aY,aX]at hF
     refine bV ?_
     refine Di dm (fun k16 XN=>?_)
     refine Dl dN ?_
     refine fw ?_
     refine zI hF fun uA aj3 nS hF=>?_
     refine Di nS (fun k22 j23=>?_)
     refine Dl dN ?_
     exact iC hF
   rw[xR]
   try rw[xR]at hF; dsimp only[aY,aX]at hF
   exact iC hF
 rintro _ _ ⟨c24,g27,rfl,rfl,hE⟩
 replace hF:=BK
 try dsimp only at hF
 refine bM hE ?_
 refine Ci hF (fun IZ hF=>?_) (fun IZ hF=>?_)
 · exact ze hF
 refine bf ?_
 rw[wk k4]
 exact⟨_,bY _,_,k4+1,aG,rfl,aB,fF,aA,hF⟩
def Nw(ku:Int)(aD:Int):Option (Bool):=
 (ry ku 0 (IntKind.i64.wrap (aD-1))).bind fun r1=>
 some (!r1)
theorem aml{ku:Int}{bD:Nat}{aD:Int}{R:Bool}(hF:Nw ku aD=some R):
   Fw.Spec Tryz.prog 209 [(zi ku),(pz bD)] [a_ bD 3 (zi aD)] (fun _:Unit=>(.bool R)) (fun _=>[]):=by
 refine Se 9 Tryz.func209 [.tmp 3] ?_
 intro H0 F0
 unfold Nw at hF
 refine bQ ?_
 refine bnd hF fun r1 hx2 hF=>bR (vQ hx2) (fun _=>?_)
 exact ze hF
def J9(aD:Int):List Int->Nat->Option (Int)
 |[],k4=>some (-1)
 |x6::aG,k4=>(Nw x6 aD).bind fun eT=>
   if eT then (
     some (k4:Int))
   else (
     J9 aD aG (k4+1))
def TA(ae:List Int)(aD:Int):Option (Int):=
 J9 aD ae 0
theorem alM{ae:List Int}{aa:Sv}{bD:Nat}{aD R:Int}(hF:TA ae aD=some R):
   Fw.Spec Tryz.prog 185 [aa.v,(.func (.func 209) [].toArray [(pz bD)].toArray)] [ah aa ae,a_ bD 3 (zi aD)] (fun _:Unit=>(zi R)) (fun _=>[]):=by
 refine Se 19 Tryz.func185 [.tmp 4] ?_
 intro H0 F0
 unfold TA at hF
 refine eU ?_
 refine bn (bU (m:=ae.length) (fun m2 f' cs'=>∃(g:Fr)(k4:Nat)(aG:List Int),m2=aG.length/\f'=aR g [(0,aa.v),(1,(.func (.func 209) [].toArray [(pz bD)].toArray)),(7,(zi (ae.length:Int))),(8,(zi (k4:Int)))]/\List.drop k4 ae=aG/\aP cs' [ah aa ae,a_ bD 3 (zi aD)]/\J9 aD aG k4=some R) ⟨_,0,_,rfl,aB,rfl,aA,hF⟩ ?_)
 rintro m2 _ _ ⟨g3,k4,aG,rfl,rfl,hd7,hE,hF⟩
 refine Kb hE ae (fun jL=>?_)
 rcases aG with _|⟨x6,aG⟩
 · have fG:=dn hd7
   rw[J9]at hF
   refine aL ?_
   refine dE ?_
   exact ze hF
 obtain⟨fG,dm,fF⟩:=dA hd7
 rw[J9]at hF
 refine aL ?_
 refine dD ?_
 refine lT ?_
 refine Ai dm (fun k13 lc=>?_)
 refine Al dN ?_
 refine bnd hF fun eT hx16 hF=>mh (.rd .q2 rfl .nil) (lm aty.h (.tmp rfl rfl) bz (aml hx16)) (fun _=>?_)
 refine au ?_
 refine Ci hF (fun qK hF=>?_) (fun qK hF=>?_)
 · exact ze hF
 refine bf ?_
 rw[wk k4]
 exact⟨_,bY _,_,k4+1,aG,rfl,aB,fF,aA,hF⟩
def Nn(ae:List Int)(aD:Int):Option (Bool):=
 (TA ae aD).bind fun r1=>
 some (decide ((0:Int)<=r1))
theorem alE{ae:List Int}{aa:Sv}{bD:Nat}{aD:Int}{R:Bool}(hF:Nn ae aD=some R):
   Fw.Spec Tryz.prog 136 [aa.v,(.func (.func 209) [].toArray [(pz bD)].toArray)] [ah aa ae,a_ bD 3 (zi aD)] (fun _:Unit=>(.bool R)) (fun _=>[]):=by
 refine Se 9 Tryz.func136 [.tmp 4] ?_
 intro H0 F0
 unfold Nn at hF
 refine bG ?_
 refine bnd hF fun r1 hx2 hF=>bR (alM hx2) (fun _=>?_)
 exact ze hF
def Pi(ed:Int):Option (Bool):=
 (ry ed 0 99).bind fun r1=>
 some r1
theorem ae7{ed:Int}{R:Bool}(hF:Pi ed=some R):
   Fw.Spec Tryz.prog 210 [(zi ed)] [] (fun _:Unit=>(.bool R)) (fun _=>[]):=by
 refine Se 5 Tryz.func210 [.tmp 2] ?_
 intro H0 F0
 unfold Pi at hF
 refine bf ?_
 refine bnd hF fun r1 hx2 hF=>bR (vQ hx2) (fun _=>?_)
 exact ze hF
def Uh(bF:Method)(Vj:Int):Option (Bool):=
 ((Od bF.Inputs).bind fun r5=>
   bif r5 then ((Nn bF.Inputs Vj).bind fun r9=>
     bif (!r9)then ((ry bF.Limit 0 9).bind fun fC=>
       bif fC then ((Pi bF.Cost).bind fun iq=>
         bif iq then ((ry bF.Quota 1 99).bind fun kP=>
           some kP)
         else (some false))
       else (some false))
     else (some false))
   else (some false)).bind fun o3=>
 match o3 with
 |c24=>some c24
theorem amF{bF:Method}{aQ:Sv}{Vj:Int}{R:Bool}(hF:Uh bF Vj=some R):
   Fw.Spec Tryz.prog 169 [(zg [(zi bF.Rel),aQ.v,(zi bF.Limit),(zi bF.Cost),(zi bF.Quota)]),(zi Vj)] [ah aQ bF.Inputs] (fun _:Unit=>(.bool R)) (fun _=>[]):=by
 refine Se 30 Tryz.func169 [.tmp 4] ?_
 intro H0 F0
 unfold Uh at hF
 refine au ?_
 refine bW (fun k1=>?_)
 refine bW (fun k2=>?_)
 refine aT ?_
 obtain⟨o3,lW,hO4⟩:=bind_some hF
 refine au ?_
 refine gB (fun f' cs'=>∃(c24:Bool)(g:Fr),c24=o3/\f'=aR g [(4,(.bool c24))]/\aP cs' []) ?_ ?_
 · replace hF:=lW
   refine aT ?_
   refine bnd hF fun r5 hx6 hF=>bR (ank hx6) (fun _=>?_)
   refine au ?_
   rcases df r5 with dR|dR
   · rw[dR]
     try rw[dR]at hF; dsimp only[aY,aX]at hF
     refine bf ?_
     refine aK (rV (fn:=.func 209) (vs:=[]) (us:=[(pz k2)]) .nil bz) ?_
     refine au ?_
     refine bnd hF fun r9 gu hF=>bR (alE gu) (fun _=>?_)
     refine aL ?_
     rcases df (!r9)with iw|iw
     · rw[iw]
       try rw[iw]at hF; dsimp only[aY,aX]at hF
       refine bf ?_
       refine bnd hF fun fC fQ hF=>bR (vQ fQ) (fun _=>?_)
       refine aT ?_
       rcases df fC with jF|jF
       · rw[jF]
         try rw[jF]at hF; dsimp only[aY,aX]at hF
         refine bf ?_
         refine bnd hF fun iq iL hF=>bR (ae7 iL) (fun _=>?_)
         refine aT ?_
         rcases df iq with qL|qL
         · rw[qL]
           try rw[qL]at hF; dsimp only[aY,aX]at hF
           refine bf ?_
           refine bnd hF fun kP uk hF=>bR (vQ uk) (fun _=>?_)
           exact cK hF
         rw[qL]
         try rw[qL]at hF; dsimp only[aY,aX]at hF
         exact cK hF
       rw[jF]
       try rw[jF]at hF; dsimp only[aY,aX]at hF
       exact cK hF
     rw[iw]
     try rw[iw]at hF; dsimp only[aY,aX]at hF
     exact cK hF
   rw[dR]
   try rw[dR]at hF; dsimp only[aY,aX]at hF
   exact cK hF
 rintro _ _ ⟨c24,g25,rfl,rfl,hE⟩
 replace hF:=hO4
 try dsimp only at hF
 refine bM hE ?_
 exact ze hF
def OC(ae:List Int)(bF:Method):Option (Bool):=
 ((H6 ae bF.Rel).bind fun r4=>
   bif r4 then ((ix ae bF.Rel).bind fun x8=>
     (Uh bF x8).bind fun iK=>
     some iK)
   else (some false)).bind fun o2=>
 match o2 with
 |c17=>some c17
theorem anU{ae:List Int}{aa:Sv}{bF:Method}{aU:Sv}{R:Bool}(hF:OC ae bF=some R):
   Fw.Spec Tryz.prog 102 [aa.v,(zg [(zi bF.Rel),aU.v,(zi bF.Limit),(zi bF.Cost),(zi bF.Quota)])] [ah aa ae,ah aU bF.Inputs] (fun _:Unit=>(.bool R)) (fun _=>[]):=by
 refine Se 18 Tryz.func102 [.tmp 4] ?_
 intro H0 F0
 unfold OC at hF
 refine au ?_
 refine bW (fun k1=>?_)
 refine aT ?_
 obtain⟨o2,kX,hO3⟩:=bind_some hF
 refine dM [0,1,2,3,4,5,6,7,8,9,10,11,12,13] [0,0,2,7,15,31,31,31,159,479,991,2047,4095,8191] [3,11] mixed (by decide+kernel) ?_
 refine qH (fun f' cs'=>∃(c17:Bool)(g:Fr),c17=o2/\f'=aR g [(4,(.bool c17))]/\aP cs' []) ?_ ?_
 · replace hF:=kX
   refine fw ?_
   refine bnd hF fun r4 hx5 hF=>jB (Y1 hx5) (fun _=>?_)
   refine du ?_
   rcases df r4 with ek|ek
   · rw[ek]
     try rw[ek]at hF; dsimp only[aY,aX]at hF
     refine sG ?_
     refine zI hF fun x8 ab5 mD hF=>?_
     refine Di mD (fun k12 j13=>?_)
     refine Dl dN ?_
     refine bnd hF fun iK mR hF=>jB (amF mR) (fun _=>?_)
     exact iC hF
   rw[ek]
   try rw[ek]at hF; dsimp only[aY,aX]at hF
   exact iC hF
 rintro _ _ ⟨c17,g18,rfl,rfl,hE⟩
 replace hF:=hO3
 try dsimp only at hF
 refine bM hE ?_
 exact ze hF
end Go.Proofs.YtgcphpodckldbaaGreat
