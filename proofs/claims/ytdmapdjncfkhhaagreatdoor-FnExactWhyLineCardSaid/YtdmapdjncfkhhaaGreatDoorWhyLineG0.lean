/-
  Functions of the program as Lean functions, and that the calls return what these say: part 1. No conditions.
-/
import Derived.Test.YtdmapdjncfkhhaaGreatDoorFc
import Derived.Shelf.Sort.Plain
import Derived.Shelf.Slices.In.SortNone
import Derived.Shelf.Slices.CompactI
import Derived.Shelf.Strings.OnBuilder
import Derived.Shelf.Strconv.Itoa3
import Derived.Test.YtdmapdjncfkhhaaGreatDoorProg
import Derived.KernelRfl
set_option maxRecDepth 100000
set_option maxHeartbeats 1000000
set_option linter.unusedVariables false
namespace Go.Proofs.YtdmapdjncfkhhaaGreatDoor
open Go Go.Fw

theorem iy{G:Prop}(h:G:=by (unfold FD; kernel_rfl)):G:=h
theorem kH{G:Prop}(h:G:=by (unfold AG; kernel_rfl)):G:=h
theorem rP{G:Prop}(h:G:=by (unfold SL; kernel_rfl)):G:=h
theorem jZ{G:Prop}(h:G:=by (unfold TY; kernel_rfl)):G:=h
instance:b_ Tryz.prog:=⟨fun w=>Lib.TabIs Tryz.prog w "internal/strconv.uint64pow10" .u64 Lib.pow10Tab⟩
structure Method where
 Rel:Int
 Inputs:List Int
 Limit:Int
 Cost:Int
 Quota:Int
structure Rule where
 From:Int
 To:Int
 Map:List Int
structure Atom where
 Rel:Int
 Terms:List Int
structure aV where
 Head:List Int
 Atoms:List Atom
instance azP:ig Tryz.prog 27 2 48 (.agg [(.slice none 0 0),(.slice none 0 0)].toArray):=⟨jZ⟩
instance cz:nO Tryz.prog 22 3:=⟨rP⟩
instance cf5:aT Tryz.prog 5:=⟨Tryz.call5⟩
instance aFW:nO Tryz.prog 23 72:=⟨rP⟩
def Oa(H:aB)(v:Value)(a:Method):Prop:=∃v0:Sv,v= .agg [(.int .i64 a.Rel),v0.v,(.int .i64 a.Limit),(.int .i64 a.Cost),(.int .i64 a.Quota)].toArray/\(aI 3 aH) H v0.v a.Inputs
instance:dC Oa:=⟨fun h hi=>by
 obtain⟨v0,h,h0⟩:=h
 exact⟨v0,h,dC.up h0 hi⟩⟩
instance:Cells Oa 5:=⟨fun h=>by
 obtain⟨v0,rfl,h0⟩:=h
 exact⟨rfl,rfl⟩⟩
instance azQ:ig Tryz.prog 72 5 56 (.agg [(.int .i64 0),(.slice none 0 0),(.int .i64 0),(.int .i64 0),(.int .i64 0)].toArray):=⟨jZ⟩
def aa8(a:Method)(p:Sv):List Value:=[(.int .i64 a.Rel),p.v,(.int .i64 a.Limit),(.int .i64 a.Cost),(.int .i64 a.Quota)]
theorem ahn{a:Method}:∀H e,Oa H e a-> ∃i:Sv,0+5<=e.cells.size/\(e.cells.toList.drop 0).take 5=aa8 a i/\ ∀c∈([aR (aI 3 aH) i.v a.Inputs]:List aF),c.P H/\c.F=[]:=by
 intro H e h
 obtain⟨v0,rfl,h0⟩:=h
 refine⟨v0,Nat.le_of_ble_eq_true rfl,rfl,fun c hc=>by
   simp only[List.mem_cons,List.not_mem_nil,or_false]at hc
   rcases hc with rfl
   · exact⟨h0,rfl⟩
⟩
instance aFX:iB Tryz.prog 72 true:=⟨kH⟩
instance aFY:aT Tryz.prog 23:=⟨Tryz.call23⟩
instance aCt:ic Tryz.prog 72 1 1:=⟨iy⟩
instance iF:iB Tryz.prog 22 false:=⟨kH⟩
instance aFZ:aT Tryz.prog 25:=⟨Tryz.call25⟩
instance cf6:aT Tryz.prog 6:=⟨Tryz.call6⟩
instance aF0:nO Tryz.prog 24 75:=⟨rP⟩
def Ob(H:aB)(v:Value)(a:Rule):Prop:=∃v0:Sv,v= .agg [(.int .i64 a.From),(.int .i64 a.To),v0.v].toArray/\(aI 3 aH) H v0.v a.Map
instance:dC Ob:=⟨fun h hi=>by
 obtain⟨v0,h,h0⟩:=h
 exact⟨v0,h,dC.up h0 hi⟩⟩
instance:Cells Ob 3:=⟨fun h=>by
 obtain⟨v0,rfl,h0⟩:=h
 exact⟨rfl,rfl⟩⟩
instance azR:ig Tryz.prog 75 3 40 (.agg [(.int .i64 0),(.int .i64 0),(.slice none 0 0)].toArray):=⟨jZ⟩
def aa9(a:Rule)(p:Sv):List Value:=[(.int .i64 a.From),(.int .i64 a.To),p.v]
theorem aho{a:Rule}:∀H e,Ob H e a-> ∃i:Sv,0+3<=e.cells.size/\(e.cells.toList.drop 0).take 3=aa9 a i/\ ∀c∈([aR (aI 3 aH) i.v a.Map]:List aF),c.P H/\c.F=[]:=by
 intro H e h
 obtain⟨v0,rfl,h0⟩:=h
 refine⟨v0,Nat.le_of_ble_eq_true rfl,rfl,fun c hc=>by
   simp only[List.mem_cons,List.not_mem_nil,or_false]at hc
   rcases hc with rfl
   · exact⟨h0,rfl⟩
⟩
instance aF1:iB Tryz.prog 75 true:=⟨kH⟩
instance aF2:aT Tryz.prog 24:=⟨Tryz.call24⟩
instance aCu:ic Tryz.prog 75 2 2:=⟨iy⟩
instance aF3:iB Tryz.prog 27 true:=⟨kH⟩
instance cf7:aT Tryz.prog 7:=⟨Tryz.call7⟩
instance aCv:ic Tryz.prog 27 0 0:=⟨iy⟩
instance aCw:ic Tryz.prog 27 1 1:=⟨iy⟩
instance aF4:iB Tryz.prog 25 false:=⟨kH⟩
instance aF5:aT Tryz.prog 26:=⟨Tryz.call26⟩
instance aF6:nO Tryz.prog 25 119:=⟨rP⟩
def JB(H:aB)(v:Value)(a:Atom):Prop:=∃v0:Sv,v= .agg [(.int .i64 a.Rel),v0.v].toArray/\(aI 3 aH) H v0.v a.Terms
instance:dC JB:=⟨fun h hi=>by
 obtain⟨v0,h,h0⟩:=h
 exact⟨v0,h,dC.up h0 hi⟩⟩
instance:Cells JB 2:=⟨fun h=>by
 obtain⟨v0,rfl,h0⟩:=h
 exact⟨rfl,rfl⟩⟩
instance aww:ig Tryz.prog 119 2 32 (.agg [(.int .i64 0),(.slice none 0 0)].toArray):=⟨jZ⟩
def aaR(a:Atom)(p:Sv):List Value:=[(.int .i64 a.Rel),p.v]
theorem agy{a:Atom}:∀H e,JB H e a-> ∃i:Sv,0+2<=e.cells.size/\(e.cells.toList.drop 0).take 2=aaR a i/\ ∀c∈([aR (aI 3 aH) i.v a.Terms]:List aF),c.P H/\c.F=[]:=by
 intro H e h
 obtain⟨v0,rfl,h0⟩:=h
 refine⟨v0,Nat.le_of_ble_eq_true rfl,rfl,fun c hc=>by
   simp only[List.mem_cons,List.not_mem_nil,or_false]at hc
   rcases hc with rfl
   · exact⟨h0,rfl⟩
⟩
instance aC5:iB Tryz.prog 119 true:=⟨kH⟩
instance aF7:aT Tryz.prog 65:=⟨Tryz.call65⟩
instance aB_:ic Tryz.prog 119 1 1:=⟨iy⟩
theorem mixed:Tryz.prog.follows .mixedOrders=true:=by kernel_rfl
instance cf9:aT Tryz.prog 9:=⟨Tryz.call9⟩
instance cZ:ig Tryz.prog 3 1 8 (.int .i64 0):=⟨jZ⟩
theorem dG{a:Int}:∀H e,aH H e a->e.cells.toList[0]?=some (.int .i64 a):=by
 intro H e h
 subst h
 rfl
instance Ag:iB Tryz.prog 3 false:=⟨kH⟩
instance aF8:aT Tryz.prog 10:=⟨Tryz.call10⟩
instance vR:nO Tryz.prog 33 89:=⟨rP⟩
instance sS:ig Tryz.prog 89 5 56 (.agg [(.int .i64 0),(.slice none 0 0),(.int .i64 0),(.int .i64 0),(.int .i64 0)].toArray):=⟨jZ⟩
def gN(H:aB)(v:Value)(a:Method):Prop:=∃v0:Sv,v= .agg [(.int .i64 a.Rel),v0.v,(.int .i64 a.Limit),(.int .i64 a.Cost),(.int .i64 a.Quota)].toArray/\(aI 3 aH) H v0.v a.Inputs
instance:dC gN:=⟨fun h hi=>by
 obtain⟨v0,h,h0⟩:=h
 exact⟨v0,h,dC.up h0 hi⟩⟩
instance:Cells gN 5:=⟨fun h=>by
 obtain⟨v0,rfl,h0⟩:=h
 exact⟨rfl,rfl⟩⟩
def zX:fO Method:=fun F H v a=>∃(v0:Sv)(F0:List Nat),v= .agg [(.int .i64 a.Rel),v0.v,(.int .i64 a.Limit),(.int .i64 a.Cost),(.int .i64 a.Quota)].toArray/\F0=F/\(az 3 (aj aH)) F0 H v0.v a.Inputs
instance:eO zX:=⟨fun h hi hg=>by
 obtain⟨v0,F0,rfl,rfl,h0⟩:=h
 exact⟨v0,F0,rfl,rfl,eO.keep h0 hi (fun k hk=>hg k (by simp[hk]))⟩⟩
instance:Local zX:=⟨fun h hg=>by
 obtain⟨v0,F0,rfl,rfl,h0⟩:=h
 exact⟨v0,F0,rfl,rfl,Local.keep h0 (fun k hk=>hg k (by simp[hk]))⟩⟩
instance:kT zX:=⟨fun h k hk=>by
 obtain⟨v0,F0,rfl,rfl,h0⟩:=h
 exact kT.owns h0 k hk
⟩
instance:mo zX 5:=⟨fun h=>by
 obtain⟨v0,F0,rfl,rfl,h0⟩:=h
 exact⟨rfl,rfl⟩⟩
instance:kw zX gN:=⟨fun h hg=>by
 obtain⟨v0,F0,rfl,rfl,h0⟩:=h
 exact⟨v0,rfl,kw.frz h0 (fun k hk=>hg k (by simp[hk]))⟩⟩
instance aF9:aT Tryz.prog 34:=⟨Tryz.call34⟩
instance aCx:ic Tryz.prog 72 0 0:=⟨iy⟩
instance aCy:ic Tryz.prog 89 0 0:=⟨iy⟩
instance aCz:ic Tryz.prog 89 1 1:=⟨iy⟩
instance lQ:ig Tryz.prog 22 1 24 (.slice none 0 0):=⟨jZ⟩
instance aCA:ic Tryz.prog 72 2 2:=⟨iy⟩
instance aCB:ic Tryz.prog 89 2 2:=⟨iy⟩
instance aCC:ic Tryz.prog 72 3 3:=⟨iy⟩
instance aCD:ic Tryz.prog 89 3 3:=⟨iy⟩
instance aCE:ic Tryz.prog 72 4 4:=⟨iy⟩
instance aCF:ic Tryz.prog 89 4 4:=⟨iy⟩
instance aln:iB Tryz.prog 89 true:=⟨kH⟩
theorem azS{a:Method}{v0:Sv}{F0:List Nat}:Mk zX F0 (.agg [(.int .i64 a.Rel),v0.v,(.int .i64 a.Limit),(.int .i64 a.Cost),(.int .i64 a.Quota)].toArray) a [aD (az 3 (aj aH)) F0 v0.v a.Inputs]:=
 ⟨fun H h=>⟨v0,F0,rfl,rfl,h (aD (az 3 (aj aH)) F0 v0.v a.Inputs) (by simp)⟩,by simp[aD]⟩
instance aF_:aT Tryz.prog 11:=⟨Tryz.call11⟩
instance CJ:nO Tryz.prog 35 91:=⟨rP⟩
instance yw:ig Tryz.prog 91 3 40 (.agg [(.int .i64 0),(.int .i64 0),(.slice none 0 0)].toArray):=⟨jZ⟩
def iG(H:aB)(v:Value)(a:Rule):Prop:=∃v0:Sv,v= .agg [(.int .i64 a.From),(.int .i64 a.To),v0.v].toArray/\(aI 3 aH) H v0.v a.Map
instance:dC iG:=⟨fun h hi=>by
 obtain⟨v0,h,h0⟩:=h
 exact⟨v0,h,dC.up h0 hi⟩⟩
instance:Cells iG 3:=⟨fun h=>by
 obtain⟨v0,rfl,h0⟩:=h
 exact⟨rfl,rfl⟩⟩
def vS:fO Rule:=fun F H v a=>∃(v0:Sv)(F0:List Nat),v= .agg [(.int .i64 a.From),(.int .i64 a.To),v0.v].toArray/\F0=F/\(az 3 (aj aH)) F0 H v0.v a.Map
instance:eO vS:=⟨fun h hi hg=>by
 obtain⟨v0,F0,rfl,rfl,h0⟩:=h
 exact⟨v0,F0,rfl,rfl,eO.keep h0 hi (fun k hk=>hg k (by simp[hk]))⟩⟩
instance:Local vS:=⟨fun h hg=>by
 obtain⟨v0,F0,rfl,rfl,h0⟩:=h
 exact⟨v0,F0,rfl,rfl,Local.keep h0 (fun k hk=>hg k (by simp[hk]))⟩⟩
instance:kT vS:=⟨fun h k hk=>by
 obtain⟨v0,F0,rfl,rfl,h0⟩:=h
 exact kT.owns h0 k hk
⟩
instance:mo vS 3:=⟨fun h=>by
 obtain⟨v0,F0,rfl,rfl,h0⟩:=h
 exact⟨rfl,rfl⟩⟩
instance:kw vS iG:=⟨fun h hg=>by
 obtain⟨v0,F0,rfl,rfl,h0⟩:=h
 exact⟨v0,rfl,kw.frz h0 (fun k hk=>hg k (by simp[hk]))⟩⟩
instance aF':aT Tryz.prog 35:=⟨Tryz.call35⟩
instance aCG:ic Tryz.prog 75 0 0:=⟨iy⟩
instance aCH:ic Tryz.prog 91 0 0:=⟨iy⟩
instance aCI:ic Tryz.prog 75 1 1:=⟨iy⟩
instance aCJ:ic Tryz.prog 91 1 1:=⟨iy⟩
instance aCK:ic Tryz.prog 91 2 2:=⟨iy⟩
instance aGa:iB Tryz.prog 91 true:=⟨kH⟩
theorem alo{a:Rule}{v0:Sv}{F0:List Nat}:Mk vS F0 (.agg [(.int .i64 a.From),(.int .i64 a.To),v0.v].toArray) a [aD (az 3 (aj aH)) F0 v0.v a.Map]:=
 ⟨fun H h=>⟨v0,F0,rfl,rfl,h (aD (az 3 (aj aH)) F0 v0.v a.Map) (by simp)⟩,by simp[aD]⟩
instance azT:aT Tryz.prog 12:=⟨Tryz.call12⟩
instance qf:ig Tryz.prog 39 2 48 (.agg [(.slice none 0 0),(.slice none 0 0)].toArray):=⟨jZ⟩
instance aCL:ic Tryz.prog 39 0 0:=⟨iy⟩
instance aGb:aT Tryz.prog 36:=⟨Tryz.call36⟩
instance xe:nO Tryz.prog 37 123:=⟨rP⟩
instance qa:ig Tryz.prog 123 2 32 (.agg [(.int .i64 0),(.slice none 0 0)].toArray):=⟨jZ⟩
def JC(H:aB)(v:Value)(a:Atom):Prop:=∃v0:Sv,v= .agg [(.int .i64 a.Rel),v0.v].toArray/\(aI 3 aH) H v0.v a.Terms
instance:dC JC:=⟨fun h hi=>by
 obtain⟨v0,h,h0⟩:=h
 exact⟨v0,h,dC.up h0 hi⟩⟩
instance:Cells JC 2:=⟨fun h=>by
 obtain⟨v0,rfl,h0⟩:=h
 exact⟨rfl,rfl⟩⟩
def lK:fO Atom:=fun F H v a=>∃(v0:Sv)(F0:List Nat),v= .agg [(.int .i64 a.Rel),v0.v].toArray/\F0=F/\(az 3 (aj aH)) F0 H v0.v a.Terms
instance:eO lK:=⟨fun h hi hg=>by
 obtain⟨v0,F0,rfl,rfl,h0⟩:=h
 exact⟨v0,F0,rfl,rfl,eO.keep h0 hi (fun k hk=>hg k (by simp[hk]))⟩⟩
instance:Local lK:=⟨fun h hg=>by
 obtain⟨v0,F0,rfl,rfl,h0⟩:=h
 exact⟨v0,F0,rfl,rfl,Local.keep h0 (fun k hk=>hg k (by simp[hk]))⟩⟩
instance:kT lK:=⟨fun h k hk=>by
 obtain⟨v0,F0,rfl,rfl,h0⟩:=h
 exact kT.owns h0 k hk
⟩
instance:mo lK 2:=⟨fun h=>by
 obtain⟨v0,F0,rfl,rfl,h0⟩:=h
 exact⟨rfl,rfl⟩⟩
instance:kw lK JC:=⟨fun h hg=>by
 obtain⟨v0,F0,rfl,rfl,h0⟩:=h
 exact⟨v0,rfl,kw.frz h0 (fun k hk=>hg k (by simp[hk]))⟩⟩
instance aGc:aT Tryz.prog 87:=⟨Tryz.call87⟩
instance aB':ic Tryz.prog 119 0 0:=⟨iy⟩
instance aCa:ic Tryz.prog 123 0 0:=⟨iy⟩
instance asZ:ic Tryz.prog 123 1 1:=⟨iy⟩
instance awx:iB Tryz.prog 123 true:=⟨kH⟩
theorem RL{a:Atom}{v0:Sv}{F0:List Nat}:Mk lK F0 (.agg [(.int .i64 a.Rel),v0.v].toArray) a [aD (az 3 (aj aH)) F0 v0.v a.Terms]:=
 ⟨fun H h=>⟨v0,F0,rfl,rfl,h (aD (az 3 (aj aH)) F0 v0.v a.Terms) (by simp)⟩,by simp[aD]⟩
instance ab':ic Tryz.prog 39 1 1:=⟨iy⟩
instance YX:ig Tryz.prog 37 1 24 (.slice none 0 0):=⟨jZ⟩
instance zY:iB Tryz.prog 39 true:=⟨kH⟩
instance cf8:aT Tryz.prog 8:=⟨Tryz.call8⟩
instance aGd:aT Tryz.prog 27:=⟨Tryz.call27⟩
instance aGe:aT Tryz.prog 66:=⟨Tryz.call66⟩
instance aGf:aT Tryz.prog 71:=⟨Tryz.call71⟩
instance aGg:aT Tryz.prog 72:=⟨Tryz.call72⟩
def wJ(a:Method)(p:Sv):List Value:=[(.int .i64 a.Rel),p.v,(.int .i64 a.Limit),(.int .i64 a.Cost),(.int .i64 a.Quota)]
theorem xR{a:Method}:∀H e,gN H e a-> ∃i:Sv,0+5<=e.cells.size/\(e.cells.toList.drop 0).take 5=wJ a i/\ ∀c∈([aR (aI 3 aH) i.v a.Inputs]:List aF),c.P H/\c.F=[]:=by
 intro H e h
 obtain⟨v0,rfl,h0⟩:=h
 refine⟨v0,Nat.le_of_ble_eq_true rfl,rfl,fun c hc=>by
   simp only[List.mem_cons,List.not_mem_nil,or_false]at hc
   rcases hc with rfl
   · exact⟨h0,rfl⟩
⟩
instance aC6:aT Tryz.prog 148:=⟨Tryz.call148⟩
instance aGh:aT Tryz.prog 67:=⟨Tryz.call67⟩
def zo(a:Rule)(p:Sv):List Value:=[(.int .i64 a.From),(.int .i64 a.To),p.v]
theorem AV{a:Rule}:∀H e,iG H e a-> ∃i:Sv,0+3<=e.cells.size/\(e.cells.toList.drop 0).take 3=zo a i/\ ∀c∈([aR (aI 3 aH) i.v a.Map]:List aF),c.P H/\c.F=[]:=by
 intro H e h
 obtain⟨v0,rfl,h0⟩:=h
 refine⟨v0,Nat.le_of_ble_eq_true rfl,rfl,fun c hc=>by
   simp only[List.mem_cons,List.not_mem_nil,or_false]at hc
   rcases hc with rfl
   · exact⟨h0,rfl⟩
⟩
instance aC7:aT Tryz.prog 149:=⟨Tryz.call149⟩
instance azU:aT Tryz.prog 28:=⟨Tryz.call28⟩
instance YY:iB Tryz.prog 37 false:=⟨kH⟩
instance aGi:aT Tryz.prog 69:=⟨Tryz.call69⟩
theorem xW{a:Atom}:∀H e,JC H e a-> ∃w:Sv,e.cells.toList[1]?=some w.v/\(aI 3 aH) H w.v a.Terms:=by
 intro H e h
 obtain⟨v0,rfl,h0⟩:=h
 exact⟨v0,rfl,h0⟩
instance aC8:aT Tryz.prog 151:=⟨Tryz.call151⟩
instance awy:aT Tryz.prog 152:=⟨Tryz.call152⟩
instance YZ:aT Tryz.prog 70:=⟨Tryz.call70⟩
theorem RN{a:Int}:∀F H e,(aj aH) F H e a->e.cells.toList[0]?=some (.int .i64 a):=by
 intro F H e h
 obtain⟨-,h⟩:=h
 subst h
 rfl
theorem iL:ut Tryz.prog 22:=.inr ⟨3,by kernel_rfl⟩
def tZ(a:Atom)(p:Sv):List Value:=[(.int .i64 a.Rel),p.v]
theorem vw{a:Atom}:∀H e,JC H e a-> ∃i:Sv,0+2<=e.cells.size/\(e.cells.toList.drop 0).take 2=tZ a i/\ ∀c∈([aR (aI 3 aH) i.v a.Terms]:List aF),c.P H/\c.F=[]:=by
 intro H e h
 obtain⟨v0,rfl,h0⟩:=h
 refine⟨v0,Nat.le_of_ble_eq_true rfl,rfl,fun c hc=>by
   simp only[List.mem_cons,List.not_mem_nil,or_false]at hc
   rcases hc with rfl
   · exact⟨h0,rfl⟩
⟩
instance aGj:aT Tryz.prog 68:=⟨Tryz.call68⟩
instance aC9:aT Tryz.prog 150:=⟨Tryz.call150⟩
instance aGk:aT Tryz.prog 29:=⟨Tryz.call29⟩
instance aGl:aT Tryz.prog 73:=⟨Tryz.call73⟩
instance aC_:aT Tryz.prog 119:=⟨Tryz.call119⟩
instance aC':aT Tryz.prog 122:=⟨Tryz.call122⟩
theorem alp{a:Method}{v0:Sv}:Mk (aj gN) [] (.agg [(.int .i64 a.Rel),v0.v,(.int .i64 a.Limit),(.int .i64 a.Cost),(.int .i64 a.Quota)].toArray) a [aR (aI 3 aH) v0.v a.Inputs]:=
 ⟨fun H h=>⟨rfl,v0,rfl,h (aR (aI 3 aH) v0.v a.Inputs) (by simp)⟩,by simp[aR]⟩
theorem adv:ut Tryz.prog 33:=.inr ⟨89,by kernel_rfl⟩
instance awz:aT Tryz.prog 153:=⟨Tryz.call153⟩
structure Step where
 Atom:Int
 Method:Int
instance JD:nO Tryz.prog 103 204:=⟨rP⟩
instance wQ:ig Tryz.prog 204 2 16 (.agg [(.int .i64 0),(.int .i64 0)].toArray):=⟨jZ⟩
def zJ(_:aB)(v:Value)(a:Step):Prop:=v= .agg [(.int .i64 a.Atom),(.int .i64 a.Method)].toArray
instance:Pure zJ:=⟨fun h=>h⟩
instance:Cells zJ 2:=⟨fun h=>by
 subst h
 exact⟨rfl,rfl⟩⟩
instance awC:aT Tryz.prog 231:=⟨Tryz.call231⟩
instance aDa:aT Tryz.prog 208:=⟨Tryz.call208⟩
theorem aj6:ut Tryz.prog 103:=.inr ⟨204,by kernel_rfl⟩
instance awD:aT Tryz.prog 209:=⟨Tryz.call209⟩
instance aCb:ic Tryz.prog 204 0 0:=⟨iy⟩
theorem as0{a:Step}:∀F H e,(aj zJ) F H e a->e.cells.toList[0]?=some (.int .i64 a.Atom):=by
 intro F H e h
 obtain⟨-,h⟩:=h
 subst h
 rfl
theorem abK{a:Atom}:∀H e,JC H e a->e.cells.toList[0]?=some (.int .i64 a.Rel):=by
 intro H e h
 obtain⟨_,rfl,_⟩:=h
 rfl
instance aj7:aT Tryz.prog 154:=⟨Tryz.call154⟩
theorem Y0:ut Tryz.prog 37:=.inr ⟨123,by kernel_rfl⟩
instance azV:aT Tryz.prog 74:=⟨Tryz.call74⟩
instance aDb:aT Tryz.prog 155:=⟨Tryz.call155⟩
structure Fact where
 Rel:Int
 Values:List Int
structure aS where
 Vars:List Int
 Values:List Int
instance dY:ig Tryz.prog 136 2 48 (.agg [(.slice none 0 0),(.slice none 0 0)].toArray):=⟨jZ⟩
instance aDc:aT Tryz.prog 124:=⟨Tryz.call124⟩
instance azW:aT Tryz.prog 83:=⟨Tryz.call83⟩
instance azX:aT Tryz.prog 80:=⟨Tryz.call80⟩
instance dX:nO Tryz.prog 58 147:=⟨rP⟩
instance dA:ig Tryz.prog 147 2 32 (.agg [(.int .i64 0),(.slice none 0 0)].toArray):=⟨jZ⟩
def dW(H:aB)(v:Value)(a:Fact):Prop:=∃v0:Sv,v= .agg [(.int .i64 a.Rel),v0.v].toArray/\(aI 3 aH) H v0.v a.Values
instance:dC dW:=⟨fun h hi=>by
 obtain⟨v0,h,h0⟩:=h
 exact⟨v0,h,dC.up h0 hi⟩⟩
instance:Cells dW 2:=⟨fun h=>by
 obtain⟨v0,rfl,h0⟩:=h
 exact⟨rfl,rfl⟩⟩
def fP:fO Fact:=fun F H v a=>∃(v0:Sv)(F0:List Nat),v= .agg [(.int .i64 a.Rel),v0.v].toArray/\F0=F/\(az 3 (aj aH)) F0 H v0.v a.Values
instance:eO fP:=⟨fun h hi hg=>by
 obtain⟨v0,F0,rfl,rfl,h0⟩:=h
 exact⟨v0,F0,rfl,rfl,eO.keep h0 hi (fun k hk=>hg k (by simp[hk]))⟩⟩
instance:Local fP:=⟨fun h hg=>by
 obtain⟨v0,F0,rfl,rfl,h0⟩:=h
 exact⟨v0,F0,rfl,rfl,Local.keep h0 (fun k hk=>hg k (by simp[hk]))⟩⟩
instance:kT fP:=⟨fun h k hk=>by
 obtain⟨v0,F0,rfl,rfl,h0⟩:=h
 exact kT.owns h0 k hk
⟩
instance:mo fP 2:=⟨fun h=>by
 obtain⟨v0,F0,rfl,rfl,h0⟩:=h
 exact⟨rfl,rfl⟩⟩
instance:kw fP dW:=⟨fun h hg=>by
 obtain⟨v0,F0,rfl,rfl,h0⟩:=h
 exact⟨v0,rfl,kw.frz h0 (fun k hk=>hg k (by simp[hk]))⟩⟩
instance jC:iB Tryz.prog 136 true:=⟨kH⟩
instance aj8:aT Tryz.prog 158:=⟨Tryz.call158⟩
instance aCc:ic Tryz.prog 136 0 0:=⟨iy⟩
instance aCd:ic Tryz.prog 136 1 1:=⟨iy⟩
instance abL:ic Tryz.prog 147 1 1:=⟨iy⟩
instance aj9:aT Tryz.prog 159:=⟨Tryz.call159⟩
instance qb:iB Tryz.prog 147 true:=⟨kH⟩
instance Ke:aT Tryz.prog 85:=⟨Tryz.call85⟩
instance aj_:aT Tryz.prog 165:=⟨Tryz.call165⟩
def ky(a:Fact)(p:Sv):List Value:=[(.int .i64 a.Rel),p.v]
theorem kL{a:Fact}:∀H e,dW H e a-> ∃i:Sv,0+2<=e.cells.size/\(e.cells.toList.drop 0).take 2=ky a i/\ ∀c∈([aR (aI 3 aH) i.v a.Values]:List aF),c.P H/\c.F=[]:=by
 intro H e h
 obtain⟨v0,rfl,h0⟩:=h
 refine⟨v0,Nat.le_of_ble_eq_true rfl,rfl,fun c hc=>by
   simp only[List.mem_cons,List.not_mem_nil,or_false]at hc
   rcases hc with rfl
   · exact⟨h0,rfl⟩
⟩
instance awE:aT Tryz.prog 168:=⟨Tryz.call168⟩
instance aCe:ic Tryz.prog 147 0 0:=⟨iy⟩
instance aDd:aT Tryz.prog 169:=⟨Tryz.call169⟩
theorem zK{a:Fact}{v0:Sv}{F0:List Nat}:Mk fP F0 (.agg [(.int .i64 a.Rel),v0.v].toArray) a [aD (az 3 (aj aH)) F0 v0.v a.Values]:=
 ⟨fun H h=>⟨v0,F0,rfl,rfl,h (aD (az 3 (aj aH)) F0 v0.v a.Values) (by simp)⟩,by simp[aD]⟩
theorem CK:ut Tryz.prog 58:=.inr ⟨147,by kernel_rfl⟩
theorem Jt{a:Fact}:∀H e,dW H e a->e.cells.toList[0]?=some (.int .i64 a.Rel):=by
 intro H e h
 obtain⟨_,rfl,_⟩:=h
 rfl
theorem Nw{a:Fact}:∀H e,dW H e a-> ∃w:Sv,e.cells.toList[1]?=some w.v/\(aI 3 aH) H w.v a.Values:=by
 intro H e h
 obtain⟨v0,rfl,h0⟩:=h
 exact⟨v0,rfl,h0⟩
theorem awF{a:Fact}{v0:Sv}:Mk (aj dW) [] (.agg [(.int .i64 a.Rel),v0.v].toArray) a [aR (aI 3 aH) v0.v a.Values]:=
 ⟨fun H h=>⟨rfl,v0,rfl,h (aR (aI 3 aH) v0.v a.Values) (by simp)⟩,by simp[aR]⟩
instance adw:aT Tryz.prog 84:=⟨Tryz.call84⟩
instance aj':aT Tryz.prog 156:=⟨Tryz.call156⟩
instance aDe:aT Tryz.prog 232:=⟨Tryz.call232⟩
instance Co:nO Tryz.prog 264 136:=⟨rP⟩
def RO(H:aB)(v:Value)(a:aS):Prop:=∃v0 v1:Sv,v= .agg [v0.v,v1.v].toArray/\(aI 3 aH) H v0.v a.Vars/\(aI 3 aH) H v1.v a.Values
instance:dC RO:=⟨fun h hi=>by
 obtain⟨v0,v1,h,h0,h1⟩:=h
 exact⟨v0,v1,h,dC.up h0 hi,dC.up h1 hi⟩⟩
instance:Cells RO 2:=⟨fun h=>by
 obtain⟨v0,v1,rfl,h0,h1⟩:=h
 exact⟨rfl,rfl⟩⟩
def sI:fO aS:=fun F H v a=>∃(v0 v1:Sv)(F0 F1:List Nat),v= .agg [v0.v,v1.v].toArray/\F=(F0++F1)/\(az 3 (aj aH)) F0 H v0.v a.Vars/\(az 3 (aj aH)) F1 H v1.v a.Values
instance:eO sI:=⟨fun h hi hg=>by
 obtain⟨v0,v1,F0,F1,rfl,rfl,h0,h1⟩:=h
 exact⟨v0,v1,F0,F1,rfl,rfl,eO.keep h0 hi (fun k hk=>hg k (by simp[hk])),eO.keep h1 hi (fun k hk=>hg k (by simp[hk]))⟩⟩
instance:Local sI:=⟨fun h hg=>by
 obtain⟨v0,v1,F0,F1,rfl,rfl,h0,h1⟩:=h
 exact⟨v0,v1,F0,F1,rfl,rfl,Local.keep h0 (fun k hk=>hg k (by simp[hk])),Local.keep h1 (fun k hk=>hg k (by simp[hk]))⟩⟩
instance:kT sI:=⟨fun h k hk=>by
 obtain⟨v0,v1,F0,F1,rfl,rfl,h0,h1⟩:=h
 simp only[List.mem_append]at hk
 rcases hk with hk|hk
 · exact kT.owns h0 k hk
 · exact kT.owns h1 k hk
⟩
instance:mo sI 2:=⟨fun h=>by
 obtain⟨v0,v1,F0,F1,rfl,rfl,h0,h1⟩:=h
 exact⟨rfl,rfl⟩⟩
instance:kw sI RO:=⟨fun h hg=>by
 obtain⟨v0,v1,F0,F1,rfl,rfl,h0,h1⟩:=h
 exact⟨v0,v1,rfl,kw.frz h0 (fun k hk=>hg k (by simp[hk])),kw.frz h1 (fun k hk=>hg k (by simp[hk]))⟩⟩
theorem XX{a:aS}{v0 v1:Sv}{F0 F1:List Nat}:Mk sI (F0++F1) (.agg [v0.v,v1.v].toArray) a [aD (az 3 (aj aH)) F0 v0.v a.Vars,aD (az 3 (aj aH)) F1 v1.v a.Values]:=
 ⟨fun H h=>⟨v0,v1,F0,F1,rfl,rfl,h (aD (az 3 (aj aH)) F0 v0.v a.Vars) (by simp),h (aD (az 3 (aj aH)) F1 v1.v a.Values) (by simp)⟩,by simp[aD]⟩
instance awG:aT Tryz.prog 280:=⟨Tryz.call280⟩
def MJ(a:aS)(p:Sv×Sv):List Value:=[p.1.v,p.2.v]
theorem PR{a:aS}:∀H e,RO H e a-> ∃i:Sv×Sv,0+2<=e.cells.size/\(e.cells.toList.drop 0).take 2=MJ a i/\ ∀c∈([aR (aI 3 aH) i.1.v a.Vars,aR (aI 3 aH) i.2.v a.Values]:List aF),c.P H/\c.F=[]:=by
 intro H e h
 obtain⟨v0,v1,rfl,h0,h1⟩:=h
 refine⟨(v0,v1),Nat.le_of_ble_eq_true rfl,rfl,fun c hc=>by
   simp only[List.mem_cons,List.not_mem_nil,or_false]at hc
   rcases hc with rfl|rfl
   · exact⟨h0,rfl⟩
   · exact⟨h1,rfl⟩
⟩
instance awH:aT Tryz.prog 305:=⟨Tryz.call305⟩
instance aDf:aT Tryz.prog 234:=⟨Tryz.call234⟩
instance awI:aT Tryz.prog 326:=⟨Tryz.call326⟩
theorem aka:ut Tryz.prog 264:=.inr ⟨136,by kernel_rfl⟩
instance awJ:aT Tryz.prog 233:=⟨Tryz.call233⟩
instance aGm:aT Tryz.prog 30:=⟨Tryz.call30⟩
instance aGn:aT Tryz.prog 75:=⟨Tryz.call75⟩
instance azY:aT Tryz.prog 76:=⟨Tryz.call76⟩
instance aDg:aT Tryz.prog 157:=⟨Tryz.call157⟩
instance aGo:aT Tryz.prog 78:=⟨Tryz.call78⟩
theorem aca{a:Rule}:∀H e,iG H e a->e.cells.toList[0]?=some (.int .i64 a.From):=by
 intro H e h
 obtain⟨_,rfl,_⟩:=h
 rfl
theorem at1{a:Rule}:∀H e,iG H e a->e.cells.toList[1]?=some (.int .i64 a.To):=by
 intro H e h
 obtain⟨_,rfl,_⟩:=h
 rfl
theorem at5{a:Rule}:∀H e,iG H e a-> ∃w:Sv,e.cells.toList[2]?=some w.v/\(aI 3 aH) H w.v a.Map:=by
 intro H e h
 obtain⟨v0,rfl,h0⟩:=h
 exact⟨v0,rfl,h0⟩
theorem alq:ut Tryz.prog 35:=.inr ⟨91,by kernel_rfl⟩
instance azZ:aT Tryz.prog 77:=⟨Tryz.call77⟩
instance alr:aT Tryz.prog 81:=⟨Tryz.call81⟩
instance aDh:aT Tryz.prog 160:=⟨Tryz.call160⟩
instance akb:aT Tryz.prog 161:=⟨Tryz.call161⟩
instance awK:aT Tryz.prog 235:=⟨Tryz.call235⟩
instance aGp:aT Tryz.prog 82:=⟨Tryz.call82⟩
structure Access where
 Method:Int
 Values:List Int
structure Line where
 Rule:Int
 Access:Access
 Fact:Fact
instance rH:nO Tryz.prog 140 149:=⟨rP⟩
instance oH:ig Tryz.prog 149 5 72 (.agg [(.int .i64 0),(.int .i64 0),(.slice none 0 0),(.int .i64 0),(.slice none 0 0)].toArray):=⟨jZ⟩
def gJ(H:aB)(v:Value)(a:Line):Prop:=∃v0 v1:Sv,v= .agg [(.int .i64 a.Rule),(.int .i64 a.Access.Method),v0.v,(.int .i64 a.Fact.Rel),v1.v].toArray/\(aI 3 aH) H v0.v a.Access.Values/\(aI 3 aH) H v1.v a.Fact.Values
instance:dC gJ:=⟨fun h hi=>by
 obtain⟨v0,v1,h,h0,h1⟩:=h
 exact⟨v0,v1,h,dC.up h0 hi,dC.up h1 hi⟩⟩
instance:Cells gJ 5:=⟨fun h=>by
 obtain⟨v0,v1,rfl,h0,h1⟩:=h
 exact⟨rfl,rfl⟩⟩
def RP:fO Line:=fun F H v a=>∃(v0 v1:Sv)(F0 F1:List Nat),v= .agg [(.int .i64 a.Rule),(.int .i64 a.Access.Method),v0.v,(.int .i64 a.Fact.Rel),v1.v].toArray/\F=(F0++F1)/\(az 3 (aj aH)) F0 H v0.v a.Access.Values/\(az 3 (aj aH)) F1 H v1.v a.Fact.Values
instance:eO RP:=⟨fun h hi hg=>by
 obtain⟨v0,v1,F0,F1,rfl,rfl,h0,h1⟩:=h
 exact⟨v0,v1,F0,F1,rfl,rfl,eO.keep h0 hi (fun k hk=>hg k (by simp[hk])),eO.keep h1 hi (fun k hk=>hg k (by simp[hk]))⟩⟩
instance:Local RP:=⟨fun h hg=>by
 obtain⟨v0,v1,F0,F1,rfl,rfl,h0,h1⟩:=h
 exact⟨v0,v1,F0,F1,rfl,rfl,Local.keep h0 (fun k hk=>hg k (by simp[hk])),Local.keep h1 (fun k hk=>hg k (by simp[hk]))⟩⟩
instance:kT RP:=⟨fun h k hk=>by
 obtain⟨v0,v1,F0,F1,rfl,rfl,h0,h1⟩:=h
 simp only[List.mem_append]at hk
 rcases hk with hk|hk
 · exact kT.owns h0 k hk
 · exact kT.owns h1 k hk
⟩
instance:mo RP 5:=⟨fun h=>by
 obtain⟨v0,v1,F0,F1,rfl,rfl,h0,h1⟩:=h
 exact⟨rfl,rfl⟩⟩
instance:kw RP gJ:=⟨fun h hg=>by
 obtain⟨v0,v1,F0,F1,rfl,rfl,h0,h1⟩:=h
 exact⟨v0,v1,rfl,kw.frz h0 (fun k hk=>hg k (by simp[hk])),kw.frz h1 (fun k hk=>hg k (by simp[hk]))⟩⟩
instance awL:aT Tryz.prog 162:=⟨Tryz.call162⟩
structure Reached where
 Facts:List Fact
 Values:List Int
 Log:List Access
 Rounds:Int
instance Cq:ig Tryz.prog 160 4 80 (.agg [(.slice none 0 0),(.slice none 0 0),(.slice none 0 0),(.int .i64 0)].toArray):=⟨jZ⟩
instance RQ:iB Tryz.prog 160 true:=⟨kH⟩
def gz(H:aB)(v:Value)(a:Access):Prop:=∃v0:Sv,v= .agg [(.int .i64 a.Method),v0.v].toArray/\(aI 3 aH) H v0.v a.Values
instance:dC gz:=⟨fun h hi=>by
 obtain⟨v0,h,h0⟩:=h
 exact⟨v0,h,dC.up h0 hi⟩⟩
instance:Cells gz 2:=⟨fun h=>by
 obtain⟨v0,rfl,h0⟩:=h
 exact⟨rfl,rfl⟩⟩
def sJ:fO Access:=fun F H v a=>∃(v0:Sv)(F0:List Nat),v= .agg [(.int .i64 a.Method),v0.v].toArray/\F0=F/\(az 3 (aj aH)) F0 H v0.v a.Values
instance:eO sJ:=⟨fun h hi hg=>by
 obtain⟨v0,F0,rfl,rfl,h0⟩:=h
 exact⟨v0,F0,rfl,rfl,eO.keep h0 hi (fun k hk=>hg k (by simp[hk]))⟩⟩
instance:Local sJ:=⟨fun h hg=>by
 obtain⟨v0,F0,rfl,rfl,h0⟩:=h
 exact⟨v0,F0,rfl,rfl,Local.keep h0 (fun k hk=>hg k (by simp[hk]))⟩⟩
instance:kT sJ:=⟨fun h k hk=>by
 obtain⟨v0,F0,rfl,rfl,h0⟩:=h
 exact kT.owns h0 k hk
⟩
instance:mo sJ 2:=⟨fun h=>by
 obtain⟨v0,F0,rfl,rfl,h0⟩:=h
 exact⟨rfl,rfl⟩⟩
instance:kw sJ gz:=⟨fun h hg=>by
 obtain⟨v0,F0,rfl,rfl,h0⟩:=h
 exact⟨v0,rfl,kw.frz h0 (fun k hk=>hg k (by simp[hk]))⟩⟩
instance Xz:ic Tryz.prog 160 1 1:=⟨iy⟩
instance akc:aT Tryz.prog 163:=⟨Tryz.call163⟩
instance nI:nO Tryz.prog 64 145:=⟨rP⟩
instance kQ:ig Tryz.prog 145 2 32 (.agg [(.int .i64 0),(.slice none 0 0)].toArray):=⟨jZ⟩
theorem at6{a:Method}:∀H e,gN H e a->e.cells.toList[2]?=some (.int .i64 a.Limit):=by
 intro H e h
 obtain⟨_,rfl,_⟩:=h
 rfl
theorem at7{a:Method}:∀H e,gN H e a-> ∃w:Sv,e.cells.toList[1]?=some w.v/\(aI 3 aH) H w.v a.Inputs:=by
 intro H e h
 obtain⟨v0,rfl,h0⟩:=h
 exact⟨v0,rfl,h0⟩
instance aDi:aT Tryz.prog 236:=⟨Tryz.call236⟩
instance vI:nO Tryz.prog 171 22:=⟨rP⟩
theorem Rs{a:List Int}:∀H e,(aI 3 aH) H e a-> ∃w:Sv,e.cells.toList[0]?=some w.v/\(aI 3 aH) H w.v a:=by
 intro H e h
 obtain⟨a0,m,rfl⟩:=aI.len h
 exact⟨⟨a0,_,m⟩,rfl,h⟩
theorem akd:ut Tryz.prog 171:=.inr ⟨22,by kernel_rfl⟩
instance awM:aT Tryz.prog 166:=⟨Tryz.call166⟩
instance RS:iB Tryz.prog 145 true:=⟨kH⟩
instance XA:ic Tryz.prog 160 2 2:=⟨iy⟩
instance als:iB Tryz.prog 64 false:=⟨kH⟩
instance awN:aT Tryz.prog 237:=⟨Tryz.call237⟩
def PS(a:Access)(p:Sv):List Value:=[(.int .i64 a.Method),p.v]
theorem WC{a:Access}:∀H e,gz H e a-> ∃i:Sv,0+2<=e.cells.size/\(e.cells.toList.drop 0).take 2=PS a i/\ ∀c∈([aR (aI 3 aH) i.v a.Values]:List aF),c.P H/\c.F=[]:=by
 intro H e h
 obtain⟨v0,rfl,h0⟩:=h
 refine⟨v0,Nat.le_of_ble_eq_true rfl,rfl,fun c hc=>by
   simp only[List.mem_cons,List.not_mem_nil,or_false]at hc
   rcases hc with rfl
   · exact⟨h0,rfl⟩
⟩
instance aDj:aT Tryz.prog 281:=⟨Tryz.call281⟩
instance aiI:ic Tryz.prog 145 0 0:=⟨iy⟩
instance aiJ:ic Tryz.prog 145 1 1:=⟨iy⟩
theorem ake{a:Access}{v0:Sv}{F0:List Nat}:Mk sJ F0 (.agg [(.int .i64 a.Method),v0.v].toArray) a [aD (az 3 (aj aH)) F0 v0.v a.Values]:=
 ⟨fun H h=>⟨v0,F0,rfl,rfl,h (aD (az 3 (aj aH)) F0 v0.v a.Values) (by simp)⟩,by simp[aD]⟩
theorem Y1:ut Tryz.prog 64:=.inr ⟨145,by kernel_rfl⟩
theorem akf{a:Access}{v0:Sv}:Mk (aj gz) [] (.agg [(.int .i64 a.Method),v0.v].toArray) a [aR (aI 3 aH) v0.v a.Values]:=
 ⟨fun H h=>⟨rfl,v0,rfl,h (aR (aI 3 aH) v0.v a.Values) (by simp)⟩,by simp[aR]⟩
instance alu:ig Tryz.prog 64 1 24 (.slice none 0 0):=⟨jZ⟩
theorem aiK{a:Access}:∀H e,gz H e a->e.cells.toList[0]?=some (.int .i64 a.Method):=by
 intro H e h
 obtain⟨_,rfl,_⟩:=h
 rfl
theorem aiL{a:Access}:∀H e,gz H e a-> ∃w:Sv,e.cells.toList[1]?=some w.v/\(aI 3 aH) H w.v a.Values:=by
 intro H e h
 obtain⟨v0,rfl,h0⟩:=h
 exact⟨v0,rfl,h0⟩
instance awO:aT Tryz.prog 164:=⟨Tryz.call164⟩
instance aDk:aT Tryz.prog 207:=⟨Tryz.call207⟩
instance vE:ic Tryz.prog 160 0 0:=⟨iy⟩
instance nJ:iB Tryz.prog 58 false:=⟨kH⟩
theorem XY{a:Line}{v0 v1:Sv}:Mk (aj gJ) [] (.agg [(.int .i64 a.Rule),(.int .i64 a.Access.Method),v0.v,(.int .i64 a.Fact.Rel),v1.v].toArray) a [aR (aI 3 aH) v0.v a.Access.Values,aR (aI 3 aH) v1.v a.Fact.Values]:=
 ⟨fun H h=>⟨rfl,v0,v1,rfl,h (aR (aI 3 aH) v0.v a.Access.Values) (by simp),h (aR (aI 3 aH) v1.v a.Fact.Values) (by simp)⟩,by simp[aR]⟩
theorem XZ:ut Tryz.prog 140:=.inr ⟨149,by kernel_rfl⟩
instance Y2:ig Tryz.prog 58 1 24 (.slice none 0 0):=⟨jZ⟩
instance awP:aT Tryz.prog 167:=⟨Tryz.call167⟩
instance aCf:ic Tryz.prog 149 2 3:=⟨iy⟩
def aaS(a:Line)(p:Sv):List Value:=[(.int .i64 a.Fact.Rel),p.v]
theorem agz{a:Line}:∀H e,gJ H e a-> ∃i:Sv,3+2<=e.cells.size/\(e.cells.toList.drop 3).take 2=aaS a i/\ ∀c∈([aR (aI 3 aH) i.v a.Fact.Values]:List aF),c.P H/\c.F=[]:=by
 intro H e h
 obtain⟨v0,v1,rfl,h0,h1⟩:=h
 refine⟨v1,Nat.le_of_ble_eq_true rfl,rfl,fun c hc=>by
   simp only[List.mem_cons,List.not_mem_nil,or_false]at hc
   rcases hc with rfl
   · exact⟨h1,rfl⟩
⟩
instance alv:aT Tryz.prog 31:=⟨Tryz.call31⟩
instance aGq:aT Tryz.prog 79:=⟨Tryz.call79⟩
theorem ZW:IK Tryz.prog 3 .i64:=by unfold IK; kernel_rfl
theorem ZX:IK Tryz.prog 5 .u8:=by unfold IK; kernel_rfl
instance X0:nO Tryz.prog 209 5:=⟨rP⟩
instance ZY:ig Tryz.prog 5 1 1 (.int .u8 0):=⟨jZ⟩
theorem alx:Tryz.prog.underlying 9=some .string:=by kernel_rfl
instance aGr:aT Tryz.prog 32:=⟨Tryz.call32⟩
structure sj where
 All:List Fact
 Some:List Fact
 Tuple:List Int
instance vT:ig Tryz.prog 85 3 72 (.agg [(.slice none 0 0),(.slice none 0 0),(.slice none 0 0)].toArray):=⟨jZ⟩
instance Oc:iB Tryz.prog 85 true:=⟨kH⟩
instance aCM:ic Tryz.prog 85 1 1:=⟨iy⟩
instance aCN:ic Tryz.prog 85 2 2:=⟨iy⟩
instance aCO:ic Tryz.prog 85 0 0:=⟨iy⟩
instance aly:aT Tryz.prog 33:=⟨Tryz.call33⟩
instance aGs:aT Tryz.prog 86:=⟨Tryz.call86⟩
instance az0:aT Tryz.prog 13:=⟨Tryz.call13⟩
instance aGt:aT Tryz.prog 37:=⟨Tryz.call37⟩
instance aGu:aT Tryz.prog 88:=⟨Tryz.call88⟩
instance aGv:aT Tryz.prog 90:=⟨Tryz.call90⟩
instance aGw:aT Tryz.prog 91:=⟨Tryz.call91⟩
instance aDl:aT Tryz.prog 176:=⟨Tryz.call176⟩
instance aDm:aT Tryz.prog 242:=⟨Tryz.call242⟩
instance awQ:aT Tryz.prog 177:=⟨Tryz.call177⟩
instance aDn:aT Tryz.prog 170:=⟨Tryz.call170⟩
instance awR:aT Tryz.prog 238:=⟨Tryz.call238⟩
instance awS:aT Tryz.prog 171:=⟨Tryz.call171⟩
instance aDo:aT Tryz.prog 172:=⟨Tryz.call172⟩
instance aDp:aT Tryz.prog 179:=⟨Tryz.call179⟩
instance aDq:aT Tryz.prog 239:=⟨Tryz.call239⟩
instance aDr:aT Tryz.prog 282:=⟨Tryz.call282⟩
instance awT:aT Tryz.prog 283:=⟨Tryz.call283⟩
instance aDs:aT Tryz.prog 284:=⟨Tryz.call284⟩
instance aGx:aT Tryz.prog 89:=⟨Tryz.call89⟩
instance aDt:aT Tryz.prog 173:=⟨Tryz.call173⟩
instance awU:aT Tryz.prog 240:=⟨Tryz.call240⟩
instance awV:aT Tryz.prog 174:=⟨Tryz.call174⟩
instance aDu:aT Tryz.prog 175:=⟨Tryz.call175⟩
instance aDv:aT Tryz.prog 241:=⟨Tryz.call241⟩
instance awW:aT Tryz.prog 285:=⟨Tryz.call285⟩
instance az1:aT Tryz.prog 38:=⟨Tryz.call38⟩
instance aGy:aT Tryz.prog 92:=⟨Tryz.call92⟩
instance aDw:aT Tryz.prog 178:=⟨Tryz.call178⟩
instance az2:aT Tryz.prog 93:=⟨Tryz.call93⟩
instance aGz:aT Tryz.prog 94:=⟨Tryz.call94⟩
instance aDx:aT Tryz.prog 180:=⟨Tryz.call180⟩
instance awX:aT Tryz.prog 243:=⟨Tryz.call243⟩
instance aDy:aT Tryz.prog 244:=⟨Tryz.call244⟩
instance awY:aT Tryz.prog 199:=⟨Tryz.call199⟩
instance awZ:aT Tryz.prog 245:=⟨Tryz.call245⟩
instance aGA:aT Tryz.prog 95:=⟨Tryz.call95⟩
instance aDz:aT Tryz.prog 181:=⟨Tryz.call181⟩
instance aDA:aT Tryz.prog 198:=⟨Tryz.call198⟩
instance aDB:aT Tryz.prog 268:=⟨Tryz.call268⟩
def aqc:Go.Shelf.Ren:=⟨fun|189=>268|125=>304|257=>303|128=>324|129=>325|294=>316|295=>317|296=>318|297=>319|298=>320|299=>321|216=>276|300=>322|301=>323|328=>333|329=>334|330=>335|331=>336|332=>337|215=>289|343=>340|n=>n,fun|28=>22|3=>3|46=>307|0=>0|51=>326|53=>312|4=>4|183=>319|182=>318|131=>323|5=>5|9=>9|218=>332|222=>336|228=>338|229=>339|n=>n,fun|n=>n⟩
theorem aiM:Go.Proofs.Lays.n189 Tryz.prog aqc:={
 mixed:=by kernel_rfl
 f125:=Tryz.func304.trans (congrArg some (by kernel_rfl))
 f128:=Tryz.func324.trans (congrArg some (by kernel_rfl))
 f129:=Tryz.func325.trans (congrArg some (by kernel_rfl))
 f189:=Tryz.func268.trans (congrArg some (by kernel_rfl))
 f215:=Tryz.func289.trans (congrArg some (by kernel_rfl))
 f216:=Tryz.func276.trans (congrArg some (by kernel_rfl))
 f257:=Tryz.func303.trans (congrArg some (by kernel_rfl))
 f294:=Tryz.func316.trans (congrArg some (by kernel_rfl))
 f295:=Tryz.func317.trans (congrArg some (by kernel_rfl))
 f296:=Tryz.func318.trans (congrArg some (by kernel_rfl))
 f297:=Tryz.func319.trans (congrArg some (by kernel_rfl))
 f298:=Tryz.func320.trans (congrArg some (by kernel_rfl))
 f299:=Tryz.func321.trans (congrArg some (by kernel_rfl))
 f300:=Tryz.func322.trans (congrArg some (by kernel_rfl))
 f301:=Tryz.func323.trans (congrArg some (by kernel_rfl))
 f328:=Tryz.func333.trans (congrArg some (by kernel_rfl))
 f329:=Tryz.func334.trans (congrArg some (by kernel_rfl))
 f330:=Tryz.func335.trans (congrArg some (by kernel_rfl))
 f331:=Tryz.func336.trans (congrArg some (by kernel_rfl))
 f332:=Tryz.func337.trans (congrArg some (by kernel_rfl))
 f343:=Tryz.func340.trans (congrArg some (by kernel_rfl))
 t0:=Tryz.underlying0
 a0:=Tryz.isAgg0
 z0:=Tryz.sizeOf0
 v0:=Tryz.zeroValue0
 t3:=Tryz.underlying3
 a3:=Tryz.isAgg3
 z3:=Tryz.sizeOf3
 v3:=Tryz.zeroValue3
 t4:=Tryz.underlying4
 a4:=Tryz.isAgg4
 z4:=Tryz.sizeOf4
 v4:=Tryz.zeroValue4
 t5:=Tryz.underlying5
 a5:=Tryz.isAgg5
 z5:=Tryz.sizeOf5
 v5:=Tryz.zeroValue5
 t9:=Tryz.underlying9
 a9:=Tryz.isAgg9
 z9:=Tryz.sizeOf9
 v9:=Tryz.zeroValue9
 t28:=Tryz.underlying22
 a28:=Tryz.isAgg22
 z28:=Tryz.sizeOf22
 v28:=Tryz.zeroValue22
 t46:=Tryz.underlying307
 a46:=Tryz.isAgg307
 z46:=Tryz.sizeOf307
 v46:=Tryz.zeroValue307
 t51:=Tryz.underlying326
 a51:=Tryz.isAgg326
 z51:=Tryz.sizeOf326
 v51:=Tryz.zeroValue326
 t53:=Tryz.underlying312
 a53:=Tryz.isAgg312
 z53:=Tryz.sizeOf312
 v53:=Tryz.zeroValue312
 t131:=Tryz.underlying323
 a131:=Tryz.isAgg323
 z131:=Tryz.sizeOf323
 v131:=Tryz.zeroValue323
 t182:=Tryz.underlying318
 a182:=Tryz.isAgg318
 z182:=Tryz.sizeOf318
 v182:=Tryz.zeroValue318
 t183:=Tryz.underlying319
 a183:=Tryz.isAgg319
 z183:=Tryz.sizeOf319
 v183:=Tryz.zeroValue319
 t218:=Tryz.underlying332
 a218:=Tryz.isAgg332
 z218:=Tryz.sizeOf332
 v218:=Tryz.zeroValue332
 t222:=Tryz.underlying336
 a222:=Tryz.isAgg336
 z222:=Tryz.sizeOf336
 v222:=Tryz.zeroValue336
 t228:=Tryz.underlying338
 a228:=Tryz.isAgg338
 z228:=Tryz.sizeOf338
 v228:=Tryz.zeroValue338
 t229:=Tryz.underlying339
 a229:=Tryz.isAgg339
 z229:=Tryz.sizeOf339
 v229:=Tryz.zeroValue339}
instance aDC:aT Tryz.prog 269:=⟨Tryz.call269⟩
def apD:Go.Shelf.Ren:=⟨fun|20=>269|n=>n,fun|22=>22|3=>3|4=>4|0=>0|n=>n,fun|n=>n⟩
theorem ah6:Go.Proofs.Lays2.n20 Tryz.prog apD:={
 mixed:=by kernel_rfl
 f20:=Tryz.func269.trans (congrArg some (by kernel_rfl))
 t0:=Tryz.underlying0
 a0:=Tryz.isAgg0
 z0:=Tryz.sizeOf0
 v0:=Tryz.zeroValue0
 t3:=Tryz.underlying3
 a3:=Tryz.isAgg3
 z3:=Tryz.sizeOf3
 v3:=Tryz.zeroValue3
 t4:=Tryz.underlying4
 a4:=Tryz.isAgg4
 z4:=Tryz.sizeOf4
 v4:=Tryz.zeroValue4
 t22:=Tryz.underlying22
 a22:=Tryz.isAgg22
 z22:=Tryz.sizeOf22
 v22:=Tryz.zeroValue22
 i3:=by kernel_rfl}
instance aw0:aT Tryz.prog 182:=⟨Tryz.call182⟩
instance aDD:aT Tryz.prog 183:=⟨Tryz.call183⟩
instance aDE:aT Tryz.prog 246:=⟨Tryz.call246⟩
instance aGB:aT Tryz.prog 39:=⟨Tryz.call39⟩
instance aGC:aT Tryz.prog 96:=⟨Tryz.call96⟩
instance aDF:aT Tryz.prog 138:=⟨Tryz.call138⟩
instance aDG:aT Tryz.prog 184:=⟨Tryz.call184⟩
instance aDH:aT Tryz.prog 139:=⟨Tryz.call139⟩
instance aDI:aT Tryz.prog 220:=⟨Tryz.call220⟩
theorem as1{a:Method}{d:Int}:∀F H e,(aj gN) F H e a->(aj gN) F H (uj e 0 (Value.cells (.int .i64 d)).toList) {a with Rel:=d}:=by
 intro F H e h
 obtain⟨rfl,v0,rfl,h0⟩:=h
 exact⟨rfl,v0,rfl,h0⟩
theorem asf{a:Method}:∀F H e,(aj gN) F H e a->0+1<=e.cells.size:=by
 intro F H e h
 obtain⟨rfl,v0,rfl,h0⟩:=h
 exact Nat.le_of_ble_eq_true rfl
instance aw1:aT Tryz.prog 247:=⟨Tryz.call247⟩
instance aDJ:aT Tryz.prog 286:=⟨Tryz.call286⟩
instance aGD:ig Tryz.prog 33 1 24 (.slice none 0 0):=⟨jZ⟩
instance aDK:ig Tryz.prog 297 1 8 .nilFunc:=⟨jZ⟩
instance acx:nO Tryz.prog 194 4:=⟨rP⟩
instance ZZ:ig Tryz.prog 4 1 1 (.bool false):=⟨jZ⟩
instance aDL:ig Tryz.prog 194 1 24 (.slice none 0 0):=⟨jZ⟩
instance akg:aT Tryz.prog 306:=⟨Tryz.call306⟩
instance akh:iB Tryz.prog 204 true:=⟨kH⟩
instance alz:iB Tryz.prog 33 false:=⟨kH⟩
instance aw2:aT Tryz.prog 307:=⟨Tryz.call307⟩
instance aDM:aT Tryz.prog 225:=⟨Tryz.call225⟩
instance aw3:aT Tryz.prog 277:=⟨Tryz.call277⟩
instance aDN:iB Tryz.prog 297 false:=⟨kH⟩
instance aw4:aT Tryz.prog 287:=⟨Tryz.call287⟩
instance aw5:iB Tryz.prog 194 false:=⟨kH⟩
theorem aw6{a:Bool}:∀H e,rdBool H e a->e.cells.toList[0]?=some (.bool a):=by
 intro H e h
 subst h
 rfl
instance ag4:iB Tryz.prog 4 false:=⟨kH⟩
instance aDO:aT Tryz.prog 221:=⟨Tryz.call221⟩
theorem aw7{a:Bool}:∀F H e,(aj rdBool) F H e a->e.cells.toList[0]?=some (.bool a):=by
 intro F H e h
 obtain⟨-,h⟩:=h
 subst h
 rfl
instance aw8:aT Tryz.prog 222:=⟨Tryz.call222⟩
instance az3:aT Tryz.prog 97:=⟨Tryz.call97⟩
instance X3:aT Tryz.prog 107:=⟨Tryz.call107⟩
instance aki:aT Tryz.prog 186:=⟨Tryz.call186⟩
instance aDP:aT Tryz.prog 249:=⟨Tryz.call249⟩
instance akj:aT Tryz.prog 185:=⟨Tryz.call185⟩
instance aw9:aT Tryz.prog 248:=⟨Tryz.call248⟩
instance acy:aT Tryz.prog 200:=⟨Tryz.call200⟩
instance aw_:aT Tryz.prog 270:=⟨Tryz.call270⟩
instance aDQ:aT Tryz.prog 194:=⟨Tryz.call194⟩
instance acz:aT Tryz.prog 257:=⟨Tryz.call257⟩
instance aDR:aT Tryz.prog 293:=⟨Tryz.call293⟩
instance akk:aT Tryz.prog 258:=⟨Tryz.call258⟩
instance aw':aT Tryz.prog 294:=⟨Tryz.call294⟩
instance axa:aT Tryz.prog 260:=⟨Tryz.call260⟩
instance aDS:aT Tryz.prog 252:=⟨Tryz.call252⟩
instance aDT:aT Tryz.prog 289:=⟨Tryz.call289⟩
instance axb:aT Tryz.prog 188:=⟨Tryz.call188⟩
instance axc:aT Tryz.prog 275:=⟨Tryz.call275⟩
instance axd:aT Tryz.prog 259:=⟨Tryz.call259⟩
instance aDU:aT Tryz.prog 195:=⟨Tryz.call195⟩
instance aDV:aT Tryz.prog 261:=⟨Tryz.call261⟩
theorem aua:∀args w,(callFunc 295 args).run Tryz.prog w=((Extern.SlicesOverlaps.overlaps #[58,58] #[4] args).run Tryz.prog w).andThen fun v w'=>.ok (.value v) w':=fun args w=>run_callFunc_extern Tryz.func295 (by kernel_rfl) (by kernel_rfl) (by kernel_rfl) (e:=Extern.SlicesOverlaps.overlaps #[58,58] #[4]) (by kernel_rfl) args w
instance acA:aT Tryz.prog 108:=⟨Tryz.call108⟩
instance akl:aT Tryz.prog 187:=⟨Tryz.call187⟩
instance aDW:aT Tryz.prog 250:=⟨Tryz.call250⟩
instance axe:aT Tryz.prog 288:=⟨Tryz.call288⟩
instance aDX:aT Tryz.prog 308:=⟨Tryz.call308⟩
instance aDY:aT Tryz.prog 327:=⟨Tryz.call327⟩
instance axf:aT Tryz.prog 251:=⟨Tryz.call251⟩
instance aGE:aT Tryz.prog 40:=⟨Tryz.call40⟩
instance aGF:ig Tryz.prog 35 1 24 (.slice none 0 0):=⟨jZ⟩
instance az4:iB Tryz.prog 35 false:=⟨kH⟩
instance aGG:aT Tryz.prog 98:=⟨Tryz.call98⟩
instance adx:aT Tryz.prog 99:=⟨Tryz.call99⟩
instance axg:aT Tryz.prog 100:=⟨Tryz.call100⟩
instance aDZ:aT Tryz.prog 103:=⟨Tryz.call103⟩
instance akm:aT Tryz.prog 104:=⟨Tryz.call104⟩
instance axh:aT Tryz.prog 105:=⟨Tryz.call105⟩
instance akn:aT Tryz.prog 193:=⟨Tryz.call193⟩
instance aD0:aT Tryz.prog 256:=⟨Tryz.call256⟩
instance ako:aT Tryz.prog 106:=⟨Tryz.call106⟩
structure under where
 l:List Method
 rules:List Rule
 facts:List Fact
 r:Reached
 lines:List Line
instance aD1:aT Tryz.prog 196:=⟨Tryz.call196⟩
instance axi:aT Tryz.prog 262:=⟨Tryz.call262⟩
instance axj:ig Tryz.prog 162 8 176 (.agg [(.slice none 0 0),(.slice none 0 0),(.slice none 0 0),(.slice none 0 0),(.slice none 0 0),(.slice none 0 0),(.int .i64 0),(.slice none 0 0)].toArray):=⟨jZ⟩
instance aD2:aT Tryz.prog 197:=⟨Tryz.call197⟩
instance aiN:ic Tryz.prog 162 4 7:=⟨iy⟩
instance acB:iB Tryz.prog 140 false:=⟨kH⟩
instance Ju:ic Tryz.prog 162 3 3:=⟨iy⟩
instance aiO:ic Tryz.prog 162 0 0:=⟨iy⟩
instance axk:aT Tryz.prog 263:=⟨Tryz.call263⟩
instance aD3:aT Tryz.prog 297:=⟨Tryz.call297⟩
instance axl:aT Tryz.prog 298:=⟨Tryz.call298⟩
instance aD4:aT Tryz.prog 134:=⟨Tryz.call134⟩
instance aD5:aT Tryz.prog 217:=⟨Tryz.call217⟩
instance axm:aT Tryz.prog 314:=⟨Tryz.call314⟩
instance aD6:aT Tryz.prog 315:=⟨Tryz.call315⟩
instance as2:ic Tryz.prog 162 2 2:=⟨iy⟩
instance axn:aT Tryz.prog 264:=⟨Tryz.call264⟩
instance aD7:aT Tryz.prog 299:=⟨Tryz.call299⟩
instance akp:aT Tryz.prog 300:=⟨Tryz.call300⟩
instance axo:aT Tryz.prog 266:=⟨Tryz.call266⟩
instance akq:aT Tryz.prog 265:=⟨Tryz.call265⟩
instance akr:iB Tryz.prog 149 true:=⟨kH⟩
instance axp:ig Tryz.prog 140 1 24 (.slice none 0 0):=⟨jZ⟩
instance as3:ic Tryz.prog 162 1 1:=⟨iy⟩
instance axq:aT Tryz.prog 267:=⟨Tryz.call267⟩
instance aD8:ig Tryz.prog 163 1 8 (.pointer none):=⟨jZ⟩
instance aD9:iB Tryz.prog 163 false:=⟨kH⟩
instance axr:aT Tryz.prog 301:=⟨Tryz.call301⟩
instance axs:aT Tryz.prog 302:=⟨Tryz.call302⟩
def agA(a:Line)(p:Sv×Sv):List Value:=[(.int .i64 a.Rule),(.int .i64 a.Access.Method),p.1.v,(.int .i64 a.Fact.Rel),p.2.v]
theorem aqd{a:Line}:∀H e,gJ H e a-> ∃i:Sv×Sv,0+5<=e.cells.size/\(e.cells.toList.drop 0).take 5=agA a i/\ ∀c∈([aR (aI 3 aH) i.1.v a.Access.Values,aR (aI 3 aH) i.2.v a.Fact.Values]:List aF),c.P H/\c.F=[]:=by
 intro H e h
 obtain⟨v0,v1,rfl,h0,h1⟩:=h
 refine⟨(v0,v1),Nat.le_of_ble_eq_true rfl,rfl,fun c hc=>by
   simp only[List.mem_cons,List.not_mem_nil,or_false]at hc
   rcases hc with rfl|rfl
   · exact⟨h0,rfl⟩
   · exact⟨h1,rfl⟩
⟩
theorem axt{a:Fact}:Un fP a (fun p:Sv×List Nat=>.agg [(.int .i64 a.Rel),p.1.v].toArray) (fun p=>[aD (az 3 (aj aH)) p.2 p.1.v a.Values]):=⟨fun F H e h=>by
 obtain⟨v0,F0,rfl,rfl,h0⟩:=h
 refine⟨(v0,F0),rfl,fun c hc=>?_,by simp[foot,aD]⟩
 simp only[List.mem_cons,List.not_mem_nil,or_false]at hc
 rcases hc with rfl
 · exact h0⟩
theorem az5{a:Rule}{v0:Sv}:Mk (aj iG) [] (.agg [(.int .i64 a.From),(.int .i64 a.To),v0.v].toArray) a [aR (aI 3 aH) v0.v a.Map]:=
 ⟨fun H h=>⟨rfl,v0,rfl,h (aR (aI 3 aH) v0.v a.Map) (by simp)⟩,by simp[aR]⟩
instance alA:aT Tryz.prog 41:=⟨Tryz.call41⟩
instance NH:nO Tryz.prog 156 9:=⟨rP⟩
instance KV:ig Tryz.prog 9 1 16 (.string ⟨[].toArray⟩):=⟨jZ⟩
instance aks:aT Tryz.prog 102:=⟨Tryz.call102⟩
def agB:Go.Shelf.Ren:=⟨fun|156=>102|165=>190|166=>191|169=>192|240=>254|241=>255|276=>291|277=>292|n=>n,fun|31=>156|9=>9|3=>3|4=>4|0=>0|20=>20|72=>231|76=>235|70=>229|37=>209|75=>234|127=>277|164=>299|5=>5|80=>237|n=>n,fun|n=>n⟩
theorem aiP:Go.Proofs.Lays.n156 Tryz.prog agB:={
 mixed:=by kernel_rfl
 f156:=Tryz.func102.trans (congrArg some (by kernel_rfl))
 f165:=Tryz.func190.trans (congrArg some (by kernel_rfl))
 f166:=Tryz.func191.trans (congrArg some (by kernel_rfl))
 f169:=Tryz.func192.trans (congrArg some (by kernel_rfl))
 f240:=Tryz.func254.trans (congrArg some (by kernel_rfl))
 f241:=Tryz.func255.trans (congrArg some (by kernel_rfl))
 f276:=Tryz.func291.trans (congrArg some (by kernel_rfl))
 f277:=Tryz.func292.trans (congrArg some (by kernel_rfl))
 t0:=Tryz.underlying0
 a0:=Tryz.isAgg0
 z0:=Tryz.sizeOf0
 v0:=Tryz.zeroValue0
 t3:=Tryz.underlying3
 a3:=Tryz.isAgg3
 z3:=Tryz.sizeOf3
 v3:=Tryz.zeroValue3
 t4:=Tryz.underlying4
 a4:=Tryz.isAgg4
 z4:=Tryz.sizeOf4
 v4:=Tryz.zeroValue4
 t9:=Tryz.underlying9
 a9:=Tryz.isAgg9
 z9:=Tryz.sizeOf9
 v9:=Tryz.zeroValue9
 t20:=Tryz.underlying20
 a20:=Tryz.isAgg20
 z20:=Tryz.sizeOf20
 v20:=Tryz.zeroValue20
 t31:=Tryz.underlying156
 a31:=Tryz.isAgg156
 z31:=Tryz.sizeOf156
 v31:=Tryz.zeroValue156
 t37:=Tryz.underlying209
 a37:=Tryz.isAgg209
 z37:=Tryz.sizeOf209
 v37:=Tryz.zeroValue209
 t70:=Tryz.underlying229
 a70:=Tryz.isAgg229
 z70:=Tryz.sizeOf229
 v70:=Tryz.zeroValue229
 t72:=Tryz.underlying231
 a72:=Tryz.isAgg231
 z72:=Tryz.sizeOf231
 v72:=Tryz.zeroValue231
 t75:=Tryz.underlying234
 a75:=Tryz.isAgg234
 z75:=Tryz.sizeOf234
 v75:=Tryz.zeroValue234
 t76:=Tryz.underlying235
 a76:=Tryz.isAgg235
 z76:=Tryz.sizeOf235
 v76:=Tryz.zeroValue235
 t127:=Tryz.underlying277
 a127:=Tryz.isAgg277
 z127:=Tryz.sizeOf277
 v127:=Tryz.zeroValue277
 t164:=Tryz.underlying299
 a164:=Tryz.isAgg299
 z164:=Tryz.sizeOf299
 v164:=Tryz.zeroValue299}
theorem extra:Go.Proofs.Builder.Extra Tryz.prog agB:={
 sizeBuilder:=by kernel_rfl
 liesBuilder:=by kernel_rfl
 t5:=Tryz.underlying5
 a5:=Tryz.isAgg5
 z5:=Tryz.sizeOf5
 v5:=Tryz.zeroValue5
 infoByte:=by kernel_rfl
 cellsByte:=by kernel_rfl
 sizeByte:=by kernel_rfl
 neB5:=by decide}
instance aD_:aT Tryz.prog 101:=⟨Tryz.call101⟩
instance aD':aT Tryz.prog 189:=⟨Tryz.call189⟩
def apE:Go.Shelf.Ren:=⟨fun|171=>189|243=>253|246=>290|283=>309|284=>310|285=>311|286=>312|129=>325|317=>328|318=>329|319=>330|320=>331|337=>338|338=>339|n=>n,fun|3=>3|9=>9|2=>2|4=>4|171=>311|0=>0|53=>312|37=>209|5=>5|173=>315|212=>329|51=>326|20=>20|213=>330|46=>307|232=>341|233=>342|n=>n,fun|17=>1|18=>2|19=>3|n=>n⟩
theorem asg:Go.Proofs.LaysM.n171 Tryz.prog apE:={
 mixed:=by kernel_rfl
 f129:=Tryz.func325.trans (congrArg some (by kernel_rfl))
 f171:=Tryz.func189.trans (congrArg some (by kernel_rfl))
 f243:=Tryz.func253.trans (congrArg some (by kernel_rfl))
 f246:=Tryz.func290.trans (congrArg some (by kernel_rfl))
 f283:=Tryz.func309.trans (congrArg some (by kernel_rfl))
 f284:=Tryz.func310.trans (congrArg some (by kernel_rfl))
 f285:=Tryz.func311.trans (congrArg some (by kernel_rfl))
 f286:=Tryz.func312.trans (congrArg some (by kernel_rfl))
 f317:=Tryz.func328.trans (congrArg some (by kernel_rfl))
 f318:=Tryz.func329.trans (congrArg some (by kernel_rfl))
 f319:=Tryz.func330.trans (congrArg some (by kernel_rfl))
 f320:=Tryz.func331.trans (congrArg some (by kernel_rfl))
 f337:=Tryz.func338.trans (congrArg some (by kernel_rfl))
 f338:=Tryz.func339.trans (congrArg some (by kernel_rfl))
 t0:=Tryz.underlying0
 a0:=Tryz.isAgg0
 z0:=Tryz.sizeOf0
 v0:=Tryz.zeroValue0
 t2:=Tryz.underlying2
 a2:=Tryz.isAgg2
 z2:=Tryz.sizeOf2
 v2:=Tryz.zeroValue2
 t3:=Tryz.underlying3
 a3:=Tryz.isAgg3
 z3:=Tryz.sizeOf3
 v3:=Tryz.zeroValue3
 t4:=Tryz.underlying4
 a4:=Tryz.isAgg4
 z4:=Tryz.sizeOf4
 v4:=Tryz.zeroValue4
 t5:=Tryz.underlying5
 a5:=Tryz.isAgg5
 z5:=Tryz.sizeOf5
 v5:=Tryz.zeroValue5
 t9:=Tryz.underlying9
 a9:=Tryz.isAgg9
 z9:=Tryz.sizeOf9
 v9:=Tryz.zeroValue9
 t20:=Tryz.underlying20
 a20:=Tryz.isAgg20
 z20:=Tryz.sizeOf20
 v20:=Tryz.zeroValue20
 t37:=Tryz.underlying209
 a37:=Tryz.isAgg209
 z37:=Tryz.sizeOf209
 v37:=Tryz.zeroValue209
 t46:=Tryz.underlying307
 a46:=Tryz.isAgg307
 z46:=Tryz.sizeOf307
 v46:=Tryz.zeroValue307
 t51:=Tryz.underlying326
 a51:=Tryz.isAgg326
 z51:=Tryz.sizeOf326
 v51:=Tryz.zeroValue326
 t53:=Tryz.underlying312
 a53:=Tryz.isAgg312
 z53:=Tryz.sizeOf312
 v53:=Tryz.zeroValue312
 t171:=Tryz.underlying311
 a171:=Tryz.isAgg311
 z171:=Tryz.sizeOf311
 v171:=Tryz.zeroValue311
 t173:=Tryz.underlying315
 a173:=Tryz.isAgg315
 z173:=Tryz.sizeOf315
 v173:=Tryz.zeroValue315
 t212:=Tryz.underlying329
 a212:=Tryz.isAgg329
 z212:=Tryz.sizeOf329
 v212:=Tryz.zeroValue329
 t213:=Tryz.underlying330
 a213:=Tryz.isAgg330
 z213:=Tryz.sizeOf330
 t232:=Tryz.underlying341
 a232:=Tryz.isAgg341
 z232:=Tryz.sizeOf341
 v232:=Tryz.zeroValue341
 t233:=Tryz.underlying342
 a233:=Tryz.isAgg342
 z233:=Tryz.sizeOf342
 v233:=Tryz.zeroValue342
 g17:=by kernel_rfl
 g18:=by kernel_rfl
 g19:=by kernel_rfl
 i0:=by kernel_rfl
 i2:=by kernel_rfl
 i3:=by kernel_rfl
 i4:=by kernel_rfl
 i5:=by kernel_rfl
 i9:=by kernel_rfl
 i20:=by kernel_rfl
 i37:=by kernel_rfl
 i46:=by kernel_rfl
 i51:=by kernel_rfl
 i53:=by kernel_rfl
 i171:=by kernel_rfl
 i173:=by kernel_rfl
 i212:=by kernel_rfl
 i232:=by kernel_rfl
 i233:=by kernel_rfl
 m17:=by kernel_rfl
 m18:=by kernel_rfl
 m19:=by kernel_rfl}
theorem akt:ut Tryz.prog 156:=.inr ⟨9,by kernel_rfl⟩
instance aGH:aT Tryz.prog 42:=⟨Tryz.call42⟩
instance alB:aT Tryz.prog 43:=⟨Tryz.call43⟩
instance aEa:aT Tryz.prog 109:=⟨Tryz.call109⟩
instance aEb:aT Tryz.prog 201:=⟨Tryz.call201⟩
instance aEc:aT Tryz.prog 202:=⟨Tryz.call202⟩
instance axu:aT Tryz.prog 271:=⟨Tryz.call271⟩
instance az6:aT Tryz.prog 14:=⟨Tryz.call14⟩
instance az7:aT Tryz.prog 15:=⟨Tryz.call15⟩
instance aGI:aT Tryz.prog 44:=⟨Tryz.call44⟩
instance az8:aT Tryz.prog 16:=⟨Tryz.call16⟩
instance aGJ:aT Tryz.prog 45:=⟨Tryz.call45⟩
instance az9:aT Tryz.prog 17:=⟨Tryz.call17⟩
instance aGK:aT Tryz.prog 46:=⟨Tryz.call46⟩
instance aEd:aT Tryz.prog 110:=⟨Tryz.call110⟩
theorem ai':fieldAt Tryz.prog 72 0=some (3,0,1):=by kernel_rfl
theorem aub:fieldAt Tryz.prog 72 1=some (22,1,1):=by kernel_rfl
theorem auc:fieldAt Tryz.prog 72 2=some (3,2,1):=by kernel_rfl
theorem aud:fieldAt Tryz.prog 72 3=some (3,3,1):=by kernel_rfl
theorem aue:fieldAt Tryz.prog 72 4=some (3,4,1):=by kernel_rfl
def Y3(a:Method):Prop:=sH a.Rel/\(qK sH) a.Inputs/\sH a.Limit/\sH a.Cost/\sH a.Quota
theorem aGL:∀H v a,Oa H v a->vG v=J_ Tryz.prog 72:=by
 intro H v a h
 obtain⟨v1,rfl,_⟩:=h
 kernel_rfl
theorem az_:iQ Tryz.prog 72 Oa Y3:=by
 intro T enc w fuel cs x h hw ρ H hr hF
 have hl:=Xx ai' h (n:=5) azQ.h.sz.cells
 obtain⟨ρ0,H0,KW,a0,r0,f0,u0,i0,v0,q0,w0⟩:=wI ai' h hw (iQ.int (by kernel_rfl)) hr hF
 obtain⟨ρ1,H1,UW,a1,r1,f1,u1,i1,v1,q1,w1⟩:=wI aub h hw (iQ.slice (s:=1) (by kernel_rfl) (by kernel_rfl) (by decide) (Nat.lt_of_lt_of_le (by decide) (Nat.le_of_eq (show 8=_ from by kernel_rfl))) (iQ.int (by kernel_rfl))) r0 f0
 obtain⟨ρ2,H2,av2,a2,r2,f2,u2,i2,v2,q2,w2⟩:=wI auc h hw (iQ.int (by kernel_rfl)) r1 f1
 obtain⟨ρ3,H3,av3,a3,r3,f3,u3,i3,v3,q3,w3⟩:=wI aud h hw (iQ.int (by kernel_rfl)) r2 f2
 obtain⟨ρ4,H4,av4,a4,r4,f4,u4,i4,v4,q4,w4⟩:=wI aue h hw (iQ.int (by kernel_rfl)) r3 f3
 obtain rfl:KW=(.int .i64 a0):=q0
 replace v0:=v0.up (((u1.trans u2).trans u3).trans u4)
 obtain⟨sa1,yO,rfl⟩:=aI.len q1
 replace v1:=v1.one rfl
 replace v1:=v1.up ((u2.trans u3).trans u4)
 obtain rfl:av2=(.int .i64 a2):=q2
 replace v2:=v2.up (u3.trans u4)
 obtain rfl:av3=(.int .i64 a3):=q3
 replace v3:=v3.up u4
 obtain rfl:av4=(.int .i64 a4):=q4
 have hv:=bP.field (o:=0) v0 (bP.field (o:=1) v1 (bP.field (o:=2) v2 (bP.field (o:=3) v3 (bP.field (o:=4) v4 (bP.end hl)))))
 rw[List.drop_zero]at hv
 refine⟨ρ4,H4,(.agg [(.int .i64 a0),(.slice sa1 a1.length yO),(.int .i64 a2),(.int .i64 a3),(.int .i64 a4)].toArray:Value),({Rel:=a0,Inputs:=a1,Limit:=a2,Cost:=a3,Quota:=a4}:Method),r4,f4,((((u0.trans u1).trans u2).trans u3).trans u4),((((i0.trans i1).trans i2).trans i3).trans i4),?_,?_,w0,w1,w2,w3,w4⟩
 · exact hv
 · exact⟨⟨sa1,_,yO⟩,rfl,(dC.up q1 ((i2.trans i3).trans i4))⟩
theorem aja:fieldAt Tryz.prog 75 0=some (3,0,1):=by kernel_rfl
theorem auf:fieldAt Tryz.prog 75 1=some (3,1,1):=by kernel_rfl
theorem aug:fieldAt Tryz.prog 75 2=some (22,2,1):=by kernel_rfl
def Y4(a:Rule):Prop:=sH a.From/\sH a.To/\(qK sH) a.Map
theorem aGM:∀H v a,Ob H v a->vG v=J_ Tryz.prog 75:=by
 intro H v a h
 obtain⟨v2,rfl,_⟩:=h
 kernel_rfl
theorem az':iQ Tryz.prog 75 Ob Y4:=by
 intro T enc w fuel cs x h hw ρ H hr hF
 have hl:=Xx aja h (n:=3) azR.h.sz.cells
 obtain⟨ρ0,H0,KW,a0,r0,f0,u0,i0,v0,q0,w0⟩:=wI aja h hw (iQ.int (by kernel_rfl)) hr hF
 obtain⟨ρ1,H1,UW,a1,r1,f1,u1,i1,v1,q1,w1⟩:=wI auf h hw (iQ.int (by kernel_rfl)) r0 f0
 obtain⟨ρ2,H2,av2,a2,r2,f2,u2,i2,v2,q2,w2⟩:=wI aug h hw (iQ.slice (s:=1) (by kernel_rfl) (by kernel_rfl) (by decide) (Nat.lt_of_lt_of_le (by decide) (Nat.le_of_eq (show 8=_ from by kernel_rfl))) (iQ.int (by kernel_rfl))) r1 f1
 obtain rfl:KW=(.int .i64 a0):=q0
 replace v0:=v0.up (u1.trans u2)
 obtain rfl:UW=(.int .i64 a1):=q1
 replace v1:=v1.up u2
 obtain⟨UX,UY,rfl⟩:=aI.len q2
 replace v2:=v2.one rfl
 have hv:=bP.field (o:=0) v0 (bP.field (o:=1) v1 (bP.field (o:=2) v2 (bP.end hl)))
 rw[List.drop_zero]at hv
 refine⟨ρ2,H2,(.agg [(.int .i64 a0),(.int .i64 a1),(.slice UX a2.length UY)].toArray:Value),({From:=a0,To:=a1,Map:=a2}:Rule),r2,f2,((u0.trans u1).trans u2),((i0.trans i1).trans i2),?_,?_,w0,w1,w2⟩
 · exact hv
 · exact⟨⟨UX,_,UY⟩,rfl,q2⟩
def Y5(H:aB)(v:Value)(a:aV):Prop:=∃v0 v1:Sv,v= .agg [v0.v,v1.v].toArray/\(aI 3 aH) H v0.v a.Head/\(aI 119 JB) H v1.v a.Atoms
instance:dC Y5:=⟨fun h hi=>by
 obtain⟨v0,v1,h,h0,h1⟩:=h
 exact⟨v0,v1,h,dC.up h0 hi,dC.up h1 hi⟩⟩
instance:Cells Y5 2:=⟨fun h=>by
 obtain⟨v0,v1,rfl,h0,h1⟩:=h
 exact⟨rfl,rfl⟩⟩
theorem aiQ:fieldAt Tryz.prog 119 0=some (3,0,1):=by kernel_rfl
theorem as4:fieldAt Tryz.prog 119 1=some (22,1,1):=by kernel_rfl
def X4(a:Atom):Prop:=sH a.Rel/\(qK sH) a.Terms
theorem aEe:∀H v a,JB H v a->vG v=J_ Tryz.prog 119:=by
 intro H v a h
 obtain⟨v1,rfl,_⟩:=h
 kernel_rfl
theorem axv:iQ Tryz.prog 119 JB X4:=by
 intro T enc w fuel cs x h hw ρ H hr hF
 have hl:=Xx aiQ h (n:=2) aww.h.sz.cells
 obtain⟨ρ0,H0,KW,a0,r0,f0,u0,i0,v0,q0,w0⟩:=wI aiQ h hw (iQ.int (by kernel_rfl)) hr hF
 obtain⟨ρ1,H1,UW,a1,r1,f1,u1,i1,v1,q1,w1⟩:=wI as4 h hw (iQ.slice (s:=1) (by kernel_rfl) (by kernel_rfl) (by decide) (Nat.lt_of_lt_of_le (by decide) (Nat.le_of_eq (show 8=_ from by kernel_rfl))) (iQ.int (by kernel_rfl))) r0 f0
 obtain rfl:KW=(.int .i64 a0):=q0
 replace v0:=v0.up u1
 obtain⟨sa1,yO,rfl⟩:=aI.len q1
 replace v1:=v1.one rfl
 have hv:=bP.field (o:=0) v0 (bP.field (o:=1) v1 (bP.end hl))
 rw[List.drop_zero]at hv
 refine⟨ρ1,H1,(.agg [(.int .i64 a0),(.slice sa1 a1.length yO)].toArray:Value),({Rel:=a0,Terms:=a1}:Atom),r1,f1,(u0.trans u1),(i0.trans i1),?_,?_,w0,w1⟩
 · exact hv
 · exact⟨⟨sa1,_,yO⟩,rfl,q1⟩
theorem ajb:fieldAt Tryz.prog 27 0=some (22,0,1):=by kernel_rfl
theorem auh:fieldAt Tryz.prog 27 1=some (25,1,1):=by kernel_rfl
def ady(a:aV):Prop:=(qK sH) a.Head/\(qK X4) a.Atoms
theorem aAa:∀H v a,Y5 H v a->vG v=J_ Tryz.prog 27:=by
 intro H v a h
 obtain⟨v0,v1,rfl,_,_⟩:=h
 kernel_rfl
theorem aAb:iQ Tryz.prog 27 Y5 ady:=by
 intro T enc w fuel cs x h hw ρ H hr hF
 have hl:=Xx ajb h (n:=2) azP.h.sz.cells
 obtain⟨ρ0,H0,KW,a0,r0,f0,u0,i0,v0,q0,w0⟩:=wI ajb h hw (iQ.slice (s:=1) (by kernel_rfl) (by kernel_rfl) (by decide) (Nat.lt_of_lt_of_le (by decide) (Nat.le_of_eq (show 8=_ from by kernel_rfl))) (iQ.int (by kernel_rfl))) hr hF
 obtain⟨ρ1,H1,UW,a1,r1,f1,u1,i1,v1,q1,w1⟩:=wI auh h hw (iQ.slice (s:=2) (by kernel_rfl) (by kernel_rfl) (by decide) (Nat.lt_of_lt_of_le (by decide) (Nat.le_of_eq (show 32=_ from by kernel_rfl))) axv) r0 f0
 obtain⟨UZ,U0,rfl⟩:=aI.len q0
 replace v0:=v0.one rfl
 replace v0:=v0.up u1
 obtain⟨sa1,yO,rfl⟩:=aI.len q1
 replace v1:=v1.one rfl
 have hv:=bP.field (o:=0) v0 (bP.field (o:=1) v1 (bP.end hl))
 rw[List.drop_zero]at hv
 refine⟨ρ1,H1,(.agg [(.slice UZ a0.length U0),(.slice sa1 a1.length yO)].toArray:Value),({Head:=a0,Atoms:=a1}:aV),r1,f1,(u0.trans u1),(i0.trans i1),?_,?_,w0,w1⟩
 · exact hv
 · exact⟨⟨UZ,_,U0⟩,⟨sa1,_,yO⟩,rfl,(dC.up q0 i1),q1⟩
theorem zI{α β:Type}{l:List α}{i:Int}{f:α->Option β}{R:β}{G:Prop}(hF:(ix l i).bind f=some R)(k:∀x,0<=i->l[i.toNat]?=some x->f x=some R->G):G:=by
 obtain⟨x,h,e⟩:=Option.bind_eq_some_iff.1 hF
 obtain⟨h1,h2⟩:=uk h
 exact k x h1 h2 e
theorem jD{G N:Prop}(k:N)(h:N->G:=by (intro k; (iterate 10 refine au ?_); exact k)):G:=h k
theorem yg{G N:Prop}(k:N)(h:N->G:=by (intro k; (iterate 11 refine au ?_); exact k)):G:=h k
theorem Cr{G N:Prop}(k:N)(h:N->G:=by (intro k; (iterate 12 refine au ?_); exact k)):G:=h k
theorem axw{G N:Prop}(k:N)(h:N->G:=by (intro k; (iterate 13 refine au ?_); exact k)):G:=h k
theorem axx{G N:Prop}(k:N)(h:N->G:=by (intro k; (iterate 14 refine au ?_); exact k)):G:=h k
theorem X5{G N:Prop}(k:N)(h:N->G:=by (intro k; (iterate 15 refine au ?_); exact k)):G:=h k
theorem X6{G N:Prop}(k:N)(h:N->G:=by (intro k; (iterate 16 refine au ?_); exact k)):G:=h k
theorem acC{G N:Prop}(k:N)(h:N->G:=by (intro k; (iterate 18 refine au ?_); exact k)):G:=h k
theorem bg{G N:Prop}(k:N)(h:N->G:=by (intro k; (iterate 2 refine au ?_); exact k)):G:=h k
theorem bC{G N:Prop}(k:N)(h:N->G:=by (intro k; (iterate 3 refine au ?_); exact k)):G:=h k
theorem aP{G N:Prop}(k:N)(h:N->G:=by (intro k; (iterate 4 refine au ?_); exact k)):G:=h k
theorem aX{G N:Prop}(k:N)(h:N->G:=by (intro k; (iterate 5 refine au ?_); exact k)):G:=h k
theorem bu{G N:Prop}(k:N)(h:N->G:=by (intro k; (iterate 6 refine au ?_); exact k)):G:=h k
theorem bF{G N:Prop}(k:N)(h:N->G:=by (intro k; (iterate 7 refine au ?_); exact k)):G:=h k
theorem eD{G N:Prop}(k:N)(h:N->G:=by (intro k; (iterate 8 refine au ?_); exact k)):G:=h k
theorem eG{G N:Prop}(k:N)(h:N->G:=by (intro k; (iterate 9 refine au ?_); exact k)):G:=h k
theorem dK(b:Bool):b=true\/b=false:=Bool.eq_false_or_eq_true b
theorem bA{α:Sort _}{a b:α}:cond false a b=b:=rfl
theorem bB{α:Sort _}{a b:α}:cond true a b=a:=rfl
theorem cB{G N:Prop}(k:N)(h:N->G:=by (intro k; (iterate 2 refine du ?_); exact k)):G:=h k
theorem fT{G N:Prop}(k:N)(h:N->G:=by (intro k; (iterate 3 refine du ?_); exact k)):G:=h k
theorem sU{G N:Prop}(k:N)(h:N->G:=by (intro k; (iterate 4 refine du ?_); exact k)):G:=h k
theorem yx{G N:Prop}(k:N)(h:N->G:=by (intro k; (iterate 5 refine du ?_); exact k)):G:=h k
theorem TC{G N:Prop}(k:N)(h:N->G:=by (intro k; (iterate 6 refine du ?_); exact k)):G:=h k
theorem aAc{G N:Prop}(k:N)(h:N->G:=by (intro k; (iterate 7 refine du ?_); exact k)):G:=h k
theorem aAd{G N:Prop}(k:N)(h:N->G:=by (intro k; (iterate 8 refine du ?_); exact k)):G:=h k
theorem ze{G P:Prop}(hF:P)(h:P->G:=by (intro hF; (repeat refine au ?_); cases hF; exact Er ())):G:=h hF
theorem dw{G P:Prop}(hF:P)(h:P->G:=by (intro hF; (repeat refine au ?_); cases hF; exact⟨_,_,rfl,ay,ax⟩)):G:=h hF
theorem alC{G P:Prop}(hF:P)(h:P->G:=by (intro hF; (repeat refine au ?_); cases hF; exact⟨_,_,_,rfl,ay,ax⟩)):G:=h hF
theorem j3{G P:Prop}(hF:P)(h:P->G:=by (intro hF; (repeat refine du ?_); cases hF; exact⟨_,_,rfl,ay,ax⟩)):G:=h hF
abbrev zg(l:List Value):Value:=.agg l.toArray
abbrev zi(n:Int):Value:=.int .i64 n
theorem bO(n:Nat):n<n.succ:=Nat.lt_succ_self n
abbrev uB(F:List Nat)(v:Sv):=aD (az 123 lK) F v.v
abbrev uC(F:List Nat)(v:Sv):=aD (az 136 sI) F v.v
abbrev wR(F:List Nat)(v:Sv):=aD (az 145 sJ) F v.v
abbrev fV(F:List Nat)(v:Sv):=aD (az 147 fP) F v.v
abbrev aAe(F:List Nat)(v:Sv):=aD (az 89 zX) F v.v
abbrev TD(F:List Nat)(v:Sv):=aD (az 91 vS) F v.v
abbrev FB(F:List Nat)(v:Sv):=aD (az 145 (aj gz)) F v.v
abbrev acD(F:List Nat)(v:Sv):=aD (az 147 (aj dW)) F v.v
abbrev FC(F:List Nat)(v:Sv):=aD (az 149 (aj gJ)) F v.v
abbrev wS(F:List Nat)(v:Sv):=aD (az 204 (aj zJ)) F v.v
abbrev a_(F:List Nat)(v:Sv):=aD (az 3 (aj aH)) F v.v
abbrev Z0(F:List Nat)(v:Sv):=aD (az 4 (aj rdBool)) F v.v
abbrev Kg(F:List Nat)(v:Sv):=aD (az 89 (aj gN)) F v.v
abbrev zp9(F:List Nat)(v:Sv):=aD (az 9 (aj rdStr)) F v.v
abbrev aAf(F:List Nat)(v:Sv):=aD (az 91 (aj iG)) F v.v
abbrev JE(v:Sv):=aR (aI 119 JB) v.v
abbrev bZ(v:Sv):=aR (aI 123 JC) v.v
abbrev wT(v:Sv):=aR (aI 136 RO) v.v
abbrev oI(v:Sv):=aR (aI 145 gz) v.v
abbrev dD(v:Sv):=aR (aI 147 dW) v.v
abbrev RU(v:Sv):=aR (aI 149 gJ) v.v
abbrev ag(v:Sv):=aR (aI 3 aH) v.v
abbrev zr4(v:Sv):=aR (aI 4 rdBool) v.v
abbrev TE(v:Sv):=aR (aI 72 Oa) v.v
abbrev TF(v:Sv):=aR (aI 75 Ob) v.v
abbrev dO(v:Sv):=aR (aI 89 gN) v.v
abbrev zr9(v:Sv):=aR (aI 9 rdStr) v.v
abbrev dV(v:Sv):=aR (aI 91 iG) v.v
theorem zx{G N:Prop}(k:N)(h:N->G:=by (intro k; exact aO (oo (.tmp rfl rfl) rfl) k)):G:=h k
theorem _root_.Go.Fw.Mem.q2{c d0 d1:aF}{l:List aF}:Fw.Mem c (d0::d1::c::l):=.t (.t .h)
theorem _root_.Go.Fw.Mem.q3{c d0 d1 d2:aF}{l:List aF}:Fw.Mem c (d0::d1::d2::c::l):=.t (.t (.t .h))
theorem _root_.Go.Fw.Mem.q4{c d0 d1 d2 d3:aF}{l:List aF}:Fw.Mem c (d0::d1::d2::d3::c::l):=.t (.t (.t (.t .h)))
theorem _root_.Go.Fw.Mem.q5{c d0 d1 d2 d3 d4:aF}{l:List aF}:Fw.Mem c (d0::d1::d2::d3::d4::c::l):=.t (.t (.t (.t (.t .h))))
theorem _root_.Go.Fw.Mem.q6{c d0 d1 d2 d3 d4 d5:aF}{l:List aF}:Fw.Mem c (d0::d1::d2::d3::d4::d5::c::l):=.t (.t (.t (.t (.t (.t .h)))))
theorem _root_.Go.Fw.Mem.q7{c d0 d1 d2 d3 d4 d5 d6:aF}{l:List aF}:Fw.Mem c (d0::d1::d2::d3::d4::d5::d6::c::l):=.t (.t (.t (.t (.t (.t (.t .h))))))
theorem _root_.Go.Fw.Mem.q8{c d0 d1 d2 d3 d4 d5 d6 d7:aF}{l:List aF}:Fw.Mem c (d0::d1::d2::d3::d4::d5::d6::d7::c::l):=.t (.t (.t (.t (.t (.t (.t (.t .h)))))))
theorem _root_.Go.Fw.Mem.q9{c d0 d1 d2 d3 d4 d5 d6 d7 d8:aF}{l:List aF}:Fw.Mem c (d0::d1::d2::d3::d4::d5::d6::d7::d8::c::l):=.t (.t (.t (.t (.t (.t (.t (.t (.t .h))))))))
theorem _root_.Go.Fw.Mem.q10{c d0 d1 d2 d3 d4 d5 d6 d7 d8 d9:aF}{l:List aF}:Fw.Mem c (d0::d1::d2::d3::d4::d5::d6::d7::d8::d9::c::l):=.t (.t (.t (.t (.t (.t (.t (.t (.t (.t .h)))))))))
theorem _root_.Go.Fw.Mem.q11{c d0 d1 d2 d3 d4 d5 d6 d7 d8 d9 pI:aF}{l:List aF}:Fw.Mem c (d0::d1::d2::d3::d4::d5::d6::d7::d8::d9::pI::c::l):=.t (.t (.t (.t (.t (.t (.t (.t (.t (.t (.t .h))))))))))
theorem _root_.Go.Fw.Mem.q12{c d0 d1 d2 d3 d4 d5 d6 d7 d8 d9 pI uW:aF}{l:List aF}:Fw.Mem c (d0::d1::d2::d3::d4::d5::d6::d7::d8::d9::pI::uW::c::l):=.t (.t (.t (.t (.t (.t (.t (.t (.t (.t (.t (.t .h)))))))))))
theorem _root_.Go.Fw.Mem.q13{c d0 d1 d2 d3 d4 d5 d6 d7 d8 d9 pI uW Dn:aF}{l:List aF}:Fw.Mem c (d0::d1::d2::d3::d4::d5::d6::d7::d8::d9::pI::uW::Dn::c::l):=.t (.t (.t (.t (.t (.t (.t (.t (.t (.t (.t (.t (.t .h))))))))))))
theorem _root_.Go.Fw.Mem.q14{c d0 d1 d2 d3 d4 d5 d6 d7 d8 d9 pI uW Dn Z4:aF}{l:List aF}:Fw.Mem c (d0::d1::d2::d3::d4::d5::d6::d7::d8::d9::pI::uW::Dn::Z4::c::l):=.t (.t (.t (.t (.t (.t (.t (.t (.t (.t (.t (.t (.t (.t .h)))))))))))))
theorem _root_.Go.Fw.Sel.q2{c d0 d1:aF}{l:List aF}:Fw.Sel (d0::d1::c::l) c (d0::d1::l):=.t (.t .h)
theorem _root_.Go.Fw.Sel.q3{c d0 d1 d2:aF}{l:List aF}:Fw.Sel (d0::d1::d2::c::l) c (d0::d1::d2::l):=.t (.t (.t .h))
theorem _root_.Go.Fw.Sel.q4{c d0 d1 d2 d3:aF}{l:List aF}:Fw.Sel (d0::d1::d2::d3::c::l) c (d0::d1::d2::d3::l):=.t (.t (.t (.t .h)))
theorem _root_.Go.Fw.Sel.q5{c d0 d1 d2 d3 d4:aF}{l:List aF}:Fw.Sel (d0::d1::d2::d3::d4::c::l) c (d0::d1::d2::d3::d4::l):=.t (.t (.t (.t (.t .h))))
theorem _root_.Go.Fw.Sel.q6{c d0 d1 d2 d3 d4 d5:aF}{l:List aF}:Fw.Sel (d0::d1::d2::d3::d4::d5::c::l) c (d0::d1::d2::d3::d4::d5::l):=.t (.t (.t (.t (.t (.t .h)))))
theorem _root_.Go.Fw.Sel.q7{c d0 d1 d2 d3 d4 d5 d6:aF}{l:List aF}:Fw.Sel (d0::d1::d2::d3::d4::d5::d6::c::l) c (d0::d1::d2::d3::d4::d5::d6::l):=.t (.t (.t (.t (.t (.t (.t .h))))))
theorem _root_.Go.Fw.Sel.q8{c d0 d1 d2 d3 d4 d5 d6 d7:aF}{l:List aF}:Fw.Sel (d0::d1::d2::d3::d4::d5::d6::d7::c::l) c (d0::d1::d2::d3::d4::d5::d6::d7::l):=.t (.t (.t (.t (.t (.t (.t (.t .h)))))))
theorem _root_.Go.Fw.Sel.q9{c d0 d1 d2 d3 d4 d5 d6 d7 d8:aF}{l:List aF}:Fw.Sel (d0::d1::d2::d3::d4::d5::d6::d7::d8::c::l) c (d0::d1::d2::d3::d4::d5::d6::d7::d8::l):=.t (.t (.t (.t (.t (.t (.t (.t (.t .h))))))))
theorem _root_.Go.Fw.Sel.q10{c d0 d1 d2 d3 d4 d5 d6 d7 d8 d9:aF}{l:List aF}:Fw.Sel (d0::d1::d2::d3::d4::d5::d6::d7::d8::d9::c::l) c (d0::d1::d2::d3::d4::d5::d6::d7::d8::d9::l):=.t (.t (.t (.t (.t (.t (.t (.t (.t (.t .h)))))))))
theorem _root_.Go.Fw.Sel.q11{c d0 d1 d2 d3 d4 d5 d6 d7 d8 d9 pI:aF}{l:List aF}:Fw.Sel (d0::d1::d2::d3::d4::d5::d6::d7::d8::d9::pI::c::l) c (d0::d1::d2::d3::d4::d5::d6::d7::d8::d9::pI::l):=.t (.t (.t (.t (.t (.t (.t (.t (.t (.t (.t .h))))))))))
theorem _root_.Go.Fw.Sel.q12{c d0 d1 d2 d3 d4 d5 d6 d7 d8 d9 pI uW:aF}{l:List aF}:Fw.Sel (d0::d1::d2::d3::d4::d5::d6::d7::d8::d9::pI::uW::c::l) c (d0::d1::d2::d3::d4::d5::d6::d7::d8::d9::pI::uW::l):=.t (.t (.t (.t (.t (.t (.t (.t (.t (.t (.t (.t .h)))))))))))
theorem _root_.Go.Fw.Sel.q13{c d0 d1 d2 d3 d4 d5 d6 d7 d8 d9 pI uW Dn:aF}{l:List aF}:Fw.Sel (d0::d1::d2::d3::d4::d5::d6::d7::d8::d9::pI::uW::Dn::c::l) c (d0::d1::d2::d3::d4::d5::d6::d7::d8::d9::pI::uW::Dn::l):=.t (.t (.t (.t (.t (.t (.t (.t (.t (.t (.t (.t (.t .h))))))))))))
theorem _root_.Go.Fw.Sel.q14{c d0 d1 d2 d3 d4 d5 d6 d7 d8 d9 pI uW Dn Z4:aF}{l:List aF}:Fw.Sel (d0::d1::d2::d3::d4::d5::d6::d7::d8::d9::pI::uW::Dn::Z4::c::l) c (d0::d1::d2::d3::d4::d5::d6::d7::d8::d9::pI::uW::Dn::Z4::l):=.t (.t (.t (.t (.t (.t (.t (.t (.t (.t (.t (.t (.t (.t .h)))))))))))))
def Jn(ae:List Int)(il:Int):Option (Int):=
 if (decide (((IntKind.i64.wrap (il-(ae.length:Int))):Int)<0))then (
   some (-1))
 else (
   some (IntKind.i64.wrap (il-(ae.length:Int))))
theorem WE{ae:List Int}{aa:Sv}{il R:Int}(hF:Jn ae il=some R):
   Fw.Spec Tryz.prog 25 [aa.v,(zi il)] [ag aa ae] (fun _:Unit=>(zi R)) (fun _=>[]):=by
 refine Se 12 Tryz.func25 [.tmp 4] ?_
 intro H0 F0
 unfold Jn at hF
 refine X5 ?_
 refine Ci hF (fun hb1 hF=>?_) (fun hb1 hF=>?_)
 · exact ze hF
 exact ze hF
def P9(ae:Method)(il:Int):Option (Int):=
 (Jn ae.Inputs il).bind fun r2=>
 if (decide ((r2:Int)<0))then (
   some (-1))
 else (
   some r2)
theorem ao4{ae:Method}{aM:Sv}{il R:Int}(hF:P9 ae il=some R):
   Fw.Spec Tryz.prog 23 [(zg [(zi ae.Rel),aM.v,(zi ae.Limit),(zi ae.Cost),(zi ae.Quota)]),(zi il)] [ag aM ae.Inputs] (fun _:Unit=>(zi R)) (fun _=>[]):=by
 refine Se 12 Tryz.func23 [.tmp 4] ?_
 intro H0 F0
 unfold P9 at hF
 refine au ?_
 refine bM (fun k1=>?_)
 refine bu ?_
 refine bnd hF fun r2 hx3 hF=>bJ (WE hx3) (fun _=>?_)
 refine bF ?_
 refine Ci hF (fun hb5 hF=>?_) (fun hb5 hF=>?_)
 · exact ze hF
 exact ze hF
def Ph:List Method->Nat->Int->Option (Int)
 |[],k5,c1=>some c1
 |x7::bR,k5,c1=>(P9 x7 c1).bind fun d_=>
   if (decide ((d_:Int)<0))then (
     some (-1))
   else (
     Ph bR (k5+1) d_)
def WF(ae:List Method)(il:Int):Option (Int):=
 if (decide (((IntKind.i64.wrap (il-(ae.length:Int))):Int)<0))then (
   some (-1))
 else (
   Ph ae 0 (IntKind.i64.wrap (il-(ae.length:Int))))
theorem aoA{ae:List Method}{aa:Sv}{il R:Int}(hF:WF ae il=some R):
   Fw.Spec Tryz.prog 5 [aa.v,(zi il)] [TE aa ae] (fun _:Unit=>(zi R)) (fun _=>[]):=by
 refine Se 27 Tryz.func5 [.tmp 4] ?_
 intro H0 F0
 unfold WF at hF
 refine X5 ?_
 refine Ci hF (fun qN hF=>?_) (fun qN hF=>?_)
 · exact ze hF
 refine aX ?_
 refine aY (bK (m:=ae.length) (fun m3 f' cs'=>∃(g:Fr)(k5:Nat)(bR:List Method)(c1:Int),m3=bR.length/\f'=aN g [(0,aa.v),(1,(zi c1)),(5,(zi (k5:Int)))]/\List.drop k5 ae=bR/\aK cs' [TE aa ae]/\Ph bR k5 c1=some R) ⟨_,0,_,_,rfl,ay,rfl,ax,hF⟩ ?_)
 rintro m3 _ _ ⟨g4,k5,bR,c1,rfl,rfl,iR,hE,hF⟩
 refine Kb hE ae (fun wU=>?_)
 rcases bR with _|⟨x7,bR⟩
 · have lW:=dn iR
   rw[Ph]at hF
   refine bF ?_
   refine cO ?_
   exact ze hF
 obtain⟨lW,fU,fZ⟩:=bW iR
 rw[Ph]at hF
 refine bF ?_
 refine cK ?_
 refine aX ?_
 refine Ai fU (fun k14 GQ=>?_)
 refine iw (aa8 x7) ahn (fun p16=>?_)
 refine au ?_
 refine bnd hF fun d_ gq hF=>bJ (ao4 gq) (fun _=>?_)
 refine bu ?_
 refine Ci hF (fun yz hF=>?_) (fun yz hF=>?_)
 · exact ze hF
 refine bu ?_
 rw[wk k5]
 exact⟨_,bO _,_,k5+1,bR,_,rfl,ay,fZ,ax,hF⟩
def QK(ae:Rule)(il:Int):Option (Int):=
 (Jn ae.Map il).bind fun r2=>
 if (decide ((r2:Int)<0))then (
   some (-1))
 else (
   some r2)
theorem aqe{ae:Rule}{gK:Sv}{il R:Int}(hF:QK ae il=some R):
   Fw.Spec Tryz.prog 24 [(zg [(zi ae.From),(zi ae.To),gK.v]),(zi il)] [ag gK ae.Map] (fun _:Unit=>(zi R)) (fun _=>[]):=by
 refine Se 12 Tryz.func24 [.tmp 4] ?_
 intro H0 F0
 unfold QK at hF
 refine au ?_
 refine bM (fun k1=>?_)
 refine bu ?_
 refine bnd hF fun r2 hx3 hF=>bJ (WE hx3) (fun _=>?_)
 refine bF ?_
 refine Ci hF (fun hb5 hF=>?_) (fun hb5 hF=>?_)
 · exact ze hF
 exact ze hF
def Pt:List Rule->Nat->Int->Option (Int)
 |[],k5,c1=>some c1
 |x7::bR,k5,c1=>(QK x7 c1).bind fun d_=>
   if (decide ((d_:Int)<0))then (
     some (-1))
   else (
     Pt bR (k5+1) d_)
def WV(ae:List Rule)(il:Int):Option (Int):=
 if (decide (((IntKind.i64.wrap (il-(ae.length:Int))):Int)<0))then (
   some (-1))
 else (
   Pt ae 0 (IntKind.i64.wrap (il-(ae.length:Int))))
theorem apF{ae:List Rule}{aa:Sv}{il R:Int}(hF:WV ae il=some R):
   Fw.Spec Tryz.prog 6 [aa.v,(zi il)] [TF aa ae] (fun _:Unit=>(zi R)) (fun _=>[]):=by
 refine Se 27 Tryz.func6 [.tmp 4] ?_
 intro H0 F0
 unfold WV at hF
 refine X5 ?_
 refine Ci hF (fun qN hF=>?_) (fun qN hF=>?_)
 · exact ze hF
 refine aX ?_
 refine aY (bK (m:=ae.length) (fun m3 f' cs'=>∃(g:Fr)(k5:Nat)(bR:List Rule)(c1:Int),m3=bR.length/\f'=aN g [(0,aa.v),(1,(zi c1)),(5,(zi (k5:Int)))]/\List.drop k5 ae=bR/\aK cs' [TF aa ae]/\Pt bR k5 c1=some R) ⟨_,0,_,_,rfl,ay,rfl,ax,hF⟩ ?_)
 rintro m3 _ _ ⟨g4,k5,bR,c1,rfl,rfl,iR,hE,hF⟩
 refine Kb hE ae (fun wU=>?_)
 rcases bR with _|⟨x7,bR⟩
 · have lW:=dn iR
   rw[Pt]at hF
   refine bF ?_
   refine cO ?_
   exact ze hF
 obtain⟨lW,fU,fZ⟩:=bW iR
 rw[Pt]at hF
 refine bF ?_
 refine cK ?_
 refine aX ?_
 refine Ai fU (fun k14 GQ=>?_)
 refine iw (aa9 x7) aho (fun p16=>?_)
 refine au ?_
 refine bnd hF fun d_ gq hF=>bJ (aqe gq) (fun _=>?_)
 refine bu ?_
 refine Ci hF (fun yz hF=>?_) (fun yz hF=>?_)
 · exact ze hF
 refine bu ?_
 rw[wk k5]
 exact⟨_,bO _,_,k5+1,bR,_,rfl,ay,fZ,ax,hF⟩
def QL(ae:Atom)(il:Int):Option (Int):=
 (Jn ae.Terms il).bind fun r2=>
 if (decide ((r2:Int)<0))then (
   some (-1))
 else (
   some r2)
theorem aqf{ae:Atom}{aM:Sv}{il R:Int}(hF:QL ae il=some R):
   Fw.Spec Tryz.prog 65 [(zg [(zi ae.Rel),aM.v]),(zi il)] [ag aM ae.Terms] (fun _:Unit=>(zi R)) (fun _=>[]):=by
 refine Se 12 Tryz.func65 [.tmp 4] ?_
 intro H0 F0
 unfold QL at hF
 refine au ?_
 refine bM (fun k1=>?_)
 refine bu ?_
 refine bnd hF fun r2 hx3 hF=>bJ (WE hx3) (fun _=>?_)
 refine bF ?_
 refine Ci hF (fun hb5 hF=>?_) (fun hb5 hF=>?_)
 · exact ze hF
 exact ze hF
def Pv:List Atom->Nat->Int->Option (Int)
 |[],k5,c1=>some c1
 |x7::bR,k5,c1=>(QL x7 c1).bind fun d_=>
   if (decide ((d_:Int)<0))then (
     some (-1))
   else (
     Pv bR (k5+1) d_)
def WW(ae:List Atom)(il:Int):Option (Int):=
 if (decide (((IntKind.i64.wrap (il-(ae.length:Int))):Int)<0))then (
   some (-1))
 else (
   Pv ae 0 (IntKind.i64.wrap (il-(ae.length:Int))))
theorem apG{ae:List Atom}{aa:Sv}{il R:Int}(hF:WW ae il=some R):
   Fw.Spec Tryz.prog 26 [aa.v,(zi il)] [JE aa ae] (fun _:Unit=>(zi R)) (fun _=>[]):=by
 refine Se 27 Tryz.func26 [.tmp 4] ?_
 intro H0 F0
 unfold WW at hF
 refine X5 ?_
 refine Ci hF (fun qN hF=>?_) (fun qN hF=>?_)
 · exact ze hF
 refine aX ?_
 refine aY (bK (m:=ae.length) (fun m3 f' cs'=>∃(g:Fr)(k5:Nat)(bR:List Atom)(c1:Int),m3=bR.length/\f'=aN g [(0,aa.v),(1,(zi c1)),(5,(zi (k5:Int)))]/\List.drop k5 ae=bR/\aK cs' [JE aa ae]/\Pv bR k5 c1=some R) ⟨_,0,_,_,rfl,ay,rfl,ax,hF⟩ ?_)
 rintro m3 _ _ ⟨g4,k5,bR,c1,rfl,rfl,iR,hE,hF⟩
 refine Kb hE ae (fun wU=>?_)
 rcases bR with _|⟨x7,bR⟩
 · have lW:=dn iR
   rw[Pv]at hF
   refine bF ?_
   refine cO ?_
   exact ze hF
 obtain⟨lW,fU,fZ⟩:=bW iR
 rw[Pv]at hF
 refine bF ?_
 refine cK ?_
 refine aX ?_
 refine Ai fU (fun k14 GQ=>?_)
 refine iw (aaR x7) agy (fun p16=>?_)
 refine au ?_
 refine bnd hF fun d_ gq hF=>bJ (aqf gq) (fun _=>?_)
 refine bu ?_
 refine Ci hF (fun yz hF=>?_) (fun yz hF=>?_)
 · exact ze hF
 refine bu ?_
 rw[wk k5]
 exact⟨_,bO _,_,k5+1,bR,_,rfl,ay,fZ,ax,hF⟩
def Qx(ae:aV)(il:Int):Option (Int):=
 (Jn ae.Head il).bind fun r2=>
 if (decide ((r2:Int)<0))then (
   some (-1))
 else (
   (WW ae.Atoms r2).bind fun r5=>
   if (decide ((r5:Int)<0))then (
     some (-1))
   else (
     some r5))
theorem apH{ae:aV}{aa aM:Sv}{il R:Int}(hF:Qx ae il=some R):
   Fw.Spec Tryz.prog 7 [(zg [aa.v,aM.v]),(zi il)] [ag aa ae.Head,JE aM ae.Atoms] (fun _:Unit=>(zi R)) (fun _=>[]):=by
 refine Se 18 Tryz.func7 [.tmp 4] ?_
 intro H0 F0
 unfold Qx at hF
 refine au ?_
 refine bM (fun k1=>?_)
 refine bu ?_
 refine bnd hF fun r2 hx3 hF=>bJ (WE hx3) (fun _=>?_)
 refine bF ?_
 refine Ci hF (fun KX hF=>?_) (fun KX hF=>?_)
 · exact ze hF
 refine aX ?_
 refine bnd hF fun r5 hx6 hF=>bJ (apG hx6) (fun _=>?_)
 refine bF ?_
 refine Ci hF (fun KY hF=>?_) (fun KY hF=>?_)
 · exact ze hF
 exact ze hF
def MK:List Int->Nat->(List Int)->Option ((List Int))
 |[],kX,rX=>some rX
 |x34::oq,kX,rX=>(tK (decide (0<=(kX:Int))&&decide ((kX:Int)<(rX.length:Int)))).bind fun u46=>
   (some (rX.set ((kX:Int)).toNat x34)).bind fun z48=>
   MK oq (kX+1) z48
def zu(ae:List Int):Option ((List Int)):=
 (yN (ae.length:Int) (0:Int)).bind fun z1=>
 MK ae 0 z1
theorem IZ{ae:List Int}{aa:Sv}{R:(List Int)}(hF:zu ae=some R):
   Fw.Spec Tryz.prog 9 [aa.v] [ag aa ae] (fun p:Sv×List Nat=>p.1.v) (fun p=>[a_ p.2 p.1 R]):=by
 refine Se 22 Tryz.func9 [.tmp 2] ?_
 intro H0 F0
 unfold zu at hF
 refine bu ?_
 refine bnd hF fun z1 hx2 hF=>?_
 have yP:=Ni hx2
 refine dx rfl (PQ (g:=true) (c:=(ae.length:Int)) cz.h cZ.h rfl rfl (by decide) (.tmp rfl rfl) yP.2.1 yP.2.2) (fun k4=>?_)
 refine dH (.cons .h .nil) (QI (Ro:=(aj aH)) (E:=3) (a:=(0:Int)) hx2 (fun _=>⟨rfl,rfl⟩)) ?_
 refine bu ?_
 refine aY (bK (m:=ae.length) (fun U1 f' cs'=>∃(g:Fr)(kX:Nat)(oq rX:List Int)(F28:List Nat),U1=oq.length/\f'=aN g [(0,aa.v),(3,(.slice (some ⟨k4,0,none⟩) (ae.length:Int).toNat 1)),(4,(zi (kX:Int)))]/\List.drop kX ae=oq/\aK cs' [ag aa ae,aD (az 3 (aj aH)) F28 (.slice (some ⟨k4,0,none⟩) (ae.length:Int).toNat 1) rX]/\MK oq kX rX=some R) ⟨_,0,_,_,[k4],rfl,ay,rfl,ax,hF⟩ ?_)
 rintro U1 _ _ ⟨g31,kX,oq,rX,F28,rfl,rfl,Kh,hE,hF⟩
 refine Kb hE ae (fun axy=>?_)
 rcases oq with _|⟨x34,oq⟩
 · have TG:=dn Kh
   rw[MK]at hF
   refine bF ?_
   refine cO ?_
   refine eG ?_
   cases hF
   exact Er (⟨(some ⟨k4,0,none⟩),(ae.length:Int).toNat,1⟩,F28)
 obtain⟨TG,vU,hd38⟩:=bW Kh
 rw[MK]at hF
 refine bF ?_
 refine cK ?_
 refine bF ?_
 refine Ai vU (fun tL U2=>?_)
 refine Al dG ?_
 refine bnd hF fun u46 CL hF=>?_
 have alD:=Ng CL
 refine qA cz.h cZ.h.sz (.tmp rfl rfl) (.tmp rfl rfl) .q2 alD (fun k43 adz=>?_)
 refine bnd hF fun z48 kU hF=>?_
 replace kU:=Option.some.inj kU
 refine dU (.cons .q2 .nil) (Nh (Ro:=(aj aH)) (a:=x34) (i:=(kX:Int)) cZ.h.sz rfl (.tmp rfl rfl) (.tmp rfl rfl) adz alD (jd (fun _=>rfl)) (fun _ _ _ _ h=>by obtain⟨-,h⟩:=h; cases h; rfl)) (fun Z5=>?_)
 rw[kU]
 refine bu ?_
 rw[wk kX]
 exact⟨_,bO _,_,kX+1,oq,_,Z5,rfl,ay,hd38,ax,hF⟩
def P_(ae:Method):Option (Method):=
 (zu ae.Inputs).bind fun r4=>
 some (⟨ae.Rel,r4,ae.Limit,ae.Cost,ae.Quota⟩:Method)
theorem ao5{ae:Method}{aM:Sv}{R:Method}(hF:P_ ae=some R):
   Fw.Spec Tryz.prog 34 [(zg [(zi ae.Rel),aM.v,(zi ae.Limit),(zi ae.Cost),(zi ae.Quota)])] [ag aM ae.Inputs] (fun p:Sv×List Nat=>(zg [(zi R.Rel),p.1.v,(zi R.Limit),(zi R.Cost),(zi R.Quota)])) (fun p=>[a_ p.2 p.1 R.Inputs]):=by
 refine Se 21 Tryz.func34 [.cell 2 89] ?_
 intro H0 F0
 unfold P_ at hF
 refine au ?_
 refine bM (fun k1=>?_)
 refine dJ (fun k2=>?_)
 refine bg ?_
 refine dJ (fun k3=>?_)
 refine aX ?_
 refine As (zg [(zi ae.Rel),(.slice none 0 0),(zi 0),(zi 0),(zi 0)]) ?_
 refine aP ?_
 refine bnd hF fun r4 hx5 hF=>fq (IZ hx5) (fun p6=>?_)
 refine au ?_
 refine As (zg [(zi ae.Rel),p6.1.v,(zi 0),(zi 0),(zi 0)]) ?_
 refine aX ?_
 refine As (zg [(zi ae.Rel),p6.1.v,(zi ae.Limit),(zi 0),(zi 0)]) ?_
 refine aX ?_
 refine As (zg [(zi ae.Rel),p6.1.v,(zi ae.Limit),(zi ae.Cost),(zi 0)]) ?_
 refine aX ?_
 refine As (zg [(zi ae.Rel),p6.1.v,(zi ae.Limit),(zi ae.Cost),(zi ae.Quota)]) ?_
 refine bC ?_
 refine As (zg [(zi ae.Rel),p6.1.v,(zi ae.Limit),(zi ae.Cost),(zi ae.Quota)]) ?_
 refine bg ?_
 cases hF
 exact Er (p6.1,p6.2)
def Mg:List Method->Nat->(List Method)->Option ((List Method))
 |[],gZ,c31=>some c31
 |x38::kg,gZ,c31=>(P_ x38).bind fun lu=>
   (tK (decide (0<=(gZ:Int))&&decide ((gZ:Int)<(c31.length:Int)))).bind fun U3=>
   (some (c31.set ((gZ:Int)).toNat lu)).bind fun z56=>
   Mg kg (gZ+1) z56
def ML(ae:List Method):Option ((List Method)):=
 (yN (ae.length:Int) ((⟨0,[],0,0,0⟩:Method):Method)).bind fun z1=>
 Mg ae 0 z1
theorem aax{ae:List Method}{aa:Sv}{R:(List Method)}(hF:ML ae=some R):
   Fw.Spec Tryz.prog 10 [aa.v] [TE aa ae] (fun p:Sv×List Nat=>p.1.v) (fun p=>[aAe p.2 p.1 R]):=by
 refine Se 23 Tryz.func10 [.tmp 2] ?_
 intro H0 F0
 unfold ML at hF
 refine bu ?_
 refine bnd hF fun z1 hx2 hF=>?_
 have yP:=Ni hx2
 refine dx rfl (PQ (g:=true) (c:=(ae.length:Int)) vR.h sS.h rfl rfl (by decide) (.tmp rfl rfl) yP.2.1 yP.2.2) (fun k4=>?_)
 refine dH (.cons .h .nil) (QI (Ro:=zX) (E:=89) (a:=((⟨0,[],0,0,0⟩:Method):Method)) hx2 (fun _=>⟨⟨none,0,0⟩,[],rfl,rfl,.inl ⟨rfl,rfl,rfl⟩⟩)) ?_
 refine bu ?_
 refine aY (bK (m:=ae.length) (fun GR f' cs'=>∃(g:Fr)(gZ:Nat)(kg c31:List Method)(yQ:List Nat),GR=kg.length/\f'=aN g [(0,aa.v),(3,(.slice (some ⟨k4,0,none⟩) (ae.length:Int).toNat 1)),(4,(zi (gZ:Int)))]/\List.drop gZ ae=kg/\aK cs' [TE aa ae,aD (az 89 zX) yQ (.slice (some ⟨k4,0,none⟩) (ae.length:Int).toNat 1) c31]/\Mg kg gZ c31=some R) ⟨_,0,_,_,[k4],rfl,ay,rfl,ax,hF⟩ ?_)
 rintro GR _ _ ⟨g35,gZ,kg,c31,yQ,rfl,rfl,hd39,hE,hF⟩
 refine Kb hE ae (fun aku=>?_)
 rcases kg with _|⟨x38,kg⟩
 · have TH:=dn hd39
   rw[Mg]at hF
   refine bF ?_
   refine cO ?_
   refine eG ?_
   cases hF
   exact Er (⟨(some ⟨k4,0,none⟩),(ae.length:Int).toNat,1⟩,yQ)
 obtain⟨TH,yA,TI⟩:=bW hd39
 rw[Mg]at hF
 refine bF ?_
 refine cK ?_
 refine bF ?_
 refine Ai yA (fun k45 j46=>?_)
 refine iw (aa8 x38) ahn (fun p47=>?_)
 refine bnd hF fun lu kU hF=>fq (ao5 kU) (fun p50=>?_)
 refine bnd hF fun U3 ma hF=>?_
 have Gm:=Ng ma
 refine qA vR.h sS.h.sz (.tmp rfl rfl) (.tmp rfl rfl) .q4 Gm (fun rY TJ=>?_)
 refine bnd hF fun z56 sV hF=>?_
 replace sV:=Option.some.inj sV
 refine dU (.cons .q4 (.cons .h .nil)) (Nh (Ro:=zX) (a:=lu) (i:=(gZ:Int)) sS.h.sz rfl (.tmp rfl rfl) (.tmp rfl rfl) TJ Gm azS (fun _ _ _ _ h=>by obtain⟨_,_,rfl,rfl,_⟩:=h; rfl)) (fun wh=>?_)
 rw[sV]
 refine bu ?_
 rw[wk gZ]
 exact⟨_,bO _,_,gZ+1,kg,_,wh,rfl,ay,TI,ax,hF⟩
def QM(ae:Rule):Option (Rule):=
 (zu ae.Map).bind fun r4=>
 some (⟨ae.From,ae.To,r4⟩:Rule)
theorem aqg{ae:Rule}{gK:Sv}{R:Rule}(hF:QM ae=some R):
   Fw.Spec Tryz.prog 35 [(zg [(zi ae.From),(zi ae.To),gK.v])] [ag gK ae.Map] (fun p:Sv×List Nat=>(zg [(zi R.From),(zi R.To),p.1.v])) (fun p=>[a_ p.2 p.1 R.Map]):=by
 refine Se 15 Tryz.func35 [.cell 2 91] ?_
 intro H0 F0
 unfold QM at hF
 refine au ?_
 refine bM (fun k1=>?_)
 refine dJ (fun k2=>?_)
 refine bg ?_
 refine dJ (fun k3=>?_)
 refine aX ?_
 refine As (zg [(zi ae.From),(zi 0),(.slice none 0 0)]) ?_
 refine aX ?_
 refine As (zg [(zi ae.From),(zi ae.To),(.slice none 0 0)]) ?_
 refine aP ?_
 refine bnd hF fun r4 hx5 hF=>fq (IZ hx5) (fun p6=>?_)
 refine au ?_
 refine As (zg [(zi ae.From),(zi ae.To),p6.1.v]) ?_
 refine bC ?_
 refine As (zg [(zi ae.From),(zi ae.To),p6.1.v]) ?_
 refine bg ?_
 cases hF
 exact Er (p6.1,p6.2)
def Mq:List Rule->Nat->(List Rule)->Option ((List Rule))
 |[],gZ,c31=>some c31
 |x38::kg,gZ,c31=>(QM x38).bind fun lu=>
   (tK (decide (0<=(gZ:Int))&&decide ((gZ:Int)<(c31.length:Int)))).bind fun U3=>
   (some (c31.set ((gZ:Int)).toNat lu)).bind fun z56=>
   Mq kg (gZ+1) z56
def M7(ae:List Rule):Option ((List Rule)):=
 (yN (ae.length:Int) ((⟨0,0,[]⟩:Rule):Rule)).bind fun z1=>
 Mq ae 0 z1
theorem aaE{ae:List Rule}{aa:Sv}{R:(List Rule)}(hF:M7 ae=some R):
   Fw.Spec Tryz.prog 11 [aa.v] [TF aa ae] (fun p:Sv×List Nat=>p.1.v) (fun p=>[TD p.2 p.1 R]):=by
 refine Se 23 Tryz.func11 [.tmp 2] ?_
 intro H0 F0
 unfold M7 at hF
 refine bu ?_
 refine bnd hF fun z1 hx2 hF=>?_
 have yP:=Ni hx2
 refine dx rfl (PQ (g:=true) (c:=(ae.length:Int)) CJ.h yw.h rfl rfl (by decide) (.tmp rfl rfl) yP.2.1 yP.2.2) (fun k4=>?_)
 refine dH (.cons .h .nil) (QI (Ro:=vS) (E:=91) (a:=((⟨0,0,[]⟩:Rule):Rule)) hx2 (fun _=>⟨⟨none,0,0⟩,[],rfl,rfl,.inl ⟨rfl,rfl,rfl⟩⟩)) ?_
 refine bu ?_
 refine aY (bK (m:=ae.length) (fun GR f' cs'=>∃(g:Fr)(gZ:Nat)(kg c31:List Rule)(yQ:List Nat),GR=kg.length/\f'=aN g [(0,aa.v),(3,(.slice (some ⟨k4,0,none⟩) (ae.length:Int).toNat 1)),(4,(zi (gZ:Int)))]/\List.drop gZ ae=kg/\aK cs' [TF aa ae,aD (az 91 vS) yQ (.slice (some ⟨k4,0,none⟩) (ae.length:Int).toNat 1) c31]/\Mq kg gZ c31=some R) ⟨_,0,_,_,[k4],rfl,ay,rfl,ax,hF⟩ ?_)
 rintro GR _ _ ⟨g35,gZ,kg,c31,yQ,rfl,rfl,hd39,hE,hF⟩
 refine Kb hE ae (fun aku=>?_)
 rcases kg with _|⟨x38,kg⟩
 · have TH:=dn hd39
   rw[Mq]at hF
   refine bF ?_
   refine cO ?_
   refine eG ?_
   cases hF
   exact Er (⟨(some ⟨k4,0,none⟩),(ae.length:Int).toNat,1⟩,yQ)
 obtain⟨TH,yA,TI⟩:=bW hd39
 rw[Mq]at hF
 refine bF ?_
 refine cK ?_
 refine bF ?_
 refine Ai yA (fun k45 j46=>?_)
 refine iw (aa9 x38) aho (fun p47=>?_)
 refine bnd hF fun lu kU hF=>fq (aqg kU) (fun p50=>?_)
 refine bnd hF fun U3 ma hF=>?_
 have Gm:=Ng ma
 refine qA CJ.h yw.h.sz (.tmp rfl rfl) (.tmp rfl rfl) .q4 Gm (fun rY TJ=>?_)
 refine bnd hF fun z56 sV hF=>?_
 replace sV:=Option.some.inj sV
 refine dU (.cons .q4 (.cons .h .nil)) (Nh (Ro:=vS) (a:=lu) (i:=(gZ:Int)) yw.h.sz rfl (.tmp rfl rfl) (.tmp rfl rfl) TJ Gm alo (fun _ _ _ _ h=>by obtain⟨_,_,rfl,rfl,_⟩:=h; rfl)) (fun wh=>?_)
 rw[sV]
 refine bu ?_
 rw[wk gZ]
 exact⟨_,bO _,_,gZ+1,kg,_,wh,rfl,ay,TI,ax,hF⟩
def QN(ae:Atom):Option (Atom):=
 (zu ae.Terms).bind fun r4=>
 some (⟨ae.Rel,r4⟩:Atom)
theorem aqh{ae:Atom}{aM:Sv}{R:Atom}(hF:QN ae=some R):
   Fw.Spec Tryz.prog 87 [(zg [(zi ae.Rel),aM.v])] [ag aM ae.Terms] (fun p:Sv×List Nat=>(zg [(zi R.Rel),p.1.v])) (fun p=>[a_ p.2 p.1 R.Terms]):=by
 refine Se 12 Tryz.func87 [.cell 2 123] ?_
 intro H0 F0
 unfold QN at hF
 refine au ?_
 refine bM (fun k1=>?_)
 refine dJ (fun k2=>?_)
 refine bg ?_
 refine dJ (fun k3=>?_)
 refine aX ?_
 refine As (zg [(zi ae.Rel),(.slice none 0 0)]) ?_
 refine aP ?_
 refine bnd hF fun r4 hx5 hF=>fq (IZ hx5) (fun p6=>?_)
 refine au ?_
 refine As (zg [(zi ae.Rel),p6.1.v]) ?_
 refine bC ?_
 refine As (zg [(zi ae.Rel),p6.1.v]) ?_
 refine bg ?_
 cases hF
 exact Er (p6.1,p6.2)
def Mr:List Atom->Nat->(List Atom)->Option ((List Atom))
 |[],gZ,c31=>some c31
 |x38::kg,gZ,c31=>(QN x38).bind fun lu=>
   (tK (decide (0<=(gZ:Int))&&decide ((gZ:Int)<(c31.length:Int)))).bind fun U3=>
   (some (c31.set ((gZ:Int)).toNat lu)).bind fun z56=>
   Mr kg (gZ+1) z56
def WX(ae:List Atom):Option ((List Atom)):=
 (yN (ae.length:Int) ((⟨0,[]⟩:Atom):Atom)).bind fun z1=>
 Mr ae 0 z1
theorem apI{ae:List Atom}{aa:Sv}{R:(List Atom)}(hF:WX ae=some R):
   Fw.Spec Tryz.prog 36 [aa.v] [JE aa ae] (fun p:Sv×List Nat=>p.1.v) (fun p=>[uB p.2 p.1 R]):=by
 refine Se 23 Tryz.func36 [.tmp 2] ?_
 intro H0 F0
 unfold WX at hF
 refine bu ?_
 refine bnd hF fun z1 hx2 hF=>?_
 have yP:=Ni hx2
 refine dx rfl (PQ (g:=true) (c:=(ae.length:Int)) xe.h qa.h rfl rfl (by decide) (.tmp rfl rfl) yP.2.1 yP.2.2) (fun k4=>?_)
 refine dH (.cons .h .nil) (QI (Ro:=lK) (E:=123) (a:=((⟨0,[]⟩:Atom):Atom)) hx2 (fun _=>⟨⟨none,0,0⟩,[],rfl,rfl,.inl ⟨rfl,rfl,rfl⟩⟩)) ?_
 refine bu ?_
 refine aY (bK (m:=ae.length) (fun GR f' cs'=>∃(g:Fr)(gZ:Nat)(kg c31:List Atom)(yQ:List Nat),GR=kg.length/\f'=aN g [(0,aa.v),(3,(.slice (some ⟨k4,0,none⟩) (ae.length:Int).toNat 1)),(4,(zi (gZ:Int)))]/\List.drop gZ ae=kg/\aK cs' [JE aa ae,aD (az 123 lK) yQ (.slice (some ⟨k4,0,none⟩) (ae.length:Int).toNat 1) c31]/\Mr kg gZ c31=some R) ⟨_,0,_,_,[k4],rfl,ay,rfl,ax,hF⟩ ?_)
 rintro GR _ _ ⟨g35,gZ,kg,c31,yQ,rfl,rfl,hd39,hE,hF⟩
 refine Kb hE ae (fun aku=>?_)
 rcases kg with _|⟨x38,kg⟩
 · have TH:=dn hd39
   rw[Mr]at hF
   refine bF ?_
   refine cO ?_
   refine eG ?_
   cases hF
   exact Er (⟨(some ⟨k4,0,none⟩),(ae.length:Int).toNat,1⟩,yQ)
 obtain⟨TH,yA,TI⟩:=bW hd39
 rw[Mr]at hF
 refine bF ?_
 refine cK ?_
 refine bF ?_
 refine Ai yA (fun k45 j46=>?_)
 refine iw (aaR x38) agy (fun p47=>?_)
 refine bnd hF fun lu kU hF=>fq (aqh kU) (fun p50=>?_)
 refine bnd hF fun U3 ma hF=>?_
 have Gm:=Ng ma
 refine qA xe.h qa.h.sz (.tmp rfl rfl) (.tmp rfl rfl) .q4 Gm (fun rY TJ=>?_)
 refine bnd hF fun z56 sV hF=>?_
 replace sV:=Option.some.inj sV
 refine dU (.cons .q4 (.cons .h .nil)) (Nh (Ro:=lK) (a:=lu) (i:=(gZ:Int)) qa.h.sz rfl (.tmp rfl rfl) (.tmp rfl rfl) TJ Gm RL (fun _ _ _ _ h=>by obtain⟨_,_,rfl,rfl,_⟩:=h; rfl)) (fun wh=>?_)
 rw[sV]
 refine bu ?_
 rw[wk gZ]
 exact⟨_,bO _,_,gZ+1,kg,_,wh,rfl,ay,TI,ax,hF⟩
def Jk(ae:aV):Option (aV):=
 (zu ae.Head).bind fun r4=>
 (WX ae.Atoms).bind fun r7=>
 some (⟨r4,r7⟩:aV)
theorem aaF{ae:aV}{aa aM:Sv}{R:aV}(hF:Jk ae=some R):
   Fw.Spec Tryz.prog 12 [(zg [aa.v,aM.v])] [ag aa ae.Head,JE aM ae.Atoms] (fun p:Sv×List Nat×Sv×List Nat=>(zg [p.1.v,p.2.2.1.v])) (fun p=>[a_ p.2.1 p.1 R.Head,uB p.2.2.2 p.2.2.1 R.Atoms]):=by
 refine Se 13 Tryz.func12 [.cell 2 39] ?_
 intro H0 F0
 unfold Jk at hF
 refine au ?_
 refine bM (fun k1=>?_)
 refine dJ (fun k2=>?_)
 refine bg ?_
 refine dJ (fun k3=>?_)
 refine aP ?_
 refine bnd hF fun r4 hx5 hF=>fq (IZ hx5) (fun p6=>?_)
 refine au ?_
 refine As (zg [p6.1.v,(.slice none 0 0)]) ?_
 refine aP ?_
 refine bnd hF fun r7 pJ hF=>fq (apI pJ) (fun p9=>?_)
 refine au ?_
 refine As (zg [p6.1.v,p9.1.v]) ?_
 refine bC ?_
 refine As (zg [p6.1.v,p9.1.v]) ?_
 refine bg ?_
 cases hF
 exact Er (p6.1,p6.2,p9.1,p9.2)
def lI(di:Int)(vJ:Int)(xZ:Int):Option (Bool):=
 some ((decide ((vJ:Int)<=di))&&(decide ((di:Int)<=xZ)))
theorem nR{di vJ xZ:Int}{R:Bool}(hF:lI di vJ xZ=some R):
   Fw.Spec Tryz.prog 72 [(zi di),(zi vJ),(zi xZ)] [] (fun _:Unit=>(.bool R)) (fun _=>[]):=by
 refine Se 15 Tryz.func72 [.tmp 6] ?_
 intro H0 F0
 unfold lI at hF
 refine aP ?_
 refine gG (fun f' cs'=>∃(g:Fr),f'=aN g [(6,(.bool ((decide ((vJ:Int)<=di))&&(decide ((di:Int)<=xZ)))))]/\aK cs' []) ?_ ?_
 · refine aP ?_
   rcases dK (decide ((vJ:Int)<=di))with hg1|hg1
   · rw[hg1]
     try rw[hg1]at hF; dsimp only[bB,bA]at hF
     refine eG ?_
     exact⟨_,ay,ax⟩
   rw[hg1]
   try rw[hg1]at hF; dsimp only[bB,bA]at hF
   refine bu ?_
   exact⟨_,ay,ax⟩
 rintro _ _ ⟨g2,rfl,hE⟩
 refine bH hE ?_
 exact ze hF
def Iu(ah:List Int):List Int->Nat->Option (Bool)
 |[],k4=>(lI (ah.length:Int) 1 3).bind fun mK=>
   some mK
 |x6::aJ,k4=>(lI x6 1 3).bind fun qp=>
   if (!qp)then (
     some false)
   else (
     Iu ah aJ (k4+1))
def zm(ah:List Int):Option (Bool):=
 Iu ah ah 0
theorem Mj{ah:List Int}{aa:Sv}{R:Bool}(hF:zm ah=some R):
   Fw.Spec Tryz.prog 71 [aa.v] [ag aa ah] (fun _:Unit=>(.bool R)) (fun _=>[]):=by
 refine Se 19 Tryz.func71 [.tmp 2] ?_
 intro H0 F0
 unfold zm at hF
 refine bF ?_
 refine aY (bK (m:=ah.length) (fun m2 f' cs'=>∃(g:Fr)(k4:Nat)(aJ:List Int),m2=aJ.length/\f'=aN g [(0,aa.v),(3,(zi (k4:Int)))]/\List.drop k4 ah=aJ/\aK cs' [ag aa ah]/\Iu ah aJ k4=some R) ⟨_,0,_,rfl,ay,rfl,ax,hF⟩ ?_)
 rintro m2 _ _ ⟨g3,k4,aJ,rfl,rfl,hd7,hE,hF⟩
 refine Kb hE ah (fun jV=>?_)
 rcases aJ with _|⟨x6,aJ⟩
 · have fB:=dn hd7
   rw[Iu]at hF
   refine bF ?_
   refine cO ?_
   refine bF ?_
   refine bnd hF fun mK iA hF=>bJ (nR iA) (fun _=>?_)
   exact ze hF
 obtain⟨fB,dF,fw⟩:=bW hd7
 rw[Iu]at hF
 refine bF ?_
 refine cK ?_
 refine aX ?_
 refine Ai dF (fun k16 Z6=>?_)
 refine Al dG ?_
 refine bnd hF fun qp nK hF=>bJ (nR nK) (fun _=>?_)
 refine bg ?_
 refine Ci hF (fun qN hF=>?_) (fun qN hF=>?_)
 · exact ze hF
 refine bu ?_
 rw[wk k4]
 exact⟨_,bO _,_,k4+1,aJ,rfl,ay,fw,ax,hF⟩
def AL(ah:List Int)(bE:Method):List Int->Nat->Option (Bool)
 |[],k27=>some true
 |x29::BF,k27=>((ix ah bE.Rel).bind fun x40=>
     (lI x29 0 (IntKind.i64.wrap (x40-1))).bind fun Dp=>
     bif (!Dp)then (some true)
     else (bif (decide ((0:Int)<(k27:Int)))then ((ix bE.Inputs (IntKind.i64.wrap ((k27:Int)-1))).bind fun KZ=>
         some (decide ((x29:Int)<=KZ)))
       else (some false))).bind fun o36=>
   match o36 with
   |c59=>if c59 then (
       some false)
     else (
       AL ah bE BF (k27+1))
def MW(ah:List Int)(bE:Method):Option (Bool):=
 ((zm ah).bind fun r4=>
   bif (!r4)then (some true)
   else ((lI bE.Rel 0 (IntKind.i64.wrap ((ah.length:Int)-1))).bind fun r8=>
     bif (!r8)then (some true)
     else ((lI bE.Limit 0 9).bind fun iC=>
       bif (!iC)then (some true)
       else ((lI bE.Cost 0 99).bind fun r16=>
         bif (!r16)then (some true)
         else ((lI bE.Quota 1 99).bind fun yR=>
           some (!yR)))))).bind fun o2=>
 match o2 with
 |c23=>if c23 then (
     some false)
   else (
     AL ah bE bE.Inputs 0)
theorem ao6{ah:List Int}{aa:Sv}{bE:Method}{aW:Sv}{R:Bool}(hF:MW ah bE=some R):
   Fw.Spec Tryz.prog 148 [aa.v,(zg [(zi bE.Rel),aW.v,(zi bE.Limit),(zi bE.Cost),(zi bE.Quota)])] [ag aa ah,ag aW bE.Inputs] (fun _:Unit=>(.bool R)) (fun _=>[]):=by
 refine Se 74 Tryz.func148 [.tmp 4] ?_
 intro H0 F0
 unfold MW at hF
 refine au ?_
 refine bM (fun k1=>?_)
 refine bC ?_
 obtain⟨o2,jq,hO3⟩:=bind_some hF
 refine au ?_
 refine gG (fun f' cs'=>∃(c23:Bool)(g:Fr),c23=o2/\f'=aN g [(0,aa.v),(3,(pz k1)),(35,(.bool c23))]/\aK cs' [ag aa ah,aQ k1 89 (zg [(zi bE.Rel),aW.v,(zi bE.Limit),(zi bE.Cost),(zi bE.Quota)]),ag aW bE.Inputs]) ?_ ?_
 · replace hF:=jq
   refine au ?_
   refine bnd hF fun r4 hx5 hF=>bJ (Mj hx5) (fun _=>?_)
   refine bg ?_
   rcases dK (!r4)with dB|dB
   · rw[dB]
     try rw[dB]at hF; dsimp only[bB,bA]at hF
     exact dw hF
   rw[dB]
   try rw[dB]at hF; dsimp only[bB,bA]at hF
   refine yg ?_
   refine bnd hF fun r8 dF hF=>bJ (nR dF) (fun _=>?_)
   refine aP ?_
   rcases dK (!r8)with jf|jf
   · rw[jf]
     try rw[jf]at hF; dsimp only[bB,bA]at hF
     exact dw hF
   rw[jf]
   try rw[jf]at hF; dsimp only[bB,bA]at hF
   refine aX ?_
   refine bnd hF fun iC iM hF=>bJ (nR iM) (fun _=>?_)
   refine aP ?_
   rcases dK (!iC)with mH|mH
   · rw[mH]
     try rw[mH]at hF; dsimp only[bB,bA]at hF
     exact dw hF
   rw[mH]
   try rw[mH]at hF; dsimp only[bB,bA]at hF
   refine aX ?_
   refine bnd hF fun r16 iX hF=>bJ (nR iX) (fun _=>?_)
   refine aP ?_
   rcases dK (!r16)with TK|TK
   · rw[TK]
     try rw[TK]at hF; dsimp only[bB,bA]at hF
     exact dw hF
   rw[TK]
   try rw[TK]at hF; dsimp only[bB,bA]at hF
   refine aX ?_
   refine bnd hF fun yR yB hF=>bJ (nR yB) (fun _=>?_)
   exact dw hF
 rintro _ _ ⟨c23,g64,rfl,rfl,hE⟩
 replace hF:=hO3
 try dsimp only at hF
 refine bH hE ?_
 refine Ci hF (fun aAg hF=>?_) (fun aAg hF=>?_)
 · exact ze hF
 refine aX ?_
 refine aY (bK (m:=bE.Inputs.length) (fun m25 f' cs'=>∃(g:Fr)(k27:Nat)(BF:List Int),m25=BF.length/\f'=aN g [(0,aa.v),(3,(pz k1)),(5,(zi (k27:Int)))]/\List.drop k27 bE.Inputs=BF/\aK cs' [ag aa ah,aQ k1 89 (zg [(zi bE.Rel),aW.v,(zi bE.Limit),(zi bE.Cost),(zi bE.Quota)]),ag aW bE.Inputs]/\AL ah bE BF k27=some R) ⟨_,0,_,rfl,ay,rfl,ax,hF⟩ ?_)
 rintro m25 _ _ ⟨g26,k27,BF,rfl,rfl,alE,hE,hF⟩
 refine Kb hE bE.Inputs (fun aEf=>?_)
 rcases BF with _|⟨x29,BF⟩
 · have hk31:=dn alE
   rw[AL]at hF
   refine eD ?_
   refine cO ?_
   exact ze hF
 obtain⟨hk31,hx32,Y6⟩:=bW alE
 rw[AL]at hF
 refine eD ?_
 refine cK ?_
 refine bg ?_
 obtain⟨o36,axz,aAh⟩:=bind_some hF
 refine dS [0,1,2,3,4,5,6,7,8,9,10,11,12,13,14,15,16,17,18,19,20,21,22,23,24,25,26,27,28,29,30] [0,1,0,7,15,0,0,64,224,480,992,2047,4095,8191,16383,32767,65535,131071,262143,131071,1048575,2097151,131071,4325375,131071,16908287,63045631,130154495,268435455,536870911,1073741823] [11] mixed (by decide+kernel) ?_
 refine yc (fun f' cs'=>∃(c59:Bool)(g:Fr),c59=o36/\f'=aN g [(0,aa.v),(3,(pz k1)),(5,(zi (k27:Int))),(73,(.bool c59))]/\aK cs' [ag aa ah,aQ k1 89 (zg [(zi bE.Rel),aW.v,(zi bE.Limit),(zi bE.Cost),(zi bE.Quota)]),ag aW bE.Inputs]) ?_ ?_
 · replace hF:=axz
   refine fT ?_
   refine Di hx32 (fun uX j39=>?_)
   refine Dl dG ?_
   refine fT ?_
   refine zI hF fun x40 alF qO hF=>?_
   refine Di qO (fun K3 Z7=>?_)
   refine Dl dG ?_
   refine du ?_
   refine bnd hF fun Dp CL hF=>jk (nR CL) (fun _=>?_)
   refine cB ?_
   rcases dK (!Dp)with TL|TL
   · rw[TL]
     try rw[TL]at hF; dsimp only[bB,bA]at hF
     exact j3 hF
   rw[TL]
   try rw[TL]at hF; dsimp only[bB,bA]at hF
   refine fT ?_
   rcases dK (decide ((0:Int)<(k27:Int)))with yC|yC
   · rw[yC]
     try rw[yC]at hF; dsimp only[bB,bA]at hF
     refine fT ?_
     refine Di hx32 (fun rY j52=>?_)
     refine Dl dG ?_
     refine sU ?_
     refine zI hF fun KZ aGN Ki hF=>?_
     refine Di Ki (fun k57 j58=>?_)
     refine Dl dG ?_
     exact j3 hF
   rw[yC]
   try rw[yC]at hF; dsimp only[bB,bA]at hF
   exact j3 hF
 rintro _ _ ⟨c59,g62,rfl,rfl,hE⟩
 replace hF:=aAh
 try dsimp only at hF
 refine bH hE ?_
 refine Ci hF (fun CO hF=>?_) (fun CO hF=>?_)
 · exact ze hF
 refine bu ?_
 rw[wk k27]
 exact⟨_,bO _,_,k27+1,BF,rfl,ay,Y6,ax,hF⟩
def HZ(ah:List Int)(ai:List Method):List Method->Nat->Option (Bool)
 |[],k4=>((zm ah).bind fun ik=>
     bif ik then (some (decide (((ai.length:Int):Int)<=5)))
     else (some false)).bind fun yS=>
   match yS with
   |c19=>some c19
 |x6::aJ,k4=>(MW ah x6).bind fun kJ=>
   if (!kJ)then (
     some false)
   else (
     HZ ah ai aJ (k4+1))
def Ms(ah:List Int)(ai:List Method):Option (Bool):=
 HZ ah ai ai 0
theorem afA{ah:List Int}{aa:Sv}{ai:List Method}{aA:Sv}{R:Bool}(hF:Ms ah ai=some R):
   Fw.Spec Tryz.prog 66 [aa.v,aA.v] [ag aa ah,dO aA ai] (fun _:Unit=>(.bool R)) (fun _=>[]):=by
 refine Se 26 Tryz.func66 [.tmp 4] ?_
 intro H0 F0
 unfold Ms at hF
 refine bF ?_
 refine aY (bK (m:=ai.length) (fun m2 f' cs'=>∃(g:Fr)(k4:Nat)(aJ:List Method),m2=aJ.length/\f'=aN g [(0,aa.v),(1,aA.v),(5,(zi (k4:Int)))]/\List.drop k4 ai=aJ/\aK cs' [ag aa ah,dO aA ai]/\HZ ah ai aJ k4=some R) ⟨_,0,_,rfl,ay,rfl,ax,hF⟩ ?_)
 rintro m2 _ _ ⟨g3,k4,aJ,rfl,rfl,hd7,hE,hF⟩
 refine Kb hE ai (fun jV=>?_)
 rcases aJ with _|⟨x6,aJ⟩
 · have fB:=dn hd7
   rw[HZ]at hF
   refine bF ?_
   refine cO ?_
   refine aP ?_
   obtain⟨yS,RV,TM⟩:=bind_some hF
   refine au ?_
   refine gG (fun f' cs'=>∃(c19:Bool)(g:Fr),c19=yS/\f'=aN g [(4,(.bool c19))]/\aK cs' []) ?_ ?_
   · replace hF:=RV
     refine au ?_
     refine bnd hF fun ik hx16 hF=>bJ (Mj hx16) (fun _=>?_)
     refine au ?_
     rcases dK ik with qP|qP
     · rw[qP]
       try rw[qP]at hF; dsimp only[bB,bA]at hF
       exact dw hF
     rw[qP]
     try rw[qP]at hF; dsimp only[bB,bA]at hF
     exact dw hF
   rintro _ _ ⟨c19,g20,rfl,rfl,hE⟩
   replace hF:=TM
   try dsimp only at hF
   refine bH hE ?_
   exact ze hF
 obtain⟨fB,dF,fw⟩:=bW hd7
 rw[HZ]at hF
 refine bF ?_
 refine cK ?_
 refine bu ?_
 refine Ai dF (fun k21 U4=>?_)
 refine iw (wJ x6) xR (fun lX=>?_)
 refine bnd hF fun kJ hx25 hF=>bJ (ao6 hx25) (fun _=>?_)
 refine bg ?_
 refine Ci hF (fun yD hF=>?_) (fun yD hF=>?_)
 · exact ze hF
 refine bu ?_
 rw[wk k4]
 exact⟨_,bO _,_,k4+1,aJ,rfl,ay,fw,ax,hF⟩
def Ey(ah:List Int)(bG:Rule):List Int->Nat->Option (Bool)
 |[],k26=>some true
 |x28::ou,k26=>(ix ah bG.From).bind fun lw=>
   (lI x28 0 (IntKind.i64.wrap (lw-1))).bind fun U5=>
   if (!U5)then (
     some false)
   else (
     Ey ah bG ou (k26+1))
def Nk(ah:List Int)(bG:Rule):Option (Bool):=
 ((zm ah).bind fun r4=>
   bif (!r4)then (some true)
   else ((lI bG.From 0 (IntKind.i64.wrap ((ah.length:Int)-1))).bind fun r8=>
     bif (!r8)then (some true)
     else ((lI bG.To 0 (IntKind.i64.wrap ((ah.length:Int)-1))).bind fun iC=>
       bif (!iC)then (some true)
       else ((ix ah bG.To).bind fun jG=>
         some (((bG.Map.length:Int):Int)!=jG))))).bind fun o2=>
 match o2 with
 |wm=>if wm then (
     some false)
   else (
     Ey ah bG bG.Map 0)
theorem aqi{ah:List Int}{aa:Sv}{bG:Rule}{kV:Sv}{R:Bool}(hF:Nk ah bG=some R):
   Fw.Spec Tryz.prog 149 [aa.v,(zg [(zi bG.From),(zi bG.To),kV.v])] [ag aa ah,ag kV bG.Map] (fun _:Unit=>(.bool R)) (fun _=>[]):=by
 refine Se 58 Tryz.func149 [.tmp 4] ?_
 intro H0 F0
 unfold Nk at hF
 refine au ?_
 refine bM (fun k1=>?_)
 refine bC ?_
 obtain⟨o2,jq,hO3⟩:=bind_some hF
 refine dS [0,1,2,3,4,5,6,7,8,9,10,11,12,13,14,15,16,17,18,19,20,21,22,23,24,25,26,27,28,29,30,31] [0,1,3,7,15,31,15,79,207,511,1023,2047,4095,8191,16383,8191,40959,106495,262143,524287,1048575,2097151,4194303,8388607,16777215,4194303,4194303,71303167,239075327,507510783,1073741823,2147483647] [1,9,18] mixed (by decide+kernel) ?_
 refine yc (fun f' cs'=>∃(wm:Bool)(g:Fr),wm=o2/\f'=aN g [(0,aa.v),(3,(pz k1)),(37,(.bool wm))]/\aK cs' [ag aa ah,aQ k1 91 (zg [(zi bG.From),(zi bG.To),kV.v]),ag kV bG.Map]) ?_ ?_
 · replace hF:=jq
   refine du ?_
   refine bnd hF fun r4 hx5 hF=>jk (Mj hx5) (fun _=>?_)
   refine cB ?_
   rcases dK (!r4)with dB|dB
   · rw[dB]
     try rw[dB]at hF; dsimp only[bB,bA]at hF
     exact j3 hF
   rw[dB]
   try rw[dB]at hF; dsimp only[bB,bA]at hF
   refine yx ?_
   refine bnd hF fun r8 dF hF=>jk (nR dF) (fun _=>?_)
   refine fT ?_
   rcases dK (!r8)with jf|jf
   · rw[jf]
     try rw[jf]at hF; dsimp only[bB,bA]at hF
     exact j3 hF
   rw[jf]
   try rw[jf]at hF; dsimp only[bB,bA]at hF
   refine yx ?_
   refine bnd hF fun iC iM hF=>jk (nR iM) (fun _=>?_)
   refine fT ?_
   rcases dK (!iC)with mH|mH
   · rw[mH]
     try rw[mH]at hF; dsimp only[bB,bA]at hF
     exact j3 hF
   rw[mH]
   try rw[mH]at hF; dsimp only[bB,bA]at hF
   refine TC ?_
   refine zI hF fun jG Od nK hF=>?_
   refine Di nK (fun k20 uY=>?_)
   refine Dl dG ?_
   exact j3 hF
 rintro _ _ ⟨wm,g49,rfl,rfl,hE⟩
 replace hF:=hO3
 try dsimp only at hF
 refine bH hE ?_
 refine Ci hF (fun hb48 hF=>?_) (fun hb48 hF=>?_)
 · exact ze hF
 refine aX ?_
 refine aY (bK (m:=bG.Map.length) (fun m24 f' cs'=>∃(g:Fr)(k26:Nat)(ou:List Int),m24=ou.length/\f'=aN g [(0,aa.v),(3,(pz k1)),(5,(zi (k26:Int)))]/\List.drop k26 bG.Map=ou/\aK cs' [ag aa ah,aQ k1 91 (zg [(zi bG.From),(zi bG.To),kV.v]),ag kV bG.Map]/\Ey ah bG ou k26=some R) ⟨_,0,_,rfl,ay,rfl,ax,hF⟩ ?_)
 rintro m24 _ _ ⟨U6,k26,ou,rfl,rfl,hd29,hE,hF⟩
 refine Kb hE bG.Map (fun axA=>?_)
 rcases ou with _|⟨x28,ou⟩
 · have adA:=dn hd29
   rw[Ey]at hF
   refine eD ?_
   refine cO ?_
   exact ze hF
 obtain⟨adA,hx31,hd32⟩:=bW hd29
 rw[Ey]at hF
 refine eD ?_
 refine cK ?_
 refine bg ?_
 refine dS [0,1,2,3,4,5,6,7,8,9,10,11,12] [0,1,0,7,15,0,0,64,224,480,992,2047,4095] [11] mixed (by decide+kernel) ?_
 refine fT ?_
 refine Di hx31 (fun gW j36=>?_)
 refine Dl dG ?_
 refine fT ?_
 refine zI hF fun lw aGO vV hF=>?_
 refine Di vV (fun tL U2=>?_)
 refine Dl dG ?_
 refine du ?_
 refine bnd hF fun U5 yE hF=>jk (nR yE) (fun _=>?_)
 refine cB ?_
 refine Ci hF (fun adB hF=>?_) (fun adB hF=>?_)
 · exact ze hF
 refine bu ?_
 rw[wk k26]
 exact⟨_,bO _,_,k26+1,ou,rfl,ay,hd32,ax,hF⟩
def Iw(ah:List Int)(ai:List Rule):List Rule->Nat->Option (Bool)
 |[],k4=>((zm ah).bind fun ik=>
     bif ik then (some (decide (((ai.length:Int):Int)<=4)))
     else (some false)).bind fun yS=>
   match yS with
   |c19=>some c19
 |x6::aJ,k4=>(Nk ah x6).bind fun kJ=>
   if (!kJ)then (
     some false)
   else (
     Iw ah ai aJ (k4+1))
def Qa(ah:List Int)(ai:List Rule):Option (Bool):=
 Iw ah ai ai 0
theorem ao7{ah:List Int}{aa:Sv}{ai:List Rule}{aA:Sv}{R:Bool}(hF:Qa ah ai=some R):
   Fw.Spec Tryz.prog 67 [aa.v,aA.v] [ag aa ah,dV aA ai] (fun _:Unit=>(.bool R)) (fun _=>[]):=by
 refine Se 26 Tryz.func67 [.tmp 4] ?_
 intro H0 F0
 unfold Qa at hF
 refine bF ?_
 refine aY (bK (m:=ai.length) (fun m2 f' cs'=>∃(g:Fr)(k4:Nat)(aJ:List Rule),m2=aJ.length/\f'=aN g [(0,aa.v),(1,aA.v),(5,(zi (k4:Int)))]/\List.drop k4 ai=aJ/\aK cs' [ag aa ah,dV aA ai]/\Iw ah ai aJ k4=some R) ⟨_,0,_,rfl,ay,rfl,ax,hF⟩ ?_)
 rintro m2 _ _ ⟨g3,k4,aJ,rfl,rfl,hd7,hE,hF⟩
 refine Kb hE ai (fun jV=>?_)
 rcases aJ with _|⟨x6,aJ⟩
 · have fB:=dn hd7
   rw[Iw]at hF
   refine bF ?_
   refine cO ?_
   refine aP ?_
   obtain⟨yS,RV,TM⟩:=bind_some hF
   refine au ?_
   refine gG (fun f' cs'=>∃(c19:Bool)(g:Fr),c19=yS/\f'=aN g [(4,(.bool c19))]/\aK cs' []) ?_ ?_
   · replace hF:=RV
     refine au ?_
     refine bnd hF fun ik hx16 hF=>bJ (Mj hx16) (fun _=>?_)
     refine au ?_
     rcases dK ik with qP|qP
     · rw[qP]
       try rw[qP]at hF; dsimp only[bB,bA]at hF
       exact dw hF
     rw[qP]
     try rw[qP]at hF; dsimp only[bB,bA]at hF
     exact dw hF
   rintro _ _ ⟨c19,g20,rfl,rfl,hE⟩
   replace hF:=TM
   try dsimp only at hF
   refine bH hE ?_
   exact ze hF
 obtain⟨fB,dF,fw⟩:=bW hd7
 rw[Iw]at hF
 refine bF ?_
 refine cK ?_
 refine bu ?_
 refine Ai dF (fun k21 U4=>?_)
 refine iw (zo x6) AV (fun lX=>?_)
 refine bnd hF fun kJ hx25 hF=>bJ (aqi hx25) (fun _=>?_)
 refine bg ?_
 refine Ci hF (fun yD hF=>?_) (fun yD hF=>?_)
 · exact ze hF
 refine bu ?_
 rw[wk k4]
 exact⟨_,bO _,_,k4+1,aJ,rfl,ay,fw,ax,hF⟩
def ER(ah:List Int)(ai:List Method)(bL:List Rule):Option (Bool):=
 ((Ms ah ai).bind fun r3=>
   bif r3 then ((Qa ah bL).bind fun r7=>
     some r7)
   else (some false)).bind fun o1=>
 match o1 with
 |c10=>some c10
theorem Ws{ah:List Int}{aa:Sv}{ai:List Method}{aA:Sv}{bL:List Rule}{bi:Sv}{R:Bool}(hF:ER ah ai bL=some R):
   Fw.Spec Tryz.prog 27 [aa.v,aA.v,bi.v] [ag aa ah,dO aA ai,dV bi bL] (fun _:Unit=>(.bool R)) (fun _=>[]):=by
 refine Se 15 Tryz.func27 [.tmp 6] ?_
 intro H0 F0
 unfold ER at hF
 refine bC ?_
 obtain⟨o1,sW,hO2⟩:=bind_some hF
 refine au ?_
 refine gG (fun f' cs'=>∃(c10:Bool)(g:Fr),c10=o1/\f'=aN g [(6,(.bool c10))]/\aK cs' []) ?_ ?_
 · replace hF:=sW
   refine bg ?_
   refine bnd hF fun r3 hx4 hF=>bJ (afA hx4) (fun _=>?_)
   refine au ?_
   rcases dK r3 with gD|gD
   · rw[gD]
     try rw[gD]at hF; dsimp only[bB,bA]at hF
     refine aX ?_
     refine bnd hF fun r7 pJ hF=>bJ (ao7 pJ) (fun _=>?_)
     exact dw hF
   rw[gD]
   try rw[gD]at hF; dsimp only[bB,bA]at hF
   exact dw hF
 rintro _ _ ⟨c10,g11,rfl,rfl,hE⟩
 replace hF:=hO2
 try dsimp only at hF
 refine bH hE ?_
 exact ze hF
def Bi(jb:Int):Option (Bool):=
 (lI jb 10 17).bind fun r1=>
 some r1
theorem MX{jb:Int}{R:Bool}(hF:Bi jb=some R):
   Fw.Spec Tryz.prog 151 [(zi jb)] [] (fun _:Unit=>(.bool R)) (fun _=>[]):=by
 refine Se 5 Tryz.func151 [.tmp 2] ?_
 intro H0 F0
 unfold Bi at hF
 refine aX ?_
 refine bnd hF fun r1 hx2 hF=>bJ (nR hx2) (fun _=>?_)
 exact ze hF
def MZ(di:Int):List Int->Nat->Option (Bool)
 |[],k4=>some false
 |x6::aJ,k4=>if ((x6:Int)==di)then (
     some true)
   else (
     MZ di aJ (k4+1))
def Bj(ai:List Int)(di:Int):Option (Bool):=
 MZ di ai 0
theorem Qb{ai:List Int}{aa:Sv}{di:Int}{R:Bool}(hF:Bj ai di=some R):
   Fw.Spec Tryz.prog 70 [aa.v,(zi di)] [ag aa ai] (fun _:Unit=>(.bool R)) (fun _=>[]):=by
 refine Se 18 Tryz.func70 [.tmp 4] ?_
 intro H0 F0
 unfold Bj at hF
 refine bF ?_
 refine aY (bK (m:=ai.length) (fun m2 f' cs'=>∃(g:Fr)(k4:Nat)(aJ:List Int),m2=aJ.length/\f'=aN g [(0,aa.v),(1,(zi di)),(5,(zi (k4:Int)))]/\List.drop k4 ai=aJ/\aK cs' [ag aa ai]/\MZ di aJ k4=some R) ⟨_,0,_,rfl,ay,rfl,ax,hF⟩ ?_)
 rintro m2 _ _ ⟨g3,k4,aJ,rfl,rfl,hd7,hE,hF⟩
 refine Kb hE ai (fun jV=>?_)
 rcases aJ with _|⟨x6,aJ⟩
 · have fB:=dn hd7
   rw[MZ]at hF
   refine bF ?_
   refine cO ?_
   exact ze hF
 obtain⟨fB,dF,fw⟩:=bW hd7
 rw[MZ]at hF
 refine bF ?_
 refine cK ?_
 refine aX ?_
 refine Ai dF (fun k13 lY=>?_)
 refine Al dG ?_
 refine bC ?_
 refine Ci hF (fun TN hF=>?_) (fun TN hF=>?_)
 · exact ze hF
 refine bu ?_
 rw[wk k4]
 exact⟨_,bO _,_,k4+1,aJ,rfl,ay,fw,ax,hF⟩
def Jf(ai:List Int)(di:Int):Nat->(List Int)->Bool->Int->Option ((List Int))
 |0,_,_,_=>none
 |m10+1,c5,c8,c9=>if (decide ((c9:Int)<(ai.length:Int)))then (
     ((bif (!c8)then ((ix ai c9).bind fun K4=>
           some (decide ((di:Int)<K4)))
         else (some false)).bind fun wo=>
       match wo with
       |yT=>if yT then (
           (app c5 ([di]:List Int)).bind fun z32=>
           (ix ai c9).bind fun x38=>
           (app z32 ([x38]:List Int)).bind fun z43=>
           some (z43,true))
         else (
           (ix ai c9).bind fun U7=>
           (app c5 ([U7]:List Int)).bind fun z54=>
           some (z54,c8))).bind fun iH=>
     match iH with
     |(c59,iT)=>Jf ai di m10 c59 iT (IntKind.i64.wrap (c9+1)))
   else (
     if (!c8)then (
       (app c5 ([di]:List Int)).bind fun z65=>
       some z65)
     else (
       some c5))
def Bl(ai:List Int)(di:Int):Option ((List Int)):=
 (Bj ai di).bind fun r1=>
 if r1 then (
   some ai)
 else (
   Jf ai di (((ai.length:Int)-0).toNat+2) ([]:List Int) false 0)
theorem Qd{ai:List Int}{aa:Sv}{rQ:List Nat}{di:Int}{R:(List Int)}(hF:Bl ai di=some R):
   Fw.Spec Tryz.prog 152 [aa.v,(zi di)] [a_ rQ aa ai] (fun p:Sv×List Nat=>p.1.v) (fun p=>[a_ p.2 p.1 R]):=by
 refine Se 47 Tryz.func152 [.tmp 4] ?_
 intro H0 F0
 unfold Bl at hF
 refine bF ?_
 refine bnd hF fun r1 hx2 hF=>dU (.cons .h .nil) (gH bq (fun _=>.nil) (bU YZ.h bN (Qb hx2))) (fun _=>?_)
 refine au ?_
 refine Ci hF (fun TP hF=>?_) (fun TP hF=>?_)
 · refine aX ?_
   cases hF
   exact Er (aa,rQ)
 refine bg ?_
 refine dx rfl (bV (g:=true) cz.h cZ.h .nil (vs:=[]) rfl rfl rfl (by simp)) (fun k4=>?_)
 refine dH (.cons .h .nil) (bY (Ro:=(aj aH)) (E:=3) (F:=[]) (xs:=([]:List Int)) bX rfl rfl) ?_
 refine eG ?_
 refine aY (bK (m:=(((ai.length:Int)-0).toNat+2)) (fun m10 f' cs'=>∃(g:Fr)(c5:List Int)(c8:Bool)(c9:Int)(v6:Sv)(F7:List Nat),f'=aN g [(0,aa.v),(1,(zi di)),(5,v6.v),(6,(.bool c8)),(7,(zi c9))]/\aK cs' [a_ rQ aa ai,a_ F7 v6 c5]/\Jf ai di m10 c5 c8 c9=some R) ⟨_,_,_,_,⟨(some ⟨k4,0,none⟩),0,1⟩,(k4::[]),ay,ax,hF⟩ ?_)
 rintro m10 _ _ ⟨g11,c5,c8,c9,v6,F7,rfl,hE,hF⟩
 refine bH hE ?_
 rcases m10 with _|m10
 · rw[Jf]at hF
   exact absurd hF (by simp)
 rw[Jf]at hF
 refine bF ?_
 refine Ci hF (fun TQ hF=>?_) (fun TQ hF=>?_)
 · refine au ?_
   obtain⟨iH,qD,qQ⟩:=bind_some hF
   refine fD (fun f' cs'=>∃(c59:List Int)(iT:Bool)(v60:Sv)(tN:List Nat)(g:Fr),iH=(c59,iT)/\f'=aN g [(0,aa.v),(1,(zi di)),(5,v60.v),(6,(.bool iT)),(7,(zi c9))]/\aK cs' [a_ rQ aa ai,a_ tN v60 c59]) ?_ ?_
   · replace hF:=qD
     refine aY (h_ ?_)
     obtain⟨wo,RX,TR⟩:=bind_some hF
     refine au ?_
     refine gG (fun f' cs'=>∃(yT:Bool)(g:Fr),yT=wo/\f'=aN g [(0,aa.v),(1,(zi di)),(5,v6.v),(6,(.bool c8)),(7,(zi c9)),(28,(.bool yT))]/\aK cs' [a_ rQ aa ai,a_ F7 v6 c5]) ?_ ?_
     · replace hF:=RX
       refine bC ?_
       rcases dK (!c8)with TS|TS
       · rw[TS]
         try rw[TS]at hF; dsimp only[bB,bA]at hF
         refine aX ?_
         refine bnd hF fun K4 hx27 hF=>?_
         have aAi:=zC hx27
         obtain⟨aGP,hx29⟩:=uk hx27
         refine qA cz.h cZ.h.sz (.tmp rfl rfl) (.tmp rfl rfl) .h aAi (fun k23 adC=>?_)
         refine au ?_
         refine Jz (w:=(zi K4)) Ag.h (.tmp rfl rfl) .h adC hx29 RN ?_
         exact dw hF
       rw[TS]
       try rw[TS]at hF; dsimp only[bB,bA]at hF
       exact dw hF
     rintro _ _ ⟨yT,g58,rfl,rfl,hE⟩
     replace hF:=TR
     try dsimp only at hF
     refine bH hE ?_
     refine Ci hF (fun TT hF=>?_) (fun TT hF=>?_)
     · refine bC ?_
       refine dx rfl (bV (g:=true) cz.h cZ.h bN (vs:=[(zi di)]) rfl rfl rfl (by intro v hv; simp at hv; rcases hv with rfl<;>rfl)) (fun Z8=>?_)
       refine dH (.cons .h .nil) (bY (Ro:=(aj aH)) (E:=3) (F:=([]++[])) (xs:=([di]:List Int)) (eF (jd (fun _=>rfl)) bX dm) rfl rfl) ?_
       refine bnd hF fun z32 yF hF=>dU (.cons .q2 (.cons .h .nil)) (ek (Ro:=(aj aH)) cz.h iL cZ.h rfl rfl rfl (.tmp rfl rfl) (.tmp rfl rfl) yF fM) (fun p34=>?_)
       refine eG ?_
       refine bnd hF fun x38 hx39 hF=>?_
       have aAj:=zC hx39
       obtain⟨aGQ,yA⟩:=uk hx39
       refine qA cz.h cZ.h.sz (.tmp rfl rfl) (.tmp rfl rfl) (.t .h) aAj (fun gW TG=>?_)
       refine Jz (w:=(zi x38)) Ag.h (.tmp rfl rfl) (.t .h) TG yA RN ?_
       refine dx rfl (bV (g:=true) cz.h cZ.h bN (vs:=[(zi x38)]) rfl rfl rfl (by intro v hv; simp at hv; rcases hv with rfl<;>rfl)) (fun k42=>?_)
       refine dH (.cons .h .nil) (bY (Ro:=(aj aH)) (E:=3) (F:=([]++[])) (xs:=([x38]:List Int)) (eF (jd (fun _=>rfl)) bX dm) rfl rfl) ?_
       refine bnd hF fun z43 yE hF=>dU (.cons (.t .h) (.cons .h .nil)) (ek (Ro:=(aj aH)) cz.h iL cZ.h rfl rfl rfl (.tmp rfl rfl) (.tmp rfl rfl) yE fM) (fun p45=>?_)
       refine bg ?_
       cases hF
       exact⟨_,_,p45.1,p45.2,_,rfl,ay,ax⟩
     refine aX ?_
     refine bnd hF fun U7 Y7 hF=>?_
     have aAk:=zC Y7
     obtain⟨aGR,uP⟩:=uk Y7
     refine qA cz.h cZ.h.sz (.tmp rfl rfl) (.tmp rfl rfl) .h aAk (fun Z9 aAl=>?_)
     refine Jz (w:=(zi U7)) Ag.h (.tmp rfl rfl) .h aAl uP RN ?_
     refine dx rfl (bV (g:=true) cz.h cZ.h bN (vs:=[(zi U7)]) rfl rfl rfl (by intro v hv; simp at hv; rcases hv with rfl<;>rfl)) (fun k53=>?_)
     refine dH (.cons .h .nil) (bY (Ro:=(aj aH)) (E:=3) (F:=([]++[])) (xs:=([U7]:List Int)) (eF (jd (fun _=>rfl)) bX dm) rfl rfl) ?_
     refine bnd hF fun z54 ma hF=>dU (.cons .q2 (.cons .h .nil)) (ek (Ro:=(aj aH)) cz.h iL cZ.h rfl rfl rfl (.tmp rfl rfl) (.tmp rfl rfl) ma fM) (fun p56=>?_)
     refine bg ?_
     cases hF
     exact⟨_,_,p56.1,p56.2,_,rfl,ay,ax⟩
   rintro _ _ ⟨c59,iT,v60,tN,g63,rfl,rfl,hE⟩
   replace hF:=qQ
   try dsimp only at hF
   refine bH hE ?_
   refine aX ?_
   exact⟨m10,bO _,_,_,_,_,v60,tN,ay,ax,hF⟩
 refine eG ?_
 refine Ci hF (fun adD hF=>?_) (fun adD hF=>?_)
 · refine bC ?_
   refine dx rfl (bV (g:=true) cz.h cZ.h bN (vs:=[(zi di)]) rfl rfl rfl (by intro v hv; simp at hv; rcases hv with rfl<;>rfl)) (fun k64=>?_)
   refine dH (.cons .h .nil) (bY (Ro:=(aj aH)) (E:=3) (F:=([]++[])) (xs:=([di]:List Int)) (eF (jd (fun _=>rfl)) bX dm) rfl rfl) ?_
   refine bnd hF fun z65 aAm hF=>dU (.cons .q2 (.cons .h .nil)) (ek (Ro:=(aj aH)) cz.h iL cZ.h rfl rfl rfl (.tmp rfl rfl) (.tmp rfl rfl) aAm fM) (fun p67=>?_)
   refine bF ?_
   cases hF
   exact Er (p67.1,p67.2)
 refine bu ?_
 cases hF
 exact Er (v6,F7)
def Ez(eP:Atom):Nat->(List Int)->Int->Option ((List Int))
 |0,_,_=>none
 |m24+1,c20,c23=>if (decide ((c23:Int)<(eP.Terms.length:Int)))then (
     ((ix eP.Terms c23).bind fun x40=>
       (Bi x40).bind fun Dp=>
       if Dp then (
         (ix eP.Terms c23).bind fun tO=>
         (Bl c20 tO).bind fun GU=>
         some GU)
       else (
         some c20)).bind fun yU=>
     match yU with
     |iT=>Ez eP m24 iT (IntKind.i64.wrap (c23+1)))
   else (
     some c20)
def I1:List Atom->Nat->(List Int)->Option ((List Int))
 |[],k9,c3=>some c3
 |eP::dM,k9,c3=>(Ez eP (((eP.Terms.length:Int)-0).toNat+2) c3 0).bind fun iH=>
   match iH with
   |lC=>I1 dM (k9+1) lC
def Nl(ak:aV):Option ((List Int)):=
 I1 ak.Atoms 0 ([]:List Int)
theorem agC{ak:aV}{aa aM:Sv}{R:(List Int)}(hF:Nl ak=some R):
   Fw.Spec Tryz.prog 69 [(zg [aa.v,aM.v])] [ag aa ak.Head,bZ aM ak.Atoms] (fun p:Sv×List Nat=>p.1.v) (fun p=>[a_ p.2 p.1 R]):=by
 refine Se 47 Tryz.func69 [.tmp 2] ?_
 intro H0 F0
 unfold Nl at hF
 refine au ?_
 refine bM (fun k1=>?_)
 refine bC ?_
 refine dx rfl (bV (g:=true) cz.h cZ.h .nil (vs:=[]) rfl rfl rfl (by simp)) (fun k2=>?_)
 refine dH (.cons .h .nil) (bY (Ro:=(aj aH)) (E:=3) (F:=[]) (xs:=([]:List Int)) bX rfl rfl) ?_
 refine bu ?_
 refine aY (bK (m:=ak.Atoms.length) (fun m7 f' cs'=>∃(g:Fr)(k9:Nat)(dM:List Atom)(c3:List Int)(v4:Sv)(F5:List Nat),m7=dM.length/\f'=aN g [(1,(pz k1)),(3,v4.v),(4,(zi (k9:Int)))]/\List.drop k9 ak.Atoms=dM/\aK cs' [aQ k1 39 (zg [aa.v,aM.v]),ag aa ak.Head,bZ aM ak.Atoms,a_ F5 v4 c3]/\I1 dM k9 c3=some R) ⟨_,0,_,_,⟨(some ⟨k2,0,none⟩),0,1⟩,(k2::[]),rfl,ay,rfl,ax,hF⟩ ?_)
 rintro m7 _ _ ⟨g8,k9,dM,c3,v4,F5,rfl,rfl,j4,hE,hF⟩
 refine Kb hE ak.Atoms (fun FE=>?_)
 rcases dM with _|⟨eP,dM⟩
 · have qR:=dn j4
   rw[I1]at hF
   refine eD ?_
   refine cO ?_
   refine eG ?_
   cases hF
   exact Er (v4,F5)
 obtain⟨qR,iA,nX⟩:=bW j4
 rw[I1]at hF
 refine eD ?_
 refine cK ?_
 refine au ?_
 obtain⟨iH,qD,qQ⟩:=bind_some hF
 refine fD (fun f' cs'=>∃(lC:List Int)(v68:Sv)(K5:List Nat)(g:Fr),lC=iH/\f'=aN g [(1,(pz k1)),(3,v68.v),(4,(zi (k9:Int)))]/\aK cs' [aQ k1 39 (zg [aa.v,aM.v]),ag aa ak.Head,bZ aM ak.Atoms,a_ K5 v68 lC]) ?_ ?_
 · replace hF:=qD
   refine aY (cu (aO (iZ (v:=(zi 0)) (.int _ _)) ?_))
   refine au ?_
   refine aY (bK (m:=(((eP.Terms.length:Int)-0).toNat+2)) (fun m24 f' cs'=>∃(g:Fr)(c20:List Int)(c23:Int)(v21:Sv)(uZ:List Nat),f'=aN g [(1,(pz k1)),(3,v21.v),(4,(zi (k9:Int))),(5,(zi c23))]/\aK cs' [aQ k1 39 (zg [aa.v,aM.v]),ag aa ak.Head,bZ aM ak.Atoms,a_ uZ v21 c20]/\Ez eP m24 c20 c23=some iH) ⟨_,_,_,v4,F5,ay,ax,hF⟩ ?_)
   rintro m24 _ _ ⟨U6,c20,c23,v21,uZ,rfl,hE,hF⟩
   refine bH hE ?_
   rcases m24 with _|m24
   · rw[Ez]at hF
     exact absurd hF (by simp)
   rw[Ez]at hF
   refine bu ?_
   refine Ai iA (fun kX j33=>?_)
   refine au ?_
   refine wP (R':=(aI 3 aH)) iF.h (.tmp rfl rfl) .h xW (fun w34=>?_)
   refine bC ?_
   refine Ci hF (fun CP hF=>?_) (fun CP hF=>?_)
   · refine au ?_
     obtain⟨yU,RY,TU⟩:=bind_some hF
     refine fD (fun f' cs'=>∃(iT:List Int)(v63:Sv)(qZ:List Nat)(g:Fr),iT=yU/\f'=aN g [(1,(pz k1)),(3,v63.v),(4,(zi (k9:Int))),(5,(zi c23))]/\aK cs' [aQ k1 39 (zg [aa.v,aM.v]),ag aa ak.Head,bZ aM ak.Atoms,a_ qZ v63 iT]) ?_ ?_
     · replace hF:=RY
       refine aY (cu (aO (gU (off:=1) ab'.h (.tmp rfl rfl)) ?_))
       refine bg ?_
       refine Ai iA (fun tQ j38=>?_)
       refine au ?_
       refine wP (R':=(aI 3 aH)) iF.h (.tmp rfl rfl) .h xW (fun w39=>?_)
       refine au ?_
       refine zI hF fun x40 alF qO hF=>?_
       refine Ai qO (fun K3 Z7=>?_)
       refine Al dG ?_
       refine bnd hF fun Dp CL hF=>bJ (MX CL) (fun _=>?_)
       refine au ?_
       refine Ci hF (fun CO hF=>?_) (fun CO hF=>?_)
       · refine aX ?_
         refine Ai iA (fun U8 Z_=>?_)
         refine au ?_
         refine wP (R':=(aI 3 aH)) iF.h (.tmp rfl rfl) .h xW (fun w51=>?_)
         refine au ?_
         refine zI hF fun tO aAn ma hF=>?_
         refine Ai ma (fun k56 j57=>?_)
         refine Al dG ?_
         refine bnd hF fun GU CQ hF=>fq (Qd CQ) (fun p60=>?_)
         refine bg ?_
         cases hF
         exact⟨_,p60.1,p60.2,_,rfl,ay,ax⟩
       refine au ?_
       cases hF
       exact⟨_,v21,uZ,_,rfl,ay,ax⟩
     rintro _ _ ⟨iT,v63,qZ,g65,rfl,rfl,hE⟩
     replace hF:=TU
     try dsimp only at hF
     refine bH hE ?_
     refine aX ?_
     exact⟨m24,bO _,_,_,_,v63,qZ,ay,ax,hF⟩
   refine aP ?_
   cases hF
   exact⟨_,v21,uZ,_,rfl,ay,ax⟩
 rintro _ _ ⟨lC,v68,K5,g71,rfl,rfl,hE⟩
 replace hF:=qQ
 try dsimp only at hF
 refine bH hE ?_
 refine aX ?_
 rw[wk k9]
 exact⟨_,bO _,_,k9+1,dM,_,v68,K5,rfl,ay,nX,ax,hF⟩
def Nn(jb:Int):Option (Bool):=
 ((lI jb 0 9).bind fun r3=>
   bif r3 then (some true)
   else ((Bi jb).bind fun r7=>
     some r7)).bind fun o1=>
 match o1 with
 |c10=>some c10
theorem aqj{jb:Int}{R:Bool}(hF:Nn jb=some R):
   Fw.Spec Tryz.prog 150 [(zi jb)] [] (fun _:Unit=>(.bool R)) (fun _=>[]):=by
 refine Se 9 Tryz.func150 [.tmp 2] ?_
 intro H0 F0
 unfold Nn at hF
 refine bC ?_
 obtain⟨o1,sW,hO2⟩:=bind_some hF
 refine au ?_
 refine gG (fun f' cs'=>∃(c10:Bool)(g:Fr),c10=o1/\f'=aN g [(2,(.bool c10))]/\aK cs' []) ?_ ?_
 · replace hF:=sW
   refine au ?_
   refine bnd hF fun r3 hx4 hF=>bJ (nR hx4) (fun _=>?_)
   refine au ?_
   rcases dK r3 with gD|gD
   · rw[gD]
     try rw[gD]at hF; dsimp only[bB,bA]at hF
     exact dw hF
   rw[gD]
   try rw[gD]at hF; dsimp only[bB,bA]at hF
   refine bC ?_
   refine bnd hF fun r7 pJ hF=>bJ (MX pJ) (fun _=>?_)
   exact dw hF
 rintro _ _ ⟨c10,g11,rfl,rfl,hE⟩
 replace hF:=hO2
 try dsimp only at hF
 refine bH hE ?_
 exact ze hF
def I4:List Int->Nat->Option (Bool)
 |[],k22=>some true
 |x24::BG,k22=>(Nn x24).bind fun wu=>
   if (!wu)then (
     some false)
   else (
     I4 BG (k22+1))
def QO(ah:List Int)(ae:Atom):Option (Bool):=
 ((zm ah).bind fun r4=>
   bif (!r4)then (some true)
   else ((lI ae.Rel 0 (IntKind.i64.wrap ((ah.length:Int)-1))).bind fun r8=>
     bif (!r8)then (some true)
     else ((ix ah ae.Rel).bind fun tT=>
       some (((ae.Terms.length:Int):Int)!=tT)))).bind fun o2=>
 match o2 with
 |c18=>if c18 then (
     some false)
   else (
     I4 ae.Terms 0)
theorem aqk{ah:List Int}{aa:Sv}{ae:Atom}{aW:Sv}{R:Bool}(hF:QO ah ae=some R):
   Fw.Spec Tryz.prog 68 [aa.v,(zg [(zi ae.Rel),aW.v])] [ag aa ah,ag aW ae.Terms] (fun _:Unit=>(.bool R)) (fun _=>[]):=by
 refine Se 43 Tryz.func68 [.tmp 4] ?_
 intro H0 F0
 unfold QO at hF
 refine au ?_
 refine bM (fun k1=>?_)
 refine bC ?_
 obtain⟨o2,jq,hO3⟩:=bind_some hF
 refine dS [0,1,2,3,4,5,6,7,8,9,10,11,12,13,14,15,16,17,18,19,20,21,22] [0,1,3,7,15,31,15,79,207,511,1023,2047,4095,8191,16383,32767,8191,8191,139263,466943,991231,2097151,4194303] [1,9] mixed (by decide+kernel) ?_
 refine yc (fun f' cs'=>∃(c18:Bool)(g:Fr),c18=o2/\f'=aN g [(3,(pz k1)),(28,(.bool c18))]/\aK cs' [aQ k1 123 (zg [(zi ae.Rel),aW.v]),ag aW ae.Terms]) ?_ ?_
 · replace hF:=jq
   refine du ?_
   refine bnd hF fun r4 hx5 hF=>jk (Mj hx5) (fun _=>?_)
   refine cB ?_
   rcases dK (!r4)with dB|dB
   · rw[dB]
     try rw[dB]at hF; dsimp only[bB,bA]at hF
     exact j3 hF
   rw[dB]
   try rw[dB]at hF; dsimp only[bB,bA]at hF
   refine yx ?_
   refine bnd hF fun r8 dF hF=>jk (nR dF) (fun _=>?_)
   refine fT ?_
   rcases dK (!r8)with jf|jf
   · rw[jf]
     try rw[jf]at hF; dsimp only[bB,bA]at hF
     exact j3 hF
   rw[jf]
   try rw[jf]at hF; dsimp only[bB,bA]at hF
   refine TC ?_
   refine zI hF fun tT alG mf hF=>?_
   refine Di mf (fun k16 Z6=>?_)
   refine Dl dG ?_
   exact j3 hF
 rintro _ _ ⟨c18,g39,rfl,rfl,hE⟩
 replace hF:=hO3
 try dsimp only at hF
 refine bH hE ?_
 refine Ci hF (fun Kk hF=>?_) (fun Kk hF=>?_)
 · exact ze hF
 refine aX ?_
 refine aY (bK (m:=ae.Terms.length) (fun m20 f' cs'=>∃(g:Fr)(k22:Nat)(BG:List Int),m20=BG.length/\f'=aN g [(3,(pz k1)),(5,(zi (k22:Int)))]/\List.drop k22 ae.Terms=BG/\aK cs' [aQ k1 123 (zg [(zi ae.Rel),aW.v]),ag aW ae.Terms]/\I4 BG k22=some R) ⟨_,0,_,rfl,ay,rfl,ax,hF⟩ ?_)
 rintro m20 _ _ ⟨g21,k22,BG,rfl,rfl,hd25,hE,hF⟩
 refine Kb hE ae.Terms (fun aEg=>?_)
 rcases BG with _|⟨x24,BG⟩
 · have aAo:=dn hd25
   rw[I4]at hF
   refine eD ?_
   refine cO ?_
   exact ze hF
 obtain⟨aAo,hx27,hd28⟩:=bW hd25
 rw[I4]at hF
 refine eD ?_
 refine cK ?_
 refine bu ?_
 refine Ai hx27 (fun Z8 j32=>?_)
 refine Al dG ?_
 refine bnd hF fun wu hx34 hF=>bJ (aqj hx34) (fun _=>?_)
 refine bg ?_
 refine Ci hF (fun adE hF=>?_) (fun adE hF=>?_)
 · exact ze hF
 refine bu ?_
 rw[wk k22]
 exact⟨_,bO _,_,k22+1,BG,rfl,ay,hd28,ax,hF⟩
def Es(ah:List Int)(ak:aV)(jH:(List Int)):List Int->Nat->Option (Bool)
 |[],k20=>((zm ah).bind fun xA=>
     bif xA then ((lI (ak.Atoms.length:Int) 1 4).bind fun yV=>
       bif yV then (some (decide (((ak.Head.length:Int):Int)<=3)))
       else (some false))
     else (some false)).bind fun o29=>
   match o29 with
   |rf=>some rf
 |pK::BH,k20=>(Bj jH pK).bind fun U5=>
   if (!U5)then (
     some false)
   else (
     Es ah ak jH BH (k20+1))
def Et(ah:List Int)(ak:aV):List Atom->Nat->Option (Bool)
 |[],k5=>(Nl ak).bind fun jH=>
   Es ah ak jH ak.Head 0
 |x7::bR,k5=>(QO ah x7).bind fun qw=>
   if (!qw)then (
     some false)
   else (
     Et ah ak bR (k5+1))
def xS(ah:List Int)(ak:aV):Option (Bool):=
 Et ah ak ak.Atoms 0
theorem IC{ah:List Int}{aa:Sv}{ak:aV}{aA aW:Sv}{R:Bool}(hF:xS ah ak=some R):
   Fw.Spec Tryz.prog 28 [aa.v,(zg [aA.v,aW.v])] [ag aa ah,ag aA ak.Head,bZ aW ak.Atoms] (fun _:Unit=>(.bool R)) (fun _=>[]):=by
 refine Se 54 Tryz.func28 [.tmp 4] ?_
 intro H0 F0
 unfold xS at hF
 refine au ?_
 refine bM (fun k1=>?_)
 refine bu ?_
 refine aY (bK (m:=ak.Atoms.length) (fun m3 f' cs'=>∃(g:Fr)(k5:Nat)(bR:List Atom),m3=bR.length/\f'=aN g [(0,aa.v),(3,(pz k1)),(5,(zi (k5:Int)))]/\List.drop k5 ak.Atoms=bR/\aK cs' [ag aa ah,aQ k1 39 (zg [aA.v,aW.v]),ag aA ak.Head,bZ aW ak.Atoms]/\Et ah ak bR k5=some R) ⟨_,0,_,rfl,ay,rfl,ax,hF⟩ ?_)
 rintro m3 _ _ ⟨g4,k5,bR,rfl,rfl,iR,hE,hF⟩
 refine Kb hE ak.Atoms (fun wU=>?_)
 rcases bR with _|⟨x7,bR⟩
 · have lW:=dn iR
   rw[Et]at hF
   refine eD ?_
   refine cO ?_
   refine bu ?_
   refine bnd hF fun jH mf hF=>fq (agC mf) (fun p16=>?_)
   refine bu ?_
   refine aY (bK (m:=ak.Head.length) (fun m18 f' cs'=>∃(g:Fr)(k20:Nat)(BH:List Int),m18=BH.length/\f'=aN g [(0,aa.v),(3,(pz k1)),(6,p16.1.v),(7,(zi (k20:Int)))]/\List.drop k20 ak.Head=BH/\aK cs' [ag aa ah,aQ k1 39 (zg [aA.v,aW.v]),ag aA ak.Head,bZ aW ak.Atoms,a_ p16.2 p16.1 jH]/\Es ah ak jH BH k20=some R) ⟨_,0,_,rfl,ay,rfl,ax,hF⟩ ?_)
   rintro m18 _ _ ⟨g19,k20,BH,rfl,rfl,Y8,hE,hF⟩
   refine Kb hE ak.Head (fun aEh=>?_)
   rcases BH with _|⟨pK,BH⟩
   · have adC:=dn Y8
     rw[Es]at hF
     refine eD ?_
     refine cO ?_
     refine aP ?_
     obtain⟨o29,axB,aAp⟩:=bind_some hF
     refine au ?_
     refine gG (fun f' cs'=>∃(rf:Bool)(g:Fr),rf=o29/\f'=aN g [(4,(.bool rf))]/\aK cs' []) ?_ ?_
     · replace hF:=axB
       refine au ?_
       refine bnd hF fun xA hx32 hF=>bJ (Mj hx32) (fun _=>?_)
       refine au ?_
       rcases dK xA with qU|qU
       · rw[qU]
         try rw[qU]at hF; dsimp only[bB,bA]at hF
         refine bF ?_
         refine bnd hF fun yV yG hF=>bJ (nR yG) (fun _=>?_)
         refine bg ?_
         rcases dK yV with TV|TV
         · rw[TV]
           try rw[TV]at hF; dsimp only[bB,bA]at hF
           exact dw hF
         rw[TV]
         try rw[TV]at hF; dsimp only[bB,bA]at hF
         exact dw hF
       rw[qU]
       try rw[qU]at hF; dsimp only[bB,bA]at hF
       exact dw hF
     rintro _ _ ⟨rf,g40,rfl,rfl,hE⟩
     replace hF:=aAp
     try dsimp only at hF
     refine bH hE ?_
     exact ze hF
   obtain⟨adC,hx25,Y9⟩:=bW Y8
   rw[Es]at hF
   refine eD ?_
   refine cK ?_
   refine bF ?_
   refine Ai hx25 (fun tL U2=>?_)
   refine Al dG ?_
   refine bnd hF fun U5 yE hF=>dU (.cons .q5 .nil) (gH bq (fun _=>.nil) (bU YZ.h bN (Qb yE))) (fun _=>?_)
   refine bg ?_
   refine Ci hF (fun adB hF=>?_) (fun adB hF=>?_)
   · exact ze hF
   refine bu ?_
   rw[wk k20]
   exact⟨_,bO _,_,k20+1,BH,rfl,ay,Y9,ax,hF⟩
 obtain⟨lW,fU,fZ⟩:=bW iR
 rw[Et]at hF
 refine eD ?_
 refine cK ?_
 refine bF ?_
 refine Ai fU (fun k48 j49=>?_)
 refine iw (tZ x7) vw (fun p50=>?_)
 refine bnd hF fun qw uP hF=>bJ (aqk uP) (fun _=>?_)
 refine bg ?_
 refine Ci hF (fun TW hF=>?_) (fun TW hF=>?_)
 · exact ze hF
 refine bu ?_
 rw[wk k5]
 exact⟨_,bO _,_,k5+1,bR,rfl,ay,fZ,ax,hF⟩
def QP(ah:List Int)(ai:List Method)(ak:aV):Option (Bool):=
 ((Ms ah ai).bind fun r4=>
   bif r4 then ((xS ah ak).bind fun r8=>
     some r8)
   else (some false)).bind fun o2=>
 match o2 with
 |c11=>some c11
theorem aql{ah:List Int}{aa:Sv}{ai:List Method}{aA:Sv}{ak:aV}{bi dZ:Sv}{R:Bool}(hF:QP ah ai ak=some R):
   Fw.Spec Tryz.prog 119 [aa.v,aA.v,(zg [bi.v,dZ.v])] [ag aa ah,dO aA ai,ag bi ak.Head,bZ dZ ak.Atoms] (fun _:Unit=>(.bool R)) (fun _=>[]):=by
 refine Se 15 Tryz.func119 [.tmp 6] ?_
 intro H0 F0
 unfold QP at hF
 refine au ?_
 refine bM (fun k1=>?_)
 refine bg ?_
 obtain⟨o2,jq,hO3⟩:=bind_some hF
 refine au ?_
 refine gG (fun f' cs'=>∃(c11:Bool)(g:Fr),c11=o2/\f'=aN g [(6,(.bool c11))]/\aK cs' []) ?_ ?_
 · replace hF:=jq
   refine bg ?_
   refine bnd hF fun r4 hx5 hF=>bJ (afA hx5) (fun _=>?_)
   refine au ?_
   rcases dK r4 with dB|dB
   · rw[dB]
     try rw[dB]at hF; dsimp only[bB,bA]at hF
     refine aX ?_
     refine bnd hF fun r8 dF hF=>bJ (IC dF) (fun _=>?_)
     exact dw hF
   rw[dB]
   try rw[dB]at hF; dsimp only[bB,bA]at hF
   exact dw hF
 rintro _ _ ⟨c11,g12,rfl,rfl,hE⟩
 replace hF:=hO3
 try dsimp only at hF
 refine bH hE ?_
 exact ze hF
def Iy:List Method->Nat->(List Method)->Option ((List Method))
 |[],k8,c2=>some c2
 |dz::dE,k8,c2=>(if ((dz.Limit:Int)!=0)then (
       (app c2 ([(⟨(-1),dz.Inputs,dz.Limit,dz.Cost,dz.Quota⟩:Method)]:List Method)).bind fun z24=>
       some z24)
     else (
       (app c2 ([dz]:List Method)).bind fun z28=>
       some z28)).bind fun ru=>
   match ru with
   |c32=>Iy dE (k8+1) c32
def Qe(ai:List Method):Option ((List Method)):=
 Iy ai 0 ([]:List Method)
theorem ao8{ai:List Method}{aa:Sv}{R:(List Method)}(hF:Qe ai=some R):
   Fw.Spec Tryz.prog 122 [aa.v] [dO aa ai] (fun p:Sv×List Nat=>p.1.v) (fun p=>[Kg p.2 p.1 R]):=by
 refine Se 26 Tryz.func122 [.tmp 2] ?_
 intro H0 F0
 unfold Qe at hF
 refine aP ?_
 refine dx rfl (bV (g:=true) vR.h sS.h .nil (vs:=[]) rfl rfl rfl (by simp)) (fun k1=>?_)
 refine dH (.cons .h .nil) (bY (Ro:=(aj gN)) (E:=89) (F:=[]) (xs:=([]:List Method)) bX rfl rfl) ?_
 refine bu ?_
 refine aY (bK (m:=ai.length) (fun m6 f' cs'=>∃(g:Fr)(k8:Nat)(dE c2:List Method)(v3:Sv)(F4:List Nat),m6=dE.length/\f'=aN g [(0,aa.v),(3,v3.v),(4,(zi (k8:Int)))]/\List.drop k8 ai=dE/\aK cs' [dO aa ai,Kg F4 v3 c2]/\Iy dE k8 c2=some R) ⟨_,0,_,_,⟨(some ⟨k1,0,none⟩),0,1⟩,(k1::[]),rfl,ay,rfl,ax,hF⟩ ?_)
 rintro m6 _ _ ⟨g7,k8,dE,c2,v3,F4,rfl,rfl,fZ,hE,hF⟩
 refine Kb hE ai (fun Cs=>?_)
 rcases dE with _|⟨dz,dE⟩
 · have o7:=dn fZ
   rw[Iy]at hF
   refine bF ?_
   refine cO ?_
   refine eG ?_
   cases hF
   exact Er (v3,F4)
 obtain⟨o7,iM,o9⟩:=bW fZ
 rw[Iy]at hF
 refine bF ?_
 refine cK ?_
 refine au ?_
 obtain⟨ru,JF,Kl⟩:=bind_some hF
 refine fD (fun f' cs'=>∃(c32:List Method)(v33:Sv)(K6:List Nat)(g:Fr),c32=ru/\f'=aN g [(0,aa.v),(3,v33.v),(4,(zi (k8:Int)))]/\aK cs' [dO aa ai,Kg K6 v33 c32]) ?_ ?_
 · replace hF:=JF
   refine aY (cu (Cm aa.v rfl rfl ?_))
   refine au ?_
   refine Ai iM (fun k19 GV=>?_)
   refine iw (wJ dz) xR (fun mM=>?_)
   refine dJ (fun k22=>?_)
   refine As (zg [(zi dz.Rel),mM.v,(zi dz.Limit),(zi dz.Cost),(zi dz.Quota)]) ?_
   refine bF ?_
   refine Ci hF (fun TZ hF=>?_) (fun TZ hF=>?_)
   · refine bg ?_
     refine As (zg [(zi (-1)),mM.v,(zi dz.Limit),(zi dz.Cost),(zi dz.Quota)]) ?_
     refine aP ?_
     refine dx rfl (bV (g:=true) vR.h sS.h bN (vs:=[(zg [(zi (-1)),mM.v,(zi dz.Limit),(zi dz.Cost),(zi dz.Quota)])]) rfl rfl rfl (by intro v hv; simp at hv; rcases hv with rfl<;>rfl)) (fun k23=>?_)
     refine dH (.cons .h (.rd (.t .h) rfl .nil)) (bY (Ro:=(aj gN)) (E:=89) (F:=([]++[])) (xs:=([(⟨(-1),dz.Inputs,dz.Limit,dz.Cost,dz.Quota⟩:Method)]:List Method)) (eF (alp (a:=(⟨(-1),dz.Inputs,dz.Limit,dz.Cost,dz.Quota⟩:Method))) bX dm) rfl rfl) ?_
     refine bnd hF fun z24 hx25 hF=>dU (.cons .q5 (.cons .h .nil)) (ek (Ro:=(aj gN)) vR.h adv sS.h rfl rfl rfl (.tmp rfl rfl) (.tmp rfl rfl) hx25 fM) (fun p26=>?_)
     refine bg ?_
     cases hF
     exact⟨_,p26.1,p26.2,_,rfl,ay,ax⟩
   refine aP ?_
   refine dx rfl (bV (g:=true) vR.h sS.h bN (vs:=[(zg [(zi dz.Rel),mM.v,(zi dz.Limit),(zi dz.Cost),(zi dz.Quota)])]) rfl rfl rfl (by intro v hv; simp at hv; rcases hv with rfl<;>rfl)) (fun k27=>?_)
   refine dH (.cons .h (.rd (.t .h) rfl .nil)) (bY (Ro:=(aj gN)) (E:=89) (F:=([]++[])) (xs:=([dz]:List Method)) (eF alp bX dm) rfl rfl) ?_
   refine bnd hF fun z28 hx29 hF=>dU (.cons .q5 (.cons .h .nil)) (ek (Ro:=(aj gN)) vR.h adv sS.h rfl rfl rfl (.tmp rfl rfl) (.tmp rfl rfl) hx29 fM) (fun p30=>?_)
   refine bg ?_
   cases hF
   exact⟨_,p30.1,p30.2,_,rfl,ay,ax⟩
 rintro _ _ ⟨c32,v33,K6,g36,rfl,rfl,hE⟩
 replace hF:=Kl
 try dsimp only at hF
 refine bH hE ?_
 refine aX ?_
 rw[wk k8]
 exact⟨_,bO _,_,k8+1,dE,_,v33,K6,rfl,ay,o9,ax,hF⟩
def IE(ae:Atom)(jT:List Int):List Int->Nat->Option (Bool)
 |[],k6=>some true
 |x8::oJ,k6=>(lI x8 0 (IntKind.i64.wrap ((ae.Terms.length:Int)-1))).bind fun d_=>
   if (!d_)then (
     some false)
   else (
     (ix ae.Terms x8).bind fun pK=>
     ((Bi pK).bind fun rZ=>
       bif rZ then ((Bj jT pK).bind fun Dq=>
         some (!Dq))
       else (some false)).bind fun K7=>
     match K7 with
     |c37=>if c37 then (
         some false)
       else (
         IE ae jT oJ (k6+1)))
def M8(bE:Method)(ae:Atom)(jT:List Int):Option (Bool):=
 if ((bE.Rel:Int)!=ae.Rel)then (
   some false)
 else (
   IE ae jT bE.Inputs 0)
theorem apJ{bE:Method}{aM:Sv}{ae:Atom}{aW:Sv}{jT:List Int}{bi:Sv}{R:Bool}(hF:M8 bE ae jT=some R):
   Fw.Spec Tryz.prog 208 [(zg [(zi bE.Rel),aM.v,(zi bE.Limit),(zi bE.Cost),(zi bE.Quota)]),(zg [(zi ae.Rel),aW.v]),bi.v] [ag aM bE.Inputs,ag aW ae.Terms,ag bi jT] (fun _:Unit=>(.bool R)) (fun _=>[]):=by
 refine Se 49 Tryz.func208 [.tmp 6] ?_
 intro H0 F0
 unfold M8 at hF
 refine au ?_
 refine bM (fun k1=>?_)
 refine bM (fun k2=>?_)
 refine jD ?_
 refine Ci hF (fun adF hF=>?_) (fun adF hF=>?_)
 · exact ze hF
 refine aX ?_
 refine aY (bK (m:=bE.Inputs.length) (fun m4 f' cs'=>∃(g:Fr)(k6:Nat)(oJ:List Int),m4=oJ.length/\f'=aN g [(2,bi.v),(3,(pz k1)),(4,(pz k2)),(7,(zi (k6:Int)))]/\List.drop k6 bE.Inputs=oJ/\aK cs' [ag bi jT,aQ k1 89 (zg [(zi bE.Rel),aM.v,(zi bE.Limit),(zi bE.Cost),(zi bE.Quota)]),ag aM bE.Inputs,aQ k2 123 (zg [(zi ae.Rel),aW.v]),ag aW ae.Terms]/\IE ae jT oJ k6=some R) ⟨_,0,_,rfl,ay,rfl,ax,hF⟩ ?_)
 rintro m4 _ _ ⟨g5,k6,oJ,rfl,rfl,U9,hE,hF⟩
 refine Kb hE bE.Inputs (fun axC=>?_)
 rcases oJ with _|⟨x8,oJ⟩
 · have hk10:=dn U9
   rw[IE]at hF
   refine eD ?_
   refine cO ?_
   exact ze hF
 obtain⟨hk10,uQ,j4⟩:=bW U9
 rw[IE]at hF
 refine eD ?_
 refine cK ?_
 refine bC ?_
 refine dS [0,1,2,3,4,5,6,7,8,9,10] [0,1,0,7,15,0,32,96,224,511,1023] [9] mixed (by decide+kernel) ?_
 refine fT ?_
 refine Di uQ (fun k15 j16=>?_)
 refine Dl dG ?_
 refine sU ?_
 refine bnd hF fun d_ gq hF=>jk (nR gq) (fun _=>?_)
 refine cB ?_
 refine Ci hF (fun Km hF=>?_) (fun Km hF=>?_)
 · exact ze hF
 refine au ?_
 refine dS [0,1,2,3,4,5,6,7,8,9] [0,1,0,4,0,28,60,127,255,511] [] mixed (by decide+kernel) ?_
 refine yx ?_
 refine Di uQ (fun k20 uY=>?_)
 refine Dl dG ?_
 refine zI hF fun pK adG hx25 hF=>?_
 refine Di hx25 (fun k26 j27=>?_)
 refine Dl dG ?_
 refine cB ?_
 obtain⟨K7,acE,adH⟩:=bind_some hF
 refine au ?_
 refine gG (fun f' cs'=>∃(c37:Bool)(g:Fr),c37=K7/\f'=aN g [(2,bi.v),(3,(pz k1)),(4,(pz k2)),(7,(zi (k6:Int))),(48,(.bool c37))]/\aK cs' [ag bi jT,aQ k1 89 (zg [(zi bE.Rel),aM.v,(zi bE.Limit),(zi bE.Cost),(zi bE.Quota)]),ag aM bE.Inputs,aQ k2 123 (zg [(zi ae.Rel),aW.v]),ag aW ae.Terms]) ?_ ?_
 · replace hF:=acE
   refine au ?_
   refine bnd hF fun rZ hx31 hF=>bJ (MX hx31) (fun _=>?_)
   refine au ?_
   rcases dK rZ with T9|T9
   · rw[T9]
     try rw[T9]at hF; dsimp only[bB,bA]at hF
     refine aX ?_
     refine bnd hF fun Dq sZ hF=>bJ (Qb sZ) (fun _=>?_)
     exact dw hF
   rw[T9]
   try rw[T9]at hF; dsimp only[bB,bA]at hF
   exact dw hF
 rintro _ _ ⟨c37,g40,rfl,rfl,hE⟩
 replace hF:=adH
 try dsimp only at hF
 refine bH hE ?_
 refine Ci hF (fun T_ hF=>?_) (fun T_ hF=>?_)
 · exact ze hF
 refine bu ?_
 rw[wk k6]
 exact⟨_,bO _,_,k6+1,oJ,rfl,ay,j4,ax,hF⟩
def Mt(ae:Atom)(jT:List Int):List Method->Nat->Option (Int)
 |[],k5=>some (-1)
 |x7::bR,k5=>(M8 x7 ae jT).bind fun d_=>
   if d_ then (
     some (k5:Int))
   else (
     Mt ae jT bR (k5+1))
def WY(ai:List Method)(ae:Atom)(jT:List Int):Option (Int):=
 Mt ae jT ai 0
theorem apK{ai:List Method}{aa:Sv}{ae:Atom}{aW:Sv}{jT:List Int}{bi:Sv}{R:Int}(hF:WY ai ae jT=some R):
   Fw.Spec Tryz.prog 231 [aa.v,(zg [(zi ae.Rel),aW.v]),bi.v] [dO aa ai,ag aW ae.Terms,ag bi jT] (fun _:Unit=>(zi R)) (fun _=>[]):=by
 refine Se 22 Tryz.func231 [.tmp 6] ?_
 intro H0 F0
 unfold WY at hF
 refine au ?_
 refine bM (fun k1=>?_)
 refine bu ?_
 refine aY (bK (m:=ai.length) (fun m3 f' cs'=>∃(g:Fr)(k5:Nat)(bR:List Method),m3=bR.length/\f'=aN g [(0,aa.v),(2,bi.v),(4,(pz k1)),(7,(zi (k5:Int)))]/\List.drop k5 ai=bR/\aK cs' [dO aa ai,ag bi jT,aQ k1 123 (zg [(zi ae.Rel),aW.v]),ag aW ae.Terms]/\Mt ae jT bR k5=some R) ⟨_,0,_,rfl,ay,rfl,ax,hF⟩ ?_)
 rintro m3 _ _ ⟨g4,k5,bR,rfl,rfl,iR,hE,hF⟩
 refine Kb hE ai (fun wU=>?_)
 rcases bR with _|⟨x7,bR⟩
 · have lW:=dn iR
   rw[Mt]at hF
   refine bF ?_
   refine cO ?_
   exact ze hF
 obtain⟨lW,fU,fZ⟩:=bW iR
 rw[Mt]at hF
 refine bF ?_
 refine cK ?_
 refine bg ?_
 refine dS [0,1,2,3,4,5,6] [0,0,3,7,0,0,63] [6] mixed (by decide+kernel) ?_
 refine cB ?_
 refine Di fU (fun k14 GQ=>?_)
 refine qM (wJ x7) xR (fun p16=>?_)
 refine cB ?_
 refine bnd hF fun d_ gq hF=>jk (apJ gq) (fun _=>?_)
 refine du ?_
 refine Ci hF (fun yz hF=>?_) (fun yz hF=>?_)
 · exact ze hF
 refine bu ?_
 rw[wk k5]
 exact⟨_,bO _,_,k5+1,bR,rfl,ay,fZ,ax,hF⟩
def I5:List Int->Nat->(List Int)->Option ((List Int))
 |[],k12,c6=>some c6
 |K8::BI,k12,c6=>((Bi K8).bind fun jl=>
     if jl then (
       (Bl c6 K8).bind fun rZ=>
       some rZ)
     else (
       some c6)).bind fun yX=>
   match yX with
   |c34=>I5 BI (k12+1) c34
def QQ(jT:List Int)(ae:Atom):Option ((List Int)):=
 (app ([]:List Int) jT).bind fun z3=>
 I5 ae.Terms 0 z3
theorem aqm{jT:List Int}{aa:Sv}{ae:Atom}{aW:Sv}{R:(List Int)}(hF:QQ jT ae=some R):
   Fw.Spec Tryz.prog 209 [aa.v,(zg [(zi ae.Rel),aW.v])] [ag aa jT,ag aW ae.Terms] (fun p:Sv×List Nat=>p.1.v) (fun p=>[a_ p.2 p.1 R]):=by
 refine Se 31 Tryz.func209 [.tmp 4] ?_
 intro H0 F0
 unfold QQ at hF
 refine au ?_
 refine bM (fun k1=>?_)
 refine bC ?_
 refine dx rfl (bV (g:=true) cz.h cZ.h .nil (vs:=[]) rfl rfl rfl (by simp)) (fun k2=>?_)
 refine dH (.cons .h .nil) (bY (Ro:=(aj aH)) (E:=3) (F:=[]) (xs:=([]:List Int)) bX rfl rfl) ?_
 refine au ?_
 refine bnd hF fun z3 hx4 hF=>dU (.cons .h (.rd (.t .h) rfl .nil)) (ek (Ro:=(aj aH)) cz.h iL cZ.h rfl rfl rfl (.tmp rfl rfl) (.tmp rfl rfl) hx4 rE) (fun p5=>?_)
 refine bu ?_
 refine aY (bK (m:=ae.Terms.length) (fun m10 f' cs'=>∃(g:Fr)(k12:Nat)(BI c6:List Int)(v7:Sv)(F8:List Nat),m10=BI.length/\f'=aN g [(3,(pz k1)),(5,v7.v),(6,(zi (k12:Int)))]/\List.drop k12 ae.Terms=BI/\aK cs' [aQ k1 123 (zg [(zi ae.Rel),aW.v]),ag aW ae.Terms,a_ F8 v7 c6]/\I5 BI k12 c6=some R) ⟨_,0,_,_,p5.1,p5.2,rfl,ay,rfl,ax,hF⟩ ?_)
 rintro m10 _ _ ⟨g11,k12,BI,c6,v7,F8,rfl,rfl,nX,hE,hF⟩
 refine Kb hE ae.Terms (fun aEi=>?_)
 rcases BI with _|⟨K8,BI⟩
 · have aAq:=dn nX
   rw[I5]at hF
   refine eD ?_
   refine cO ?_
   refine eG ?_
   cases hF
   exact Er (v7,F8)
 obtain⟨aAq,iX,Y_⟩:=bW nX
 rw[I5]at hF
 refine eD ?_
 refine cK ?_
 refine au ?_
 obtain⟨yX,RZ,Ua⟩:=bind_some hF
 refine fD (fun f' cs'=>∃(c34:List Int)(v35:Sv)(tV:List Nat)(g:Fr),c34=yX/\f'=aN g [(3,(pz k1)),(5,v35.v),(6,(zi (k12:Int)))]/\aK cs' [aQ k1 123 (zg [(zi ae.Rel),aW.v]),ag aW ae.Terms,a_ tV v35 c34]) ?_ ?_
 · replace hF:=RZ
   refine aY (cu (aO (gU (off:=1) asZ.h (.tmp rfl rfl)) ?_))
   refine bg ?_
   refine Ai iX (fun k23 j24=>?_)
   refine Al dG ?_
   refine bnd hF fun jl ll hF=>bJ (MX ll) (fun _=>?_)
   refine au ?_
   refine Ci hF (fun aAr hF=>?_) (fun aAr hF=>?_)
   · refine aX ?_
     refine Ai iX (fun k28 j29=>?_)
     refine Al dG ?_
     refine bnd hF fun rZ hx31 hF=>fq (Qd hx31) (fun p32=>?_)
     refine bg ?_
     cases hF
     exact⟨_,p32.1,p32.2,_,rfl,ay,ax⟩
   refine au ?_
   cases hF
   exact⟨_,v7,F8,_,rfl,ay,ax⟩
 rintro _ _ ⟨c34,v35,tV,g38,rfl,rfl,hE⟩
 replace hF:=Ua
 try dsimp only at hF
 refine bH hE ?_
 refine aX ?_
 rw[wk k12]
 exact⟨_,bO _,_,k12+1,BI,_,v35,tV,rfl,ay,Y_,ax,hF⟩
def Iz(ai:List Method):List Atom->Nat->(List Step)->(List Int)->(List Int)->Option ((List Step)×(List Int)×(List Int))
 |[],nk,c28,c31,c34=>some (c28,c31,c34)
 |Dr::BJ,nk,c28,c31,c34=>(WY ai Dr c31).bind fun u6=>
   (bif (decide ((0:Int)<=u6))then ((Bj c34 (nk:Int)).bind fun GU=>
       some (!GU))
     else (some false)).bind fun o55=>
   match o55 with
   |ry=>if ry then (
       (app c28 ([(⟨(nk:Int),u6⟩:Step)]:List Step)).bind fun z63=>
       (app c34 ([(nk:Int)]:List Int)).bind fun z67=>
       (QQ c31 Dr).bind fun U_=>
       some (z63,U_,z67))
     else (
       Iz ai BJ (nk+1) c28 c31 c34)
def IA(ai:List Method)(ak:aV):List Atom->Nat->(List Step)->(List Int)->(List Int)->Option ((List Step))
 |[],k17,c5,c8,c11=>some c5
 |n_::BK,k17,c5,c8,c11=>(Iz ai ak.Atoms 0 c5 c8 c11).bind fun GX=>
   match GX with
   |(Va,rz,c85)=>IA ai ak BK (k17+1) Va rz c85
def Qf(ai:List Method)(ak:aV):Option ((List Step)):=
 IA ai ak ak.Atoms 0 ([]:List Step) ([]:List Int) ([]:List Int)
theorem ao9{ai:List Method}{aa:Sv}{ak:aV}{aA aW:Sv}{R:(List Step)}(hF:Qf ai ak=some R):
   Fw.Spec Tryz.prog 153 [aa.v,(zg [aA.v,aW.v])] [dO aa ai,ag aA ak.Head,bZ aW ak.Atoms] (fun p:Sv×List Nat=>p.1.v) (fun p=>[wS p.2 p.1 R]):=by
 refine Se 62 Tryz.func153 [.tmp 4] ?_
 intro H0 F0
 unfold Qf at hF
 refine au ?_
 refine bM (fun k1=>?_)
 refine bC ?_
 refine dx rfl (bV (g:=true) JD.h wQ.h .nil (vs:=[]) rfl rfl rfl (by simp)) (fun k2=>?_)
 refine dH (.cons .h .nil) (bY (Ro:=(aj zJ)) (E:=204) (F:=[]) (xs:=([]:List Step)) bX rfl rfl) ?_
 refine bC ?_
 refine dx rfl (bV (g:=true) cz.h cZ.h .nil (vs:=[]) rfl rfl rfl (by simp)) (fun k3=>?_)
 refine dH (.cons .h .nil) (bY (Ro:=(aj aH)) (E:=3) (F:=[]) (xs:=([]:List Int)) bX rfl rfl) ?_
 refine bC ?_
 refine dx rfl (bV (g:=true) cz.h cZ.h .nil (vs:=[]) rfl rfl rfl (by simp)) (fun k4=>?_)
 refine dH (.cons .h .nil) (bY (Ro:=(aj aH)) (E:=3) (F:=[]) (xs:=([]:List Int)) bX rfl rfl) ?_
 refine bu ?_
 refine aY (bK (m:=ak.Atoms.length) (fun m15 f' cs'=>∃(g:Fr)(k17:Nat)(BK:List Atom)(c5:List Step)(c8 c11:List Int)(v6:Sv)(F7:List Nat)(v9:Sv)(F10:List Nat)(v12:Sv)(F13:List Nat),m15=BK.length/\f'=aN g [(0,aa.v),(3,(pz k1)),(5,v6.v),(6,v9.v),(7,v12.v),(8,(zi (k17:Int)))]/\List.drop k17 ak.Atoms=BK/\aK cs' [dO aa ai,aQ k1 39 (zg [aA.v,aW.v]),ag aA ak.Head,bZ aW ak.Atoms,wS F7 v6 c5,a_ F10 v9 c8,a_ F13 v12 c11]/\IA ai ak BK k17 c5 c8 c11=some R) ⟨_,0,_,_,_,_,⟨(some ⟨k2,0,none⟩),0,1⟩,(k2::[]),⟨(some ⟨k3,0,none⟩),0,1⟩,(k3::[]),⟨(some ⟨k4,0,none⟩),0,1⟩,(k4::[]),rfl,ay,rfl,ax,hF⟩ ?_)
 rintro m15 _ _ ⟨g16,k17,BK,c5,c8,c11,v6,F7,v9,F10,v12,F13,rfl,rfl,alH,hE,hF⟩
 refine Kb hE ak.Atoms (fun aEj=>?_)
 rcases BK with _|⟨n_,BK⟩
 · have adI:=dn alH
   rw[IA]at hF
   refine eD ?_
   refine cO ?_
   refine eG ?_
   cases hF
   exact Er (v6,F7)
 obtain⟨adI,mY,Y8⟩:=bW alH
 rw[IA]at hF
 refine eD ?_
 refine cK ?_
 refine au ?_
 obtain⟨GX,acF,adJ⟩:=bind_some hF
 refine fD (fun f' cs'=>∃(Va:List Step)(rz c85:List Int)(v80:Sv)(F81:List Nat)(v83:Sv)(Dt:List Nat)(v86:Sv)(F87:List Nat)(g:Fr),GX=(Va,rz,c85)/\f'=aN g [(0,aa.v),(3,(pz k1)),(5,v80.v),(6,v83.v),(7,v86.v),(8,(zi (k17:Int)))]/\aK cs' [dO aa ai,aQ k1 39 (zg [aA.v,aW.v]),ag aA ak.Head,bZ aW ak.Atoms,wS F81 v80 Va,a_ Dt v83 rz,a_ F87 v86 c85]) ?_ ?_
 · replace hF:=acF
   refine aY (cu (aO (iZ (v:=(zi 0)) (.int _ _)) ?_))
   refine au ?_
   refine aY (bK (m:=ak.Atoms.length) (fun Ah f' cs'=>∃(g:Fr)(nk:Nat)(BJ:List Atom)(c28:List Step)(c31 c34:List Int)(v29:Sv)(Vb:List Nat)(v32:Sv)(Aj:List Nat)(v35:Sv)(tV:List Nat),Ah=BJ.length/\f'=aN g [(0,aa.v),(3,(pz k1)),(5,v29.v),(6,v32.v),(7,v35.v),(8,(zi (k17:Int))),(9,(zi (nk:Int)))]/\List.drop nk ak.Atoms=BJ/\aK cs' [dO aa ai,aQ k1 39 (zg [aA.v,aW.v]),ag aA ak.Head,bZ aW ak.Atoms,wS Vb v29 c28,a_ Aj v32 c31,a_ tV v35 c34]/\Iz ai BJ nk c28 c31 c34=some GX) ⟨_,0,_,_,_,_,v6,F7,v9,F10,v12,F13,rfl,ay,rfl,ax,hF⟩ ?_)
   rintro Ah _ _ ⟨g39,nk,BJ,c28,c31,c34,v29,Vb,v32,Aj,v35,tV,rfl,rfl,Za,hE,hF⟩
   refine Kb hE ak.Atoms (fun aEk=>?_)
   rcases BJ with _|⟨Dr,BJ⟩
   · have adz:=dn Za
     rw[Iz]at hF
     refine eD ?_
     refine cO ?_
     refine aP ?_
     cases hF
     exact⟨_,_,_,v29,Vb,v32,Aj,v35,tV,_,rfl,ay,ax⟩
   obtain⟨adz,xg,aAs⟩:=bW Za
   rw[Iz]at hF
   refine eD ?_
   refine cK ?_
   refine bF ?_
   refine Ai xg (fun U8 Z_=>?_)
   refine iw (tZ Dr) vw (fun p51=>?_)
   refine au ?_
   refine bnd hF fun u6 Kn hF=>dU (.cons .q7 (.rd .q2 rfl (.rd .h rfl .nil))) (gH bq (fun _=>.nil) (jA (.rd (.t .h) rfl (.rd .q2 rfl (.rd .h rfl .nil))) (bU awC.h bN (apK Kn)))) (fun _=>?_)
   refine bg ?_
   obtain⟨o55,axD,aAt⟩:=bind_some hF
   refine au ?_
   refine gG (fun f' cs'=>∃(ry:Bool)(g:Fr),ry=o55/\f'=aN g [(0,aa.v),(3,(pz k1)),(5,v29.v),(6,v32.v),(7,v35.v),(8,(zi (k17:Int))),(9,(zi (nk:Int))),(10,(zi u6)),(43,(.bool ry))]/\aK cs' [dO aa ai,aQ k1 39 (zg [aA.v,aW.v]),ag aA ak.Head,bZ aW ak.Atoms,wS Vb v29 c28,a_ Aj v32 c31,a_ tV v35 c34]) ?_ ?_
   · replace hF:=axD
     refine bC ?_
     rcases dK (decide ((0:Int)<=u6))with Ub|Ub
     · rw[Ub]
       try rw[Ub]at hF; dsimp only[bB,bA]at hF
       refine aX ?_
       refine bnd hF fun GU CQ hF=>dU (.cons .q8 .nil) (gH bq (fun _=>.nil) (bU YZ.h bN (Qb CQ))) (fun _=>?_)
       exact dw hF
     rw[Ub]
     try rw[Ub]at hF; dsimp only[bB,bA]at hF
     exact dw hF
   rintro _ _ ⟨ry,g78,rfl,rfl,hE⟩
   replace hF:=aAt
   try dsimp only at hF
   refine bH hE ?_
   refine Ci hF (fun adK hF=>?_) (fun adK hF=>?_)
   · refine aP ?_
     refine aO (gy wQ.h rfl (vs:=[(zi (nk:Int)),(zi u6)]) bN (cells:=[(zi (nk:Int)),(zi u6)]) rfl) ?_
     refine dx rfl (bV (g:=true) JD.h wQ.h bN (vs:=[(zg [(zi (nk:Int)),(zi u6)])]) rfl rfl rfl (by intro v hv; simp at hv; rcases hv with rfl<;>rfl)) (fun k62=>?_)
     refine dH (.cons .h .nil) (bY (Ro:=(aj zJ)) (E:=204) (F:=([]++[])) (xs:=([(⟨(nk:Int),u6⟩:Step)]:List Step)) (eF (jd (fun _=>rfl)) bX dm) rfl rfl) ?_
     refine bnd hF fun z63 adL hF=>dU (.cons .q5 (.cons .h .nil)) (ek (Ro:=(aj zJ)) JD.h aj6 wQ.h rfl rfl rfl (.tmp rfl rfl) (.tmp rfl rfl) adL fM) (fun p65=>?_)
     refine aX ?_
     refine dx rfl (bV (g:=true) cz.h cZ.h bN (vs:=[(zi (nk:Int))]) rfl rfl rfl (by intro v hv; simp at hv; rcases hv with rfl<;>rfl)) (fun k66=>?_)
     refine dH (.cons .h .nil) (bY (Ro:=(aj aH)) (E:=3) (F:=([]++[])) (xs:=([(nk:Int)]:List Int)) (eF (jd (fun _=>rfl)) bX dm) rfl rfl) ?_
     refine bnd hF fun z67 Ko hF=>dU (.cons .q7 (.cons .h .nil)) (ek (Ro:=(aj aH)) cz.h iL cZ.h rfl rfl rfl (.tmp rfl rfl) (.tmp rfl rfl) Ko fM) (fun p69=>?_)
     refine bF ?_
     refine Ai xg (fun ww j71=>?_)
     refine iw (tZ Dr) vw (fun p72=>?_)
     refine bnd hF fun U_ adM hF=>l9 (.cons .q8 (.rd .h rfl .nil)) (gH bq (fun _=>(.cons .nil)) (bU awD.h bN (aqm adM))) (fun p75=>?_)
     refine bC ?_
     refine ai6 rfl ?_
     refine bC ?_
     cases hF
     exact⟨_,_,_,p65.1,p65.2,p75.1,p75.2,p69.1,p69.2,_,rfl,ay,ax⟩
   refine bu ?_
   rw[wk nk]
   exact⟨_,bO _,_,nk+1,BJ,_,_,_,v29,Vb,v32,Aj,v35,tV,rfl,ay,aAs,ax,hF⟩
 rintro _ _ ⟨Va,rz,c85,v80,F81,v83,Dt,v86,F87,g89,rfl,rfl,hE⟩
 replace hF:=adJ
 try dsimp only at hF
 refine bH hE ?_
 refine aX ?_
 rw[wk k17]
 exact⟨_,bO _,_,k17+1,BK,_,_,_,v80,F81,v83,Dt,v86,F87,rfl,ay,Y8,ax,hF⟩
def Np(lL:Int)(XB:List Int):Option (Atom):=
 (app ([]:List Int) XB).bind fun z3=>
 some (⟨lL,z3⟩:Atom)
theorem agD{lL:Int}{XB:List Int}{aA:Sv}{R:Atom}(hF:Np lL XB=some R):
   Fw.Spec Tryz.prog 154 [(zi lL),aA.v] [ag aA XB] (fun p:Sv×List Nat=>(zg [(zi R.Rel),p.1.v])) (fun p=>[a_ p.2 p.1 R.Terms]):=by
 refine Se 10 Tryz.func154 [.cell 4 123] ?_
 intro H0 F0
 unfold Np at hF
 refine au ?_
 refine dJ (fun k1=>?_)
 refine bC ?_
 refine dx rfl (bV (g:=true) cz.h cZ.h .nil (vs:=[]) rfl rfl rfl (by simp)) (fun k2=>?_)
 refine dH (.cons .h .nil) (bY (Ro:=(aj aH)) (E:=3) (F:=[]) (xs:=([]:List Int)) bX rfl rfl) ?_
 refine au ?_
 refine bnd hF fun z3 hx4 hF=>dU (.cons .h (.rd (.t .h) rfl .nil)) (ek (Ro:=(aj aH)) cz.h iL cZ.h rfl rfl rfl (.tmp rfl rfl) (.tmp rfl rfl) hx4 rE) (fun p5=>?_)
 refine aO (gy qa.h rfl (vs:=[(zi lL),p5.1.v]) bN (cells:=[(zi lL),p5.1.v]) rfl) ?_
 refine As (zg [(zi lL),p5.1.v]) ?_
 refine bg ?_
 cases hF
 exact Er (p5.1,p5.2)
def Hm(r9:(List Step))(qg:Nat)(Kq:Atom):Nat->(List Atom)->Int->Option ((List Atom))
 |0,_,_=>none
 |Kr+1,Kt,Gn=>if (decide ((Gn:Int)<(r9.length:Int)))then (
     ((ix r9 Gn).bind fun adN=>
       if ((adN.Atom:Int)==(qg:Int))then (
         (Np Kq.Rel Kq.Terms).bind fun Zb=>
         (app Kt ([Zb]:List Atom)).bind fun z196=>
         some z196)
       else (
         some Kt)).bind fun adO=>
     match adO with
     |Uc=>Hm r9 qg Kq Kr Uc (IntKind.i64.wrap (Gn+1)))
   else (
     some Kt)
def DX(ah:List Int)(r9:(List Step))(u7:List Int):List Atom->Nat->(List Atom)->Option (aV×Bool)
 |[],qg,nY=>(xS ah (⟨u7,nY⟩:aV)).bind fun alI=>
   if (!alI)then (
     some ((⟨[],[]⟩:aV),false))
   else (
     some ((⟨u7,nY⟩:aV),true))
 |Kq::Bn,qg,nY=>(Hm r9 qg Kq (((r9.length:Int)-0).toNat+2) nY 0).bind fun Zc=>
   match Zc with
   |Ud=>DX ah r9 u7 Bn (qg+1) Ud
def O4(ah:List Int)(ai:List Method)(ak:aV):Option (aV×Bool):=
 (QP ah ai ak).bind fun r3=>
 if (!r3)then (
   some ((⟨[],[]⟩:aV),false))
 else (
   (Qe ai).bind fun r6=>
   (Qf r6 ak).bind fun r9=>
   (app ([]:List Int) ak.Head).bind fun u7=>
   DX ah r9 u7 ak.Atoms 0 ([]:List Atom))
theorem anz{ah:List Int}{aa:Sv}{ai:List Method}{aA:Sv}{ak:aV}{bi dZ:Sv}{R:aV×Bool}(hF:O4 ah ai ak=some R):
   Fw.Spec Tryz.prog 73 [aa.v,aA.v,(zg [bi.v,dZ.v])] [ag aa ah,dO aA ai,ag bi ak.Head,bZ dZ ak.Atoms] (fun p:Sv×List Nat×Sv×List Nat=>(.tuple [(zg [p.1.v,p.2.2.1.v]),(.bool R.2)].toArray)) (fun p=>[a_ p.2.1 p.1 R.1.Head,uB p.2.2.2 p.2.2.1 R.1.Atoms]):=by
 refine Se 71 Tryz.func73 [.cell 6 39,.tmp 7] ?_
 intro H0 F0
 unfold O4 at hF
 refine au ?_
 refine bM (fun k1=>?_)
 refine dJ (fun k2=>?_)
 refine bF ?_
 refine bnd hF fun r3 hx4 hF=>bJ (aql hx4) (fun _=>?_)
 refine bg ?_
 refine Ci hF (fun axE hF=>?_) (fun axE hF=>?_)
 · refine au ?_
   refine aO (gy qf.h rfl (vs:=[]) .nil (cells:=[(.slice none 0 0),(.slice none 0 0)]) rfl) ?_
   refine As (.agg ([(.slice none 0 0),(.slice none 0 0)]:List Value).toArray) ?_
   refine bC ?_
   cases hF
   exact gL (⟨none,0,0⟩,[],⟨none,0,0⟩,[]) (.cellA rfl rfl .h rfl zY.h qf.h.sz rfl rfl (.tmp rfl rfl .nil)) rfl (.conv .nil (fH (Ro:=(aj aH)) (E:=3)) (.cons .nil) (.conv .nil (fH (Ro:=lK) (E:=123)) (.cons .nil) (.sel (.cons (.t .h) (.cons .h .nil)))))
 refine au ?_
 refine dS [0,2,1,3,4] [0,1,0,7,15] [1,3] mixed (by decide+kernel) ?_
 refine cB ?_
 refine bnd hF fun r6 hx7 hF=>ni (ao8 hx7) (fun p8=>?_)
 refine bnd hF fun r9 fU hF=>qB rfl rfl .no (.cons .h (.rd .q4 rfl (.rd .q5 rfl .nil))) .nil (fun ha=>gH bq (fun _=>(.cons .nil)) (bU awz.h (.cons (EN ha (.tmp rfl rfl) rfl) (.cons (EN ha (.tmp rfl rfl) rfl) .nil)) (ao9 fU))) (fun jI=>?_)
 refine cB ?_
 refine au ?_
 refine dx rfl (bV (g:=true) cz.h cZ.h .nil (vs:=[]) rfl rfl rfl (by simp)) (fun k12=>?_)
 refine dH (.cons .h .nil) (bY (Ro:=(aj aH)) (E:=3) (F:=[]) (xs:=([]:List Int)) bX rfl rfl) ?_
 refine bg ?_
 refine bnd hF fun u7 iA hF=>dU (.cons .h (.rd .q6 rfl .nil)) (ek (Ro:=(aj aH)) cz.h iL cZ.h rfl rfl rfl (.tmp rfl rfl) (.tmp rfl rfl) iA rE) (fun jm=>?_)
 refine aO (gy qf.h rfl (vs:=[jm.1.v]) bN (cells:=[jm.1.v,(.slice none 0 0)]) rfl) ?_
 refine dJ (fun k16=>?_)
 refine As (zg [jm.1.v,(.slice none 0 0)]) ?_
 refine aX ?_
 refine aY (bK (m:=ak.Atoms.length) (fun alJ f' cs'=>∃(g:Fr)(qg:Nat)(Bn nY:List Atom)(yH:Sv)(Zd:List Nat),alJ=Bn.length/\f'=aN g [(0,aa.v),(5,(pz k1)),(6,(pz k2)),(8,jI.1.v),(9,(pz k16)),(10,(zi (qg:Int)))]/\List.drop qg ak.Atoms=Bn/\aK cs' [ag aa ah,aQ k1 39 (zg [bi.v,dZ.v]),ag bi ak.Head,bZ dZ ak.Atoms,bS k2 39 (.agg ([(.slice none 0 0),(.slice none 0 0)]:List Value).toArray),wS jI.2 jI.1 r9,bS k16 39 (zg [jm.1.v,yH.v]),a_ jm.2 jm.1 u7,uB Zd yH nY]/\DX ah r9 u7 Bn qg nY=some R) ⟨_,0,_,_,⟨none,0,0⟩,[],rfl,ay,rfl,(.conv .nil (fH (Ro:=lK) (E:=123)) (.cons .nil) ax),hF⟩ ?_)
 rintro alJ _ _ ⟨aGS,qg,Bn,nY,yH,Zd,rfl,rfl,akv,hE,hF⟩
 refine Kb hE ak.Atoms (fun aCP=>?_)
 rcases Bn with _|⟨Kq,Bn⟩
 · have axF:=dn akv
   rw[DX]at hF
   refine eD ?_
   refine cO ?_
   refine eD ?_
   refine bnd hF fun alI axG hF=>l9 (.cons .q8 (.cons .q7 (.rd .h rfl .nil))) (jy (pre:=_) (.cons bq (.cons bq .nil)) (fun _=>.nil) (jA (.rd .q2 rfl (.rd .h rfl (.rd (.t .h) rfl .nil))) (bU azU.h bN (IC axG)))) (fun _=>?_)
   refine bg ?_
   refine Ci hF (fun acG hF=>?_) (fun acG hF=>?_)
   · refine au ?_
     refine aO (gy qf.h rfl (vs:=[]) .nil (cells:=[(.slice none 0 0),(.slice none 0 0)]) rfl) ?_
     refine As (.agg ([(.slice none 0 0),(.slice none 0 0)]:List Value).toArray) ?_
     refine bC ?_
     cases hF
     exact gL (⟨none,0,0⟩,[],⟨none,0,0⟩,[]) (.cellA rfl rfl .h rfl zY.h qf.h.sz rfl rfl (.tmp rfl rfl .nil)) rfl (.conv .nil (fH (Ro:=(aj aH)) (E:=3)) (.cons .nil) (.conv .nil (fH (Ro:=lK) (E:=123)) (.cons .nil) (.sel (.cons (.t .h) (.cons .h .nil)))))
   refine bC ?_
   refine As (zg [jm.1.v,yH.v]) ?_
   refine bC ?_
   cases hF
   exact gL (jm.1,jm.2,yH,Zd) (.cellA rfl rfl .h rfl zY.h qf.h.sz rfl rfl (.tmp rfl rfl .nil)) rfl (.sel (.cons .q2 (.cons (.t .h) .nil)))
 obtain⟨axF,akw,axH⟩:=bW akv
 rw[DX]at hF
 refine eD ?_
 refine cK ?_
 refine au ?_
 obtain⟨Zc,aui,axI⟩:=bind_some hF
 refine fD (fun f' cs'=>∃(Ud:List Atom)(v206:Sv)(adP:List Nat)(g:Fr),Ud=Zc/\f'=aN g [(0,aa.v),(5,(pz k1)),(6,(pz k2)),(8,jI.1.v),(9,(pz k16)),(10,(zi (qg:Int)))]/\aK cs' [ag aa ah,aQ k1 39 (zg [bi.v,dZ.v]),ag bi ak.Head,bZ dZ ak.Atoms,bS k2 39 (.agg ([(.slice none 0 0),(.slice none 0 0)]:List Value).toArray),wS jI.2 jI.1 r9,bS k16 39 (zg [jm.1.v,v206.v]),a_ jm.2 jm.1 u7,uB adP v206 Ud]) ?_ ?_
 · replace hF:=aui
   refine aY (cu (aO (iZ (v:=(zi 0)) (.int _ _)) ?_))
   refine au ?_
   refine aY (bK (m:=(((r9.length:Int)-0).toNat+2)) (fun Kr f' cs'=>∃(g:Fr)(Kt:List Atom)(Gn:Int)(v167:Sv)(Ze:List Nat),f'=aN g [(0,aa.v),(5,(pz k1)),(6,(pz k2)),(8,jI.1.v),(9,(pz k16)),(10,(zi (qg:Int))),(11,(zi Gn))]/\aK cs' [ag aa ah,aQ k1 39 (zg [bi.v,dZ.v]),ag bi ak.Head,bZ dZ ak.Atoms,bS k2 39 (.agg ([(.slice none 0 0),(.slice none 0 0)]:List Value).toArray),wS jI.2 jI.1 r9,bS k16 39 (zg [jm.1.v,v167.v]),a_ jm.2 jm.1 u7,uB Ze v167 Kt]/\Hm r9 qg Kq Kr Kt Gn=some Zc) ⟨_,_,_,yH,Zd,ay,ax,hF⟩ ?_)
   rintro Kr _ _ ⟨aGT,Kt,Gn,v167,Ze,rfl,hE,hF⟩
   refine bH hE ?_
   rcases Kr with _|Kr
   · rw[Hm]at hF
     exact absurd hF (by simp)
   rw[Hm]at hF
   refine bF ?_
   refine Ci hF (fun axJ hF=>?_) (fun axJ hF=>?_)
   · refine au ?_
     obtain⟨adO,auj,axK⟩:=bind_some hF
     refine fD (fun f' cs'=>∃(Uc:List Atom)(v201:Sv)(adQ:List Nat)(g:Fr),Uc=adO/\f'=aN g [(0,aa.v),(5,(pz k1)),(6,(pz k2)),(8,jI.1.v),(9,(pz k16)),(10,(zi (qg:Int))),(11,(zi Gn))]/\aK cs' [ag aa ah,aQ k1 39 (zg [bi.v,dZ.v]),ag bi ak.Head,bZ dZ ak.Atoms,bS k2 39 (.agg ([(.slice none 0 0),(.slice none 0 0)]:List Value).toArray),wS jI.2 jI.1 r9,bS k16 39 (zg [jm.1.v,v201.v]),a_ jm.2 jm.1 u7,uB adQ v201 Uc]) ?_ ?_
     · replace hF:=auj
       refine aY (cu (Cm jI.1.v rfl rfl ?_))
       refine au ?_
       refine bnd hF fun adN akx hF=>?_
       have axL:=zC akx
       obtain⟨aEl,axM⟩:=uk akx
       refine qA JD.h wQ.h.sz (.tmp rfl rfl) (.tmp rfl rfl) .q5 axL (fun aGU axN=>?_)
       refine au ?_
       refine Jz (w:=(zi adN.Atom)) Ag.h (.tmp rfl rfl) .q5 axN axM as0 ?_
       refine bC ?_
       refine Ci hF (fun axO hF=>?_) (fun axO hF=>?_)
       · refine kM [0,1,2,3,4,5,6,7,8,9,10,11,12,13,14,15,16,17,18] [0,1,0,4,0,28,60,124,0,256,0,1792,3840,7936,16380,32764,65535,131071,262143] [14,16,18] mixed (by decide+kernel) ?_
         refine du ?_
         refine ed rfl .no .q6 (fun ha hp=>fI (v:=v167.v) YY.h (EN ha (.tmp rfl rfl) rfl) hp.2 rfl rfl) ?_
         refine fT ?_
         refine Di akw (fun aGV aGW=>?_)
         refine du ?_
         refine Dl abK ?_
         refine fT ?_
         refine Di akw (fun aGX aGY=>?_)
         refine du ?_
         refine uA (R':=(aI 3 aH)) iF.h rfl .no (.tmp rfl rfl) rfl .h xW (fun aGZ=>?_)
         refine bnd hF fun Zb axP hF=>df rfl rfl .no (.rd .h rfl .nil) (.own .q9 (fun _ h=>h) .nil) (fun ha=>bU aj7.h (.cons (EN ha (.tmp rfl rfl) rfl) (.cons (EN ha (.tmp rfl rfl) rfl) .nil)) (agD axP)) (fun alK=>?_)
         refine iq rfl .no rfl (fun ha=>bV (g:=true) (len:=1) (parts:=[(0,.tmp 61)]) xe.h qa.h (.cons (EN ha (.tmp rfl rfl) rfl) .nil) (vs:=[(zg [(zi Zb.Rel),alK.1.v])]) rfl rfl rfl (by intro v hv; simp at hv; rcases hv with rfl<;>rfl)) (fun aG0=>?_)
         refine jF (.cons .h (.cons .h .nil)) (bY (Ro:=lK) (E:=123) (F:=(alK.2++[])) (xs:=([Zb]:List Atom)) (eF RL bX dm) rfl rfl) ?_
         refine bnd hF fun z196 axQ hF=>df rfl rfl .no (.cons .q12 (.cons .h .nil)) (.dep rfl (.dep rfl .nil)) (fun ha=>ek (Ro:=lK) xe.h Y0 qa.h rfl rfl rfl (EN ha (.tmp rfl rfl) rfl) (EN ha (.tmp rfl rfl) rfl) axQ fM) (fun Ue=>?_)
         refine du ?_
         refine df rfl rfl .no (.cons .q10 .nil) (.dep rfl (.dep rfl .nil)) (fun ha=>gF (e':=(zg [jm.1.v,Ue.1.v])) YX.h.sz (EN ha (.tmp rfl rfl) rfl) (EN ha (.tmp rfl rfl) rfl) rfl rfl rfl rfl rfl) (fun _=>?_)
         refine du ?_
         cases hF
         exact⟨_,Ue.1,Ue.2,_,rfl,ay,ax⟩
       refine au ?_
       cases hF
       exact⟨_,v167,Ze,_,rfl,ay,ax⟩
     rintro _ _ ⟨Uc,v201,adQ,aG1,rfl,rfl,hE⟩
     replace hF:=axK
     try dsimp only at hF
     refine bH hE ?_
     refine aX ?_
     exact⟨Kr,bO _,_,_,_,v201,adQ,ay,ax,hF⟩
   refine aP ?_
   cases hF
   exact⟨_,v167,Ze,_,rfl,ay,ax⟩
 rintro _ _ ⟨Ud,v206,adP,aG2,rfl,rfl,hE⟩
 replace hF:=axI
 try dsimp only at hF
 refine bH hE ?_
 refine aX ?_
 rw[wk qg]
 exact⟨_,bO _,_,qg+1,Bn,_,v206,adP,rfl,ay,axH,ax,hF⟩
def EA(z4:List Int):List Atom->Nat->(List Atom)->Option (aV)
 |[],uX,c32=>some (⟨z4,c32⟩:aV)
 |x40::BL,uX,c32=>(Np x40.Rel x40.Terms).bind fun u6=>
   (app c32 ([u6]:List Atom)).bind fun z56=>
   EA z4 BL (uX+1) z56
def QR(ak:aV):Option (aV):=
 (app ([]:List Int) ak.Head).bind fun z4=>
 EA z4 ak.Atoms 0 ([]:List Atom)
theorem aqn{ak:aV}{aa aM:Sv}{R:aV}(hF:QR ak=some R):
   Fw.Spec Tryz.prog 124 [(zg [aa.v,aM.v])] [ag aa ak.Head,bZ aM ak.Atoms] (fun p:Sv×List Nat×Sv×List Nat=>(zg [p.1.v,p.2.2.1.v])) (fun p=>[a_ p.2.1 p.1 R.Head,uB p.2.2.2 p.2.2.1 R.Atoms]):=by
 refine Se 36 Tryz.func124 [.cell 2 39] ?_
 intro H0 F0
 unfold QR at hF
 refine au ?_
 refine bM (fun k1=>?_)
 refine dJ (fun k2=>?_)
 refine bg ?_
 refine dx rfl (bV (g:=true) cz.h cZ.h .nil (vs:=[]) rfl rfl rfl (by simp)) (fun k3=>?_)
 refine dH (.cons .h .nil) (bY (Ro:=(aj aH)) (E:=3) (F:=[]) (xs:=([]:List Int)) bX rfl rfl) ?_
 refine bg ?_
 refine bnd hF fun z4 hx5 hF=>dU (.cons .h (.rd .q2 rfl .nil)) (ek (Ro:=(aj aH)) cz.h iL cZ.h rfl rfl rfl (.tmp rfl rfl) (.tmp rfl rfl) hx5 rE) (fun p6=>?_)
 refine aO (gy qf.h rfl (vs:=[p6.1.v]) bN (cells:=[p6.1.v,(.slice none 0 0)]) rfl) ?_
 refine dJ (fun k7=>?_)
 refine As (zg [p6.1.v,(.slice none 0 0)]) ?_
 refine aX ?_
 refine aY (bK (m:=ak.Atoms.length) (fun m36 f' cs'=>∃(g:Fr)(uX:Nat)(BL c32:List Atom)(v33:Sv)(K6:List Nat),m36=BL.length/\f'=aN g [(1,(pz k1)),(2,(pz k2)),(3,(pz k7)),(4,(zi (uX:Int)))]/\List.drop uX ak.Atoms=BL/\aK cs' [aQ k1 39 (zg [aa.v,aM.v]),ag aa ak.Head,bZ aM ak.Atoms,bS k2 39 (.agg ([(.slice none 0 0),(.slice none 0 0)]:List Value).toArray),bS k7 39 (zg [p6.1.v,v33.v]),a_ p6.2 p6.1 z4,uB K6 v33 c32]/\EA z4 BL uX c32=some R) ⟨_,0,_,_,⟨none,0,0⟩,[],rfl,ay,rfl,(.conv .nil (fH (Ro:=lK) (E:=123)) (.cons .nil) ax),hF⟩ ?_)
 rintro m36 _ _ ⟨g37,uX,BL,c32,v33,K6,rfl,rfl,zZ,hE,hF⟩
 refine Kb hE ak.Atoms (fun aEm=>?_)
 rcases BL with _|⟨x40,BL⟩
 · have aAu:=dn zZ
   rw[EA]at hF
   refine eD ?_
   refine cO ?_
   refine bu ?_
   refine As (zg [p6.1.v,v33.v]) ?_
   refine bg ?_
   cases hF
   exact Er (p6.1,p6.2,v33,K6)
 obtain⟨aAu,qO,Zf⟩:=bW zZ
 rw[EA]at hF
 refine eD ?_
 refine cK ?_
 refine bg ?_
 refine kM [0,1,2,3,4,5,6,7,8,9,10,11,12,13,14,15,16,17,18] [0,1,0,4,0,28,60,124,0,256,0,1792,3840,7936,16380,32764,65535,131071,262143] [14,16,18] mixed (by decide+kernel) ?_
 refine du ?_
 refine ed rfl .no .q4 (fun ha hp=>fI (v:=v33.v) YY.h (EN ha (.tmp rfl rfl) rfl) hp.2 rfl rfl) ?_
 refine fT ?_
 refine Di qO (fun Vd j48=>?_)
 refine du ?_
 refine Dl abK ?_
 refine fT ?_
 refine Di qO (fun U8 Z_=>?_)
 refine du ?_
 refine uA (R':=(aI 3 aH)) iF.h rfl .no (.tmp rfl rfl) rfl .h xW (fun w51=>?_)
 refine bnd hF fun u6 Kn hF=>df rfl rfl .no (.rd .h rfl .nil) (.own .q7 (fun _ h=>h) .nil) (fun ha=>bU aj7.h (.cons (EN ha (.tmp rfl rfl) rfl) (.cons (EN ha (.tmp rfl rfl) rfl) .nil)) (agD Kn)) (fun p54=>?_)
 refine iq rfl .no rfl (fun ha=>bV (g:=true) (len:=1) (parts:=[(0,.tmp 31)]) xe.h qa.h (.cons (EN ha (.tmp rfl rfl) rfl) .nil) (vs:=[(zg [(zi u6.Rel),p54.1.v])]) rfl rfl rfl (by intro v hv; simp at hv; rcases hv with rfl<;>rfl)) (fun k55=>?_)
 refine jF (.cons .h (.cons .h .nil)) (bY (Ro:=lK) (E:=123) (F:=(p54.2++[])) (xs:=([u6]:List Atom)) (eF RL bX dm) rfl rfl) ?_
 refine bnd hF fun z56 sV hF=>df rfl rfl .no (.cons .q10 (.cons .h .nil)) (.dep rfl (.dep rfl .nil)) (fun ha=>ek (Ro:=lK) xe.h Y0 qa.h rfl rfl rfl (EN ha (.tmp rfl rfl) rfl) (EN ha (.tmp rfl rfl) rfl) sV fM) (fun p58=>?_)
 refine du ?_
 refine df rfl rfl .no (.cons .q8 .nil) (.dep rfl (.dep rfl .nil)) (fun ha=>gF (e':=(zg [p6.1.v,p58.1.v])) YX.h.sz (EN ha (.tmp rfl rfl) rfl) (EN ha (.tmp rfl rfl) rfl) rfl rfl rfl rfl rfl) (fun _=>?_)
 refine du ?_
 refine aX ?_
 rw[wk uX]
 exact⟨_,bO _,_,uX+1,BL,_,p58.1,p58.2,rfl,ay,Zf,ax,hF⟩
def D9(eP:Atom):Nat->(List Int)->Int->Option ((List Int))
 |0,_,_=>none
 |m24+1,c20,c23=>if (decide ((c23:Int)<(eP.Terms.length:Int)))then (
     ((ix eP.Terms c23).bind fun x40=>
       (lI x40 0 9).bind fun Dp=>
       if Dp then (
         (ix eP.Terms c23).bind fun tO=>
         (Bl c20 tO).bind fun GU=>
         some GU)
       else (
         some c20)).bind fun yU=>
     match yU with
     |iT=>D9 eP m24 iT (IntKind.i64.wrap (c23+1)))
   else (
     some c20)
def Hy:List Atom->Nat->(List Int)->Option ((List Int))
 |[],k9,c3=>some c3
 |eP::dM,k9,c3=>(D9 eP (((eP.Terms.length:Int)-0).toNat+2) c3 0).bind fun iH=>
   match iH with
   |lC=>Hy dM (k9+1) lC
def Eg(ak:aV):Option ((List Int)):=
 Hy ak.Atoms 0 ([]:List Int)
theorem V3{ak:aV}{aa aM:Sv}{R:(List Int)}(hF:Eg ak=some R):
   Fw.Spec Tryz.prog 83 [(zg [aa.v,aM.v])] [ag aa ak.Head,bZ aM ak.Atoms] (fun p:Sv×List Nat=>p.1.v) (fun p=>[a_ p.2 p.1 R]):=by
 refine Se 47 Tryz.func83 [.tmp 2] ?_
 intro H0 F0
 unfold Eg at hF
 refine au ?_
 refine bM (fun k1=>?_)
 refine bC ?_
 refine dx rfl (bV (g:=true) cz.h cZ.h .nil (vs:=[]) rfl rfl rfl (by simp)) (fun k2=>?_)
 refine dH (.cons .h .nil) (bY (Ro:=(aj aH)) (E:=3) (F:=[]) (xs:=([]:List Int)) bX rfl rfl) ?_
 refine bu ?_
 refine aY (bK (m:=ak.Atoms.length) (fun m7 f' cs'=>∃(g:Fr)(k9:Nat)(dM:List Atom)(c3:List Int)(v4:Sv)(F5:List Nat),m7=dM.length/\f'=aN g [(1,(pz k1)),(3,v4.v),(4,(zi (k9:Int)))]/\List.drop k9 ak.Atoms=dM/\aK cs' [aQ k1 39 (zg [aa.v,aM.v]),ag aa ak.Head,bZ aM ak.Atoms,a_ F5 v4 c3]/\Hy dM k9 c3=some R) ⟨_,0,_,_,⟨(some ⟨k2,0,none⟩),0,1⟩,(k2::[]),rfl,ay,rfl,ax,hF⟩ ?_)
 rintro m7 _ _ ⟨g8,k9,dM,c3,v4,F5,rfl,rfl,j4,hE,hF⟩
 refine Kb hE ak.Atoms (fun FE=>?_)
 rcases dM with _|⟨eP,dM⟩
 · have qR:=dn j4
   rw[Hy]at hF
   refine eD ?_
   refine cO ?_
   refine eG ?_
   cases hF
   exact Er (v4,F5)
 obtain⟨qR,iA,nX⟩:=bW j4
 rw[Hy]at hF
 refine eD ?_
 refine cK ?_
 refine au ?_
 obtain⟨iH,qD,qQ⟩:=bind_some hF
 refine fD (fun f' cs'=>∃(lC:List Int)(v68:Sv)(K5:List Nat)(g:Fr),lC=iH/\f'=aN g [(1,(pz k1)),(3,v68.v),(4,(zi (k9:Int)))]/\aK cs' [aQ k1 39 (zg [aa.v,aM.v]),ag aa ak.Head,bZ aM ak.Atoms,a_ K5 v68 lC]) ?_ ?_
 · replace hF:=qD
   refine aY (cu (aO (iZ (v:=(zi 0)) (.int _ _)) ?_))
   refine au ?_
   refine aY (bK (m:=(((eP.Terms.length:Int)-0).toNat+2)) (fun m24 f' cs'=>∃(g:Fr)(c20:List Int)(c23:Int)(v21:Sv)(uZ:List Nat),f'=aN g [(1,(pz k1)),(3,v21.v),(4,(zi (k9:Int))),(5,(zi c23))]/\aK cs' [aQ k1 39 (zg [aa.v,aM.v]),ag aa ak.Head,bZ aM ak.Atoms,a_ uZ v21 c20]/\D9 eP m24 c20 c23=some iH) ⟨_,_,_,v4,F5,ay,ax,hF⟩ ?_)
   rintro m24 _ _ ⟨U6,c20,c23,v21,uZ,rfl,hE,hF⟩
   refine bH hE ?_
   rcases m24 with _|m24
   · rw[D9]at hF
     exact absurd hF (by simp)
   rw[D9]at hF
   refine bu ?_
   refine Ai iA (fun kX j33=>?_)
   refine au ?_
   refine wP (R':=(aI 3 aH)) iF.h (.tmp rfl rfl) .h xW (fun w34=>?_)
   refine bC ?_
   refine Ci hF (fun CP hF=>?_) (fun CP hF=>?_)
   · refine au ?_
     obtain⟨yU,RY,TU⟩:=bind_some hF
     refine fD (fun f' cs'=>∃(iT:List Int)(v63:Sv)(qZ:List Nat)(g:Fr),iT=yU/\f'=aN g [(1,(pz k1)),(3,v63.v),(4,(zi (k9:Int))),(5,(zi c23))]/\aK cs' [aQ k1 39 (zg [aa.v,aM.v]),ag aa ak.Head,bZ aM ak.Atoms,a_ qZ v63 iT]) ?_ ?_
     · replace hF:=RY
       refine aY (cu (aO (gU (off:=1) ab'.h (.tmp rfl rfl)) ?_))
       refine bg ?_
       refine Ai iA (fun tQ j38=>?_)
       refine au ?_
       refine wP (R':=(aI 3 aH)) iF.h (.tmp rfl rfl) .h xW (fun w39=>?_)
       refine au ?_
       refine zI hF fun x40 alF qO hF=>?_
       refine Ai qO (fun K3 Z7=>?_)
       refine Al dG ?_
       refine bnd hF fun Dp CL hF=>bJ (nR CL) (fun _=>?_)
       refine au ?_
       refine Ci hF (fun CO hF=>?_) (fun CO hF=>?_)
       · refine aX ?_
         refine Ai iA (fun U8 Z_=>?_)
         refine au ?_
         refine wP (R':=(aI 3 aH)) iF.h (.tmp rfl rfl) .h xW (fun w51=>?_)
         refine au ?_
         refine zI hF fun tO aAn ma hF=>?_
         refine Ai ma (fun k56 j57=>?_)
         refine Al dG ?_
         refine bnd hF fun GU CQ hF=>fq (Qd CQ) (fun p60=>?_)
         refine bg ?_
         cases hF
         exact⟨_,p60.1,p60.2,_,rfl,ay,ax⟩
       refine au ?_
       cases hF
       exact⟨_,v21,uZ,_,rfl,ay,ax⟩
     rintro _ _ ⟨iT,v63,qZ,g65,rfl,rfl,hE⟩
     replace hF:=TU
     try dsimp only at hF
     refine bH hE ?_
     refine aX ?_
     exact⟨m24,bO _,_,_,_,v63,qZ,ay,ax,hF⟩
   refine aP ?_
   cases hF
   exact⟨_,v21,uZ,_,rfl,ay,ax⟩
 rintro _ _ ⟨lC,v68,K5,g71,rfl,rfl,hE⟩
 replace hF:=qQ
 try dsimp only at hF
 refine bH hE ?_
 refine aX ?_
 rw[wk k9]
 exact⟨_,bO _,_,k9+1,dM,_,v68,K5,rfl,ay,nX,ax,hF⟩
def E5(aL:aS)(iU:Int)(di:Int):Option (aS):=
 (app ([]:List Int) aL.Vars).bind fun z7=>
 (app z7 ([iU]:List Int)).bind fun z10=>
 (app ([]:List Int) aL.Values).bind fun u7=>
 (app u7 ([di]:List Int)).bind fun z16=>
 some (⟨z10,z16⟩:aS)
theorem agE{aL:aS}{aa aM:Sv}{iU di:Int}{R:aS}(hF:E5 aL iU di=some R):
   Fw.Spec Tryz.prog 158 [(zg [aa.v,aM.v]),(zi iU),(zi di)] [ag aa aL.Vars,ag aM aL.Values] (fun p:Sv×List Nat×Sv×List Nat=>(zg [p.1.v,p.2.2.1.v])) (fun p=>[a_ p.2.1 p.1 R.Vars,a_ p.2.2.2 p.2.2.1 R.Values]):=by
 refine Se 22 Tryz.func158 [.cell 6 136] ?_
 intro H0 F0
 unfold E5 at hF
 refine au ?_
 refine bM (fun k1=>?_)
 refine dJ (fun k2=>?_)
 refine au ?_
 refine dS [0,1,2,4,5,7,8,9,11,12,3,6,10,13,14,15] [0,0,2,7,0,16,63,0,0,256,1023,0,2048,8191,16383,32767] [3,6,10,13,15] mixed (by decide+kernel) ?_
 refine iq rfl .no rfl (fun ha=>bV (g:=true) (len:=0) (parts:=[]) cz.h cZ.h .nil (vs:=[]) rfl rfl rfl (by simp)) (fun k3=>?_)
 refine jF (.cons .h .nil) (bY (Ro:=(aj aH)) (E:=3) (F:=[]) (xs:=([]:List Int)) bX rfl rfl) ?_
 refine fT ?_
 refine iq rfl .no rfl (fun ha=>bV (g:=true) (len:=1) (parts:=[(0,.tmp 11)]) cz.h cZ.h (.cons (EN ha (.tmp rfl rfl) rfl) .nil) (vs:=[(zi iU)]) rfl rfl rfl (by intro v hv; simp at hv; rcases hv with rfl<;>rfl)) (fun k4=>?_)
 refine jF (.cons .h .nil) (bY (Ro:=(aj aH)) (E:=3) (F:=([]++[])) (xs:=([iU]:List Int)) (eF (jd (fun _=>rfl)) bX dm) rfl rfl) ?_
 refine iq rfl .no rfl (fun ha=>bV (g:=true) (len:=0) (parts:=[]) cz.h cZ.h .nil (vs:=[]) rfl rfl rfl (by simp)) (fun k5=>?_)
 refine jF (.cons .h .nil) (bY (Ro:=(aj aH)) (E:=3) (F:=[]) (xs:=([]:List Int)) bX rfl rfl) ?_
 refine fT ?_
 refine iq rfl .no rfl (fun ha=>bV (g:=true) (len:=1) (parts:=[(0,.tmp 18)]) cz.h cZ.h (.cons (EN ha (.tmp rfl rfl) rfl) .nil) (vs:=[(zi di)]) rfl rfl rfl (by intro v hv; simp at hv; rcases hv with rfl<;>rfl)) (fun k6=>?_)
 refine jF (.cons .h .nil) (bY (Ro:=(aj aH)) (E:=3) (F:=([]++[])) (xs:=([di]:List Int)) (eF (jd (fun _=>rfl)) bX dm) rfl rfl) ?_
 refine bnd hF fun z7 pJ hF=>df rfl rfl .no (.cons .q3 (.rd .q5 rfl .nil)) (.own .h (by simp[aD]) (.own (.t .h) (by simp[aD]) (.own .q2 (by simp[aD]) (.dep rfl .nil)))) (fun ha=>ek (Ro:=(aj aH)) cz.h iL cZ.h rfl rfl rfl (EN ha (.tmp rfl rfl) rfl) (EN ha (.tmp rfl rfl) rfl) pJ rE) (fun p9=>?_)
 refine bnd hF fun z10 uQ hF=>df rfl rfl .no (.cons .h (.cons .q2 .nil)) (.own .h (by simp[aD]) (.own (.t .h) (by simp[aD]) (.dep rfl (.dep rfl .nil)))) (fun ha=>ek (Ro:=(aj aH)) cz.h iL cZ.h rfl rfl rfl (EN ha (.tmp rfl rfl) rfl) (EN ha (.tmp rfl rfl) rfl) uQ fM) (fun Oy=>?_)
 refine bnd hF fun u7 iA hF=>df rfl rfl .no (.cons .q2 (.rd .q5 rfl .nil)) (.own (.t .h) (by simp[aD]) (.dep rfl (.dep rfl (.dep rfl .nil)))) (fun ha=>ek (Ro:=(aj aH)) cz.h iL cZ.h rfl rfl rfl (EN ha (.tmp rfl rfl) rfl) (EN ha (.tmp rfl rfl) rfl) iA rE) (fun jm=>?_)
 refine bnd hF fun z16 iX hF=>df rfl rfl .no (.cons .h (.cons (.t .h) .nil)) (.dep rfl (.dep rfl (.dep rfl (.dep rfl .nil)))) (fun ha=>ek (Ro:=(aj aH)) cz.h iL cZ.h rfl rfl rfl (EN ha (.tmp rfl rfl) rfl) (EN ha (.tmp rfl rfl) rfl) iX fM) (fun wy=>?_)
 refine bQ rfl .no (fun ha=>gy dY.h rfl (vs:=[Oy.1.v,wy.1.v]) (.cons (EN ha (.tmp rfl rfl) rfl) (.cons (EN ha (.tmp rfl rfl) rfl) .nil)) (cells:=[Oy.1.v,wy.1.v]) rfl) ?_
 refine df rfl rfl .no (.cons .q2 .nil) (.dep rfl (.dep rfl (.dep rfl (.dep rfl .nil)))) (fun ha=>gF (e':=(zg [Oy.1.v,wy.1.v])) (v:=(zg [Oy.1.v,wy.1.v])) dY.h.sz (EN ha (.tmp rfl rfl) rfl) (EN ha (.tmp rfl rfl) rfl) rfl rfl rfl rfl rfl) (fun _=>?_)
 refine du ?_
 refine au ?_
 cases hF
 exact Er (Oy.1,Oy.2,wy.1,wy.2)
def IG(aL:aS)(oz:Int):Nat->Int->Option (Int)
 |0,_=>none
 |m6+1,c5=>if ((decide ((c5:Int)<(aL.Vars.length:Int)))&&(decide ((c5:Int)<(aL.Values.length:Int))))then (
     (ix aL.Vars c5).bind fun jG=>
     if ((jG:Int)==oz)then (
       (ix aL.Values c5).bind fun pK=>
       some pK)
     else (
       IG aL oz m6 (IntKind.i64.wrap (c5+1))))
   else (
     some (-1))
def AX(aL:aS)(oz:Int):Option (Int):=
 (Bi oz).bind fun r2=>
 if (!r2)then (
   some oz)
 else (
   IG aL oz (((aL.Vars.length:Int)-0).toNat+2) 0)
theorem aaG{aL:aS}{aa aM:Sv}{oz R:Int}(hF:AX aL oz=some R):
   Fw.Spec Tryz.prog 159 [(zg [aa.v,aM.v]),(zi oz)] [ag aa aL.Vars,ag aM aL.Values] (fun _:Unit=>(zi R)) (fun _=>[]):=by
 refine Se 36 Tryz.func159 [.tmp 4] ?_
 intro H0 F0
 unfold AX at hF
 refine au ?_
 refine bM (fun k1=>?_)
 refine aX ?_
 refine bnd hF fun r2 hx3 hF=>bJ (MX hx3) (fun _=>?_)
 refine bg ?_
 refine Ci hF (fun CR hF=>?_) (fun CR hF=>?_)
 · exact ze hF
 refine aX ?_
 refine aY (bK (m:=(((aL.Vars.length:Int)-0).toNat+2)) (fun m6 f' cs'=>∃(g:Fr)(c5:Int),f'=aN g [(1,(zi oz)),(2,(pz k1)),(5,(zi c5))]/\aK cs' [aQ k1 136 (zg [aa.v,aM.v]),ag aa aL.Vars,ag aM aL.Values]/\IG aL oz m6 c5=some R) ⟨_,_,ay,ax,hF⟩ ?_)
 rintro m6 _ _ ⟨g7,c5,rfl,hE,hF⟩
 refine bH hE ?_
 rcases m6 with _|m6
 · rw[IG]at hF
   exact absurd hF (by simp)
 rw[IG]at hF
 refine bg ?_
 refine gG (fun f' cs'=>∃(g:Fr),f'=aN g [(1,(zi oz)),(2,(pz k1)),(5,(zi c5)),(21,(.bool ((decide ((c5:Int)<(aL.Vars.length:Int)))&&(decide ((c5:Int)<(aL.Values.length:Int))))))]/\aK cs' [aQ k1 136 (zg [aa.v,aM.v]),ag aa aL.Vars,ag aM aL.Values]) ?_ ?_
 · refine bu ?_
   rcases dK (decide ((c5:Int)<(aL.Vars.length:Int)))with qV|qV
   · rw[qV]
     try rw[qV]at hF; dsimp only[bB,bA]at hF
     refine Cr ?_
     exact⟨_,ay,ax⟩
   rw[qV]
   try rw[qV]at hF; dsimp only[bB,bA]at hF
   refine bF ?_
   exact⟨_,ay,ax⟩
 rintro _ _ ⟨g15,rfl,hE⟩
 refine bH hE ?_
 refine Ci hF (fun Uf hF=>?_) (fun Uf hF=>?_)
 · refine bu ?_
   refine zI hF fun jG Od nK hF=>?_
   refine Ai nK (fun k20 uY=>?_)
   refine Al dG ?_
   refine bC ?_
   refine Ci hF (fun yD hF=>?_) (fun yD hF=>?_)
   · refine aP ?_
     refine zI hF fun pK adG hx25 hF=>?_
     refine Ai hx25 (fun k26 j27=>?_)
     refine Al dG ?_
     exact ze hF
   refine bu ?_
   exact⟨m6,bO _,_,_,ay,ax,hF⟩
 exact ze hF
def D6(ae:Fact)(aL:Fact):Nat->Int->Option (Int)
 |0,_=>none
 |m5+1,c4=>if ((decide ((c4:Int)<(ae.Values.length:Int)))&&(decide ((c4:Int)<(aL.Values.length:Int))))then (
     (ix ae.Values c4).bind fun pM=>
     (ix aL.Values c4).bind fun mg=>
     if (decide ((pM:Int)<mg))then (
       some (-1))
     else (
       (ix ae.Values c4).bind fun x27=>
       (ix aL.Values c4).bind fun x33=>
       if (decide ((x33:Int)<x27))then (
         some 1)
       else (
         D6 ae aL m5 (IntKind.i64.wrap (c4+1)))))
   else (
     if (decide (((ae.Values.length:Int):Int)<(aL.Values.length:Int)))then (
       some (-1))
     else (
       if (decide (((aL.Values.length:Int):Int)<(ae.Values.length:Int)))then (
         some 1)
       else (
         some 0)))
def H_(ae:Fact)(aL:Fact):Option (Int):=
 if ((ae.Rel:Int)!=aL.Rel)then (
   if (decide ((ae.Rel:Int)<aL.Rel))then (
     some (-1))
   else (
     some 1))
 else (
   D6 ae aL (((ae.Values.length:Int)-0).toNat+2) 0)
theorem aak{ae:Fact}{aM:Sv}{aL:Fact}{aW:Sv}{R:Int}(hF:H_ ae aL=some R):
   Fw.Spec Tryz.prog 168 [(zg [(zi ae.Rel),aM.v]),(zg [(zi aL.Rel),aW.v])] [ag aM ae.Values,ag aW aL.Values] (fun _:Unit=>(zi R)) (fun _=>[]):=by
 refine Se 66 Tryz.func168 [.tmp 4] ?_
 intro H0 F0
 unfold H_ at hF
 refine au ?_
 refine bM (fun k1=>?_)
 refine bM (fun k2=>?_)
 refine jD ?_
 refine Ci hF (fun adR hF=>?_) (fun adR hF=>?_)
 · refine eD ?_
   refine Ci hF (fun hb3 hF=>?_) (fun hb3 hF=>?_)
   · exact ze hF
   exact ze hF
 refine aX ?_
 refine aY (bK (m:=(((ae.Values.length:Int)-0).toNat+2)) (fun m5 f' cs'=>∃(g:Fr)(c4:Int),f'=aN g [(2,(pz k1)),(3,(pz k2)),(5,(zi c4))]/\aK cs' [aQ k1 147 (zg [(zi ae.Rel),aM.v]),ag aM ae.Values,aQ k2 147 (zg [(zi aL.Rel),aW.v]),ag aW aL.Values]/\D6 ae aL m5 c4=some R) ⟨_,_,ay,ax,hF⟩ ?_)
 rintro m5 _ _ ⟨g6,c4,rfl,hE,hF⟩
 refine bH hE ?_
 rcases m5 with _|m5
 · rw[D6]at hF
   exact absurd hF (by simp)
 rw[D6]at hF
 refine bg ?_
 refine gG (fun f' cs'=>∃(g:Fr),f'=aN g [(2,(pz k1)),(3,(pz k2)),(5,(zi c4)),(27,(.bool ((decide ((c4:Int)<(ae.Values.length:Int)))&&(decide ((c4:Int)<(aL.Values.length:Int))))))]/\aK cs' [aQ k1 147 (zg [(zi ae.Rel),aM.v]),ag aM ae.Values,aQ k2 147 (zg [(zi aL.Rel),aW.v]),ag aW aL.Values]) ?_ ?_
 · refine bu ?_
   rcases dK (decide ((c4:Int)<(ae.Values.length:Int)))with Ug|Ug
   · rw[Ug]
     try rw[Ug]at hF; dsimp only[bB,bA]at hF
     refine Cr ?_
     exact⟨_,ay,ax⟩
   rw[Ug]
   try rw[Ug]at hF; dsimp only[bB,bA]at hF
   refine bF ?_
   exact⟨_,ay,ax⟩
 rintro _ _ ⟨g14,rfl,hE⟩
 refine bH hE ?_
 refine Ci hF (fun aAv hF=>?_) (fun aAv hF=>?_)
 · refine bC ?_
   refine dS [0,1,2,3,4,5,6,7,8,9,10] [0,1,0,7,15,0,32,0,224,480,1023] [] mixed (by decide+kernel) ?_
   refine fT ?_
   refine zI hF fun pM adS gq hF=>?_
   refine Di gq (fun k19 GV=>?_)
   refine Dl dG ?_
   refine fT ?_
   refine zI hF fun mg aAw hx24 hF=>?_
   refine Di hx24 (fun k25 j26=>?_)
   refine Dl dG ?_
   refine cB ?_
   refine Ci hF (fun Ku hF=>?_) (fun Ku hF=>?_)
   · exact ze hF
   refine au ?_
   refine dS [0,1,2,3,4,5,6,7,8,9,10] [0,1,0,7,15,0,32,0,224,480,1023] [] mixed (by decide+kernel) ?_
   refine fT ?_
   refine zI hF fun x27 aAx rR hF=>?_
   refine Di rR (fun Z8 j32=>?_)
   refine Dl dG ?_
   refine fT ?_
   refine zI hF fun x33 aG3 yG hF=>?_
   refine Di yG (fun tQ j38=>?_)
   refine Dl dG ?_
   refine cB ?_
   refine Ci hF (fun T_ hF=>?_) (fun T_ hF=>?_)
   · exact ze hF
   refine bu ?_
   exact⟨m5,bO _,_,_,ay,ax,hF⟩
 refine axx ?_
 refine Ci hF (fun adF hF=>?_) (fun adF hF=>?_)
 · exact ze hF
 refine yg ?_
 refine Ci hF (fun Km hF=>?_) (fun Km hF=>?_)
 · exact ze hF
 exact ze hF
def Mv(aU:Fact):List Fact->Nat->Option (Bool)
 |[],k5=>some false
 |x7::bR,k5=>(H_ x7 aU).bind fun d_=>
   if ((d_:Int)==0)then (
     some true)
   else (
     Mv aU bR (k5+1))
def ES(ai:List Fact)(aU:Fact):Option (Bool):=
 Mv aU ai 0
theorem aaH{ai:List Fact}{aa:Sv}{aU:Fact}{aW:Sv}{R:Bool}(hF:ES ai aU=some R):
   Fw.Spec Tryz.prog 165 [aa.v,(zg [(zi aU.Rel),aW.v])] [dD aa ai,ag aW aU.Values] (fun _:Unit=>(.bool R)) (fun _=>[]):=by
 refine Se 19 Tryz.func165 [.tmp 4] ?_
 intro H0 F0
 unfold ES at hF
 refine au ?_
 refine bM (fun k1=>?_)
 refine bu ?_
 refine aY (bK (m:=ai.length) (fun m3 f' cs'=>∃(g:Fr)(k5:Nat)(bR:List Fact),m3=bR.length/\f'=aN g [(0,aa.v),(3,(pz k1)),(5,(zi (k5:Int)))]/\List.drop k5 ai=bR/\aK cs' [dD aa ai,aQ k1 147 (zg [(zi aU.Rel),aW.v]),ag aW aU.Values]/\Mv aU bR k5=some R) ⟨_,0,_,rfl,ay,rfl,ax,hF⟩ ?_)
 rintro m3 _ _ ⟨g4,k5,bR,rfl,rfl,iR,hE,hF⟩
 refine Kb hE ai (fun wU=>?_)
 rcases bR with _|⟨x7,bR⟩
 · have lW:=dn iR
   rw[Mv]at hF
   refine bF ?_
   refine cO ?_
   exact ze hF
 obtain⟨lW,fU,fZ⟩:=bW iR
 rw[Mv]at hF
 refine bF ?_
 refine cK ?_
 refine bg ?_
 refine dS [0,1,2,3,4,5,6] [0,0,3,7,0,31,63] [5] mixed (by decide+kernel) ?_
 refine cB ?_
 refine Di fU (fun k14 GQ=>?_)
 refine qM (ky x7) kL (fun p16=>?_)
 refine du ?_
 refine bnd hF fun d_ gq hF=>jk (aak gq) (fun _=>?_)
 refine cB ?_
 refine Ci hF (fun yz hF=>?_) (fun yz hF=>?_)
 · exact ze hF
 refine bu ?_
 rw[wk k5]
 exact⟨_,bO _,_,k5+1,bR,rfl,ay,fZ,ax,hF⟩
def zA(lL:Int)(eu:List Int):Option (Fact):=
 (app ([]:List Int) eu).bind fun z3=>
 some (⟨lL,z3⟩:Fact)
theorem M0{lL:Int}{eu:List Int}{aA:Sv}{R:Fact}(hF:zA lL eu=some R):
   Fw.Spec Tryz.prog 169 [(zi lL),aA.v] [ag aA eu] (fun p:Sv×List Nat=>(zg [(zi R.Rel),p.1.v])) (fun p=>[a_ p.2 p.1 R.Values]):=by
 refine Se 10 Tryz.func169 [.cell 4 147] ?_
 intro H0 F0
 unfold zA at hF
 refine au ?_
 refine dJ (fun k1=>?_)
 refine bC ?_
 refine dx rfl (bV (g:=true) cz.h cZ.h .nil (vs:=[]) rfl rfl rfl (by simp)) (fun k2=>?_)
 refine dH (.cons .h .nil) (bY (Ro:=(aj aH)) (E:=3) (F:=[]) (xs:=([]:List Int)) bX rfl rfl) ?_
 refine au ?_
 refine bnd hF fun z3 hx4 hF=>dU (.cons .h (.rd (.t .h) rfl .nil)) (ek (Ro:=(aj aH)) cz.h iL cZ.h rfl rfl rfl (.tmp rfl rfl) (.tmp rfl rfl) hx4 rE) (fun p5=>?_)
 refine aO (gy dA.h rfl (vs:=[(zi lL),p5.1.v]) bN (cells:=[(zi lL),p5.1.v]) rfl) ?_
 refine As (zg [(zi lL),p5.1.v]) ?_
 refine bg ?_
 cases hF
 exact Er (p5.1,p5.2)
def xN(aU:Fact):List Fact->Nat->(List Fact)->Bool->Option ((List Fact))
 |[],k13,c6,c9=>if (!c9)then (
     (zA aU.Rel aU.Values).bind fun iV=>
     (app c6 ([iV]:List Fact)).bind fun z26=>
     some z26)
   else (
     some c6)
 |pM::BM,k13,c6,c9=>((bif (!c9)then ((H_ aU pM).bind fun Oz=>
         some (decide ((Oz:Int)<0)))
       else (some false)).bind fun o32=>
     match o32 with
     |yY=>if yY then (
         (zA aU.Rel aU.Values).bind fun Ak=>
         (app c6 ([Ak]:List Fact)).bind fun z46=>
         (zA pM.Rel pM.Values).bind fun K9=>
         (app z46 ([K9]:List Fact)).bind fun z58=>
         some (z58,true))
       else (
         (zA pM.Rel pM.Values).bind fun r66=>
         (app c6 ([r66]:List Fact)).bind fun z70=>
         some (z70,c9))).bind fun o30=>
   match o30 with
   |(c75,yZ)=>xN aU BM (k13+1) c75 yZ
def vB(ai:List Fact)(aU:Fact):Option ((List Fact)):=
 (ES ai aU).bind fun r3=>
 xN aU ai 0 ([]:List Fact) r3
theorem II{ai:List Fact}{aa:Sv}{aU:Fact}{aW:Sv}{R:(List Fact)}(hF:vB ai aU=some R):
   Fw.Spec Tryz.prog 85 [aa.v,(zg [(zi aU.Rel),aW.v])] [dD aa ai,ag aW aU.Values] (fun p:Sv×List Nat=>p.1.v) (fun p=>[fV p.2 p.1 R]):=by
 refine Se 62 Tryz.func85 [.tmp 4] ?_
 intro H0 F0
 unfold vB at hF
 refine au ?_
 refine bM (fun k1=>?_)
 refine bC ?_
 refine dx rfl (bV (g:=true) dX.h dA.h .nil (vs:=[]) rfl rfl rfl (by simp)) (fun k2=>?_)
 refine dH (.cons .h .nil) (bY (Ro:=fP) (E:=147) (F:=[]) (xs:=([]:List Fact)) bX rfl rfl) ?_
 refine aX ?_
 refine bnd hF fun r3 hx4 hF=>bJ (aaH hx4) (fun _=>?_)
 refine bu ?_
 refine aY (bK (m:=ai.length) (fun m11 f' cs'=>∃(g:Fr)(k13:Nat)(BM c6:List Fact)(c9:Bool)(v7:Sv)(F8:List Nat),m11=BM.length/\f'=aN g [(0,aa.v),(3,(pz k1)),(5,v7.v),(6,(.bool c9)),(7,(zi (k13:Int)))]/\List.drop k13 ai=BM/\aK cs' [dD aa ai,aQ k1 147 (zg [(zi aU.Rel),aW.v]),ag aW aU.Values,fV F8 v7 c6]/\xN aU BM k13 c6 c9=some R) ⟨_,0,_,_,_,⟨(some ⟨k2,0,none⟩),0,1⟩,(k2::[]),rfl,ay,rfl,ax,hF⟩ ?_)
 rintro m11 _ _ ⟨g12,k13,BM,c6,c9,v7,F8,rfl,rfl,Oe,hE,hF⟩
 refine Kb hE ai (fun aEn=>?_)
 rcases BM with _|⟨pM,BM⟩
 · have aAy:=dn Oe
   rw[xN]at hF
   refine bF ?_
   refine cO ?_
   refine eG ?_
   refine Ci hF (fun Uf hF=>?_) (fun Uf hF=>?_)
   · refine bu ?_
     refine bnd hF fun iV tq hF=>fq (M0 tq) (fun nu=>?_)
     refine dx rfl (bV (g:=true) dX.h dA.h bN (vs:=[(zg [(zi iV.Rel),nu.1.v])]) rfl rfl rfl (by intro v hv; simp at hv; rcases hv with rfl<;>rfl)) (fun k25=>?_)
     refine dH (.cons .h (.cons .h .nil)) (bY (Ro:=fP) (E:=147) (F:=(nu.2++[])) (xs:=([iV]:List Fact)) (eF zK bX dm) rfl rfl) ?_
     refine bnd hF fun z26 hx27 hF=>dU (.cons .q4 (.cons .h .nil)) (ek (Ro:=fP) dX.h CK dA.h rfl rfl rfl (.tmp rfl rfl) (.tmp rfl rfl) hx27 fM) (fun p28=>?_)
     refine bF ?_
     cases hF
     exact Er (p28.1,p28.2)
   refine bu ?_
   cases hF
   exact Er (v7,F8)
 obtain⟨aAy,gq,aAz⟩:=bW Oe
 rw[xN]at hF
 refine bF ?_
 refine cK ?_
 refine au ?_
 obtain⟨o30,axR,aAA⟩:=bind_some hF
 refine fD (fun f' cs'=>∃(c75:List Fact)(yZ:Bool)(v76:Sv)(K_:List Nat)(g:Fr),o30=(c75,yZ)/\f'=aN g [(0,aa.v),(3,(pz k1)),(5,v76.v),(6,(.bool yZ)),(7,(zi (k13:Int)))]/\aK cs' [dD aa ai,aQ k1 147 (zg [(zi aU.Rel),aW.v]),ag aW aU.Values,fV K_ v76 c75]) ?_ ?_
 · replace hF:=axR
   refine aY (h_ ?_)
   obtain⟨o32,acH,adT⟩:=bind_some hF
   refine dS [0,1,2,3,4,5,6,7,8,9,10] [0,1,3,7,7,7,55,119,255,511,1023] [8] mixed (by decide+kernel) ?_
   refine yc (fun f' cs'=>∃(yY:Bool)(g:Fr),yY=o32/\f'=aN g [(0,aa.v),(3,(pz k1)),(5,v7.v),(6,(.bool c9)),(7,(zi (k13:Int))),(28,(.bool yY))]/\aK cs' [dD aa ai,aQ k1 147 (zg [(zi aU.Rel),aW.v]),ag aW aU.Values,fV F8 v7 c6]) ?_ ?_
   · replace hF:=acH
     refine fT ?_
     rcases dK (!c9)with qU|qU
     · rw[qU]
       try rw[qU]at hF; dsimp only[bB,bA]at hF
       refine fT ?_
       refine Di gq (fun gW j36=>?_)
       refine qM (ky pM) kL (fun p37=>?_)
       refine bnd hF fun Oz hx39 hF=>jk (aak hx39) (fun _=>?_)
       exact j3 hF
     rw[qU]
     try rw[qU]at hF; dsimp only[bB,bA]at hF
     exact j3 hF
   rintro _ _ ⟨yY,g74,rfl,rfl,hE⟩
   replace hF:=adT
   try dsimp only at hF
   refine bH hE ?_
   refine Ci hF (fun Uh hF=>?_) (fun Uh hF=>?_)
   · refine bu ?_
     refine bnd hF fun Ak qO hF=>fq (M0 qO) (fun p44=>?_)
     refine dx rfl (bV (g:=true) dX.h dA.h bN (vs:=[(zg [(zi Ak.Rel),p44.1.v])]) rfl rfl rfl (by intro v hv; simp at hv; rcases hv with rfl<;>rfl)) (fun k45=>?_)
     refine dH (.cons .h (.cons .h .nil)) (bY (Ro:=fP) (E:=147) (F:=(p44.2++[])) (xs:=([Ak]:List Fact)) (eF zK bX dm) rfl rfl) ?_
     refine bnd hF fun z46 CL hF=>dU (.cons .q4 (.cons .h .nil)) (ek (Ro:=fP) dX.h CK dA.h rfl rfl rfl (.tmp rfl rfl) (.tmp rfl rfl) CL fM) (fun p48=>?_)
     refine aX ?_
     refine kM [0,1,2,3,4,5,6,7,8,9,10,11,12,13,14] [0,0,0,6,14,30,0,0,192,448,960,2046,4094,8191,16383] [11,13] mixed (by decide+kernel) ?_
     refine fT ?_
     refine Di gq (fun U8 Z_=>?_)
     refine du ?_
     refine Dl Jt ?_
     refine cB ?_
     refine Di gq (fun rY j52=>?_)
     refine du ?_
     refine uA (R':=(aI 3 aH)) iF.h rfl .no (.tmp rfl rfl) rfl .h Nw (fun w53=>?_)
     refine bnd hF fun K9 ma hF=>ni (M0 ma) (fun p56=>?_)
     refine iq rfl .no rfl (fun ha=>bV (g:=true) (len:=1) (parts:=[(0,.tmp 48)]) dX.h dA.h (.cons (EN ha (.tmp rfl rfl) rfl) .nil) (vs:=[(zg [(zi K9.Rel),p56.1.v])]) rfl rfl rfl (by intro v hv; simp at hv; rcases hv with rfl<;>rfl)) (fun k57=>?_)
     refine jF (.cons .h (.cons .h .nil)) (bY (Ro:=fP) (E:=147) (F:=(p56.2++[])) (xs:=([K9]:List Fact)) (eF zK bX dm) rfl rfl) ?_
     refine bnd hF fun z58 CQ hF=>df rfl rfl .no (.cons .q4 (.cons .h .nil)) (.dep rfl .nil) (fun ha=>ek (Ro:=fP) dX.h CK dA.h rfl rfl rfl (EN ha (.tmp rfl rfl) rfl) (EN ha (.tmp rfl rfl) rfl) CQ fM) (fun p60=>?_)
     refine cB ?_
     cases hF
     exact⟨_,_,p60.1,p60.2,_,rfl,ay,ax⟩
   refine au ?_
   refine kM [0,1,2,3,4,5,6,7,8,9,10,11,12,13,14] [0,0,0,6,14,30,0,0,192,448,960,2046,4094,8191,16383] [11,13] mixed (by decide+kernel) ?_
   refine fT ?_
   refine Di gq (fun k61 j62=>?_)
   refine du ?_
   refine Dl Jt ?_
   refine cB ?_
   refine Di gq (fun k63 j64=>?_)
   refine du ?_
   refine uA (R':=(aI 3 aH)) iF.h rfl .no (.tmp rfl rfl) rfl .h Nw (fun w65=>?_)
   refine bnd hF fun r66 aAB hF=>ni (M0 aAB) (fun p68=>?_)
   refine iq rfl .no rfl (fun ha=>bV (g:=true) (len:=1) (parts:=[(0,.tmp 48)]) dX.h dA.h (.cons (EN ha (.tmp rfl rfl) rfl) .nil) (vs:=[(zg [(zi r66.Rel),p68.1.v])]) rfl rfl rfl (by intro v hv; simp at hv; rcases hv with rfl<;>rfl)) (fun k69=>?_)
   refine jF (.cons .h (.cons .h .nil)) (bY (Ro:=fP) (E:=147) (F:=(p68.2++[])) (xs:=([r66]:List Fact)) (eF zK bX dm) rfl rfl) ?_
   refine bnd hF fun z70 aAC hF=>df rfl rfl .no (.cons .q7 (.cons .h .nil)) (.dep rfl .nil) (fun ha=>ek (Ro:=fP) dX.h CK dA.h rfl rfl rfl (EN ha (.tmp rfl rfl) rfl) (EN ha (.tmp rfl rfl) rfl) aAC fM) (fun p72=>?_)
   refine cB ?_
   cases hF
   exact⟨_,_,p72.1,p72.2,_,rfl,ay,ax⟩
 rintro _ _ ⟨c75,yZ,v76,K_,g80,rfl,rfl,hE⟩
 replace hF:=aAA
 try dsimp only at hF
 refine bH hE ?_
 refine aX ?_
 rw[wk k13]
 exact⟨_,bO _,_,k13+1,BM,_,_,v76,K_,rfl,ay,aAz,ax,hF⟩
def D_(nL:List Int)(nM:List Int)(c212:List Fact)(tu:Atom):Nat->(List Int)->Int->Option ((List Fact))
 |0,_,_=>none
 |Kv+1,xh,Kw=>if (decide ((Kw:Int)<(tu.Terms.length:Int)))then (
     (ix tu.Terms Kw).bind fun alL=>
     (AX (⟨nL,nM⟩:aS) alL).bind fun Zg=>
     (app xh ([Zg]:List Int)).bind fun alM=>
     D_ nL nM c212 tu Kv alM (IntKind.i64.wrap (Kw+1)))
   else (
     (vB c212 (⟨tu.Rel,xh⟩:Fact)).bind fun alN=>
     some alN)
def Hz(nL:List Int)(nM:List Int):List Atom->Nat->(List Fact)->Option ((List Fact)×aS×Bool)
 |[],yI,c212=>some (c212,(⟨nL,nM⟩:aS),true)
 |tu::Bo,yI,c212=>(D_ nL nM c212 tu (((tu.Terms.length:Int)-0).toNat+2) ([]:List Int) 0).bind fun Zh=>
   match Zh with
   |Ui=>Hz nL nM Bo (yI+1) Ui
def HV(r3:(List Int)):Nat->Int->Option (Int)
 |0,_=>none
 |Ky+1,Gp=>(Bj r3 Gp).bind fun alO=>
   if alO then (
     HV r3 Ky (IntKind.i64.wrap (Gp+1)))
   else (
     some Gp)
def Ea(ak:aV)(r3:(List Int))(fuel:Nat):List Int->Nat->(List Int)->(List Int)->Int->Option ((List Fact)×aS×Bool)
 |[],xk,nL,nM,c198=>Hz nL nM ak.Atoms 0 ([]:List Fact)
 |alP::Bp,xk,nL,nM,c198=>(((HV r3 fuel c198).bind fun Zi=>
     match Zi with
     |Kz=>if (decide ((9:Int)<Kz))then (
         some (.inl (([]:List Fact),(⟨[],[]⟩:aS),false)))
       else (
         (E5 (⟨nL,nM⟩:aS) alP Kz).bind fun adU=>
         some (.inr (adU.Vars,adU.Values,(IntKind.i64.wrap (Kz+1)))))):Option (Sum ((List Fact)×aS×Bool) ((List Int)×(List Int)×Int))).bind fun adV=>
   match adV with
   | .inl r=>some r
   | .inr (Uj,Uk,Ul)=>Ea ak r3 fuel Bp (xk+1) Uj Uk Ul
def IB(fuel:Nat)(ak:aV):Option ((List Fact)×aS×Bool):=
 (Eg ak).bind fun r3=>
 (Nl ak).bind fun r6=>
 Ea ak r3 fuel r6 0 ([]:List Int) ([]:List Int) 0
theorem aas{fuel:Nat}{ak:aV}{aa aM:Sv}{R:(List Fact)×aS×Bool}(hF:IB fuel ak=some R):
   Fw.Spec Tryz.prog 80 [(zg [aa.v,aM.v])] [ag aa ak.Head,bZ aM ak.Atoms] (fun p:Sv×List Nat×Sv×List Nat×Sv×List Nat=>(.tuple [p.1.v,(zg [p.2.2.1.v,p.2.2.2.2.1.v]),(.bool R.2.2)].toArray)) (fun p=>[fV p.2.1 p.1 R.1,a_ p.2.2.2.1 p.2.2.1 R.2.1.Vars,a_ p.2.2.2.2.2 p.2.2.2.2.1 R.2.1.Values]):=by
 refine Se 90 Tryz.func80 [.tmp 2,.cell 3 136,.tmp 4] ?_
 intro H0 F0
 unfold IB at hF
 refine au ?_
 refine bM (fun k1=>?_)
 refine au ?_
 refine dJ (fun k2=>?_)
 refine aP ?_
 refine bnd hF fun r3 hx4 hF=>fq (V3 hx4) (fun p5=>?_)
 refine aP ?_
 refine bnd hF fun r6 hx7 hF=>fq (agC hx7) (fun p8=>?_)
 refine bC ?_
 refine aO (gy dY.h rfl (vs:=[]) .nil (cells:=[(.slice none 0 0),(.slice none 0 0)]) rfl) ?_
 refine dJ (fun k9=>?_)
 refine As (.agg ([(.slice none 0 0),(.slice none 0 0)]:List Value).toArray) ?_
 refine eD ?_
 refine aY (jM (.t .h) bq ?_)
 refine bK (m:=r6.length) (fun alQ f' cs'=>∃(g:Fr)(xk:Nat)(Bp nL nM:List Int)(c198:Int)(v193:Sv)(Gq:List Nat)(v196:Sv)(Gr:List Nat),alQ=Bp.length/\f'=aN g [(1,(pz k1)),(3,(pz k2)),(5,p5.1.v),(6,p8.1.v),(7,(pz k9)),(8,(zi c198)),(9,(zi (xk:Int)))]/\List.drop xk r6=Bp/\aK cs' [aQ k1 39 (zg [aa.v,aM.v]),ag aa ak.Head,bZ aM ak.Atoms,bS k2 136 (.agg ([(.slice none 0 0),(.slice none 0 0)]:List Value).toArray),a_ p5.2 p5.1 r3,ag p8.1 r6,bS k9 136 (zg [v193.v,v196.v]),a_ Gq v193 nL,a_ Gr v196 nM]/\Ea ak r3 fuel Bp xk nL nM c198=some R) ⟨_,0,_,_,_,_,⟨none,0,0⟩,[],⟨none,0,0⟩,[],rfl,ay,rfl,(.conv .nil (fH (Ro:=(aj aH)) (E:=3)) (.cons .nil) (.conv .nil (fH (Ro:=(aj aH)) (E:=3)) (.cons .nil) ax)),hF⟩ ?_
 rintro alQ _ _ ⟨aG4,xk,Bp,nL,nM,c198,v193,Gq,v196,Gr,rfl,rfl,aky,hE,hF⟩
 refine Kb hE r6 (fun aCQ=>?_)
 rcases Bp with _|⟨alP,Bp⟩
 · have axS:=dn aky
   rw[Ea]at hF
   refine bF ?_
   refine cO ?_
   refine aX ?_
   refine dx rfl (bV (g:=true) dX.h dA.h .nil (vs:=[]) rfl rfl rfl (by simp)) (fun Gs=>?_)
   refine dH (.cons .h .nil) (bY (Ro:=fP) (E:=147) (F:=[]) (xs:=([]:List Fact)) bX rfl rfl) ?_
   refine bu ?_
   refine aY (bK (m:=ak.Atoms.length) (fun alR f' cs'=>∃(g:Fr)(yI:Nat)(Bo:List Atom)(c212:List Fact)(Og:Sv)(Zj:List Nat),alR=Bo.length/\f'=aN g [(1,(pz k1)),(3,(pz k2)),(7,(pz k9)),(10,Og.v),(11,(zi (yI:Int)))]/\List.drop yI ak.Atoms=Bo/\aK cs' [aQ k1 39 (zg [aa.v,aM.v]),ag aa ak.Head,bZ aM ak.Atoms,bS k2 136 (.agg ([(.slice none 0 0),(.slice none 0 0)]:List Value).toArray),bS k9 136 (zg [v193.v,v196.v]),a_ Gq v193 nL,a_ Gr v196 nM,fV Zj Og c212]/\Hz nL nM Bo yI c212=some R) ⟨_,0,_,_,⟨(some ⟨Gs,0,none⟩),0,1⟩,(Gs::[]),rfl,ay,rfl,ax,hF⟩ ?_)
   rintro alR _ _ ⟨aG5,yI,Bo,c212,Og,Zj,rfl,rfl,akz,hE,hF⟩
   refine Kb hE ak.Atoms (fun aCR=>?_)
   rcases Bo with _|⟨tu,Bo⟩
   · have axT:=dn akz
     rw[Hz]at hF
     refine eD ?_
     refine cO ?_
     refine aP ?_
     refine dS [0,1,2,3,4] [0,0,1,7,15] [3] mixed (by decide+kernel) ?_
     refine du ?_
     refine ed rfl .no .q4 (fun ha hp=>jw jC.h dY.h.sz rfl (EN ha (.tmp rfl rfl) rfl) hp.2 rfl) ?_
     refine du ?_
     refine df rfl rfl .no (.cons .q3 .nil) (.dep rfl .nil) (fun ha=>gF (e':=(zg [v193.v,v196.v])) (v:=(zg [v193.v,v196.v])) dY.h.sz (EN ha (.tmp rfl rfl) rfl) (EN ha (.tmp rfl rfl) rfl) rfl rfl rfl rfl rfl) (fun _=>?_)
     refine cB ?_
     refine au ?_
     cases hF
     exact gL (Og,Zj,v193,Gq,v196,Gr) (.tmp rfl rfl (.cellA rfl rfl .h rfl jC.h dY.h.sz rfl rfl (.tmp rfl rfl .nil))) rfl (.sel (.cons .q7 (.cons .q5 (.cons .q5 .nil))))
   obtain⟨axT,acI,axU⟩:=bW akz
   rw[Hz]at hF
   refine eD ?_
   refine cK ?_
   refine au ?_
   obtain⟨Zh,auk,axV⟩:=bind_some hF
   refine fD (fun f' cs'=>∃(Ui:List Fact)(Zk:Sv)(adW:List Nat)(g:Fr),Ui=Zh/\f'=aN g [(1,(pz k1)),(3,(pz k2)),(7,(pz k9)),(10,Zk.v),(11,(zi (yI:Int)))]/\aK cs' [aQ k1 39 (zg [aa.v,aM.v]),ag aa ak.Head,bZ aM ak.Atoms,bS k2 136 (.agg ([(.slice none 0 0),(.slice none 0 0)]:List Value).toArray),bS k9 136 (zg [v193.v,v196.v]),a_ Gq v193 nL,a_ Gr v196 nM,fV adW Zk Ui]) ?_ ?_
   · replace hF:=auk
     refine aY (cu (aO (gU (off:=1) ab'.h (.tmp rfl rfl)) ?_))
     refine bg ?_
     refine Ai acI (fun z_ aG6=>?_)
     refine au ?_
     refine Al abK ?_
     refine aO (gy dA.h rfl (vs:=[(zi tu.Rel)]) bN (cells:=[(zi tu.Rel),(.slice none 0 0)]) rfl) ?_
     refine dJ (fun alS=>?_)
     refine As (zg [(zi tu.Rel),(.slice none 0 0)]) ?_
     refine aX ?_
     refine aY (bK (m:=(((tu.Terms.length:Int)-0).toNat+2)) (fun Kv f' cs'=>∃(g:Fr)(xh:List Int)(Kw:Int)(CS:Sv)(Oh:List Nat),f'=aN g [(1,(pz k1)),(3,(pz k2)),(7,(pz k9)),(10,Og.v),(11,(zi (yI:Int))),(12,(pz alS)),(13,(zi Kw))]/\aK cs' [aQ k1 39 (zg [aa.v,aM.v]),ag aa ak.Head,bZ aM ak.Atoms,bS k2 136 (.agg ([(.slice none 0 0),(.slice none 0 0)]:List Value).toArray),bS k9 136 (zg [v193.v,v196.v]),a_ Gq v193 nL,a_ Gr v196 nM,fV Zj Og c212,bS alS 147 (zg [(zi tu.Rel),CS.v]),a_ Oh CS xh]/\D_ nL nM c212 tu Kv xh Kw=some Zh) ⟨_,_,_,⟨none,0,0⟩,[],ay,(.conv .nil (fH (Ro:=(aj aH)) (E:=3)) (.cons .nil) ax),hF⟩ ?_)
     rintro Kv _ _ ⟨aG7,xh,Kw,CS,Oh,rfl,hE,hF⟩
     refine bH hE ?_
     rcases Kv with _|Kv
     · rw[D_]at hF
       exact absurd hF (by simp)
     rw[D_]at hF
     refine bu ?_
     refine Ai acI (fun aG8 aG9=>?_)
     refine au ?_
     refine wP (R':=(aI 3 aH)) iF.h (.tmp rfl rfl) .h xW (fun aG_=>?_)
     refine bC ?_
     refine Ci hF (fun axW hF=>?_) (fun axW hF=>?_)
     · refine bg ?_
       refine kM [0,1,2,3,4,5,6,7,8,9,10,11,12,13,14,15,16] [0,1,0,0,8,0,56,120,248,0,1016,2040,4092,8188,16383,32767,65535] [12,14,16] mixed (by decide+kernel) ?_
       refine du ?_
       refine ed rfl .no .q10 (fun ha hp=>fI (v:=CS.v) iF.h (EN ha (.tmp rfl rfl) rfl) hp.2 rfl rfl) ?_
       refine ed rfl .no .q6 (fun ha hp=>jw jC.h dY.h.sz rfl (EN ha (.tmp rfl rfl) rfl) hp.2 rfl) ?_
       refine fT ?_
       refine Di acI (fun aG' aHa=>?_)
       refine du ?_
       refine uA (R':=(aI 3 aH)) iF.h rfl .no (.tmp rfl rfl) rfl .h xW (fun aHb=>?_)
       refine du ?_
       refine zI hF fun alL aEo axX hF=>?_
       refine Di axX (fun aHc aHd=>?_)
       refine Dl dG ?_
       refine bnd hF fun Zg axY hF=>qB rfl rfl .no (.cons .q11 (.cons .q10 .nil)) (.dep rfl (.own .q11 (fun _ h=>h) .nil)) (fun ha=>jy (pre:=[]) (.cons bq (.cons bq .nil)) (fun _=>.nil) (bU aj9.h (.cons (EN ha (.tmp rfl rfl) rfl) (.cons (EN ha (.tmp rfl rfl) rfl) .nil)) (aaG axY))) (fun _=>?_)
       refine iq rfl .no rfl (fun ha=>bV (g:=true) (len:=1) (parts:=[(0,.tmp 81)]) cz.h cZ.h (.cons (EN ha (.tmp rfl rfl) rfl) .nil) (vs:=[(zi Zg)]) rfl rfl rfl (by intro v hv; simp at hv; rcases hv with rfl<;>rfl)) (fun aHe=>?_)
       refine jF (.cons .h .nil) (bY (Ro:=(aj aH)) (E:=3) (F:=([]++[])) (xs:=([Zg]:List Int)) (eF (jd (fun _=>rfl)) bX dm) rfl rfl) ?_
       refine bnd hF fun alM axZ hF=>df rfl rfl .no (.cons (.t (.t (.t (.t (.t (.t (.t (.t (.t (.t (.t (.t (.t (.t (.t .h))))))))))))))) (.cons .h .nil)) (.dep rfl (.dep rfl (.dep rfl .nil))) (fun ha=>ek (Ro:=(aj aH)) cz.h iL cZ.h rfl rfl rfl (EN ha (.tmp rfl rfl) rfl) (EN ha (.tmp rfl rfl) rfl) axZ fM) (fun adX=>?_)
       refine du ?_
       refine df rfl rfl .no (.cons .q14 .nil) (.dep rfl (.dep rfl (.dep rfl .nil))) (fun ha=>gF (e':=(zg [(zi tu.Rel),adX.1.v])) lQ.h.sz (EN ha (.tmp rfl rfl) rfl) (EN ha (.tmp rfl rfl) rfl) rfl rfl rfl rfl rfl) (fun _=>?_)
       refine du ?_
       refine aX ?_
       exact⟨Kv,bO _,_,_,_,adX.1,adX.2,ay,ax,hF⟩
     refine bF ?_
     refine bnd hF fun alN ax0 hF=>Gl (.cons .q11 (.cons .q9 .nil)) (jy (pre:=[]) (.cons bq (.cons bq .nil)) (fun _=>(.cons .nil)) (bU Ke.h bN (II ax0))) (fun alT=>?_)
     refine bg ?_
     cases hF
     exact⟨_,alT.1,alT.2,_,rfl,ay,ax⟩
   rintro _ _ ⟨Ui,Zk,adW,aHf,rfl,rfl,hE⟩
   replace hF:=axV
   try dsimp only at hF
   refine bH hE ?_
   refine aX ?_
   rw[wk yI]
   exact⟨_,bO _,_,yI+1,Bo,_,Zk,adW,rfl,ay,axU,ax,hF⟩
 obtain⟨axS,ax1,ax2⟩:=bW aky
 rw[Ea]at hF
 refine bF ?_
 refine cK ?_
 refine au ?_
 obtain⟨adV,aul,akA⟩:=bind_some hF
 refine fD (fun f' cs'=>∃(Uj Uk:List Int)(Ul:Int)(Zl:Sv)(adY:List Nat)(Zm:Sv)(adZ:List Nat)(g:Fr),adV= .inr (Uj,Uk,Ul)/\f'=aN g [(1,(pz k1)),(3,(pz k2)),(5,p5.1.v),(6,p8.1.v),(7,(pz k9)),(8,(zi Ul)),(9,(zi (xk:Int)))]/\aK cs' [aQ k1 39 (zg [aa.v,aM.v]),ag aa ak.Head,bZ aM ak.Atoms,bS k2 136 (.agg ([(.slice none 0 0),(.slice none 0 0)]:List Value).toArray),a_ p5.2 p5.1 r3,ag p8.1 r6,bS k9 136 (zg [Zl.v,Zm.v]),a_ adY Zl Uj,a_ adZ Zm Uk]) ?_ ?_
 · replace hF:=aul
   refine aY ?_
   obtain⟨Zi,aum,ax3⟩:=bind_some hF
   refine fD (fun f' cs'=>∃(Kz:Int)(g:Fr),Kz=Zi/\f'=aN g [(1,(pz k1)),(3,(pz k2)),(5,p5.1.v),(6,p8.1.v),(7,(pz k9)),(8,(zi Kz)),(9,(zi (xk:Int)))]/\aK cs' [aQ k1 39 (zg [aa.v,aM.v]),ag aa ak.Head,bZ aM ak.Atoms,bS k2 136 (.agg ([(.slice none 0 0),(.slice none 0 0)]:List Value).toArray),a_ p5.2 p5.1 r3,ag p8.1 r6,bS k9 136 (zg [v193.v,v196.v]),a_ Gq v193 nL,a_ Gr v196 nM]) ?_ ?_
   · replace hF:=aum
     refine aY (bK (m:=fuel) (fun Ky f' cs'=>∃(g:Fr)(Gp:Int),f'=aN g [(1,(pz k1)),(3,(pz k2)),(5,p5.1.v),(6,p8.1.v),(7,(pz k9)),(8,(zi Gp)),(9,(zi (xk:Int)))]/\aK cs' [aQ k1 39 (zg [aa.v,aM.v]),ag aa ak.Head,bZ aM ak.Atoms,bS k2 136 (.agg ([(.slice none 0 0),(.slice none 0 0)]:List Value).toArray),a_ p5.2 p5.1 r3,ag p8.1 r6,bS k9 136 (zg [v193.v,v196.v]),a_ Gq v193 nL,a_ Gr v196 nM]/\HV r3 Ky Gp=some Zi) ⟨_,_,ay,ax,hF⟩ ?_)
     rintro Ky _ _ ⟨aHg,Gp,rfl,hE,hF⟩
     refine bH hE ?_
     rcases Ky with _|Ky
     · rw[HV]at hF
       exact absurd hF (by simp)
     rw[HV]at hF
     refine aP ?_
     refine bnd hF fun alO ax4 hF=>dU (.cons .q4 .nil) (gH bq (fun _=>.nil) (bU YZ.h bN (Qb ax4))) (fun _=>?_)
     refine au ?_
     refine Ci hF (fun ax5 hF=>?_) (fun ax5 hF=>?_)
     · refine au ?_
       refine aY (nQ (Cm (zi Gp) rfl rfl ?_))
       refine bC ?_
       exact⟨Ky,bO _,_,_,ay,ax,hF⟩
     exact dw hF
   rintro _ _ ⟨Kz,aHh,rfl,rfl,hE⟩
   replace hF:=ax3
   try dsimp only at hF
   refine bH hE ?_
   refine aX ?_
   refine Ci hF (fun ax6 hF=>?_) (fun ax6 hF=>?_)
   · refine au ?_
     refine dx rfl (bV (g:=true) dX.h dA.h .nil (vs:=[]) rfl rfl rfl (by simp)) (fun alU=>?_)
     refine dH (.cons .h .nil) (bY (Ro:=fP) (E:=147) (F:=[]) (xs:=([]:List Fact)) bX rfl rfl) ?_
     refine aO (gy dY.h rfl (vs:=[]) .nil (cells:=[(.slice none 0 0),(.slice none 0 0)]) rfl) ?_
     refine au ?_
     refine As (.agg ([(.slice none 0 0),(.slice none 0 0)]:List Value).toArray) ?_
     refine bC ?_
     cases hF
     replace hF:=akA
     try dsimp only at hF
     cases hF
     exact gL (⟨(some ⟨alU,0,none⟩),0,1⟩,(alU::[]),⟨none,0,0⟩,[],⟨none,0,0⟩,[]) (.tmp rfl rfl (.cellA rfl rfl .h rfl jC.h dY.h.sz rfl rfl (.tmp rfl rfl .nil))) rfl (.conv .nil (fH (Ro:=(aj aH)) (E:=3)) (.cons .nil) (.conv .nil (fH (Ro:=(aj aH)) (E:=3)) (.cons .nil) (.sel (.cons .q3 (.cons (.t .h) (.cons .h .nil))))))
   refine au ?_
   refine dS [0,1,2,3,4,5,6,7] [0,0,0,6,14,0,63,127] [6,7] mixed (by decide+kernel) ?_
   refine ed rfl .no .q6 (fun ha hp=>jw jC.h dY.h.sz rfl (EN ha (.tmp rfl rfl) rfl) hp.2 rfl) ?_
   refine cB ?_
   refine Di ax1 (fun aHi aHj=>?_)
   refine Dl dG ?_
   refine du ?_
   refine bnd hF fun adU ax7 hF=>Fx rfl rfl .no (.cons .q9 (.cons .q8 .nil)) (.dep rfl .nil) (fun ha=>jy (pre:=[]) (.cons bq (.cons bq .nil)) (fun _=>(.cons (.cons .nil))) (bU aj8.h (.cons (EN ha (.tmp rfl rfl) rfl) (.cons (EN ha (.tmp rfl rfl) rfl) (.cons (EN ha (.tmp rfl rfl) rfl) .nil))) (agE ax7))) (fun Gt=>?_)
   refine df rfl rfl .no (.cons .q11 .nil) (.dep rfl .nil) (fun ha=>gF (e':=(zg [Gt.1.v,Gt.2.2.1.v])) (v:=(zg [Gt.1.v,Gt.2.2.1.v])) dY.h.sz (EN ha (.tmp rfl rfl) rfl) (EN ha (.tmp rfl rfl) rfl) rfl rfl rfl rfl rfl) (fun _=>?_)
   refine du ?_
   refine aX ?_
   cases hF
   exact⟨_,_,_,Gt.1,Gt.2.1,Gt.2.2.1,Gt.2.2.2,_,rfl,ay,ax⟩
 rintro _ _ ⟨Uj,Uk,Ul,Zl,adY,Zm,adZ,aHk,rfl,rfl,hE⟩
 replace hF:=akA
 try dsimp only at hF
 refine bH hE ?_
 refine aX ?_
 rw[wk xk]
 exact⟨_,bO _,_,xk+1,Bp,_,_,_,Zl,adY,Zm,adZ,rfl,ay,ax2,ax,hF⟩
end Go.Proofs.YtdmapdjncfkhhaaGreatDoor
