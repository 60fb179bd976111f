/-
  Functions of the program as Lean functions, and that the calls return what these say: part 1. No conditions.
-/
import Derived.Test.YtdmapdjncfkhhaaGreatDoorFc
import Derived.Shelf.Sort.Plain
import Derived.Shelf.Slices.In.SortNone
import Derived.Shelf.Slices.CompactI
import Derived.Shelf.Strings.OnBuilder
import Derived.Shelf.Strconv.Itoa3
import Derived.Test.YtdmapdjncfkhhaaGreatDoorProg
import Derived.KernelRfl
set_option maxRecDepth 100000
set_option maxHeartbeats 1000000
set_option linter.unusedVariables false
namespace Go.Proofs.YtdmapdjncfkhhaaGreatDoor
open Go Go.Fw

theorem dF{G:Prop}(h:G:=by (unfold FD; kernel_rfl)):G:=h
theorem ic{G:Prop}(h:G:=by (unfold AG; kernel_rfl)):G:=h
theorem mG{G:Prop}(h:G:=by (unfold SL; kernel_rfl)):G:=h
theorem iH{G:Prop}(h:G:=by (unfold TY; kernel_rfl)):G:=h
instance:bT Tryz.prog:=⟨fun w=>Lib.TabIs Tryz.prog w "internal/strconv.uint64pow10" .u64 Lib.pow10Tab⟩
structure Method where
 Rel:Int
 Inputs:List Int
 Limit:Int
 Cost:Int
 Quota:Int
structure dG where
 From:Int
 To:Int
 Map:List Int
structure Fact where
 Rel:Int
 Values:List Int
structure Source where
 Facts:List Fact
 Version:Int
structure Access where
 Method:Int
 Values:List Int
structure eH where
 Access:Access
 Facts:List Fact
 At:Int
structure Cache where
 Entries:List eH
 Age:Int
structure gV where
 Schema:List Int
 Methods:List Method
 Rules:List dG
 Source:Source
 Cache:Cache
 Now:Int
 Log:List Access
 Times:List Int
 Spent:Int
 Results:List (List (List Int))
structure Atom where
 Rel:Int
 Terms:List Int
structure Query where
 Head:List Int
 Atoms:List Atom
instance atI:f_ Tryz.prog 55 12 224 (.agg [(.slice none 0 0),(.slice none 0 0),(.slice none 0 0),(.slice none 0 0),(.int .i64 0),(.slice none 0 0),(.int .i64 0),(.int .i64 0),(.slice none 0 0),(.slice none 0 0),(.int .i64 0),(.slice none 0 0)].toArray):=⟨iH⟩
instance atJ:f_ Tryz.prog 27 2 48 (.agg [(.slice none 0 0),(.slice none 0 0)].toArray):=⟨iH⟩
instance aAn:fH Tryz.prog 55 true:=⟨ic⟩
instance aAo:aS Tryz.prog 18:=⟨Tryz.call18⟩
instance axg:dA Tryz.prog 55 0 0:=⟨dF⟩
instance ji:fH Tryz.prog 22 false:=⟨ic⟩
instance aAp:aS Tryz.prog 25:=⟨Tryz.call25⟩
instance dh:kQ Tryz.prog 22 3:=⟨mG⟩
instance axh:dA Tryz.prog 55 1 1:=⟨dF⟩
instance aAq:fH Tryz.prog 23 false:=⟨ic⟩
instance cf5:aS Tryz.prog 5:=⟨Tryz.call5⟩
instance aAr:kQ Tryz.prog 23 72:=⟨mG⟩
def FN(H:aB)(v:Value)(a:Method):Prop:=∃v0:Sv,v= .agg [(.int .i64 a.Rel),v0.v,(.int .i64 a.Limit),(.int .i64 a.Cost),(.int .i64 a.Quota)].toArray/\(aJ 3 aK) H v0.v a.Inputs
instance:bE FN:=⟨fun h hi=>by
 obtain⟨v0,h,h0⟩:=h
 exact⟨v0,h,bE.up h0 hi⟩⟩
instance:Cells FN 5:=⟨fun h=>by
 obtain⟨v0,rfl,h0⟩:=h
 exact⟨rfl,rfl⟩⟩
instance atK:f_ Tryz.prog 72 5 56 (.agg [(.int .i64 0),(.slice none 0 0),(.int .i64 0),(.int .i64 0),(.int .i64 0)].toArray):=⟨iH⟩
def WW(a:Method)(p:Sv):List Value:=[(.int .i64 a.Rel),p.v,(.int .i64 a.Limit),(.int .i64 a.Cost),(.int .i64 a.Quota)]
theorem acv{a:Method}:∀H e,FN H e a-> ∃i:Sv,0+5<=e.cells.size/\(e.cells.toList.drop 0).take 5=WW a i/\ ∀c∈([bK (aJ 3 aK) i.v a.Inputs]:List aD),c.P H/\c.F=[]:=by
 intro H e h
 obtain⟨v0,rfl,h0⟩:=h
 refine⟨v0,Nat.le_of_ble_eq_true rfl,rfl,fun c hc=>by
   simp only[List.mem_cons,List.not_mem_nil,or_false]at hc
   rcases hc with rfl
   · exact⟨h0,rfl⟩
⟩
instance aAs:fH Tryz.prog 72 true:=⟨ic⟩
instance aAt:aS Tryz.prog 23:=⟨Tryz.call23⟩
instance axi:dA Tryz.prog 72 1 1:=⟨dF⟩
instance axj:dA Tryz.prog 55 2 2:=⟨dF⟩
instance aAu:fH Tryz.prog 24 false:=⟨ic⟩
instance cf6:aS Tryz.prog 6:=⟨Tryz.call6⟩
instance aAv:kQ Tryz.prog 24 75:=⟨mG⟩
def FO(H:aB)(v:Value)(a:dG):Prop:=∃v0:Sv,v= .agg [(.int .i64 a.From),(.int .i64 a.To),v0.v].toArray/\(aJ 3 aK) H v0.v a.Map
instance:bE FO:=⟨fun h hi=>by
 obtain⟨v0,h,h0⟩:=h
 exact⟨v0,h,bE.up h0 hi⟩⟩
instance:Cells FO 3:=⟨fun h=>by
 obtain⟨v0,rfl,h0⟩:=h
 exact⟨rfl,rfl⟩⟩
instance atL:f_ Tryz.prog 75 3 40 (.agg [(.int .i64 0),(.int .i64 0),(.slice none 0 0)].toArray):=⟨iH⟩
def WX(a:dG)(p:Sv):List Value:=[(.int .i64 a.From),(.int .i64 a.To),p.v]
theorem acw{a:dG}:∀H e,FO H e a-> ∃i:Sv,0+3<=e.cells.size/\(e.cells.toList.drop 0).take 3=WX a i/\ ∀c∈([bK (aJ 3 aK) i.v a.Map]:List aD),c.P H/\c.F=[]:=by
 intro H e h
 obtain⟨v0,rfl,h0⟩:=h
 refine⟨v0,Nat.le_of_ble_eq_true rfl,rfl,fun c hc=>by
   simp only[List.mem_cons,List.not_mem_nil,or_false]at hc
   rcases hc with rfl
   · exact⟨h0,rfl⟩
⟩
instance aAw:fH Tryz.prog 75 true:=⟨ic⟩
instance aAx:aS Tryz.prog 24:=⟨Tryz.call24⟩
instance axk:dA Tryz.prog 75 2 2:=⟨dF⟩
instance axl:dA Tryz.prog 55 3 3:=⟨dF⟩
instance afn:fH Tryz.prog 48 true:=⟨ic⟩
instance Yy:f_ Tryz.prog 48 2 32 (.agg [(.slice none 0 0),(.int .i64 0)].toArray):=⟨iH⟩
instance aAy:aS Tryz.prog 47:=⟨Tryz.call47⟩
instance axm:dA Tryz.prog 48 0 0:=⟨dF⟩
instance aAz:fH Tryz.prog 46 false:=⟨ic⟩
instance ax5:aS Tryz.prog 111:=⟨Tryz.call111⟩
instance aAA:kQ Tryz.prog 46 242:=⟨mG⟩
def xk(H:aB)(v:Value)(a:Fact):Prop:=∃v0:Sv,v= .agg [(.int .i64 a.Rel),v0.v].toArray/\(aJ 3 aK) H v0.v a.Values
instance:bE xk:=⟨fun h hi=>by
 obtain⟨v0,h,h0⟩:=h
 exact⟨v0,h,bE.up h0 hi⟩⟩
instance:Cells xk 2:=⟨fun h=>by
 obtain⟨v0,rfl,h0⟩:=h
 exact⟨rfl,rfl⟩⟩
instance aqe:f_ Tryz.prog 242 2 32 (.agg [(.int .i64 0),(.slice none 0 0)].toArray):=⟨iH⟩
def Wz(a:Fact)(p:Sv):List Value:=[(.int .i64 a.Rel),p.v]
theorem abL{a:Fact}:∀H e,xk H e a-> ∃i:Sv,0+2<=e.cells.size/\(e.cells.toList.drop 0).take 2=Wz a i/\ ∀c∈([bK (aJ 3 aK) i.v a.Values]:List aD),c.P H/\c.F=[]:=by
 intro H e h
 obtain⟨v0,rfl,h0⟩:=h
 refine⟨v0,Nat.le_of_ble_eq_true rfl,rfl,fun c hc=>by
   simp only[List.mem_cons,List.not_mem_nil,or_false]at hc
   rcases hc with rfl
   · exact⟨h0,rfl⟩
⟩
instance ax6:fH Tryz.prog 242 true:=⟨ic⟩
instance ax7:aS Tryz.prog 203:=⟨Tryz.call203⟩
instance awI:dA Tryz.prog 242 1 1:=⟨dF⟩
instance axn:dA Tryz.prog 55 4 5:=⟨dF⟩
instance afo:fH Tryz.prog 51 true:=⟨ic⟩
instance Yz:f_ Tryz.prog 51 2 32 (.agg [(.slice none 0 0),(.int .i64 0)].toArray):=⟨iH⟩
instance aAB:aS Tryz.prog 48:=⟨Tryz.call48⟩
instance axo:dA Tryz.prog 51 0 0:=⟨dF⟩
instance aAC:fH Tryz.prog 49 false:=⟨ic⟩
instance ax8:aS Tryz.prog 112:=⟨Tryz.call112⟩
instance aAD:kQ Tryz.prog 49 245:=⟨mG⟩
def Cq(H:aB)(v:Value)(a:eH):Prop:=∃v0 v1:Sv,v= .agg [(.int .i64 a.Access.Method),v0.v,v1.v,(.int .i64 a.At)].toArray/\(aJ 3 aK) H v0.v a.Access.Values/\(aJ 242 xk) H v1.v a.Facts
instance:bE Cq:=⟨fun h hi=>by
 obtain⟨v0,v1,h,h0,h1⟩:=h
 exact⟨v0,v1,h,bE.up h0 hi,bE.up h1 hi⟩⟩
instance:Cells Cq 4:=⟨fun h=>by
 obtain⟨v0,v1,rfl,h0,h1⟩:=h
 exact⟨rfl,rfl⟩⟩
instance aqf:f_ Tryz.prog 245 4 64 (.agg [(.int .i64 0),(.slice none 0 0),(.slice none 0 0),(.int .i64 0)].toArray):=⟨iH⟩
def WA(a:eH)(p:Sv×Sv):List Value:=[(.int .i64 a.Access.Method),p.1.v,p.2.v,(.int .i64 a.At)]
theorem abM{a:eH}:∀H e,Cq H e a-> ∃i:Sv×Sv,0+4<=e.cells.size/\(e.cells.toList.drop 0).take 4=WA a i/\ ∀c∈([bK (aJ 3 aK) i.1.v a.Access.Values,bK (aJ 242 xk) i.2.v a.Facts]:List aD),c.P H/\c.F=[]:=by
 intro H e h
 obtain⟨v0,v1,rfl,h0,h1⟩:=h
 refine⟨(v0,v1),Nat.le_of_ble_eq_true rfl,rfl,fun c hc=>by
   simp only[List.mem_cons,List.not_mem_nil,or_false]at hc
   rcases hc with rfl|rfl
   · exact⟨h0,rfl⟩
   · exact⟨h1,rfl⟩
⟩
instance ax9:fH Tryz.prog 245 true:=⟨ic⟩
instance ax_:aS Tryz.prog 204:=⟨Tryz.call204⟩
instance awJ:dA Tryz.prog 245 0 0:=⟨dF⟩
instance aez:fH Tryz.prog 169 true:=⟨ic⟩
instance X6:f_ Tryz.prog 169 2 32 (.agg [(.int .i64 0),(.slice none 0 0)].toArray):=⟨iH⟩
instance ax':aS Tryz.prog 113:=⟨Tryz.call113⟩
instance awK:dA Tryz.prog 169 1 1:=⟨dF⟩
instance awL:dA Tryz.prog 245 1 2:=⟨dF⟩
instance axp:dA Tryz.prog 55 6 8:=⟨dF⟩
instance aAE:fH Tryz.prog 52 false:=⟨ic⟩
instance aAF:aS Tryz.prog 49:=⟨Tryz.call49⟩
instance aAG:kQ Tryz.prog 52 169:=⟨mG⟩
def Fx(H:aB)(v:Value)(a:Access):Prop:=∃v0:Sv,v= .agg [(.int .i64 a.Method),v0.v].toArray/\(aJ 3 aK) H v0.v a.Values
instance:bE Fx:=⟨fun h hi=>by
 obtain⟨v0,h,h0⟩:=h
 exact⟨v0,h,bE.up h0 hi⟩⟩
instance:Cells Fx 2:=⟨fun h=>by
 obtain⟨v0,rfl,h0⟩:=h
 exact⟨rfl,rfl⟩⟩
def WB(a:Access)(p:Sv):List Value:=[(.int .i64 a.Method),p.v]
theorem abN{a:Access}:∀H e,Fx H e a-> ∃i:Sv,0+2<=e.cells.size/\(e.cells.toList.drop 0).take 2=WB a i/\ ∀c∈([bK (aJ 3 aK) i.v a.Values]:List aD),c.P H/\c.F=[]:=by
 intro H e h
 obtain⟨v0,rfl,h0⟩:=h
 refine⟨v0,Nat.le_of_ble_eq_true rfl,rfl,fun c hc=>by
   simp only[List.mem_cons,List.not_mem_nil,or_false]at hc
   rcases hc with rfl
   · exact⟨h0,rfl⟩
⟩
instance axq:dA Tryz.prog 55 7 9:=⟨dF⟩
instance axr:dA Tryz.prog 55 9 11:=⟨dF⟩
instance atM:fH Tryz.prog 53 false:=⟨ic⟩
instance aAH:aS Tryz.prog 50:=⟨Tryz.call50⟩
instance YA:kQ Tryz.prog 53 171:=⟨mG⟩
instance X7:f_ Tryz.prog 171 1 24 (.slice none 0 0):=⟨iH⟩
theorem Tj{a:List (List Int)}:∀H e,(aJ 22 (aJ 3 aK)) H e a-> ∃w:Sv,e.cells.toList[0]?=some w.v/\(aJ 22 (aJ 3 aK)) H w.v a:=by
 intro H e h
 obtain⟨a0,m,rfl⟩:=aJ.len h
 exact⟨⟨a0,_,m⟩,rfl,h⟩
instance TN:fH Tryz.prog 171 false:=⟨ic⟩
instance aya:aS Tryz.prog 114:=⟨Tryz.call114⟩
instance NU:kQ Tryz.prog 171 22:=⟨mG⟩
instance uf:f_ Tryz.prog 22 1 24 (.slice none 0 0):=⟨iH⟩
theorem Js{a:List Int}:∀H e,(aJ 3 aK) H e a-> ∃w:Sv,e.cells.toList[0]?=some w.v/\(aJ 3 aK) H w.v a:=by
 intro H e h
 obtain⟨a0,m,rfl⟩:=aJ.len h
 exact⟨⟨a0,_,m⟩,rfl,h⟩
instance aAI:fH Tryz.prog 27 true:=⟨ic⟩
instance cf7:aS Tryz.prog 7:=⟨Tryz.call7⟩
instance axs:dA Tryz.prog 27 0 0:=⟨dF⟩
instance axt:dA Tryz.prog 27 1 1:=⟨dF⟩
instance aAJ:fH Tryz.prog 25 false:=⟨ic⟩
instance aAK:aS Tryz.prog 26:=⟨Tryz.call26⟩
instance aAL:kQ Tryz.prog 25 119:=⟨mG⟩
def Fy(H:aB)(v:Value)(a:Atom):Prop:=∃v0:Sv,v= .agg [(.int .i64 a.Rel),v0.v].toArray/\(aJ 3 aK) H v0.v a.Terms
instance:bE Fy:=⟨fun h hi=>by
 obtain⟨v0,h,h0⟩:=h
 exact⟨v0,h,bE.up h0 hi⟩⟩
instance:Cells Fy 2:=⟨fun h=>by
 obtain⟨v0,rfl,h0⟩:=h
 exact⟨rfl,rfl⟩⟩
instance aqg:f_ Tryz.prog 119 2 32 (.agg [(.int .i64 0),(.slice none 0 0)].toArray):=⟨iH⟩
def WC(a:Atom)(p:Sv):List Value:=[(.int .i64 a.Rel),p.v]
theorem abO{a:Atom}:∀H e,Fy H e a-> ∃i:Sv,0+2<=e.cells.size/\(e.cells.toList.drop 0).take 2=WC a i/\ ∀c∈([bK (aJ 3 aK) i.v a.Terms]:List aD),c.P H/\c.F=[]:=by
 intro H e h
 obtain⟨v0,rfl,h0⟩:=h
 refine⟨v0,Nat.le_of_ble_eq_true rfl,rfl,fun c hc=>by
   simp only[List.mem_cons,List.not_mem_nil,or_false]at hc
   rcases hc with rfl
   · exact⟨h0,rfl⟩
⟩
instance ayb:fH Tryz.prog 119 true:=⟨ic⟩
instance aAM:aS Tryz.prog 65:=⟨Tryz.call65⟩
instance awM:dA Tryz.prog 119 1 1:=⟨dF⟩
theorem mixed:Tryz.prog.follows .mixedOrders=true:=by kernel_rfl
instance atN:aS Tryz.prog 20:=⟨Tryz.call20⟩
instance afp:f_ Tryz.prog 66 12 224 (.agg [(.slice none 0 0),(.slice none 0 0),(.slice none 0 0),(.slice none 0 0),(.int .i64 0),(.slice none 0 0),(.int .i64 0),(.int .i64 0),(.slice none 0 0),(.slice none 0 0),(.int .i64 0),(.slice none 0 0)].toArray):=⟨iH⟩
instance cf9:aS Tryz.prog 9:=⟨Tryz.call9⟩
instance dw:f_ Tryz.prog 3 1 8 (.int .i64 0):=⟨iH⟩
theorem bY{a:Int}:∀H e,aK H e a->e.cells.toList[0]?=some (.int .i64 a):=by
 intro H e h
 subst h
 rfl
instance rP:fH Tryz.prog 3 false:=⟨ic⟩
instance TF:dA Tryz.prog 66 0 0:=⟨dF⟩
instance aAN:aS Tryz.prog 10:=⟨Tryz.call10⟩
instance ug:kQ Tryz.prog 33 89:=⟨mG⟩
instance sD:f_ Tryz.prog 89 5 56 (.agg [(.int .i64 0),(.slice none 0 0),(.int .i64 0),(.int .i64 0),(.int .i64 0)].toArray):=⟨iH⟩
def ma(H:aB)(v:Value)(a:Method):Prop:=∃v0:Sv,v= .agg [(.int .i64 a.Rel),v0.v,(.int .i64 a.Limit),(.int .i64 a.Cost),(.int .i64 a.Quota)].toArray/\(aJ 3 aK) H v0.v a.Inputs
instance:bE ma:=⟨fun h hi=>by
 obtain⟨v0,h,h0⟩:=h
 exact⟨v0,h,bE.up h0 hi⟩⟩
instance:Cells ma 5:=⟨fun h=>by
 obtain⟨v0,rfl,h0⟩:=h
 exact⟨rfl,rfl⟩⟩
def xH:gB Method:=fun F H v a=>∃(v0:Sv)(F0:List Nat),v= .agg [(.int .i64 a.Rel),v0.v,(.int .i64 a.Limit),(.int .i64 a.Cost),(.int .i64 a.Quota)].toArray/\F0=F/\(aP 3 (aG aK)) F0 H v0.v a.Inputs
instance:eu xH:=⟨fun h hi hg=>by
 obtain⟨v0,F0,rfl,rfl,h0⟩:=h
 exact⟨v0,F0,rfl,rfl,eu.keep h0 hi (fun k hk=>hg k (by simp[hk]))⟩⟩
instance:Local xH:=⟨fun h hg=>by
 obtain⟨v0,F0,rfl,rfl,h0⟩:=h
 exact⟨v0,F0,rfl,rfl,Local.keep h0 (fun k hk=>hg k (by simp[hk]))⟩⟩
instance:jK xH:=⟨fun h k hk=>by
 obtain⟨v0,F0,rfl,rfl,h0⟩:=h
 exact jK.owns h0 k hk
⟩
instance:mX xH 5:=⟨fun h=>by
 obtain⟨v0,F0,rfl,rfl,h0⟩:=h
 exact⟨rfl,rfl⟩⟩
instance:jM xH ma:=⟨fun h hg=>by
 obtain⟨v0,F0,rfl,rfl,h0⟩:=h
 exact⟨v0,rfl,jM.frz h0 (fun k hk=>hg k (by simp[hk]))⟩⟩
instance aAO:aS Tryz.prog 34:=⟨Tryz.call34⟩
instance axu:dA Tryz.prog 72 0 0:=⟨dF⟩
instance axv:dA Tryz.prog 89 0 0:=⟨dF⟩
instance axw:dA Tryz.prog 89 1 1:=⟨dF⟩
instance axx:dA Tryz.prog 72 2 2:=⟨dF⟩
instance axy:dA Tryz.prog 89 2 2:=⟨dF⟩
instance axz:dA Tryz.prog 72 3 3:=⟨dF⟩
instance axA:dA Tryz.prog 89 3 3:=⟨dF⟩
instance axB:dA Tryz.prog 72 4 4:=⟨dF⟩
instance axC:dA Tryz.prog 89 4 4:=⟨dF⟩
instance atO:fH Tryz.prog 89 true:=⟨ic⟩
theorem atP{a:Method}{v0:Sv}{F0:List Nat}:Mk xH F0 (.agg [(.int .i64 a.Rel),v0.v,(.int .i64 a.Limit),(.int .i64 a.Cost),(.int .i64 a.Quota)].toArray) a [aQ (aP 3 (aG aK)) F0 v0.v a.Inputs]:=
 ⟨fun H h=>⟨v0,F0,rfl,rfl,h (aQ (aP 3 (aG aK)) F0 v0.v a.Inputs) (by simp)⟩,by simp[aQ]⟩
instance adY:dA Tryz.prog 66 1 1:=⟨dF⟩
instance aAP:f_ Tryz.prog 33 1 24 (.slice none 0 0):=⟨iH⟩
instance aAQ:aS Tryz.prog 11:=⟨Tryz.call11⟩
instance afq:kQ Tryz.prog 35 91:=⟨mG⟩
instance YB:f_ Tryz.prog 91 3 40 (.agg [(.int .i64 0),(.int .i64 0),(.slice none 0 0)].toArray):=⟨iH⟩
def JH(H:aB)(v:Value)(a:dG):Prop:=∃v0:Sv,v= .agg [(.int .i64 a.From),(.int .i64 a.To),v0.v].toArray/\(aJ 3 aK) H v0.v a.Map
instance:bE JH:=⟨fun h hi=>by
 obtain⟨v0,h,h0⟩:=h
 exact⟨v0,h,bE.up h0 hi⟩⟩
instance:Cells JH 3:=⟨fun h=>by
 obtain⟨v0,rfl,h0⟩:=h
 exact⟨rfl,rfl⟩⟩
def xI:gB dG:=fun F H v a=>∃(v0:Sv)(F0:List Nat),v= .agg [(.int .i64 a.From),(.int .i64 a.To),v0.v].toArray/\F0=F/\(aP 3 (aG aK)) F0 H v0.v a.Map
instance:eu xI:=⟨fun h hi hg=>by
 obtain⟨v0,F0,rfl,rfl,h0⟩:=h
 exact⟨v0,F0,rfl,rfl,eu.keep h0 hi (fun k hk=>hg k (by simp[hk]))⟩⟩
instance:Local xI:=⟨fun h hg=>by
 obtain⟨v0,F0,rfl,rfl,h0⟩:=h
 exact⟨v0,F0,rfl,rfl,Local.keep h0 (fun k hk=>hg k (by simp[hk]))⟩⟩
instance:jK xI:=⟨fun h k hk=>by
 obtain⟨v0,F0,rfl,rfl,h0⟩:=h
 exact jK.owns h0 k hk
⟩
instance:mX xI 3:=⟨fun h=>by
 obtain⟨v0,F0,rfl,rfl,h0⟩:=h
 exact⟨rfl,rfl⟩⟩
instance:jM xI JH:=⟨fun h hg=>by
 obtain⟨v0,F0,rfl,rfl,h0⟩:=h
 exact⟨v0,rfl,jM.frz h0 (fun k hk=>hg k (by simp[hk]))⟩⟩
instance aAR:aS Tryz.prog 35:=⟨Tryz.call35⟩
instance axD:dA Tryz.prog 75 0 0:=⟨dF⟩
instance axE:dA Tryz.prog 91 0 0:=⟨dF⟩
instance axF:dA Tryz.prog 75 1 1:=⟨dF⟩
instance axG:dA Tryz.prog 91 1 1:=⟨dF⟩
instance axH:dA Tryz.prog 91 2 2:=⟨dF⟩
instance aAS:fH Tryz.prog 91 true:=⟨ic⟩
theorem atQ{a:dG}{v0:Sv}{F0:List Nat}:Mk xI F0 (.agg [(.int .i64 a.From),(.int .i64 a.To),v0.v].toArray) a [aQ (aP 3 (aG aK)) F0 v0.v a.Map]:=
 ⟨fun H h=>⟨v0,F0,rfl,rfl,h (aQ (aP 3 (aG aK)) F0 v0.v a.Map) (by simp)⟩,by simp[aQ]⟩
instance aos:dA Tryz.prog 66 2 2:=⟨dF⟩
instance aAT:f_ Tryz.prog 35 1 24 (.slice none 0 0):=⟨iH⟩
instance aAU:aS Tryz.prog 54:=⟨Tryz.call54⟩
instance Uf:f_ Tryz.prog 60 2 32 (.agg [(.slice none 0 0),(.int .i64 0)].toArray):=⟨iH⟩
instance ayc:aS Tryz.prog 127:=⟨Tryz.call127⟩
instance gz:kQ Tryz.prog 58 147:=⟨mG⟩
instance fB:f_ Tryz.prog 147 2 32 (.agg [(.int .i64 0),(.slice none 0 0)].toArray):=⟨iH⟩
def m_(H:aB)(v:Value)(a:Fact):Prop:=∃v0:Sv,v= .agg [(.int .i64 a.Rel),v0.v].toArray/\(aJ 3 aK) H v0.v a.Values
instance:bE m_:=⟨fun h hi=>by
 obtain⟨v0,h,h0⟩:=h
 exact⟨v0,h,bE.up h0 hi⟩⟩
instance:Cells m_ 2:=⟨fun h=>by
 obtain⟨v0,rfl,h0⟩:=h
 exact⟨rfl,rfl⟩⟩
def iT:gB Fact:=fun F H v a=>∃(v0:Sv)(F0:List Nat),v= .agg [(.int .i64 a.Rel),v0.v].toArray/\F0=F/\(aP 3 (aG aK)) F0 H v0.v a.Values
instance:eu iT:=⟨fun h hi hg=>by
 obtain⟨v0,F0,rfl,rfl,h0⟩:=h
 exact⟨v0,F0,rfl,rfl,eu.keep h0 hi (fun k hk=>hg k (by simp[hk]))⟩⟩
instance:Local iT:=⟨fun h hg=>by
 obtain⟨v0,F0,rfl,rfl,h0⟩:=h
 exact⟨v0,F0,rfl,rfl,Local.keep h0 (fun k hk=>hg k (by simp[hk]))⟩⟩
instance:jK iT:=⟨fun h k hk=>by
 obtain⟨v0,F0,rfl,rfl,h0⟩:=h
 exact jK.owns h0 k hk
⟩
instance:mX iT 2:=⟨fun h=>by
 obtain⟨v0,F0,rfl,rfl,h0⟩:=h
 exact⟨rfl,rfl⟩⟩
instance:jM iT m_:=⟨fun h hg=>by
 obtain⟨v0,F0,rfl,rfl,h0⟩:=h
 exact⟨v0,rfl,jM.frz h0 (fun k hk=>hg k (by simp[hk]))⟩⟩
instance ayd:aS Tryz.prog 212:=⟨Tryz.call212⟩
instance awN:dA Tryz.prog 242 0 0:=⟨dF⟩
instance awO:dA Tryz.prog 147 0 0:=⟨dF⟩
instance awP:dA Tryz.prog 147 1 1:=⟨dF⟩
instance NV:fH Tryz.prog 147 true:=⟨ic⟩
theorem Cr{a:Fact}{v0:Sv}{F0:List Nat}:Mk iT F0 (.agg [(.int .i64 a.Rel),v0.v].toArray) a [aQ (aP 3 (aG aK)) F0 v0.v a.Values]:=
 ⟨fun H h=>⟨v0,F0,rfl,rfl,h (aQ (aP 3 (aG aK)) F0 v0.v a.Values) (by simp)⟩,by simp[aQ]⟩
instance axI:dA Tryz.prog 60 0 0:=⟨dF⟩
instance aAV:f_ Tryz.prog 58 1 24 (.slice none 0 0):=⟨iH⟩
instance axJ:dA Tryz.prog 48 1 1:=⟨dF⟩
instance axK:dA Tryz.prog 60 1 1:=⟨dF⟩
instance Ug:fH Tryz.prog 60 true:=⟨ic⟩
instance aot:dA Tryz.prog 66 3 3:=⟨dF⟩
instance aAW:aS Tryz.prog 55:=⟨Tryz.call55⟩
instance Uh:f_ Tryz.prog 63 2 32 (.agg [(.slice none 0 0),(.int .i64 0)].toArray):=⟨iH⟩
instance aye:aS Tryz.prog 128:=⟨Tryz.call128⟩
instance afr:kQ Tryz.prog 61 248:=⟨mG⟩
instance TP:f_ Tryz.prog 248 4 64 (.agg [(.int .i64 0),(.slice none 0 0),(.slice none 0 0),(.int .i64 0)].toArray):=⟨iH⟩
def Fz(H:aB)(v:Value)(a:eH):Prop:=∃v0 v1:Sv,v= .agg [(.int .i64 a.Access.Method),v0.v,v1.v,(.int .i64 a.At)].toArray/\(aJ 3 aK) H v0.v a.Access.Values/\(aJ 147 m_) H v1.v a.Facts
instance:bE Fz:=⟨fun h hi=>by
 obtain⟨v0,v1,h,h0,h1⟩:=h
 exact⟨v0,v1,h,bE.up h0 hi,bE.up h1 hi⟩⟩
instance:Cells Fz 4:=⟨fun h=>by
 obtain⟨v0,v1,rfl,h0,h1⟩:=h
 exact⟨rfl,rfl⟩⟩
def xm:gB eH:=fun F H v a=>∃(v0 v1:Sv)(F0 F1:List Nat),v= .agg [(.int .i64 a.Access.Method),v0.v,v1.v,(.int .i64 a.At)].toArray/\F=(F0++F1)/\(aP 3 (aG aK)) F0 H v0.v a.Access.Values/\(aP 147 iT) F1 H v1.v a.Facts
instance:eu xm:=⟨fun h hi hg=>by
 obtain⟨v0,v1,F0,F1,rfl,rfl,h0,h1⟩:=h
 exact⟨v0,v1,F0,F1,rfl,rfl,eu.keep h0 hi (fun k hk=>hg k (by simp[hk])),eu.keep h1 hi (fun k hk=>hg k (by simp[hk]))⟩⟩
instance:Local xm:=⟨fun h hg=>by
 obtain⟨v0,v1,F0,F1,rfl,rfl,h0,h1⟩:=h
 exact⟨v0,v1,F0,F1,rfl,rfl,Local.keep h0 (fun k hk=>hg k (by simp[hk])),Local.keep h1 (fun k hk=>hg k (by simp[hk]))⟩⟩
instance:jK xm:=⟨fun h k hk=>by
 obtain⟨v0,v1,F0,F1,rfl,rfl,h0,h1⟩:=h
 simp only[List.mem_append]at hk
 rcases hk with hk|hk
 · exact jK.owns h0 k hk
 · exact jK.owns h1 k hk
⟩
instance:mX xm 4:=⟨fun h=>by
 obtain⟨v0,v1,F0,F1,rfl,rfl,h0,h1⟩:=h
 exact⟨rfl,rfl⟩⟩
instance:jM xm Fz:=⟨fun h hg=>by
 obtain⟨v0,v1,F0,F1,rfl,rfl,h0,h1⟩:=h
 exact⟨v0,v1,rfl,jM.frz h0 (fun k hk=>hg k (by simp[hk])),jM.frz h1 (fun k hk=>hg k (by simp[hk]))⟩⟩
instance ayf:aS Tryz.prog 213:=⟨Tryz.call213⟩
instance ayg:aS Tryz.prog 129:=⟨Tryz.call129⟩
instance xn:f_ Tryz.prog 145 2 32 (.agg [(.int .i64 0),(.slice none 0 0)].toArray):=⟨iH⟩
instance awQ:dA Tryz.prog 169 0 0:=⟨dF⟩
instance awR:dA Tryz.prog 145 0 0:=⟨dF⟩
instance awS:dA Tryz.prog 145 1 1:=⟨dF⟩
instance FB:fH Tryz.prog 145 true:=⟨ic⟩
instance awT:dA Tryz.prog 248 0 0:=⟨dF⟩
instance awU:dA Tryz.prog 248 1 2:=⟨dF⟩
instance awV:dA Tryz.prog 245 2 3:=⟨dF⟩
instance awW:dA Tryz.prog 248 2 3:=⟨dF⟩
instance aqh:fH Tryz.prog 248 true:=⟨ic⟩
theorem aqi{a:eH}{v0 v1:Sv}{F0 F1:List Nat}:Mk xm (F0++F1) (.agg [(.int .i64 a.Access.Method),v0.v,v1.v,(.int .i64 a.At)].toArray) a [aQ (aP 3 (aG aK)) F0 v0.v a.Access.Values,aQ (aP 147 iT) F1 v1.v a.Facts]:=
 ⟨fun H h=>⟨v0,v1,F0,F1,rfl,rfl,h (aQ (aP 3 (aG aK)) F0 v0.v a.Access.Values) (by simp),h (aQ (aP 147 iT) F1 v1.v a.Facts) (by simp)⟩,by simp[aQ]⟩
instance aou:dA Tryz.prog 63 0 0:=⟨dF⟩
instance aAX:f_ Tryz.prog 61 1 24 (.slice none 0 0):=⟨iH⟩
instance axL:dA Tryz.prog 51 1 1:=⟨dF⟩
instance axM:dA Tryz.prog 63 1 1:=⟨dF⟩
instance Ui:fH Tryz.prog 63 true:=⟨ic⟩
instance aov:dA Tryz.prog 66 4 5:=⟨dF⟩
instance axN:dA Tryz.prog 55 5 7:=⟨dF⟩
instance aow:dA Tryz.prog 66 5 7:=⟨dF⟩
instance aAY:aS Tryz.prog 56:=⟨Tryz.call56⟩
instance Uj:kQ Tryz.prog 64 145:=⟨mG⟩
def Jw(H:aB)(v:Value)(a:Access):Prop:=∃v0:Sv,v= .agg [(.int .i64 a.Method),v0.v].toArray/\(aJ 3 aK) H v0.v a.Values
instance:bE Jw:=⟨fun h hi=>by
 obtain⟨v0,h,h0⟩:=h
 exact⟨v0,h,bE.up h0 hi⟩⟩
instance:Cells Jw 2:=⟨fun h=>by
 obtain⟨v0,rfl,h0⟩:=h
 exact⟨rfl,rfl⟩⟩
def xq:gB Access:=fun F H v a=>∃(v0:Sv)(F0:List Nat),v= .agg [(.int .i64 a.Method),v0.v].toArray/\F0=F/\(aP 3 (aG aK)) F0 H v0.v a.Values
instance:eu xq:=⟨fun h hi hg=>by
 obtain⟨v0,F0,rfl,rfl,h0⟩:=h
 exact⟨v0,F0,rfl,rfl,eu.keep h0 hi (fun k hk=>hg k (by simp[hk]))⟩⟩
instance:Local xq:=⟨fun h hg=>by
 obtain⟨v0,F0,rfl,rfl,h0⟩:=h
 exact⟨v0,F0,rfl,rfl,Local.keep h0 (fun k hk=>hg k (by simp[hk]))⟩⟩
instance:jK xq:=⟨fun h k hk=>by
 obtain⟨v0,F0,rfl,rfl,h0⟩:=h
 exact jK.owns h0 k hk
⟩
instance:mX xq 2:=⟨fun h=>by
 obtain⟨v0,F0,rfl,rfl,h0⟩:=h
 exact⟨rfl,rfl⟩⟩
instance:jM xq Jw:=⟨fun h hg=>by
 obtain⟨v0,F0,rfl,rfl,h0⟩:=h
 exact⟨v0,rfl,jM.frz h0 (fun k hk=>hg k (by simp[hk]))⟩⟩
theorem aqj{a:Access}{v0:Sv}{F0:List Nat}:Mk xq F0 (.agg [(.int .i64 a.Method),v0.v].toArray) a [aQ (aP 3 (aG aK)) F0 v0.v a.Values]:=
 ⟨fun H h=>⟨v0,F0,rfl,rfl,h (aQ (aP 3 (aG aK)) F0 v0.v a.Values) (by simp)⟩,by simp[aQ]⟩
instance XT:dA Tryz.prog 66 6 8:=⟨dF⟩
instance aAZ:f_ Tryz.prog 64 1 24 (.slice none 0 0):=⟨iH⟩
instance adZ:dA Tryz.prog 66 7 9:=⟨dF⟩
instance axO:dA Tryz.prog 55 8 10:=⟨dF⟩
instance aox:dA Tryz.prog 66 8 10:=⟨dF⟩
instance aA0:aS Tryz.prog 57:=⟨Tryz.call57⟩
instance ayh:aS Tryz.prog 130:=⟨Tryz.call130⟩
instance aoy:dA Tryz.prog 66 9 11:=⟨dF⟩
instance aA1:f_ Tryz.prog 53 1 24 (.slice none 0 0):=⟨iH⟩
instance atS:fH Tryz.prog 66 true:=⟨ic⟩
instance atT:aS Tryz.prog 12:=⟨Tryz.call12⟩
instance rJ:f_ Tryz.prog 39 2 48 (.agg [(.slice none 0 0),(.slice none 0 0)].toArray):=⟨iH⟩
instance axP:dA Tryz.prog 39 0 0:=⟨dF⟩
instance aA2:aS Tryz.prog 36:=⟨Tryz.call36⟩
instance uh:kQ Tryz.prog 37 123:=⟨mG⟩
instance ou:f_ Tryz.prog 123 2 32 (.agg [(.int .i64 0),(.slice none 0 0)].toArray):=⟨iH⟩
def uW(H:aB)(v:Value)(a:Atom):Prop:=∃v0:Sv,v= .agg [(.int .i64 a.Rel),v0.v].toArray/\(aJ 3 aK) H v0.v a.Terms
instance:bE uW:=⟨fun h hi=>by
 obtain⟨v0,h,h0⟩:=h
 exact⟨v0,h,bE.up h0 hi⟩⟩
instance:Cells uW 2:=⟨fun h=>by
 obtain⟨v0,rfl,h0⟩:=h
 exact⟨rfl,rfl⟩⟩
def kM:gB Atom:=fun F H v a=>∃(v0:Sv)(F0:List Nat),v= .agg [(.int .i64 a.Rel),v0.v].toArray/\F0=F/\(aP 3 (aG aK)) F0 H v0.v a.Terms
instance:eu kM:=⟨fun h hi hg=>by
 obtain⟨v0,F0,rfl,rfl,h0⟩:=h
 exact⟨v0,F0,rfl,rfl,eu.keep h0 hi (fun k hk=>hg k (by simp[hk]))⟩⟩
instance:Local kM:=⟨fun h hg=>by
 obtain⟨v0,F0,rfl,rfl,h0⟩:=h
 exact⟨v0,F0,rfl,rfl,Local.keep h0 (fun k hk=>hg k (by simp[hk]))⟩⟩
instance:jK kM:=⟨fun h k hk=>by
 obtain⟨v0,F0,rfl,rfl,h0⟩:=h
 exact jK.owns h0 k hk
⟩
instance:mX kM 2:=⟨fun h=>by
 obtain⟨v0,F0,rfl,rfl,h0⟩:=h
 exact⟨rfl,rfl⟩⟩
instance:jM kM uW:=⟨fun h hg=>by
 obtain⟨v0,F0,rfl,rfl,h0⟩:=h
 exact⟨v0,rfl,jM.frz h0 (fun k hk=>hg k (by simp[hk]))⟩⟩
instance aA3:aS Tryz.prog 87:=⟨Tryz.call87⟩
instance awX:dA Tryz.prog 119 0 0:=⟨dF⟩
instance awY:dA Tryz.prog 123 0 0:=⟨dF⟩
instance anB:dA Tryz.prog 123 1 1:=⟨dF⟩
instance aqk:fH Tryz.prog 123 true:=⟨ic⟩
theorem NW{a:Atom}{v0:Sv}{F0:List Nat}:Mk kM F0 (.agg [(.int .i64 a.Rel),v0.v].toArray) a [aQ (aP 3 (aG aK)) F0 v0.v a.Terms]:=
 ⟨fun H h=>⟨v0,F0,rfl,rfl,h (aQ (aP 3 (aG aK)) F0 v0.v a.Terms) (by simp)⟩,by simp[aQ]⟩
instance NI:dA Tryz.prog 39 1 1:=⟨dF⟩
instance Uk:f_ Tryz.prog 37 1 24 (.slice none 0 0):=⟨iH⟩
instance Ul:fH Tryz.prog 39 true:=⟨ic⟩
instance atU:aS Tryz.prog 19:=⟨Tryz.call19⟩
instance aA4:aS Tryz.prog 51:=⟨Tryz.call51⟩
instance aA5:aS Tryz.prog 71:=⟨Tryz.call71⟩
instance aA6:aS Tryz.prog 72:=⟨Tryz.call72⟩
instance afs:fH Tryz.prog 33 false:=⟨ic⟩
instance aA7:aS Tryz.prog 66:=⟨Tryz.call66⟩
def uL(a:Method)(p:Sv):List Value:=[(.int .i64 a.Rel),p.v,(.int .i64 a.Limit),(.int .i64 a.Cost),(.int .i64 a.Quota)]
theorem wQ{a:Method}:∀H e,ma H e a-> ∃i:Sv,0+5<=e.cells.size/\(e.cells.toList.drop 0).take 5=uL a i/\ ∀c∈([bK (aJ 3 aK) i.v a.Inputs]:List aD),c.P H/\c.F=[]:=by
 intro H e h
 obtain⟨v0,rfl,h0⟩:=h
 refine⟨v0,Nat.le_of_ble_eq_true rfl,rfl,fun c hc=>by
   simp only[List.mem_cons,List.not_mem_nil,or_false]at hc
   rcases hc with rfl
   · exact⟨h0,rfl⟩
⟩
instance ayi:aS Tryz.prog 148:=⟨Tryz.call148⟩
instance atW:fH Tryz.prog 35 false:=⟨ic⟩
instance aA8:aS Tryz.prog 67:=⟨Tryz.call67⟩
def MJ(a:dG)(p:Sv):List Value:=[(.int .i64 a.From),(.int .i64 a.To),p.v]
theorem Sy{a:dG}:∀H e,JH H e a-> ∃i:Sv,0+3<=e.cells.size/\(e.cells.toList.drop 0).take 3=MJ a i/\ ∀c∈([bK (aJ 3 aK) i.v a.Map]:List aD),c.P H/\c.F=[]:=by
 intro H e h
 obtain⟨v0,rfl,h0⟩:=h
 refine⟨v0,Nat.le_of_ble_eq_true rfl,rfl,fun c hc=>by
   simp only[List.mem_cons,List.not_mem_nil,or_false]at hc
   rcases hc with rfl
   · exact⟨h0,rfl⟩
⟩
instance ayj:aS Tryz.prog 149:=⟨Tryz.call149⟩
instance ayk:aS Tryz.prog 115:=⟨Tryz.call115⟩
instance aft:fH Tryz.prog 58 false:=⟨ic⟩
instance ayl:aS Tryz.prog 205:=⟨Tryz.call205⟩
def oh(a:Fact)(p:Sv):List Value:=[(.int .i64 a.Rel),p.v]
theorem oU{a:Fact}:∀H e,m_ H e a-> ∃i:Sv,0+2<=e.cells.size/\(e.cells.toList.drop 0).take 2=oh a i/\ ∀c∈([bK (aJ 3 aK) i.v a.Values]:List aD),c.P H/\c.F=[]:=by
 intro H e h
 obtain⟨v0,rfl,h0⟩:=h
 refine⟨v0,Nat.le_of_ble_eq_true rfl,rfl,fun c hc=>by
   simp only[List.mem_cons,List.not_mem_nil,or_false]at hc
   rcases hc with rfl
   · exact⟨h0,rfl⟩
⟩
instance aym:aS Tryz.prog 272:=⟨Tryz.call272⟩
instance ayn:aS Tryz.prog 168:=⟨Tryz.call168⟩
instance ayo:aS Tryz.prog 116:=⟨Tryz.call116⟩
instance aA9:fH Tryz.prog 61 false:=⟨ic⟩
def LG(a:eH)(p:Sv×Sv):List Value:=[(.int .i64 a.Access.Method),p.1.v,p.2.v,(.int .i64 a.At)]
theorem RV{a:eH}:∀H e,Fz H e a-> ∃i:Sv×Sv,0+4<=e.cells.size/\(e.cells.toList.drop 0).take 4=LG a i/\ ∀c∈([bK (aJ 3 aK) i.1.v a.Access.Values,bK (aJ 147 m_) i.2.v a.Facts]:List aD),c.P H/\c.F=[]:=by
 intro H e h
 obtain⟨v0,v1,rfl,h0,h1⟩:=h
 refine⟨(v0,v1),Nat.le_of_ble_eq_true rfl,rfl,fun c hc=>by
   simp only[List.mem_cons,List.not_mem_nil,or_false]at hc
   rcases hc with rfl|rfl
   · exact⟨h0,rfl⟩
   · exact⟨h1,rfl⟩
⟩
instance ayp:aS Tryz.prog 117:=⟨Tryz.call117⟩
theorem ad1{a:Method}:∀H e,ma H e a-> ∃w:Sv,e.cells.toList[1]?=some w.v/\(aJ 3 aK) H w.v a.Inputs:=by
 intro H e h
 obtain⟨v0,rfl,h0⟩:=h
 exact⟨v0,rfl,h0⟩
def WE(a:eH)(p:Sv):List Value:=[(.int .i64 a.Access.Method),p.v]
theorem abP{a:eH}:∀H e,Fz H e a-> ∃i:Sv,0+2<=e.cells.size/\(e.cells.toList.drop 0).take 2=WE a i/\ ∀c∈([bK (aJ 3 aK) i.v a.Access.Values]:List aD),c.P H/\c.F=[]:=by
 intro H e h
 obtain⟨v0,v1,rfl,h0,h1⟩:=h
 refine⟨v0,Nat.le_of_ble_eq_true rfl,rfl,fun c hc=>by
   simp only[List.mem_cons,List.not_mem_nil,or_false]at hc
   rcases hc with rfl
   · exact⟨h0,rfl⟩
⟩
instance ayq:aS Tryz.prog 206:=⟨Tryz.call206⟩
instance ayr:aS Tryz.prog 157:=⟨Tryz.call157⟩
instance ays:aS Tryz.prog 207:=⟨Tryz.call207⟩
instance YC:fH Tryz.prog 64 false:=⟨ic⟩
instance ayt:aS Tryz.prog 118:=⟨Tryz.call118⟩
def LH(a:Access)(p:Sv):List Value:=[(.int .i64 a.Method),p.v]
theorem RX{a:Access}:∀H e,Jw H e a-> ∃i:Sv,0+2<=e.cells.size/\(e.cells.toList.drop 0).take 2=LH a i/\ ∀c∈([bK (aJ 3 aK) i.v a.Values]:List aD),c.P H/\c.F=[]:=by
 intro H e h
 obtain⟨v0,rfl,h0⟩:=h
 refine⟨v0,Nat.le_of_ble_eq_true rfl,rfl,fun c hc=>by
   simp only[List.mem_cons,List.not_mem_nil,or_false]at hc
   rcases hc with rfl
   · exact⟨h0,rfl⟩
⟩
instance atX:aS Tryz.prog 28:=⟨Tryz.call28⟩
instance OC:fH Tryz.prog 37 false:=⟨ic⟩
instance aA_:aS Tryz.prog 69:=⟨Tryz.call69⟩
theorem wZ{a:Atom}:∀H e,uW H e a-> ∃w:Sv,e.cells.toList[1]?=some w.v/\(aJ 3 aK) H w.v a.Terms:=by
 intro H e h
 obtain⟨v0,rfl,h0⟩:=h
 exact⟨v0,rfl,h0⟩
instance ayu:aS Tryz.prog 151:=⟨Tryz.call151⟩
instance ayv:aS Tryz.prog 152:=⟨Tryz.call152⟩
instance OD:aS Tryz.prog 70:=⟨Tryz.call70⟩
theorem TQ{a:Int}:∀F H e,(aG aK) F H e a->e.cells.toList[0]?=some (.int .i64 a):=by
 intro F H e h
 obtain⟨-,h⟩:=h
 subst h
 rfl
theorem kF:uR Tryz.prog 22:=.inr ⟨3,by kernel_rfl⟩
def oV(a:Atom)(p:Sv):List Value:=[(.int .i64 a.Rel),p.v]
theorem pO{a:Atom}:∀H e,uW H e a-> ∃i:Sv,0+2<=e.cells.size/\(e.cells.toList.drop 0).take 2=oV a i/\ ∀c∈([bK (aJ 3 aK) i.v a.Terms]:List aD),c.P H/\c.F=[]:=by
 intro H e h
 obtain⟨v0,rfl,h0⟩:=h
 refine⟨v0,Nat.le_of_ble_eq_true rfl,rfl,fun c hc=>by
   simp only[List.mem_cons,List.not_mem_nil,or_false]at hc
   rcases hc with rfl
   · exact⟨h0,rfl⟩
⟩
instance aA':aS Tryz.prog 68:=⟨Tryz.call68⟩
instance ayw:aS Tryz.prog 150:=⟨Tryz.call150⟩
instance aBa:aS Tryz.prog 52:=⟨Tryz.call52⟩
structure Step where
 Atom:Int
 Method:Int
structure lH where
 Query:Query
 Steps:List Step
 Cost:Int
instance zL:f_ Tryz.prog 105 4 80 (.agg [(.slice none 0 0),(.slice none 0 0),(.slice none 0 0),(.int .i64 0)].toArray):=⟨iH⟩
instance ayx:aS Tryz.prog 119:=⟨Tryz.call119⟩
instance TR:fH Tryz.prog 105 true:=⟨ic⟩
def gZ(_:aB)(v:Value)(a:Step):Prop:=v= .agg [(.int .i64 a.Atom),(.int .i64 a.Method)].toArray
instance:Pure gZ:=⟨fun h=>h⟩
instance:Cells gZ 2:=⟨fun h=>by
 subst h
 exact⟨rfl,rfl⟩⟩
instance ayy:aS Tryz.prog 120:=⟨Tryz.call120⟩
instance FC:kQ Tryz.prog 175 39:=⟨mG⟩
def OE(H:aB)(v:Value)(a:Query):Prop:=∃v0 v1:Sv,v= .agg [v0.v,v1.v].toArray/\(aJ 3 aK) H v0.v a.Head/\(aJ 123 uW) H v1.v a.Atoms
instance:bE OE:=⟨fun h hi=>by
 obtain⟨v0,v1,h,h0,h1⟩:=h
 exact⟨v0,v1,h,bE.up h0 hi,bE.up h1 hi⟩⟩
instance:Cells OE 2:=⟨fun h=>by
 obtain⟨v0,v1,rfl,h0,h1⟩:=h
 exact⟨rfl,rfl⟩⟩
def sF:gB Query:=fun F H v a=>∃(v0 v1:Sv)(F0 F1:List Nat),v= .agg [v0.v,v1.v].toArray/\F=(F0++F1)/\(aP 3 (aG aK)) F0 H v0.v a.Head/\(aP 123 kM) F1 H v1.v a.Atoms
instance:eu sF:=⟨fun h hi hg=>by
 obtain⟨v0,v1,F0,F1,rfl,rfl,h0,h1⟩:=h
 exact⟨v0,v1,F0,F1,rfl,rfl,eu.keep h0 hi (fun k hk=>hg k (by simp[hk])),eu.keep h1 hi (fun k hk=>hg k (by simp[hk]))⟩⟩
instance:Local sF:=⟨fun h hg=>by
 obtain⟨v0,v1,F0,F1,rfl,rfl,h0,h1⟩:=h
 exact⟨v0,v1,F0,F1,rfl,rfl,Local.keep h0 (fun k hk=>hg k (by simp[hk])),Local.keep h1 (fun k hk=>hg k (by simp[hk]))⟩⟩
instance:jK sF:=⟨fun h k hk=>by
 obtain⟨v0,v1,F0,F1,rfl,rfl,h0,h1⟩:=h
 simp only[List.mem_append]at hk
 rcases hk with hk|hk
 · exact jK.owns h0 k hk
 · exact jK.owns h1 k hk
⟩
instance:mX sF 2:=⟨fun h=>by
 obtain⟨v0,v1,F0,F1,rfl,rfl,h0,h1⟩:=h
 exact⟨rfl,rfl⟩⟩
instance:jM sF OE:=⟨fun h hg=>by
 obtain⟨v0,v1,F0,F1,rfl,rfl,h0,h1⟩:=h
 exact⟨v0,v1,rfl,jM.frz h0 (fun k hk=>hg k (by simp[hk])),jM.frz h1 (fun k hk=>hg k (by simp[hk]))⟩⟩
instance atY:aS Tryz.prog 74:=⟨Tryz.call74⟩
instance ayz:aS Tryz.prog 155:=⟨Tryz.call155⟩
structure aY where
 Vars:List Int
 Values:List Int
instance dV:f_ Tryz.prog 136 2 48 (.agg [(.slice none 0 0),(.slice none 0 0)].toArray):=⟨iH⟩
instance ayA:aS Tryz.prog 124:=⟨Tryz.call124⟩
theorem XA{a:Atom}:∀H e,uW H e a->e.cells.toList[0]?=some (.int .i64 a.Rel):=by
 intro H e h
 obtain⟨_,rfl,_⟩:=h
 rfl
instance aeA:aS Tryz.prog 154:=⟨Tryz.call154⟩
theorem Um:uR Tryz.prog 37:=.inr ⟨123,by kernel_rfl⟩
instance aBb:aS Tryz.prog 83:=⟨Tryz.call83⟩
instance atZ:aS Tryz.prog 80:=⟨Tryz.call80⟩
instance ku:fH Tryz.prog 136 true:=⟨ic⟩
instance aeB:aS Tryz.prog 158:=⟨Tryz.call158⟩
instance awZ:dA Tryz.prog 136 0 0:=⟨dF⟩
instance aw0:dA Tryz.prog 136 1 1:=⟨dF⟩
instance aeC:aS Tryz.prog 159:=⟨Tryz.call159⟩
instance at0:aS Tryz.prog 85:=⟨Tryz.call85⟩
instance ayB:aS Tryz.prog 165:=⟨Tryz.call165⟩
instance ayC:aS Tryz.prog 169:=⟨Tryz.call169⟩
theorem FP:uR Tryz.prog 58:=.inr ⟨147,by kernel_rfl⟩
theorem XB{a:Fact}:∀H e,m_ H e a->e.cells.toList[0]?=some (.int .i64 a.Rel):=by
 intro H e h
 obtain⟨_,rfl,_⟩:=h
 rfl
theorem adx{a:Fact}:∀H e,m_ H e a-> ∃w:Sv,e.cells.toList[1]?=some w.v/\(aJ 3 aK) H w.v a.Values:=by
 intro H e h
 obtain⟨v0,rfl,h0⟩:=h
 exact⟨v0,rfl,h0⟩
theorem aql{a:Fact}{v0:Sv}:Mk (aG m_) [] (.agg [(.int .i64 a.Rel),v0.v].toArray) a [bK (aJ 3 aK) v0.v a.Values]:=
 ⟨fun H h=>⟨rfl,v0,rfl,h (bK (aJ 3 aK) v0.v a.Values) (by simp)⟩,by simp[bK]⟩
instance at1:aS Tryz.prog 84:=⟨Tryz.call84⟩
instance aqm:aS Tryz.prog 156:=⟨Tryz.call156⟩
instance ayD:aS Tryz.prog 232:=⟨Tryz.call232⟩
instance zM:kQ Tryz.prog 264 136:=⟨mG⟩
def NY(H:aB)(v:Value)(a:aY):Prop:=∃v0 v1:Sv,v= .agg [v0.v,v1.v].toArray/\(aJ 3 aK) H v0.v a.Vars/\(aJ 3 aK) H v1.v a.Values
instance:bE NY:=⟨fun h hi=>by
 obtain⟨v0,v1,h,h0,h1⟩:=h
 exact⟨v0,v1,h,bE.up h0 hi,bE.up h1 hi⟩⟩
instance:Cells NY 2:=⟨fun h=>by
 obtain⟨v0,v1,rfl,h0,h1⟩:=h
 exact⟨rfl,rfl⟩⟩
def qx:gB aY:=fun F H v a=>∃(v0 v1:Sv)(F0 F1:List Nat),v= .agg [v0.v,v1.v].toArray/\F=(F0++F1)/\(aP 3 (aG aK)) F0 H v0.v a.Vars/\(aP 3 (aG aK)) F1 H v1.v a.Values
instance:eu qx:=⟨fun h hi hg=>by
 obtain⟨v0,v1,F0,F1,rfl,rfl,h0,h1⟩:=h
 exact⟨v0,v1,F0,F1,rfl,rfl,eu.keep h0 hi (fun k hk=>hg k (by simp[hk])),eu.keep h1 hi (fun k hk=>hg k (by simp[hk]))⟩⟩
instance:Local qx:=⟨fun h hg=>by
 obtain⟨v0,v1,F0,F1,rfl,rfl,h0,h1⟩:=h
 exact⟨v0,v1,F0,F1,rfl,rfl,Local.keep h0 (fun k hk=>hg k (by simp[hk])),Local.keep h1 (fun k hk=>hg k (by simp[hk]))⟩⟩
instance:jK qx:=⟨fun h k hk=>by
 obtain⟨v0,v1,F0,F1,rfl,rfl,h0,h1⟩:=h
 simp only[List.mem_append]at hk
 rcases hk with hk|hk
 · exact jK.owns h0 k hk
 · exact jK.owns h1 k hk
⟩
instance:mX qx 2:=⟨fun h=>by
 obtain⟨v0,v1,F0,F1,rfl,rfl,h0,h1⟩:=h
 exact⟨rfl,rfl⟩⟩
instance:jM qx NY:=⟨fun h hg=>by
 obtain⟨v0,v1,F0,F1,rfl,rfl,h0,h1⟩:=h
 exact⟨v0,v1,rfl,jM.frz h0 (fun k hk=>hg k (by simp[hk])),jM.frz h1 (fun k hk=>hg k (by simp[hk]))⟩⟩
theorem TS{a:aY}{v0 v1:Sv}{F0 F1:List Nat}:Mk qx (F0++F1) (.agg [v0.v,v1.v].toArray) a [aQ (aP 3 (aG aK)) F0 v0.v a.Vars,aQ (aP 3 (aG aK)) F1 v1.v a.Values]:=
 ⟨fun H h=>⟨v0,v1,F0,F1,rfl,rfl,h (aQ (aP 3 (aG aK)) F0 v0.v a.Vars) (by simp),h (aQ (aP 3 (aG aK)) F1 v1.v a.Values) (by simp)⟩,by simp[aQ]⟩
instance aqn:aS Tryz.prog 280:=⟨Tryz.call280⟩
def Iz(a:aY)(p:Sv×Sv):List Value:=[p.1.v,p.2.v]
theorem LJ{a:aY}:∀H e,NY H e a-> ∃i:Sv×Sv,0+2<=e.cells.size/\(e.cells.toList.drop 0).take 2=Iz a i/\ ∀c∈([bK (aJ 3 aK) i.1.v a.Vars,bK (aJ 3 aK) i.2.v a.Values]:List aD),c.P H/\c.F=[]:=by
 intro H e h
 obtain⟨v0,v1,rfl,h0,h1⟩:=h
 refine⟨(v0,v1),Nat.le_of_ble_eq_true rfl,rfl,fun c hc=>by
   simp only[List.mem_cons,List.not_mem_nil,or_false]at hc
   rcases hc with rfl|rfl
   · exact⟨h0,rfl⟩
   · exact⟨h1,rfl⟩
⟩
instance aqo:aS Tryz.prog 305:=⟨Tryz.call305⟩
instance ayE:aS Tryz.prog 234:=⟨Tryz.call234⟩
instance aqp:aS Tryz.prog 326:=⟨Tryz.call326⟩
theorem aeD:uR Tryz.prog 264:=.inr ⟨136,by kernel_rfl⟩
instance aqr:aS Tryz.prog 233:=⟨Tryz.call233⟩
theorem afu{a:Query}{v0 v1:Sv}{F0 F1:List Nat}:Mk sF (F0++F1) (.agg [v0.v,v1.v].toArray) a [aQ (aP 3 (aG aK)) F0 v0.v a.Head,aQ (aP 123 kM) F1 v1.v a.Atoms]:=
 ⟨fun H h=>⟨v0,v1,F0,F1,rfl,rfl,h (aQ (aP 3 (aG aK)) F0 v0.v a.Head) (by simp),h (aQ (aP 123 kM) F1 v1.v a.Atoms) (by simp)⟩,by simp[aQ]⟩
theorem aeE:uR Tryz.prog 175:=.inr ⟨39,by kernel_rfl⟩
def SA(a:Query)(p:Sv×Sv):List Value:=[p.1.v,p.2.v]
theorem WY{a:Query}:∀H e,OE H e a-> ∃i:Sv×Sv,0+2<=e.cells.size/\(e.cells.toList.drop 0).take 2=SA a i/\ ∀c∈([bK (aJ 3 aK) i.1.v a.Head,bK (aJ 123 uW) i.2.v a.Atoms]:List aD),c.P H/\c.F=[]:=by
 intro H e h
 obtain⟨v0,v1,rfl,h0,h1⟩:=h
 refine⟨(v0,v1),Nat.le_of_ble_eq_true rfl,rfl,fun c hc=>by
   simp only[List.mem_cons,List.not_mem_nil,or_false]at hc
   rcases hc with rfl|rfl
   · exact⟨h0,rfl⟩
   · exact⟨h1,rfl⟩
⟩
instance oz:kQ Tryz.prog 103 204:=⟨mG⟩
instance qy:f_ Tryz.prog 204 2 16 (.agg [(.int .i64 0),(.int .i64 0)].toArray):=⟨iH⟩
instance aqs:aS Tryz.prog 122:=⟨Tryz.call122⟩
theorem afv{a:Method}{v0:Sv}:Mk (aG ma) [] (.agg [(.int .i64 a.Rel),v0.v,(.int .i64 a.Limit),(.int .i64 a.Cost),(.int .i64 a.Quota)].toArray) a [bK (aJ 3 aK) v0.v a.Inputs]:=
 ⟨fun H h=>⟨rfl,v0,rfl,h (bK (aJ 3 aK) v0.v a.Inputs) (by simp)⟩,by simp[bK]⟩
theorem YD:uR Tryz.prog 33:=.inr ⟨89,by kernel_rfl⟩
instance aqt:aS Tryz.prog 121:=⟨Tryz.call121⟩
instance ayF:aS Tryz.prog 123:=⟨Tryz.call123⟩
instance aw1:dA Tryz.prog 204 1 1:=⟨dF⟩
theorem Jo{a:Step}:∀H e,gZ H e a->e.cells.toList[1]?=some (.int .i64 a.Method):=by
 intro H e h
 subst h
 rfl
theorem ad2{a:Method}:∀H e,ma H e a->e.cells.toList[3]?=some (.int .i64 a.Cost):=by
 intro H e h
 obtain⟨_,rfl,_⟩:=h
 rfl
theorem NZ:uR Tryz.prog 103:=.inr ⟨204,by kernel_rfl⟩
instance ayG:aS Tryz.prog 208:=⟨Tryz.call208⟩
instance aqu:aS Tryz.prog 209:=⟨Tryz.call209⟩
instance aw2:dA Tryz.prog 204 0 0:=⟨dF⟩
theorem Tk{a:Step}:∀H e,gZ H e a->e.cells.toList[0]?=some (.int .i64 a.Atom):=by
 intro H e h
 subst h
 rfl
instance aw3:dA Tryz.prog 105 2 3:=⟨dF⟩
instance at5:aS Tryz.prog 53:=⟨Tryz.call53⟩
instance aw4:dA Tryz.prog 105 0 0:=⟨dF⟩
instance ayH:aS Tryz.prog 125:=⟨Tryz.call125⟩
instance ayI:aS Tryz.prog 210:=⟨Tryz.call210⟩
instance ayJ:aS Tryz.prog 273:=⟨Tryz.call273⟩
instance aBc:aS Tryz.prog 79:=⟨Tryz.call79⟩
theorem Vn:IK Tryz.prog 3 .i64:=by unfold IK; kernel_rfl
theorem Vo:IK Tryz.prog 5 .u8:=by unfold IK; kernel_rfl
instance TT:kQ Tryz.prog 209 5:=⟨mG⟩
instance Vp:f_ Tryz.prog 5 1 1 (.int .u8 0):=⟨iH⟩
theorem afw:Tryz.prog.underlying 9=some .string:=by kernel_rfl
instance ayK:aS Tryz.prog 211:=⟨Tryz.call211⟩
instance aw5:dA Tryz.prog 105 1 2:=⟨dF⟩
instance N7:fH Tryz.prog 103 false:=⟨ic⟩
instance ayL:aS Tryz.prog 126:=⟨Tryz.call126⟩
instance at6:aS Tryz.prog 21:=⟨Tryz.call21⟩
instance aBd:aS Tryz.prog 58:=⟨Tryz.call58⟩
instance at7:aS Tryz.prog 88:=⟨Tryz.call88⟩
instance aBe:aS Tryz.prog 90:=⟨Tryz.call90⟩
instance aua:aS Tryz.prog 91:=⟨Tryz.call91⟩
instance ayM:aS Tryz.prog 176:=⟨Tryz.call176⟩
instance ayN:aS Tryz.prog 242:=⟨Tryz.call242⟩
instance aqv:aS Tryz.prog 177:=⟨Tryz.call177⟩
instance ayO:aS Tryz.prog 170:=⟨Tryz.call170⟩
instance ayP:aS Tryz.prog 238:=⟨Tryz.call238⟩
instance aqw:aS Tryz.prog 171:=⟨Tryz.call171⟩
instance ayQ:aS Tryz.prog 172:=⟨Tryz.call172⟩
instance ayR:aS Tryz.prog 179:=⟨Tryz.call179⟩
instance ayS:aS Tryz.prog 239:=⟨Tryz.call239⟩
instance ayT:aS Tryz.prog 282:=⟨Tryz.call282⟩
instance aqx:aS Tryz.prog 283:=⟨Tryz.call283⟩
instance ayU:aS Tryz.prog 284:=⟨Tryz.call284⟩
instance aub:aS Tryz.prog 89:=⟨Tryz.call89⟩
instance ayV:aS Tryz.prog 173:=⟨Tryz.call173⟩
instance ayW:aS Tryz.prog 240:=⟨Tryz.call240⟩
instance aqy:aS Tryz.prog 174:=⟨Tryz.call174⟩
instance ayX:aS Tryz.prog 175:=⟨Tryz.call175⟩
instance ayY:aS Tryz.prog 241:=⟨Tryz.call241⟩
instance aqz:aS Tryz.prog 285:=⟨Tryz.call285⟩
instance aqA:aS Tryz.prog 131:=⟨Tryz.call131⟩
instance ayZ:aS Tryz.prog 214:=⟨Tryz.call214⟩
instance ay0:aS Tryz.prog 274:=⟨Tryz.call274⟩
instance ay1:aS Tryz.prog 202:=⟨Tryz.call202⟩
instance aqB:aS Tryz.prog 271:=⟨Tryz.call271⟩
instance aqC:aS Tryz.prog 199:=⟨Tryz.call199⟩
instance ay2:aS Tryz.prog 260:=⟨Tryz.call260⟩
instance ay3:aS Tryz.prog 252:=⟨Tryz.call252⟩
instance ay4:aS Tryz.prog 289:=⟨Tryz.call289⟩
instance ay5:aS Tryz.prog 188:=⟨Tryz.call188⟩
instance aeF:aS Tryz.prog 275:=⟨Tryz.call275⟩
instance aqD:aS Tryz.prog 132:=⟨Tryz.call132⟩
instance ay6:aS Tryz.prog 215:=⟨Tryz.call215⟩
instance ay7:aS Tryz.prog 136:=⟨Tryz.call136⟩
instance ay8:aS Tryz.prog 264:=⟨Tryz.call264⟩
instance ay9:aS Tryz.prog 105:=⟨Tryz.call105⟩
instance ay_:aS Tryz.prog 195:=⟨Tryz.call195⟩
instance ay':aS Tryz.prog 221:=⟨Tryz.call221⟩
instance aza:aS Tryz.prog 299:=⟨Tryz.call299⟩
instance aeG:aS Tryz.prog 300:=⟨Tryz.call300⟩
instance aeH:aS Tryz.prog 258:=⟨Tryz.call258⟩
instance aqE:aS Tryz.prog 133:=⟨Tryz.call133⟩
instance azb:aS Tryz.prog 216:=⟨Tryz.call216⟩
instance aqF:aS Tryz.prog 134:=⟨Tryz.call134⟩
instance azc:aS Tryz.prog 217:=⟨Tryz.call217⟩
instance aqG:aS Tryz.prog 135:=⟨Tryz.call135⟩
instance aqH:aS Tryz.prog 137:=⟨Tryz.call137⟩
instance azd:aS Tryz.prog 218:=⟨Tryz.call218⟩
instance aze:aS Tryz.prog 276:=⟨Tryz.call276⟩
instance aqI:aS Tryz.prog 219:=⟨Tryz.call219⟩
instance aBf:aS Tryz.prog 38:=⟨Tryz.call38⟩
instance aBg:aS Tryz.prog 92:=⟨Tryz.call92⟩
instance azf:aS Tryz.prog 178:=⟨Tryz.call178⟩
instance auc:aS Tryz.prog 93:=⟨Tryz.call93⟩
instance aBh:aS Tryz.prog 94:=⟨Tryz.call94⟩
instance azg:aS Tryz.prog 180:=⟨Tryz.call180⟩
instance aqJ:aS Tryz.prog 243:=⟨Tryz.call243⟩
instance azh:aS Tryz.prog 244:=⟨Tryz.call244⟩
instance aqK:aS Tryz.prog 245:=⟨Tryz.call245⟩
instance aBi:aS Tryz.prog 95:=⟨Tryz.call95⟩
instance azi:aS Tryz.prog 181:=⟨Tryz.call181⟩
instance azj:aS Tryz.prog 198:=⟨Tryz.call198⟩
instance azk:aS Tryz.prog 268:=⟨Tryz.call268⟩
def akN:Go.Shelf.Ren:=⟨fun|189=>268|125=>304|257=>303|128=>324|129=>325|294=>316|295=>317|296=>318|297=>319|298=>320|299=>321|216=>276|300=>322|301=>323|328=>333|329=>334|330=>335|331=>336|332=>337|215=>289|343=>340|n=>n,fun|28=>22|3=>3|46=>307|0=>0|51=>326|53=>312|4=>4|183=>319|182=>318|131=>323|5=>5|9=>9|218=>332|222=>336|228=>338|229=>339|n=>n,fun|n=>n⟩
theorem ady:Go.Proofs.Lays.n189 Tryz.prog akN:={
 mixed:=by kernel_rfl
 f125:=Tryz.func304.trans (congrArg some (by kernel_rfl))
 f128:=Tryz.func324.trans (congrArg some (by kernel_rfl))
 f129:=Tryz.func325.trans (congrArg some (by kernel_rfl))
 f189:=Tryz.func268.trans (congrArg some (by kernel_rfl))
 f215:=Tryz.func289.trans (congrArg some (by kernel_rfl))
 f216:=Tryz.func276.trans (congrArg some (by kernel_rfl))
 f257:=Tryz.func303.trans (congrArg some (by kernel_rfl))
 f294:=Tryz.func316.trans (congrArg some (by kernel_rfl))
 f295:=Tryz.func317.trans (congrArg some (by kernel_rfl))
 f296:=Tryz.func318.trans (congrArg some (by kernel_rfl))
 f297:=Tryz.func319.trans (congrArg some (by kernel_rfl))
 f298:=Tryz.func320.trans (congrArg some (by kernel_rfl))
 f299:=Tryz.func321.trans (congrArg some (by kernel_rfl))
 f300:=Tryz.func322.trans (congrArg some (by kernel_rfl))
 f301:=Tryz.func323.trans (congrArg some (by kernel_rfl))
 f328:=Tryz.func333.trans (congrArg some (by kernel_rfl))
 f329:=Tryz.func334.trans (congrArg some (by kernel_rfl))
 f330:=Tryz.func335.trans (congrArg some (by kernel_rfl))
 f331:=Tryz.func336.trans (congrArg some (by kernel_rfl))
 f332:=Tryz.func337.trans (congrArg some (by kernel_rfl))
 f343:=Tryz.func340.trans (congrArg some (by kernel_rfl))
 t0:=Tryz.underlying0
 a0:=Tryz.isAgg0
 z0:=Tryz.sizeOf0
 v0:=Tryz.zeroValue0
 t3:=Tryz.underlying3
 a3:=Tryz.isAgg3
 z3:=Tryz.sizeOf3
 v3:=Tryz.zeroValue3
 t4:=Tryz.underlying4
 a4:=Tryz.isAgg4
 z4:=Tryz.sizeOf4
 v4:=Tryz.zeroValue4
 t5:=Tryz.underlying5
 a5:=Tryz.isAgg5
 z5:=Tryz.sizeOf5
 v5:=Tryz.zeroValue5
 t9:=Tryz.underlying9
 a9:=Tryz.isAgg9
 z9:=Tryz.sizeOf9
 v9:=Tryz.zeroValue9
 t28:=Tryz.underlying22
 a28:=Tryz.isAgg22
 z28:=Tryz.sizeOf22
 v28:=Tryz.zeroValue22
 t46:=Tryz.underlying307
 a46:=Tryz.isAgg307
 z46:=Tryz.sizeOf307
 v46:=Tryz.zeroValue307
 t51:=Tryz.underlying326
 a51:=Tryz.isAgg326
 z51:=Tryz.sizeOf326
 v51:=Tryz.zeroValue326
 t53:=Tryz.underlying312
 a53:=Tryz.isAgg312
 z53:=Tryz.sizeOf312
 v53:=Tryz.zeroValue312
 t131:=Tryz.underlying323
 a131:=Tryz.isAgg323
 z131:=Tryz.sizeOf323
 v131:=Tryz.zeroValue323
 t182:=Tryz.underlying318
 a182:=Tryz.isAgg318
 z182:=Tryz.sizeOf318
 v182:=Tryz.zeroValue318
 t183:=Tryz.underlying319
 a183:=Tryz.isAgg319
 z183:=Tryz.sizeOf319
 v183:=Tryz.zeroValue319
 t218:=Tryz.underlying332
 a218:=Tryz.isAgg332
 z218:=Tryz.sizeOf332
 v218:=Tryz.zeroValue332
 t222:=Tryz.underlying336
 a222:=Tryz.isAgg336
 z222:=Tryz.sizeOf336
 v222:=Tryz.zeroValue336
 t228:=Tryz.underlying338
 a228:=Tryz.isAgg338
 z228:=Tryz.sizeOf338
 v228:=Tryz.zeroValue338
 t229:=Tryz.underlying339
 a229:=Tryz.isAgg339
 z229:=Tryz.sizeOf339
 v229:=Tryz.zeroValue339}
instance azl:aS Tryz.prog 269:=⟨Tryz.call269⟩
def aj9:Go.Shelf.Ren:=⟨fun|20=>269|n=>n,fun|22=>22|3=>3|4=>4|0=>0|n=>n,fun|n=>n⟩
theorem ac1:Go.Proofs.Lays2.n20 Tryz.prog aj9:={
 mixed:=by kernel_rfl
 f20:=Tryz.func269.trans (congrArg some (by kernel_rfl))
 t0:=Tryz.underlying0
 a0:=Tryz.isAgg0
 z0:=Tryz.sizeOf0
 v0:=Tryz.zeroValue0
 t3:=Tryz.underlying3
 a3:=Tryz.isAgg3
 z3:=Tryz.sizeOf3
 v3:=Tryz.zeroValue3
 t4:=Tryz.underlying4
 a4:=Tryz.isAgg4
 z4:=Tryz.sizeOf4
 v4:=Tryz.zeroValue4
 t22:=Tryz.underlying22
 a22:=Tryz.isAgg22
 z22:=Tryz.sizeOf22
 v22:=Tryz.zeroValue22
 i3:=by kernel_rfl}
instance aqL:aS Tryz.prog 182:=⟨Tryz.call182⟩
instance azm:aS Tryz.prog 183:=⟨Tryz.call183⟩
instance azn:aS Tryz.prog 246:=⟨Tryz.call246⟩
instance aBj:aS Tryz.prog 59:=⟨Tryz.call59⟩
instance azo:aS Tryz.prog 138:=⟨Tryz.call138⟩
instance azp:aS Tryz.prog 139:=⟨Tryz.call139⟩
instance azq:aS Tryz.prog 220:=⟨Tryz.call220⟩
theorem anC{a:Method}{d:Int}:∀F H e,(aG ma) F H e a->(aG ma) F H (rz e 0 (Value.cells (.int .i64 d)).toList) {a with Rel:=d}:=by
 intro F H e h
 obtain⟨rfl,v0,rfl,h0⟩:=h
 exact⟨rfl,v0,rfl,h0⟩
theorem amM{a:Method}:∀F H e,(aG ma) F H e a->0+1<=e.cells.size:=by
 intro F H e h
 obtain⟨rfl,v0,rfl,h0⟩:=h
 exact Nat.le_of_ble_eq_true rfl
instance azr:aS Tryz.prog 140:=⟨Tryz.call140⟩
instance aqM:aS Tryz.prog 223:=⟨Tryz.call223⟩
instance aBk:aS Tryz.prog 97:=⟨Tryz.call97⟩
instance aeI:aS Tryz.prog 107:=⟨Tryz.call107⟩
instance aeJ:aS Tryz.prog 186:=⟨Tryz.call186⟩
instance azs:aS Tryz.prog 249:=⟨Tryz.call249⟩
instance aqN:aS Tryz.prog 185:=⟨Tryz.call185⟩
instance aqO:aS Tryz.prog 248:=⟨Tryz.call248⟩
instance X8:aS Tryz.prog 200:=⟨Tryz.call200⟩
instance aqP:aS Tryz.prog 270:=⟨Tryz.call270⟩
instance azt:aS Tryz.prog 194:=⟨Tryz.call194⟩
instance aqQ:aS Tryz.prog 257:=⟨Tryz.call257⟩
instance azu:aS Tryz.prog 293:=⟨Tryz.call293⟩
instance aqR:aS Tryz.prog 294:=⟨Tryz.call294⟩
instance aqS:aS Tryz.prog 259:=⟨Tryz.call259⟩
instance azv:aS Tryz.prog 261:=⟨Tryz.call261⟩
theorem aoz:∀args w,(callFunc 295 args).run Tryz.prog w=((Extern.SlicesOverlaps.overlaps #[58,58] #[4] args).run Tryz.prog w).andThen fun v w'=>.ok (.value v) w':=fun args w=>run_callFunc_extern Tryz.func295 (by kernel_rfl) (by kernel_rfl) (by kernel_rfl) (e:=Extern.SlicesOverlaps.overlaps #[58,58] #[4]) (by kernel_rfl) args w
instance aqT:aS Tryz.prog 108:=⟨Tryz.call108⟩
instance aqU:aS Tryz.prog 187:=⟨Tryz.call187⟩
instance azw:aS Tryz.prog 250:=⟨Tryz.call250⟩
instance aqV:aS Tryz.prog 288:=⟨Tryz.call288⟩
instance azx:aS Tryz.prog 308:=⟨Tryz.call308⟩
instance azy:aS Tryz.prog 327:=⟨Tryz.call327⟩
instance aqW:aS Tryz.prog 251:=⟨Tryz.call251⟩
instance aqX:aS Tryz.prog 222:=⟨Tryz.call222⟩
structure finder where
 l:List Method
 atoms:List Atom
 steps:List Step
 best:List Step
 cost:Int
instance aqY:f_ Tryz.prog 192 5 104 (.agg [(.slice none 0 0),(.slice none 0 0),(.slice none 0 0),(.slice none 0 0),(.int .i64 0)].toArray):=⟨iH⟩
instance TU:kQ Tryz.prog 194 4:=⟨mG⟩
instance J_:f_ Tryz.prog 4 1 1 (.bool false):=⟨iH⟩
instance aqZ:aS Tryz.prog 141:=⟨Tryz.call141⟩
instance aw6:dA Tryz.prog 192 2 2:=⟨dF⟩
instance aw7:dA Tryz.prog 192 1 1:=⟨dF⟩
instance aw8:dA Tryz.prog 192 3 3:=⟨dF⟩
instance aw9:dA Tryz.prog 192 4 4:=⟨dF⟩
instance aq0:aS Tryz.prog 224:=⟨Tryz.call224⟩
instance aq1:f_ Tryz.prog 103 1 24 (.slice none 0 0):=⟨iH⟩
instance aw_:dA Tryz.prog 192 0 0:=⟨dF⟩
instance ag4:fH Tryz.prog 4 false:=⟨ic⟩
theorem aq2{a:Bool}:∀F H e,(aG rdBool) F H e a->e.cells.toList[0]?=some (.bool a):=by
 intro F H e h
 obtain⟨-,h⟩:=h
 subst h
 rfl
instance azz:aS Tryz.prog 225:=⟨Tryz.call225⟩
instance aq3:aS Tryz.prog 277:=⟨Tryz.call277⟩
instance aud:aS Tryz.prog 60:=⟨Tryz.call60⟩
instance azA:aS Tryz.prog 142:=⟨Tryz.call142⟩
instance zN:kQ Tryz.prog 156 9:=⟨mG⟩
instance xS:f_ Tryz.prog 9 1 16 (.string ⟨[].toArray⟩):=⟨iH⟩
instance aq4:aS Tryz.prog 227:=⟨Tryz.call227⟩
instance azB:aS Tryz.prog 278:=⟨Tryz.call278⟩
theorem aq5{a:List UInt8}:∀H e,rdStr H e a->e.cells.toList[0]?=some (sv a):=by
 intro H e h
 subst h
 rfl
instance ag9:fH Tryz.prog 9 false:=⟨ic⟩
instance azC:aS Tryz.prog 228:=⟨Tryz.call228⟩
instance TV:aS Tryz.prog 102:=⟨Tryz.call102⟩
def abQ:Go.Shelf.Ren:=⟨fun|156=>102|165=>190|166=>191|169=>192|240=>254|241=>255|276=>291|277=>292|n=>n,fun|31=>156|9=>9|3=>3|4=>4|0=>0|20=>20|72=>231|76=>235|70=>229|37=>209|75=>234|127=>277|164=>299|5=>5|80=>237|n=>n,fun|n=>n⟩
theorem adz:Go.Proofs.Lays.n156 Tryz.prog abQ:={
 mixed:=by kernel_rfl
 f156:=Tryz.func102.trans (congrArg some (by kernel_rfl))
 f165:=Tryz.func190.trans (congrArg some (by kernel_rfl))
 f166:=Tryz.func191.trans (congrArg some (by kernel_rfl))
 f169:=Tryz.func192.trans (congrArg some (by kernel_rfl))
 f240:=Tryz.func254.trans (congrArg some (by kernel_rfl))
 f241:=Tryz.func255.trans (congrArg some (by kernel_rfl))
 f276:=Tryz.func291.trans (congrArg some (by kernel_rfl))
 f277:=Tryz.func292.trans (congrArg some (by kernel_rfl))
 t0:=Tryz.underlying0
 a0:=Tryz.isAgg0
 z0:=Tryz.sizeOf0
 v0:=Tryz.zeroValue0
 t3:=Tryz.underlying3
 a3:=Tryz.isAgg3
 z3:=Tryz.sizeOf3
 v3:=Tryz.zeroValue3
 t4:=Tryz.underlying4
 a4:=Tryz.isAgg4
 z4:=Tryz.sizeOf4
 v4:=Tryz.zeroValue4
 t9:=Tryz.underlying9
 a9:=Tryz.isAgg9
 z9:=Tryz.sizeOf9
 v9:=Tryz.zeroValue9
 t20:=Tryz.underlying20
 a20:=Tryz.isAgg20
 z20:=Tryz.sizeOf20
 v20:=Tryz.zeroValue20
 t31:=Tryz.underlying156
 a31:=Tryz.isAgg156
 z31:=Tryz.sizeOf156
 v31:=Tryz.zeroValue156
 t37:=Tryz.underlying209
 a37:=Tryz.isAgg209
 z37:=Tryz.sizeOf209
 v37:=Tryz.zeroValue209
 t70:=Tryz.underlying229
 a70:=Tryz.isAgg229
 z70:=Tryz.sizeOf229
 v70:=Tryz.zeroValue229
 t72:=Tryz.underlying231
 a72:=Tryz.isAgg231
 z72:=Tryz.sizeOf231
 v72:=Tryz.zeroValue231
 t75:=Tryz.underlying234
 a75:=Tryz.isAgg234
 z75:=Tryz.sizeOf234
 v75:=Tryz.zeroValue234
 t76:=Tryz.underlying235
 a76:=Tryz.isAgg235
 z76:=Tryz.sizeOf235
 v76:=Tryz.zeroValue235
 t127:=Tryz.underlying277
 a127:=Tryz.isAgg277
 z127:=Tryz.sizeOf277
 v127:=Tryz.zeroValue277
 t164:=Tryz.underlying299
 a164:=Tryz.isAgg299
 z164:=Tryz.sizeOf299
 v164:=Tryz.zeroValue299}
theorem extra:Go.Proofs.Builder.Extra Tryz.prog abQ:={
 sizeBuilder:=by kernel_rfl
 liesBuilder:=by kernel_rfl
 t5:=Tryz.underlying5
 a5:=Tryz.isAgg5
 z5:=Tryz.sizeOf5
 v5:=Tryz.zeroValue5
 infoByte:=by kernel_rfl
 cellsByte:=by kernel_rfl
 sizeByte:=by kernel_rfl
 neB5:=by decide}
instance azD:aS Tryz.prog 279:=⟨Tryz.call279⟩
instance aq6:aS Tryz.prog 101:=⟨Tryz.call101⟩
instance azE:aS Tryz.prog 189:=⟨Tryz.call189⟩
def aj_:Go.Shelf.Ren:=⟨fun|171=>189|243=>253|246=>290|283=>309|284=>310|285=>311|286=>312|129=>325|317=>328|318=>329|319=>330|320=>331|337=>338|338=>339|n=>n,fun|3=>3|9=>9|2=>2|4=>4|171=>311|0=>0|53=>312|37=>209|5=>5|173=>315|212=>329|51=>326|20=>20|213=>330|46=>307|232=>341|233=>342|n=>n,fun|17=>1|18=>2|19=>3|n=>n⟩
theorem amN:Go.Proofs.LaysM.n171 Tryz.prog aj_:={
 mixed:=by kernel_rfl
 f129:=Tryz.func325.trans (congrArg some (by kernel_rfl))
 f171:=Tryz.func189.trans (congrArg some (by kernel_rfl))
 f243:=Tryz.func253.trans (congrArg some (by kernel_rfl))
 f246:=Tryz.func290.trans (congrArg some (by kernel_rfl))
 f283:=Tryz.func309.trans (congrArg some (by kernel_rfl))
 f284:=Tryz.func310.trans (congrArg some (by kernel_rfl))
 f285:=Tryz.func311.trans (congrArg some (by kernel_rfl))
 f286:=Tryz.func312.trans (congrArg some (by kernel_rfl))
 f317:=Tryz.func328.trans (congrArg some (by kernel_rfl))
 f318:=Tryz.func329.trans (congrArg some (by kernel_rfl))
 f319:=Tryz.func330.trans (congrArg some (by kernel_rfl))
 f320:=Tryz.func331.trans (congrArg some (by kernel_rfl))
 f337:=Tryz.func338.trans (congrArg some (by kernel_rfl))
 f338:=Tryz.func339.trans (congrArg some (by kernel_rfl))
 t0:=Tryz.underlying0
 a0:=Tryz.isAgg0
 z0:=Tryz.sizeOf0
 v0:=Tryz.zeroValue0
 t2:=Tryz.underlying2
 a2:=Tryz.isAgg2
 z2:=Tryz.sizeOf2
 v2:=Tryz.zeroValue2
 t3:=Tryz.underlying3
 a3:=Tryz.isAgg3
 z3:=Tryz.sizeOf3
 v3:=Tryz.zeroValue3
 t4:=Tryz.underlying4
 a4:=Tryz.isAgg4
 z4:=Tryz.sizeOf4
 v4:=Tryz.zeroValue4
 t5:=Tryz.underlying5
 a5:=Tryz.isAgg5
 z5:=Tryz.sizeOf5
 v5:=Tryz.zeroValue5
 t9:=Tryz.underlying9
 a9:=Tryz.isAgg9
 z9:=Tryz.sizeOf9
 v9:=Tryz.zeroValue9
 t20:=Tryz.underlying20
 a20:=Tryz.isAgg20
 z20:=Tryz.sizeOf20
 v20:=Tryz.zeroValue20
 t37:=Tryz.underlying209
 a37:=Tryz.isAgg209
 z37:=Tryz.sizeOf209
 v37:=Tryz.zeroValue209
 t46:=Tryz.underlying307
 a46:=Tryz.isAgg307
 z46:=Tryz.sizeOf307
 v46:=Tryz.zeroValue307
 t51:=Tryz.underlying326
 a51:=Tryz.isAgg326
 z51:=Tryz.sizeOf326
 v51:=Tryz.zeroValue326
 t53:=Tryz.underlying312
 a53:=Tryz.isAgg312
 z53:=Tryz.sizeOf312
 v53:=Tryz.zeroValue312
 t171:=Tryz.underlying311
 a171:=Tryz.isAgg311
 z171:=Tryz.sizeOf311
 v171:=Tryz.zeroValue311
 t173:=Tryz.underlying315
 a173:=Tryz.isAgg315
 z173:=Tryz.sizeOf315
 v173:=Tryz.zeroValue315
 t212:=Tryz.underlying329
 a212:=Tryz.isAgg329
 z212:=Tryz.sizeOf329
 v212:=Tryz.zeroValue329
 t213:=Tryz.underlying330
 a213:=Tryz.isAgg330
 z213:=Tryz.sizeOf330
 t232:=Tryz.underlying341
 a232:=Tryz.isAgg341
 z232:=Tryz.sizeOf341
 v232:=Tryz.zeroValue341
 t233:=Tryz.underlying342
 a233:=Tryz.isAgg342
 z233:=Tryz.sizeOf342
 v233:=Tryz.zeroValue342
 g17:=by kernel_rfl
 g18:=by kernel_rfl
 g19:=by kernel_rfl
 i0:=by kernel_rfl
 i2:=by kernel_rfl
 i3:=by kernel_rfl
 i4:=by kernel_rfl
 i5:=by kernel_rfl
 i9:=by kernel_rfl
 i20:=by kernel_rfl
 i37:=by kernel_rfl
 i46:=by kernel_rfl
 i51:=by kernel_rfl
 i53:=by kernel_rfl
 i171:=by kernel_rfl
 i173:=by kernel_rfl
 i212:=by kernel_rfl
 i232:=by kernel_rfl
 i233:=by kernel_rfl
 m17:=by kernel_rfl
 m18:=by kernel_rfl
 m19:=by kernel_rfl}
theorem X9:uR Tryz.prog 156:=.inr ⟨9,by kernel_rfl⟩
instance azF:aS Tryz.prog 226:=⟨Tryz.call226⟩
instance azG:aS Tryz.prog 201:=⟨Tryz.call201⟩
instance azH:aS Tryz.prog 143:=⟨Tryz.call143⟩
def abR(a:Step)(_:Unit):List Value:=[(.int .i64 a.Atom),(.int .i64 a.Method)]
theorem akO{a:Step}:∀H e,gZ H e a-> ∃i:Unit,0+2<=e.cells.size/\(e.cells.toList.drop 0).take 2=abR a i/\ ∀c∈([]:List aD),c.P H/\c.F=[]:=by
 intro H e h
 subst h
 refine⟨(),Nat.le_of_ble_eq_true rfl,rfl,fun c hc=>by simp at hc⟩
instance azI:fH Tryz.prog 204 true:=⟨ic⟩
instance aue:aS Tryz.prog 22:=⟨Tryz.call22⟩
instance aBl:aS Tryz.prog 14:=⟨Tryz.call14⟩
instance aBm:aS Tryz.prog 15:=⟨Tryz.call15⟩
instance aBn:aS Tryz.prog 44:=⟨Tryz.call44⟩
instance aBo:aS Tryz.prog 16:=⟨Tryz.call16⟩
instance aBp:aS Tryz.prog 45:=⟨Tryz.call45⟩
instance aBq:aS Tryz.prog 61:=⟨Tryz.call61⟩
instance azJ:aS Tryz.prog 144:=⟨Tryz.call144⟩
instance azK:aS Tryz.prog 229:=⟨Tryz.call229⟩
instance aBr:aS Tryz.prog 62:=⟨Tryz.call62⟩
instance azL:aS Tryz.prog 145:=⟨Tryz.call145⟩
instance azM:aS Tryz.prog 230:=⟨Tryz.call230⟩
instance azN:aS Tryz.prog 146:=⟨Tryz.call146⟩
instance aBs:aS Tryz.prog 63:=⟨Tryz.call63⟩
instance aBt:aS Tryz.prog 64:=⟨Tryz.call64⟩
instance azO:aS Tryz.prog 147:=⟨Tryz.call147⟩
instance auf:aS Tryz.prog 17:=⟨Tryz.call17⟩
instance aBu:aS Tryz.prog 46:=⟨Tryz.call46⟩
instance azP:aS Tryz.prog 110:=⟨Tryz.call110⟩
def Un(H:aB)(v:Value)(a:gV):Prop:=∃v0 v1 v2 v3 v4 v5 v6 v7:Sv,v= .agg [v0.v,v1.v,v2.v,v3.v,(.int .i64 a.Source.Version),v4.v,(.int .i64 a.Cache.Age),(.int .i64 a.Now),v5.v,v6.v,(.int .i64 a.Spent),v7.v].toArray/\(aJ 3 aK) H v0.v a.Schema/\(aJ 72 FN) H v1.v a.Methods/\(aJ 75 FO) H v2.v a.Rules/\(aJ 242 xk) H v3.v a.Source.Facts/\(aJ 245 Cq) H v4.v a.Cache.Entries/\(aJ 169 Fx) H v5.v a.Log/\(aJ 3 aK) H v6.v a.Times/\(aJ 171 (aJ 22 (aJ 3 aK))) H v7.v a.Results
instance:bE Un:=⟨fun h hi=>by
 obtain⟨v0,v1,v2,v3,v4,v5,v6,v7,h,h0,h1,h2,h3,h4,h5,h6,h7⟩:=h
 exact⟨v0,v1,v2,v3,v4,v5,v6,v7,h,bE.up h0 hi,bE.up h1 hi,bE.up h2 hi,bE.up h3 hi,bE.up h4 hi,bE.up h5 hi,bE.up h6 hi,bE.up h7 hi⟩⟩
instance:Cells Un 12:=⟨fun h=>by
 obtain⟨v0,v1,v2,v3,v4,v5,v6,v7,rfl,h0,h1,h2,h3,h4,h5,h6,h7⟩:=h
 exact⟨rfl,rfl⟩⟩
theorem ad3:fieldAt Tryz.prog 72 0=some (3,0,1):=by kernel_rfl
theorem aoA:fieldAt Tryz.prog 72 1=some (22,1,1):=by kernel_rfl
theorem aoB:fieldAt Tryz.prog 72 2=some (3,2,1):=by kernel_rfl
theorem aoC:fieldAt Tryz.prog 72 3=some (3,3,1):=by kernel_rfl
theorem aoD:fieldAt Tryz.prog 72 4=some (3,4,1):=by kernel_rfl
def Uo(a:Method):Prop:=kr a.Rel/\(iZ kr) a.Inputs/\kr a.Limit/\kr a.Cost/\kr a.Quota
theorem aBv:∀H v a,FN H v a->nN v=sw Tryz.prog 72:=by
 intro H v a h
 obtain⟨v1,rfl,_⟩:=h
 kernel_rfl
theorem aug:eF Tryz.prog 72 FN Uo:=by
 intro T enc w fuel cs x h hw ρ H hr hF
 have hl:=wY ad3 h (n:=5) atK.h.sz.cells
 obtain⟨ρ0,H0,qR,a0,r0,f0,u0,i0,v0,q0,w0⟩:=jk ad3 h hw (eF.int (by kernel_rfl)) hr hF
 obtain⟨ρ1,H1,sO,a1,r1,f1,u1,i1,v1,q1,w1⟩:=jk aoA h hw (eF.slice (s:=1) (by kernel_rfl) (by kernel_rfl) (by decide) (Nat.lt_of_lt_of_le (by decide) (Nat.le_of_eq (show 8=_ from by kernel_rfl))) (eF.int (by kernel_rfl))) r0 f0
 obtain⟨ρ2,H2,Qt,a2,r2,f2,u2,i2,v2,q2,w2⟩:=jk aoB h hw (eF.int (by kernel_rfl)) r1 f1
 obtain⟨ρ3,H3,av3,a3,r3,f3,u3,i3,v3,q3,w3⟩:=jk aoC h hw (eF.int (by kernel_rfl)) r2 f2
 obtain⟨ρ4,H4,av4,a4,r4,f4,u4,i4,v4,q4,w4⟩:=jk aoD h hw (eF.int (by kernel_rfl)) r3 f3
 obtain rfl:qR=(.int .i64 a0):=q0
 replace v0:=v0.up (((u1.trans u2).trans u3).trans u4)
 obtain⟨sa1,ny,rfl⟩:=aJ.len q1
 replace v1:=v1.one rfl
 replace v1:=v1.up ((u2.trans u3).trans u4)
 obtain rfl:Qt=(.int .i64 a2):=q2
 replace v2:=v2.up (u3.trans u4)
 obtain rfl:av3=(.int .i64 a3):=q3
 replace v3:=v3.up u4
 obtain rfl:av4=(.int .i64 a4):=q4
 have hv:=bv.field (o:=0) v0 (bv.field (o:=1) v1 (bv.field (o:=2) v2 (bv.field (o:=3) v3 (bv.field (o:=4) v4 (bv.end hl)))))
 rw[List.drop_zero]at hv
 refine⟨ρ4,H4,(.agg [(.int .i64 a0),(.slice sa1 a1.length ny),(.int .i64 a2),(.int .i64 a3),(.int .i64 a4)].toArray:Value),({Rel:=a0,Inputs:=a1,Limit:=a2,Cost:=a3,Quota:=a4}:Method),r4,f4,((((u0.trans u1).trans u2).trans u3).trans u4),((((i0.trans i1).trans i2).trans i3).trans i4),?_,?_,w0,w1,w2,w3,w4⟩
 · exact hv
 · exact⟨⟨sa1,_,ny⟩,rfl,(bE.up q1 ((i2.trans i3).trans i4))⟩
theorem ad4:fieldAt Tryz.prog 75 0=some (3,0,1):=by kernel_rfl
theorem aoE:fieldAt Tryz.prog 75 1=some (3,1,1):=by kernel_rfl
theorem aoF:fieldAt Tryz.prog 75 2=some (22,2,1):=by kernel_rfl
def Uq(a:dG):Prop:=kr a.From/\kr a.To/\(iZ kr) a.Map
theorem aBw:∀H v a,FO H v a->nN v=sw Tryz.prog 75:=by
 intro H v a h
 obtain⟨v2,rfl,_⟩:=h
 kernel_rfl
theorem auh:eF Tryz.prog 75 FO Uq:=by
 intro T enc w fuel cs x h hw ρ H hr hF
 have hl:=wY ad4 h (n:=3) atL.h.sz.cells
 obtain⟨ρ0,H0,qR,a0,r0,f0,u0,i0,v0,q0,w0⟩:=jk ad4 h hw (eF.int (by kernel_rfl)) hr hF
 obtain⟨ρ1,H1,sO,a1,r1,f1,u1,i1,v1,q1,w1⟩:=jk aoE h hw (eF.int (by kernel_rfl)) r0 f0
 obtain⟨ρ2,H2,Qt,a2,r2,f2,u2,i2,v2,q2,w2⟩:=jk aoF h hw (eF.slice (s:=1) (by kernel_rfl) (by kernel_rfl) (by decide) (Nat.lt_of_lt_of_le (by decide) (Nat.le_of_eq (show 8=_ from by kernel_rfl))) (eF.int (by kernel_rfl))) r1 f1
 obtain rfl:qR=(.int .i64 a0):=q0
 replace v0:=v0.up (u1.trans u2)
 obtain rfl:sO=(.int .i64 a1):=q1
 replace v1:=v1.up u2
 obtain⟨Qu,Qv,rfl⟩:=aJ.len q2
 replace v2:=v2.one rfl
 have hv:=bv.field (o:=0) v0 (bv.field (o:=1) v1 (bv.field (o:=2) v2 (bv.end hl)))
 rw[List.drop_zero]at hv
 refine⟨ρ2,H2,(.agg [(.int .i64 a0),(.int .i64 a1),(.slice Qu a2.length Qv)].toArray:Value),({From:=a0,To:=a1,Map:=a2}:dG),r2,f2,((u0.trans u1).trans u2),((i0.trans i1).trans i2),?_,?_,w0,w1,w2⟩
 · exact hv
 · exact⟨⟨Qu,_,Qv⟩,rfl,q2⟩
def Ur(H:aB)(v:Value)(a:Source):Prop:=∃v0:Sv,v= .agg [v0.v,(.int .i64 a.Version)].toArray/\(aJ 242 xk) H v0.v a.Facts
instance:bE Ur:=⟨fun h hi=>by
 obtain⟨v0,h,h0⟩:=h
 exact⟨v0,h,bE.up h0 hi⟩⟩
instance:Cells Ur 2:=⟨fun h=>by
 obtain⟨v0,rfl,h0⟩:=h
 exact⟨rfl,rfl⟩⟩
theorem adA:fieldAt Tryz.prog 242 0=some (3,0,1):=by kernel_rfl
theorem anD:fieldAt Tryz.prog 242 1=some (22,1,1):=by kernel_rfl
def N8(a:Fact):Prop:=kr a.Rel/\(iZ kr) a.Values
theorem azQ:∀H v a,xk H v a->nN v=sw Tryz.prog 242:=by
 intro H v a h
 obtain⟨v1,rfl,_⟩:=h
 kernel_rfl
theorem aeK:eF Tryz.prog 242 xk N8:=by
 intro T enc w fuel cs x h hw ρ H hr hF
 have hl:=wY adA h (n:=2) aqe.h.sz.cells
 obtain⟨ρ0,H0,qR,a0,r0,f0,u0,i0,v0,q0,w0⟩:=jk adA h hw (eF.int (by kernel_rfl)) hr hF
 obtain⟨ρ1,H1,sO,a1,r1,f1,u1,i1,v1,q1,w1⟩:=jk anD h hw (eF.slice (s:=1) (by kernel_rfl) (by kernel_rfl) (by decide) (Nat.lt_of_lt_of_le (by decide) (Nat.le_of_eq (show 8=_ from by kernel_rfl))) (eF.int (by kernel_rfl))) r0 f0
 obtain rfl:qR=(.int .i64 a0):=q0
 replace v0:=v0.up u1
 obtain⟨sa1,ny,rfl⟩:=aJ.len q1
 replace v1:=v1.one rfl
 have hv:=bv.field (o:=0) v0 (bv.field (o:=1) v1 (bv.end hl))
 rw[List.drop_zero]at hv
 refine⟨ρ1,H1,(.agg [(.int .i64 a0),(.slice sa1 a1.length ny)].toArray:Value),({Rel:=a0,Values:=a1}:Fact),r1,f1,(u0.trans u1),(i0.trans i1),?_,?_,w0,w1⟩
 · exact hv
 · exact⟨⟨sa1,_,ny⟩,rfl,q1⟩
theorem ad5:fieldAt Tryz.prog 48 0=some (46,0,1):=by kernel_rfl
theorem aoG:fieldAt Tryz.prog 48 1=some (3,1,1):=by kernel_rfl
def YE(a:Source):Prop:=(iZ N8) a.Facts/\kr a.Version
theorem aBx:∀H v a,Ur H v a->nN v=sw Tryz.prog 48:=by
 intro H v a h
 obtain⟨v0,rfl,_⟩:=h
 kernel_rfl
theorem aui:eF Tryz.prog 48 Ur YE:=by
 intro T enc w fuel cs x h hw ρ H hr hF
 have hl:=wY ad5 h (n:=2) Yy.h.sz.cells
 obtain⟨ρ0,H0,qR,a0,r0,f0,u0,i0,v0,q0,w0⟩:=jk ad5 h hw (eF.slice (s:=2) (by kernel_rfl) (by kernel_rfl) (by decide) (Nat.lt_of_lt_of_le (by decide) (Nat.le_of_eq (show 32=_ from by kernel_rfl))) aeK) hr hF
 obtain⟨ρ1,H1,sO,a1,r1,f1,u1,i1,v1,q1,w1⟩:=jk aoG h hw (eF.int (by kernel_rfl)) r0 f0
 obtain⟨vX,vY,rfl⟩:=aJ.len q0
 replace v0:=v0.one rfl
 replace v0:=v0.up u1
 obtain rfl:sO=(.int .i64 a1):=q1
 have hv:=bv.field (o:=0) v0 (bv.field (o:=1) v1 (bv.end hl))
 rw[List.drop_zero]at hv
 refine⟨ρ1,H1,(.agg [(.slice vX a0.length vY),(.int .i64 a1)].toArray:Value),({Facts:=a0,Version:=a1}:Source),r1,f1,(u0.trans u1),(i0.trans i1),?_,?_,w0,w1⟩
 · exact hv
 · exact⟨⟨vX,_,vY⟩,rfl,(bE.up q0 i1)⟩
def Us(H:aB)(v:Value)(a:Cache):Prop:=∃v0:Sv,v= .agg [v0.v,(.int .i64 a.Age)].toArray/\(aJ 245 Cq) H v0.v a.Entries
instance:bE Us:=⟨fun h hi=>by
 obtain⟨v0,h,h0⟩:=h
 exact⟨v0,h,bE.up h0 hi⟩⟩
instance:Cells Us 2:=⟨fun h=>by
 obtain⟨v0,rfl,h0⟩:=h
 exact⟨rfl,rfl⟩⟩
theorem adB:fieldAt Tryz.prog 169 0=some (3,0,1):=by kernel_rfl
theorem anE:fieldAt Tryz.prog 169 1=some (22,1,1):=by kernel_rfl
def N9(a:Access):Prop:=kr a.Method/\(iZ kr) a.Values
theorem azR:∀H v a,Fx H v a->nN v=sw Tryz.prog 169:=by
 intro H v a h
 obtain⟨v1,rfl,_⟩:=h
 kernel_rfl
theorem aeL:eF Tryz.prog 169 Fx N9:=by
 intro T enc w fuel cs x h hw ρ H hr hF
 have hl:=wY adB h (n:=2) X6.h.sz.cells
 obtain⟨ρ0,H0,qR,a0,r0,f0,u0,i0,v0,q0,w0⟩:=jk adB h hw (eF.int (by kernel_rfl)) hr hF
 obtain⟨ρ1,H1,sO,a1,r1,f1,u1,i1,v1,q1,w1⟩:=jk anE h hw (eF.slice (s:=1) (by kernel_rfl) (by kernel_rfl) (by decide) (Nat.lt_of_lt_of_le (by decide) (Nat.le_of_eq (show 8=_ from by kernel_rfl))) (eF.int (by kernel_rfl))) r0 f0
 obtain rfl:qR=(.int .i64 a0):=q0
 replace v0:=v0.up u1
 obtain⟨sa1,ny,rfl⟩:=aJ.len q1
 replace v1:=v1.one rfl
 have hv:=bv.field (o:=0) v0 (bv.field (o:=1) v1 (bv.end hl))
 rw[List.drop_zero]at hv
 refine⟨ρ1,H1,(.agg [(.int .i64 a0),(.slice sa1 a1.length ny)].toArray:Value),({Method:=a0,Values:=a1}:Access),r1,f1,(u0.trans u1),(i0.trans i1),?_,?_,w0,w1⟩
 · exact hv
 · exact⟨⟨sa1,_,ny⟩,rfl,q1⟩
theorem adC:fieldAt Tryz.prog 245 0=some (169,0,2):=by kernel_rfl
theorem anF:fieldAt Tryz.prog 245 1=some (46,2,1):=by kernel_rfl
theorem anG:fieldAt Tryz.prog 245 2=some (3,3,1):=by kernel_rfl
def TW(a:eH):Prop:=N9 a.Access/\(iZ N8) a.Facts/\kr a.At
theorem azS:∀H v a,Cq H v a->nN v=sw Tryz.prog 245:=by
 intro H v a h
 obtain⟨v1,v2,rfl,_,_⟩:=h
 kernel_rfl
theorem aq7:eF Tryz.prog 245 Cq TW:=by
 intro T enc w fuel cs x h hw ρ H hr hF
 have hl:=wY adC h (n:=4) aqf.h.sz.cells
 obtain⟨ρ0,H0,qR,a0,r0,f0,u0,i0,v0,q0,w0⟩:=jk adC h hw aeL hr hF
 obtain⟨ρ1,H1,sO,a1,r1,f1,u1,i1,v1,q1,w1⟩:=jk anF h hw (eF.slice (s:=2) (by kernel_rfl) (by kernel_rfl) (by decide) (Nat.lt_of_lt_of_le (by decide) (Nat.le_of_eq (show 32=_ from by kernel_rfl))) aeK) r0 f0
 obtain⟨ρ2,H2,Qt,a2,r2,f2,u2,i2,v2,q2,w2⟩:=jk anG h hw (eF.int (by kernel_rfl)) r1 f1
 obtain⟨NJ,rfl,XU⟩:=q0
 replace v0:=v0.up (u1.trans u2)
 obtain⟨sa1,ny,rfl⟩:=aJ.len q1
 replace v1:=v1.one rfl
 replace v1:=v1.up u2
 obtain rfl:Qt=(.int .i64 a2):=q2
 have hv:=bv.field (o:=0) v0 (bv.field (o:=2) v1 (bv.field (o:=3) v2 (bv.end hl)))
 rw[List.drop_zero]at hv
 refine⟨ρ2,H2,(.agg [(.int .i64 a0.Method),NJ.v,(.slice sa1 a1.length ny),(.int .i64 a2)].toArray:Value),({Access:=a0,Facts:=a1,At:=a2}:eH),r2,f2,((u0.trans u1).trans u2),((i0.trans i1).trans i2),?_,?_,w0,w1,w2⟩
 · exact hv
 · exact⟨NJ,⟨sa1,_,ny⟩,rfl,(bE.up XU (i1.trans i2)),(bE.up q1 i2)⟩
theorem ad6:fieldAt Tryz.prog 51 0=some (49,0,1):=by kernel_rfl
theorem aoH:fieldAt Tryz.prog 51 1=some (3,1,1):=by kernel_rfl
def YF(a:Cache):Prop:=(iZ TW) a.Entries/\kr a.Age
theorem aBy:∀H v a,Us H v a->nN v=sw Tryz.prog 51:=by
 intro H v a h
 obtain⟨v0,rfl,_⟩:=h
 kernel_rfl
theorem auj:eF Tryz.prog 51 Us YF:=by
 intro T enc w fuel cs x h hw ρ H hr hF
 have hl:=wY ad6 h (n:=2) Yz.h.sz.cells
 obtain⟨ρ0,H0,qR,a0,r0,f0,u0,i0,v0,q0,w0⟩:=jk ad6 h hw (eF.slice (s:=4) (by kernel_rfl) (by kernel_rfl) (by decide) (Nat.lt_of_lt_of_le (by decide) (Nat.le_of_eq (show 64=_ from by kernel_rfl))) aq7) hr hF
 obtain⟨ρ1,H1,sO,a1,r1,f1,u1,i1,v1,q1,w1⟩:=jk aoH h hw (eF.int (by kernel_rfl)) r0 f0
 obtain⟨vX,vY,rfl⟩:=aJ.len q0
 replace v0:=v0.one rfl
 replace v0:=v0.up u1
 obtain rfl:sO=(.int .i64 a1):=q1
 have hv:=bv.field (o:=0) v0 (bv.field (o:=1) v1 (bv.end hl))
 rw[List.drop_zero]at hv
 refine⟨ρ1,H1,(.agg [(.slice vX a0.length vY),(.int .i64 a1)].toArray:Value),({Entries:=a0,Age:=a1}:Cache),r1,f1,(u0.trans u1),(i0.trans i1),?_,?_,w0,w1⟩
 · exact hv
 · exact⟨⟨vX,_,vY⟩,rfl,(bE.up q0 i1)⟩
theorem ad7:fieldAt Tryz.prog 55 0=some (22,0,1):=by kernel_rfl
theorem aoI:fieldAt Tryz.prog 55 1=some (23,1,1):=by kernel_rfl
theorem aoJ:fieldAt Tryz.prog 55 2=some (24,2,1):=by kernel_rfl
theorem aoK:fieldAt Tryz.prog 55 3=some (48,3,2):=by kernel_rfl
theorem aoL:fieldAt Tryz.prog 55 4=some (51,5,2):=by kernel_rfl
theorem aoM:fieldAt Tryz.prog 55 5=some (3,7,1):=by kernel_rfl
theorem aoN:fieldAt Tryz.prog 55 6=some (52,8,1):=by kernel_rfl
theorem aoO:fieldAt Tryz.prog 55 7=some (22,9,1):=by kernel_rfl
theorem aoP:fieldAt Tryz.prog 55 8=some (3,10,1):=by kernel_rfl
theorem aoQ:fieldAt Tryz.prog 55 9=some (53,11,1):=by kernel_rfl
def YG(a:gV):Prop:=(iZ kr) a.Schema/\(iZ Uo) a.Methods/\(iZ Uq) a.Rules/\YE a.Source/\YF a.Cache/\kr a.Now/\(iZ N9) a.Log/\(iZ kr) a.Times/\kr a.Spent/\(iZ (iZ (iZ kr))) a.Results
theorem auk:∀H v a,Un H v a->nN v=sw Tryz.prog 55:=by
 intro H v a h
 obtain⟨v0,v1,v2,v3,v5,v8,v9,v11,rfl,_,_,_,_,_,_,_,_⟩:=h
 kernel_rfl
theorem aul:eF Tryz.prog 55 Un YG:=by
 intro T enc w fuel cs x h hw ρ H hr hF
 have hl:=wY ad7 h (n:=12) atI.h.sz.cells
 obtain⟨ρ0,H0,qR,a0,r0,f0,u0,i0,v0,q0,w0⟩:=jk ad7 h hw (eF.slice (s:=1) (by kernel_rfl) (by kernel_rfl) (by decide) (Nat.lt_of_lt_of_le (by decide) (Nat.le_of_eq (show 8=_ from by kernel_rfl))) (eF.int (by kernel_rfl))) hr hF
 obtain⟨ρ1,H1,sO,a1,r1,f1,u1,i1,v1,q1,w1⟩:=jk aoI h hw (eF.slice (s:=5) (by kernel_rfl) (by kernel_rfl) (by decide) (Nat.lt_of_lt_of_le (by decide) (Nat.le_of_eq (show 56=_ from by kernel_rfl))) aug) r0 f0
 obtain⟨ρ2,H2,Qt,a2,r2,f2,u2,i2,v2,q2,w2⟩:=jk aoJ h hw (eF.slice (s:=3) (by kernel_rfl) (by kernel_rfl) (by decide) (Nat.lt_of_lt_of_le (by decide) (Nat.le_of_eq (show 40=_ from by kernel_rfl))) auh) r1 f1
 obtain⟨ρ3,H3,av3,a3,r3,f3,u3,i3,v3,q3,w3⟩:=jk aoK h hw aui r2 f2
 obtain⟨ρ4,H4,av4,a4,r4,f4,u4,i4,v4,q4,w4⟩:=jk aoL h hw auj r3 f3
 obtain⟨ρ5,H5,av5,a5,r5,f5,u5,i5,v5,q5,w5⟩:=jk aoM h hw (eF.int (by kernel_rfl)) r4 f4
 obtain⟨ρ6,H6,av6,a6,r6,f6,u6,i6,v6,q6,w6⟩:=jk aoN h hw (eF.slice (s:=2) (by kernel_rfl) (by kernel_rfl) (by decide) (Nat.lt_of_lt_of_le (by decide) (Nat.le_of_eq (show 32=_ from by kernel_rfl))) aeL) r5 f5
 obtain⟨ρ7,H7,av7,a7,r7,f7,u7,i7,v7,q7,w7⟩:=jk aoO h hw (eF.slice (s:=1) (by kernel_rfl) (by kernel_rfl) (by decide) (Nat.lt_of_lt_of_le (by decide) (Nat.le_of_eq (show 8=_ from by kernel_rfl))) (eF.int (by kernel_rfl))) r6 f6
 obtain⟨ρ8,H8,av8,a8,r8,f8,u8,i8,v8,q8,w8⟩:=jk aoP h hw (eF.int (by kernel_rfl)) r7 f7
 obtain⟨ρ9,H9,av9,a9,r9,f9,u9,i9,v9,q9,w9⟩:=jk aoQ h hw (eF.slice (s:=1) (by kernel_rfl) (by kernel_rfl) (by decide) (Nat.lt_of_lt_of_le (by decide) (Nat.le_of_eq (show 24=_ from by kernel_rfl))) (eF.slice (s:=1) (by kernel_rfl) (by kernel_rfl) (by decide) (Nat.lt_of_lt_of_le (by decide) (Nat.le_of_eq (show 24=_ from by kernel_rfl))) (eF.slice (s:=1) (by kernel_rfl) (by kernel_rfl) (by decide) (Nat.lt_of_lt_of_le (by decide) (Nat.le_of_eq (show 8=_ from by kernel_rfl))) (eF.int (by kernel_rfl))))) r8 f8
 obtain⟨vX,vY,rfl⟩:=aJ.len q0
 replace v0:=v0.one rfl
 replace v0:=v0.up ((((((((u1.trans u2).trans u3).trans u4).trans u5).trans u6).trans u7).trans u8).trans u9)
 obtain⟨sa1,ny,rfl⟩:=aJ.len q1
 replace v1:=v1.one rfl
 replace v1:=v1.up (((((((u2.trans u3).trans u4).trans u5).trans u6).trans u7).trans u8).trans u9)
 obtain⟨Qu,Qv,rfl⟩:=aJ.len q2
 replace v2:=v2.one rfl
 replace v2:=v2.up ((((((u3.trans u4).trans u5).trans u6).trans u7).trans u8).trans u9)
 obtain⟨ad8,rfl,aoR⟩:=q3
 replace v3:=v3.up (((((u4.trans u5).trans u6).trans u7).trans u8).trans u9)
 obtain⟨ad9,rfl,aoS⟩:=q4
 replace v4:=v4.up ((((u5.trans u6).trans u7).trans u8).trans u9)
 obtain rfl:av5=(.int .i64 a5):=q5
 replace v5:=v5.up (((u6.trans u7).trans u8).trans u9)
 obtain⟨sa6,sm6,rfl⟩:=aJ.len q6
 replace v6:=v6.one rfl
 replace v6:=v6.up ((u7.trans u8).trans u9)
 obtain⟨sa7,sm7,rfl⟩:=aJ.len q7
 replace v7:=v7.one rfl
 replace v7:=v7.up (u8.trans u9)
 obtain rfl:av8=(.int .i64 a8):=q8
 replace v8:=v8.up u9
 obtain⟨sa9,sm9,rfl⟩:=aJ.len q9
 replace v9:=v9.one rfl
 have hv:=bv.field (o:=0) v0 (bv.field (o:=1) v1 (bv.field (o:=2) v2 (bv.field (o:=3) v3 (bv.field (o:=5) v4 (bv.field (o:=7) v5 (bv.field (o:=8) v6 (bv.field (o:=9) v7 (bv.field (o:=10) v8 (bv.field (o:=11) v9 (bv.end hl))))))))))
 rw[List.drop_zero]at hv
 refine⟨ρ9,H9,(.agg [(.slice vX a0.length vY),(.slice sa1 a1.length ny),(.slice Qu a2.length Qv),ad8.v,(.int .i64 a3.Version),ad9.v,(.int .i64 a4.Age),(.int .i64 a5),(.slice sa6 a6.length sm6),(.slice sa7 a7.length sm7),(.int .i64 a8),(.slice sa9 a9.length sm9)].toArray:Value),({Schema:=a0,Methods:=a1,Rules:=a2,Source:=a3,Cache:=a4,Now:=a5,Log:=a6,Times:=a7,Spent:=a8,Results:=a9}:gV),r9,f9,(((((((((u0.trans u1).trans u2).trans u3).trans u4).trans u5).trans u6).trans u7).trans u8).trans u9),(((((((((i0.trans i1).trans i2).trans i3).trans i4).trans i5).trans i6).trans i7).trans i8).trans i9),?_,?_,w0,w1,w2,w3,w4,w5,w6,w7,w8,w9⟩
 · exact hv
 · exact⟨⟨vX,_,vY⟩,⟨sa1,_,ny⟩,⟨Qu,_,Qv⟩,ad8,ad9,⟨sa6,_,sm6⟩,⟨sa7,_,sm7⟩,⟨sa9,_,sm9⟩,rfl,(bE.up q0 ((((((((i1.trans i2).trans i3).trans i4).trans i5).trans i6).trans i7).trans i8).trans i9)),(bE.up q1 (((((((i2.trans i3).trans i4).trans i5).trans i6).trans i7).trans i8).trans i9)),(bE.up q2 ((((((i3.trans i4).trans i5).trans i6).trans i7).trans i8).trans i9)),(bE.up aoR (((((i4.trans i5).trans i6).trans i7).trans i8).trans i9)),(bE.up aoS ((((i5.trans i6).trans i7).trans i8).trans i9)),(bE.up q6 ((i7.trans i8).trans i9)),(bE.up q7 (i8.trans i9)),q9⟩
def Ut(H:aB)(v:Value)(a:Query):Prop:=∃v0 v1:Sv,v= .agg [v0.v,v1.v].toArray/\(aJ 3 aK) H v0.v a.Head/\(aJ 119 Fy) H v1.v a.Atoms
instance:bE Ut:=⟨fun h hi=>by
 obtain⟨v0,v1,h,h0,h1⟩:=h
 exact⟨v0,v1,h,bE.up h0 hi,bE.up h1 hi⟩⟩
instance:Cells Ut 2:=⟨fun h=>by
 obtain⟨v0,v1,rfl,h0,h1⟩:=h
 exact⟨rfl,rfl⟩⟩
theorem adD:fieldAt Tryz.prog 119 0=some (3,0,1):=by kernel_rfl
theorem anH:fieldAt Tryz.prog 119 1=some (22,1,1):=by kernel_rfl
def TZ(a:Atom):Prop:=kr a.Rel/\(iZ kr) a.Terms
theorem azT:∀H v a,Fy H v a->nN v=sw Tryz.prog 119:=by
 intro H v a h
 obtain⟨v1,rfl,_⟩:=h
 kernel_rfl
theorem aq8:eF Tryz.prog 119 Fy TZ:=by
 intro T enc w fuel cs x h hw ρ H hr hF
 have hl:=wY adD h (n:=2) aqg.h.sz.cells
 obtain⟨ρ0,H0,qR,a0,r0,f0,u0,i0,v0,q0,w0⟩:=jk adD h hw (eF.int (by kernel_rfl)) hr hF
 obtain⟨ρ1,H1,sO,a1,r1,f1,u1,i1,v1,q1,w1⟩:=jk anH h hw (eF.slice (s:=1) (by kernel_rfl) (by kernel_rfl) (by decide) (Nat.lt_of_lt_of_le (by decide) (Nat.le_of_eq (show 8=_ from by kernel_rfl))) (eF.int (by kernel_rfl))) r0 f0
 obtain rfl:qR=(.int .i64 a0):=q0
 replace v0:=v0.up u1
 obtain⟨sa1,ny,rfl⟩:=aJ.len q1
 replace v1:=v1.one rfl
 have hv:=bv.field (o:=0) v0 (bv.field (o:=1) v1 (bv.end hl))
 rw[List.drop_zero]at hv
 refine⟨ρ1,H1,(.agg [(.int .i64 a0),(.slice sa1 a1.length ny)].toArray:Value),({Rel:=a0,Terms:=a1}:Atom),r1,f1,(u0.trans u1),(i0.trans i1),?_,?_,w0,w1⟩
 · exact hv
 · exact⟨⟨sa1,_,ny⟩,rfl,q1⟩
theorem ad_:fieldAt Tryz.prog 27 0=some (22,0,1):=by kernel_rfl
theorem aoT:fieldAt Tryz.prog 27 1=some (25,1,1):=by kernel_rfl
def YH(a:Query):Prop:=(iZ kr) a.Head/\(iZ TZ) a.Atoms
theorem aum:∀H v a,Ut H v a->nN v=sw Tryz.prog 27:=by
 intro H v a h
 obtain⟨v0,v1,rfl,_,_⟩:=h
 kernel_rfl
theorem aun:eF Tryz.prog 27 Ut YH:=by
 intro T enc w fuel cs x h hw ρ H hr hF
 have hl:=wY ad_ h (n:=2) atJ.h.sz.cells
 obtain⟨ρ0,H0,qR,a0,r0,f0,u0,i0,v0,q0,w0⟩:=jk ad_ h hw (eF.slice (s:=1) (by kernel_rfl) (by kernel_rfl) (by decide) (Nat.lt_of_lt_of_le (by decide) (Nat.le_of_eq (show 8=_ from by kernel_rfl))) (eF.int (by kernel_rfl))) hr hF
 obtain⟨ρ1,H1,sO,a1,r1,f1,u1,i1,v1,q1,w1⟩:=jk aoT h hw (eF.slice (s:=2) (by kernel_rfl) (by kernel_rfl) (by decide) (Nat.lt_of_lt_of_le (by decide) (Nat.le_of_eq (show 32=_ from by kernel_rfl))) aq8) r0 f0
 obtain⟨vX,vY,rfl⟩:=aJ.len q0
 replace v0:=v0.one rfl
 replace v0:=v0.up u1
 obtain⟨sa1,ny,rfl⟩:=aJ.len q1
 replace v1:=v1.one rfl
 have hv:=bv.field (o:=0) v0 (bv.field (o:=1) v1 (bv.end hl))
 rw[List.drop_zero]at hv
 refine⟨ρ1,H1,(.agg [(.slice vX a0.length vY),(.slice sa1 a1.length ny)].toArray:Value),({Head:=a0,Atoms:=a1}:Query),r1,f1,(u0.trans u1),(i0.trans i1),?_,?_,w0,w1⟩
 · exact hv
 · exact⟨⟨vX,_,vY⟩,⟨sa1,_,ny⟩,rfl,(bE.up q0 i1),q1⟩
theorem zI{α β:Type}{l:List α}{i:Int}{f:α->Option β}{R:β}{G:Prop}(hF:(ix l i).bind f=some R)(k:∀x,0<=i->l[i.toNat]?=some x->f x=some R->G):G:=by
 obtain⟨x,h,e⟩:=Option.bind_eq_some_iff.1 hF
 obtain⟨h1,h2⟩:=yO h
 exact k x h1 h2 e
theorem iU{G N:Prop}(k:N)(h:N->G:=by (intro k; (iterate 10 refine au ?_); exact k)):G:=h k
theorem oC{G N:Prop}(k:N)(h:N->G:=by (intro k; (iterate 11 refine au ?_); exact k)):G:=h k
theorem Cs{G N:Prop}(k:N)(h:N->G:=by (intro k; (iterate 12 refine au ?_); exact k)):G:=h k
theorem aq9{G N:Prop}(k:N)(h:N->G:=by (intro k; (iterate 13 refine au ?_); exact k)):G:=h k
theorem aq_{G N:Prop}(k:N)(h:N->G:=by (intro k; (iterate 14 refine au ?_); exact k)):G:=h k
theorem zO{G N:Prop}(k:N)(h:N->G:=by (intro k; (iterate 15 refine au ?_); exact k)):G:=h k
theorem N_{G N:Prop}(k:N)(h:N->G:=by (intro k; (iterate 16 refine au ?_); exact k)):G:=h k
theorem aeM{G N:Prop}(k:N)(h:N->G:=by (intro k; (iterate 18 refine au ?_); exact k)):G:=h k
theorem aW{G N:Prop}(k:N)(h:N->G:=by (intro k; (iterate 2 refine au ?_); exact k)):G:=h k
theorem bq{G N:Prop}(k:N)(h:N->G:=by (intro k; (iterate 3 refine au ?_); exact k)):G:=h k
theorem aU{G N:Prop}(k:N)(h:N->G:=by (intro k; (iterate 4 refine au ?_); exact k)):G:=h k
theorem aV{G N:Prop}(k:N)(h:N->G:=by (intro k; (iterate 5 refine au ?_); exact k)):G:=h k
theorem aZ{G N:Prop}(k:N)(h:N->G:=by (intro k; (iterate 6 refine au ?_); exact k)):G:=h k
theorem bf{G N:Prop}(k:N)(h:N->G:=by (intro k; (iterate 7 refine au ?_); exact k)):G:=h k
theorem di{G N:Prop}(k:N)(h:N->G:=by (intro k; (iterate 8 refine au ?_); exact k)):G:=h k
theorem dK{G N:Prop}(k:N)(h:N->G:=by (intro k; (iterate 9 refine au ?_); exact k)):G:=h k
theorem bL(b:Bool):b=true\/b=false:=Bool.eq_false_or_eq_true b
theorem aN{α:Sort _}{a b:α}:cond false a b=b:=rfl
theorem aO{α:Sort _}{a b:α}:cond true a b=a:=rfl
theorem ara{G N:Prop}(k:N)(h:N->G:=by (intro k; (iterate 10 refine du ?_); exact k)):G:=h k
theorem arb{G N:Prop}(k:N)(h:N->G:=by (intro k; (iterate 13 refine du ?_); exact k)):G:=h k
theorem bS{G N:Prop}(k:N)(h:N->G:=by (intro k; (iterate 2 refine du ?_); exact k)):G:=h k
theorem dI{G N:Prop}(k:N)(h:N->G:=by (intro k; (iterate 3 refine du ?_); exact k)):G:=h k
theorem o9{G N:Prop}(k:N)(h:N->G:=by (intro k; (iterate 4 refine du ?_); exact k)):G:=h k
theorem ve{G N:Prop}(k:N)(h:N->G:=by (intro k; (iterate 5 refine du ?_); exact k)):G:=h k
theorem Cv{G N:Prop}(k:N)(h:N->G:=by (intro k; (iterate 6 refine du ?_); exact k)):G:=h k
theorem afx{G N:Prop}(k:N)(h:N->G:=by (intro k; (iterate 7 refine du ?_); exact k)):G:=h k
theorem afy{G N:Prop}(k:N)(h:N->G:=by (intro k; (iterate 8 refine du ?_); exact k)):G:=h k
theorem ze{G P:Prop}(hF:P)(h:P->G:=by (intro hF; (repeat refine au ?_); cases hF; exact Er ())):G:=h hF
theorem bO{G P:Prop}(hF:P)(h:P->G:=by (intro hF; (repeat refine au ?_); cases hF; exact⟨_,_,rfl,aA,az⟩)):G:=h hF
theorem eO{G P:Prop}(hF:P)(h:P->G:=by (intro hF; (repeat refine du ?_); cases hF; exact⟨_,_,rfl,aA,az⟩)):G:=h hF
abbrev zg(l:List Value):Value:=.agg l.toArray
abbrev zi(n:Int):Value:=.int .i64 n
theorem bG(n:Nat):n<n.succ:=Nat.lt_succ_self n
abbrev rD(F:List Nat)(v:Sv):=aQ (aP 123 kM) F v.v
abbrev rE(F:List Nat)(v:Sv):=aQ (aP 136 qx) F v.v
abbrev aeN(F:List Nat)(v:Sv):=aQ (aP 145 xq) F v.v
abbrev nO(F:List Nat)(v:Sv):=aQ (aP 147 iT) F v.v
abbrev X_(F:List Nat)(v:Sv):=aQ (aP 248 xm) F v.v
abbrev vg(F:List Nat)(v:Sv):=aQ (aP 39 sF) F v.v
abbrev afz(F:List Nat)(v:Sv):=aQ (aP 89 xH) F v.v
abbrev afA(F:List Nat)(v:Sv):=aQ (aP 91 xI) F v.v
abbrev Ya(F:List Nat)(v:Sv):=aQ (aP 147 (aG m_)) F v.v
abbrev pX(F:List Nat)(v:Sv):=aQ (aP 204 (aG gZ)) F v.v
abbrev bC(F:List Nat)(v:Sv):=aQ (aP 3 (aG aK)) F v.v
abbrev xU(F:List Nat)(v:Sv):=aQ (aP 4 (aG rdBool)) F v.v
abbrev FQ(F:List Nat)(v:Sv):=aQ (aP 89 (aG ma)) F v.v
abbrev Qw(F:List Nat)(v:Sv):=aQ (aP 9 (aG rdStr)) F v.v
abbrev FE(v:Sv):=bK (aJ 119 Fy) v.v
abbrev bH(v:Sv):=bK (aJ 123 uW) v.v
abbrev tY(v:Sv):=bK (aJ 136 NY) v.v
abbrev ng(v:Sv):=bK (aJ 145 Jw) v.v
abbrev dY(v:Sv):=bK (aJ 147 m_) v.v
abbrev FH(v:Sv):=bK (aJ 169 Fx) v.v
abbrev g_(v:Sv):=bK (aJ 204 gZ) v.v
abbrev uX(v:Sv):=bK (aJ 242 xk) v.v
abbrev zP(v:Sv):=bK (aJ 245 Cq) v.v
abbrev kv(v:Sv):=bK (aJ 248 Fz) v.v
abbrev ah(v:Sv):=bK (aJ 3 aK) v.v
abbrev JI(v:Sv):=bK (aJ 39 OE) v.v
abbrev FR(v:Sv):=bK (aJ 72 FN) v.v
abbrev FT(v:Sv):=bK (aJ 75 FO) v.v
abbrev dD(v:Sv):=bK (aJ 89 ma) v.v
abbrev Vq(v:Sv):=bK (aJ 9 rdStr) v.v
abbrev lN(v:Sv):=bK (aJ 91 JH) v.v
theorem zx{G N:Prop}(k:N)(h:N->G:=by (intro k; exact aI (wP (.tmp rfl rfl) rfl) k)):G:=h k
theorem _root_.Go.Fw.Mem.q2{c d0 d1:aD}{l:List aD}:Fw.Mem c (d0::d1::c::l):=.t (.t .h)
theorem _root_.Go.Fw.Mem.q3{c d0 d1 d2:aD}{l:List aD}:Fw.Mem c (d0::d1::d2::c::l):=.t (.t (.t .h))
theorem _root_.Go.Fw.Mem.q4{c d0 d1 d2 d3:aD}{l:List aD}:Fw.Mem c (d0::d1::d2::d3::c::l):=.t (.t (.t (.t .h)))
theorem _root_.Go.Fw.Mem.q5{c d0 d1 d2 d3 d4:aD}{l:List aD}:Fw.Mem c (d0::d1::d2::d3::d4::c::l):=.t (.t (.t (.t (.t .h))))
theorem _root_.Go.Fw.Mem.q6{c d0 d1 d2 d3 d4 d5:aD}{l:List aD}:Fw.Mem c (d0::d1::d2::d3::d4::d5::c::l):=.t (.t (.t (.t (.t (.t .h)))))
theorem _root_.Go.Fw.Mem.q7{c d0 d1 d2 d3 d4 d5 d6:aD}{l:List aD}:Fw.Mem c (d0::d1::d2::d3::d4::d5::d6::c::l):=.t (.t (.t (.t (.t (.t (.t .h))))))
theorem _root_.Go.Fw.Mem.q8{c d0 d1 d2 d3 d4 d5 d6 d7:aD}{l:List aD}:Fw.Mem c (d0::d1::d2::d3::d4::d5::d6::d7::c::l):=.t (.t (.t (.t (.t (.t (.t (.t .h)))))))
theorem _root_.Go.Fw.Mem.q9{c d0 d1 d2 d3 d4 d5 d6 d7 d8:aD}{l:List aD}:Fw.Mem c (d0::d1::d2::d3::d4::d5::d6::d7::d8::c::l):=.t (.t (.t (.t (.t (.t (.t (.t (.t .h))))))))
theorem _root_.Go.Fw.Mem.q10{c d0 d1 d2 d3 d4 d5 d6 d7 d8 d9:aD}{l:List aD}:Fw.Mem c (d0::d1::d2::d3::d4::d5::d6::d7::d8::d9::c::l):=.t (.t (.t (.t (.t (.t (.t (.t (.t (.t .h)))))))))
theorem _root_.Go.Fw.Mem.q11{c d0 d1 d2 d3 d4 d5 d6 d7 d8 d9 nX:aD}{l:List aD}:Fw.Mem c (d0::d1::d2::d3::d4::d5::d6::d7::d8::d9::nX::c::l):=.t (.t (.t (.t (.t (.t (.t (.t (.t (.t (.t .h))))))))))
theorem _root_.Go.Fw.Mem.q12{c d0 d1 d2 d3 d4 d5 d6 d7 d8 d9 nX rQ:aD}{l:List aD}:Fw.Mem c (d0::d1::d2::d3::d4::d5::d6::d7::d8::d9::nX::rQ::c::l):=.t (.t (.t (.t (.t (.t (.t (.t (.t (.t (.t (.t .h)))))))))))
theorem _root_.Go.Fw.Mem.q13{c d0 d1 d2 d3 d4 d5 d6 d7 d8 d9 nX rQ Ay:aD}{l:List aD}:Fw.Mem c (d0::d1::d2::d3::d4::d5::d6::d7::d8::d9::nX::rQ::Ay::c::l):=.t (.t (.t (.t (.t (.t (.t (.t (.t (.t (.t (.t (.t .h))))))))))))
theorem _root_.Go.Fw.Mem.q14{c d0 d1 d2 d3 d4 d5 d6 d7 d8 d9 nX rQ Ay Vr:aD}{l:List aD}:Fw.Mem c (d0::d1::d2::d3::d4::d5::d6::d7::d8::d9::nX::rQ::Ay::Vr::c::l):=.t (.t (.t (.t (.t (.t (.t (.t (.t (.t (.t (.t (.t (.t .h)))))))))))))
theorem _root_.Go.Fw.Sel.q2{c d0 d1:aD}{l:List aD}:Fw.Sel (d0::d1::c::l) c (d0::d1::l):=.t (.t .h)
theorem _root_.Go.Fw.Sel.q3{c d0 d1 d2:aD}{l:List aD}:Fw.Sel (d0::d1::d2::c::l) c (d0::d1::d2::l):=.t (.t (.t .h))
theorem _root_.Go.Fw.Sel.q4{c d0 d1 d2 d3:aD}{l:List aD}:Fw.Sel (d0::d1::d2::d3::c::l) c (d0::d1::d2::d3::l):=.t (.t (.t (.t .h)))
theorem _root_.Go.Fw.Sel.q5{c d0 d1 d2 d3 d4:aD}{l:List aD}:Fw.Sel (d0::d1::d2::d3::d4::c::l) c (d0::d1::d2::d3::d4::l):=.t (.t (.t (.t (.t .h))))
theorem _root_.Go.Fw.Sel.q6{c d0 d1 d2 d3 d4 d5:aD}{l:List aD}:Fw.Sel (d0::d1::d2::d3::d4::d5::c::l) c (d0::d1::d2::d3::d4::d5::l):=.t (.t (.t (.t (.t (.t .h)))))
theorem _root_.Go.Fw.Sel.q7{c d0 d1 d2 d3 d4 d5 d6:aD}{l:List aD}:Fw.Sel (d0::d1::d2::d3::d4::d5::d6::c::l) c (d0::d1::d2::d3::d4::d5::d6::l):=.t (.t (.t (.t (.t (.t (.t .h))))))
theorem _root_.Go.Fw.Sel.q8{c d0 d1 d2 d3 d4 d5 d6 d7:aD}{l:List aD}:Fw.Sel (d0::d1::d2::d3::d4::d5::d6::d7::c::l) c (d0::d1::d2::d3::d4::d5::d6::d7::l):=.t (.t (.t (.t (.t (.t (.t (.t .h)))))))
theorem _root_.Go.Fw.Sel.q9{c d0 d1 d2 d3 d4 d5 d6 d7 d8:aD}{l:List aD}:Fw.Sel (d0::d1::d2::d3::d4::d5::d6::d7::d8::c::l) c (d0::d1::d2::d3::d4::d5::d6::d7::d8::l):=.t (.t (.t (.t (.t (.t (.t (.t (.t .h))))))))
theorem _root_.Go.Fw.Sel.q10{c d0 d1 d2 d3 d4 d5 d6 d7 d8 d9:aD}{l:List aD}:Fw.Sel (d0::d1::d2::d3::d4::d5::d6::d7::d8::d9::c::l) c (d0::d1::d2::d3::d4::d5::d6::d7::d8::d9::l):=.t (.t (.t (.t (.t (.t (.t (.t (.t (.t .h)))))))))
theorem _root_.Go.Fw.Sel.q11{c d0 d1 d2 d3 d4 d5 d6 d7 d8 d9 nX:aD}{l:List aD}:Fw.Sel (d0::d1::d2::d3::d4::d5::d6::d7::d8::d9::nX::c::l) c (d0::d1::d2::d3::d4::d5::d6::d7::d8::d9::nX::l):=.t (.t (.t (.t (.t (.t (.t (.t (.t (.t (.t .h))))))))))
theorem _root_.Go.Fw.Sel.q12{c d0 d1 d2 d3 d4 d5 d6 d7 d8 d9 nX rQ:aD}{l:List aD}:Fw.Sel (d0::d1::d2::d3::d4::d5::d6::d7::d8::d9::nX::rQ::c::l) c (d0::d1::d2::d3::d4::d5::d6::d7::d8::d9::nX::rQ::l):=.t (.t (.t (.t (.t (.t (.t (.t (.t (.t (.t (.t .h)))))))))))
theorem _root_.Go.Fw.Sel.q13{c d0 d1 d2 d3 d4 d5 d6 d7 d8 d9 nX rQ Ay:aD}{l:List aD}:Fw.Sel (d0::d1::d2::d3::d4::d5::d6::d7::d8::d9::nX::rQ::Ay::c::l) c (d0::d1::d2::d3::d4::d5::d6::d7::d8::d9::nX::rQ::Ay::l):=.t (.t (.t (.t (.t (.t (.t (.t (.t (.t (.t (.t (.t .h))))))))))))
theorem _root_.Go.Fw.Sel.q14{c d0 d1 d2 d3 d4 d5 d6 d7 d8 d9 nX rQ Ay Vr:aD}{l:List aD}:Fw.Sel (d0::d1::d2::d3::d4::d5::d6::d7::d8::d9::nX::rQ::Ay::Vr::c::l) c (d0::d1::d2::d3::d4::d5::d6::d7::d8::d9::nX::rQ::Ay::Vr::l):=.t (.t (.t (.t (.t (.t (.t (.t (.t (.t (.t (.t (.t (.t .h)))))))))))))
def tH(aa:List Int)(bX:Int):Option (Int):=
 if (decide (((IntKind.i64.wrap (bX-(aa.length:Int))):Int)<0))then (
   some (-1))
 else (
   some (IntKind.i64.wrap (bX-(aa.length:Int))))
theorem yz{aa:List Int}{ae:Sv}{bX R:Int}(hF:tH aa bX=some R):
   Fw.Spec Tryz.prog 25 [ae.v,(zi bX)] [ah ae aa] (fun _:Unit=>(zi R)) (fun _=>[]):=by
 refine Se 12 Tryz.func25 [.tmp 4] ?_
 intro H0 F0
 unfold tH at hF
 refine zO ?_
 refine Ci hF (fun hb1 hF=>?_) (fun hb1 hF=>?_)
 · exact ze hF
 exact ze hF
def L8(aa:Method)(bX:Int):Option (Int):=
 (tH aa.Inputs bX).bind fun r2=>
 if (decide ((r2:Int)<0))then (
   some (-1))
 else (
   some r2)
theorem ajh{aa:Method}{ay:Sv}{bX R:Int}(hF:L8 aa bX=some R):
   Fw.Spec Tryz.prog 23 [(zg [(zi aa.Rel),ay.v,(zi aa.Limit),(zi aa.Cost),(zi aa.Quota)]),(zi bX)] [ah ay aa.Inputs] (fun _:Unit=>(zi R)) (fun _=>[]):=by
 refine Se 12 Tryz.func23 [.tmp 4] ?_
 intro H0 F0
 unfold L8 at hF
 refine au ?_
 refine bB (fun k1=>?_)
 refine aZ ?_
 refine bnd hF fun r2 hx3 hF=>aX (yz hx3) (fun _=>?_)
 refine bf ?_
 refine Ci hF (fun hb5 hF=>?_) (fun hb5 hF=>?_)
 · exact ze hF
 exact ze hF
def KS:List Method->Nat->Int->Option (Int)
 |[],k5,c1=>some c1
 |x7::bz,k5,c1=>(L8 x7 c1).bind fun dS=>
   if (decide ((dS:Int)<0))then (
     some (-1))
   else (
     KS bz (k5+1) dS)
def RY(aa:List Method)(bX:Int):Option (Int):=
 if (decide (((IntKind.i64.wrap (bX-(aa.length:Int))):Int)<0))then (
   some (-1))
 else (
   KS aa 0 (IntKind.i64.wrap (bX-(aa.length:Int))))
theorem aiP{aa:List Method}{ae:Sv}{bX R:Int}(hF:RY aa bX=some R):
   Fw.Spec Tryz.prog 5 [ae.v,(zi bX)] [FR ae aa] (fun _:Unit=>(zi R)) (fun _=>[]):=by
 refine Se 27 Tryz.func5 [.tmp 4] ?_
 intro H0 F0
 unfold RY at hF
 refine zO ?_
 refine Ci hF (fun lg hF=>?_) (fun lg hF=>?_)
 · exact ze hF
 refine aV ?_
 refine bn (bF (m:=aa.length) (fun m3 f' cs'=>∃(g:Fr)(k5:Nat)(bz:List Method)(c1:Int),m3=bz.length/\f'=aM g [(0,ae.v),(1,(zi c1)),(5,(zi (k5:Int)))]/\List.drop k5 aa=bz/\aL cs' [FR ae aa]/\KS bz k5 c1=some R) ⟨_,0,_,_,rfl,aA,rfl,az,hF⟩ ?_)
 rintro m3 _ _ ⟨g4,k5,bz,c1,rfl,rfl,gL,hE,hF⟩
 refine Kb hE aa (fun qz=>?_)
 rcases bz with _|⟨x7,bz⟩
 · have jP:=dn gL
   rw[KS]at hF
   refine bf ?_
   refine bR ?_
   exact ze hF
 obtain⟨jP,eX,gD⟩:=bN gL
 rw[KS]at hF
 refine bf ?_
 refine bQ ?_
 refine aV ?_
 refine Ai eX (fun k14 vZ=>?_)
 refine iM (WW x7) acv (fun p16=>?_)
 refine au ?_
 refine bnd hF fun dS fV hF=>aX (ajh fV) (fun _=>?_)
 refine aZ ?_
 refine Ci hF (fun mH hF=>?_) (fun mH hF=>?_)
 · exact ze hF
 refine aZ ?_
 rw[wk k5]
 exact⟨_,bG _,_,k5+1,bz,_,rfl,aA,gD,az,hF⟩
def Na(aa:dG)(bX:Int):Option (Int):=
 (tH aa.Map bX).bind fun r2=>
 if (decide ((r2:Int)<0))then (
   some (-1))
 else (
   some r2)
theorem akP{aa:dG}{dm:Sv}{bX R:Int}(hF:Na aa bX=some R):
   Fw.Spec Tryz.prog 24 [(zg [(zi aa.From),(zi aa.To),dm.v]),(zi bX)] [ah dm aa.Map] (fun _:Unit=>(zi R)) (fun _=>[]):=by
 refine Se 12 Tryz.func24 [.tmp 4] ?_
 intro H0 F0
 unfold Na at hF
 refine au ?_
 refine bB (fun k1=>?_)
 refine aZ ?_
 refine bnd hF fun r2 hx3 hF=>aX (yz hx3) (fun _=>?_)
 refine bf ?_
 refine Ci hF (fun hb5 hF=>?_) (fun hb5 hF=>?_)
 · exact ze hF
 exact ze hF
def Lh:List dG->Nat->Int->Option (Int)
 |[],k5,c1=>some c1
 |x7::bz,k5,c1=>(Na x7 c1).bind fun dS=>
   if (decide ((dS:Int)<0))then (
     some (-1))
   else (
     Lh bz (k5+1) dS)
def SB(aa:List dG)(bX:Int):Option (Int):=
 if (decide (((IntKind.i64.wrap (bX-(aa.length:Int))):Int)<0))then (
   some (-1))
 else (
   Lh aa 0 (IntKind.i64.wrap (bX-(aa.length:Int))))
theorem aj'{aa:List dG}{ae:Sv}{bX R:Int}(hF:SB aa bX=some R):
   Fw.Spec Tryz.prog 6 [ae.v,(zi bX)] [FT ae aa] (fun _:Unit=>(zi R)) (fun _=>[]):=by
 refine Se 27 Tryz.func6 [.tmp 4] ?_
 intro H0 F0
 unfold SB at hF
 refine zO ?_
 refine Ci hF (fun lg hF=>?_) (fun lg hF=>?_)
 · exact ze hF
 refine aV ?_
 refine bn (bF (m:=aa.length) (fun m3 f' cs'=>∃(g:Fr)(k5:Nat)(bz:List dG)(c1:Int),m3=bz.length/\f'=aM g [(0,ae.v),(1,(zi c1)),(5,(zi (k5:Int)))]/\List.drop k5 aa=bz/\aL cs' [FT ae aa]/\Lh bz k5 c1=some R) ⟨_,0,_,_,rfl,aA,rfl,az,hF⟩ ?_)
 rintro m3 _ _ ⟨g4,k5,bz,c1,rfl,rfl,gL,hE,hF⟩
 refine Kb hE aa (fun qz=>?_)
 rcases bz with _|⟨x7,bz⟩
 · have jP:=dn gL
   rw[Lh]at hF
   refine bf ?_
   refine bR ?_
   exact ze hF
 obtain⟨jP,eX,gD⟩:=bN gL
 rw[Lh]at hF
 refine bf ?_
 refine bQ ?_
 refine aV ?_
 refine Ai eX (fun k14 vZ=>?_)
 refine iM (WX x7) acw (fun p16=>?_)
 refine au ?_
 refine bnd hF fun dS fV hF=>aX (akP fV) (fun _=>?_)
 refine aZ ?_
 refine Ci hF (fun mH hF=>?_) (fun mH hF=>?_)
 · exact ze hF
 refine aZ ?_
 rw[wk k5]
 exact⟨_,bG _,_,k5+1,bz,_,rfl,aA,gD,az,hF⟩
def Nb(aa:Fact)(bX:Int):Option (Int):=
 (tH aa.Values bX).bind fun r2=>
 if (decide ((r2:Int)<0))then (
   some (-1))
 else (
   some r2)
theorem akQ{aa:Fact}{ay:Sv}{bX R:Int}(hF:Nb aa bX=some R):
   Fw.Spec Tryz.prog 203 [(zg [(zi aa.Rel),ay.v]),(zi bX)] [ah ay aa.Values] (fun _:Unit=>(zi R)) (fun _=>[]):=by
 refine Se 12 Tryz.func203 [.tmp 4] ?_
 intro H0 F0
 unfold Nb at hF
 refine au ?_
 refine bB (fun k1=>?_)
 refine aZ ?_
 refine bnd hF fun r2 hx3 hF=>aX (yz hx3) (fun _=>?_)
 refine bf ?_
 refine Ci hF (fun hb5 hF=>?_) (fun hb5 hF=>?_)
 · exact ze hF
 exact ze hF
def Li:List Fact->Nat->Int->Option (Int)
 |[],k5,c1=>some c1
 |x7::bz,k5,c1=>(Nb x7 c1).bind fun dS=>
   if (decide ((dS:Int)<0))then (
     some (-1))
   else (
     Li bz (k5+1) dS)
def MK(aa:List Fact)(bX:Int):Option (Int):=
 if (decide (((IntKind.i64.wrap (bX-(aa.length:Int))):Int)<0))then (
   some (-1))
 else (
   Li aa 0 (IntKind.i64.wrap (bX-(aa.length:Int))))
theorem abt{aa:List Fact}{ae:Sv}{bX R:Int}(hF:MK aa bX=some R):
   Fw.Spec Tryz.prog 111 [ae.v,(zi bX)] [uX ae aa] (fun _:Unit=>(zi R)) (fun _=>[]):=by
 refine Se 27 Tryz.func111 [.tmp 4] ?_
 intro H0 F0
 unfold MK at hF
 refine zO ?_
 refine Ci hF (fun lg hF=>?_) (fun lg hF=>?_)
 · exact ze hF
 refine aV ?_
 refine bn (bF (m:=aa.length) (fun m3 f' cs'=>∃(g:Fr)(k5:Nat)(bz:List Fact)(c1:Int),m3=bz.length/\f'=aM g [(0,ae.v),(1,(zi c1)),(5,(zi (k5:Int)))]/\List.drop k5 aa=bz/\aL cs' [uX ae aa]/\Li bz k5 c1=some R) ⟨_,0,_,_,rfl,aA,rfl,az,hF⟩ ?_)
 rintro m3 _ _ ⟨g4,k5,bz,c1,rfl,rfl,gL,hE,hF⟩
 refine Kb hE aa (fun qz=>?_)
 rcases bz with _|⟨x7,bz⟩
 · have jP:=dn gL
   rw[Li]at hF
   refine bf ?_
   refine bR ?_
   exact ze hF
 obtain⟨jP,eX,gD⟩:=bN gL
 rw[Li]at hF
 refine bf ?_
 refine bQ ?_
 refine aV ?_
 refine Ai eX (fun k14 vZ=>?_)
 refine iM (Wz x7) abL (fun p16=>?_)
 refine au ?_
 refine bnd hF fun dS fV hF=>aX (akQ fV) (fun _=>?_)
 refine aZ ?_
 refine Ci hF (fun mH hF=>?_) (fun mH hF=>?_)
 · exact ze hF
 refine aZ ?_
 rw[wk k5]
 exact⟨_,bG _,_,k5+1,bz,_,rfl,aA,gD,az,hF⟩
def L9(aa:Source)(bX:Int):Option (Int):=
 (MK aa.Facts bX).bind fun r2=>
 if (decide ((r2:Int)<0))then (
   some (-1))
 else (
   some r2)
theorem aji{aa:Source}{ae:Sv}{bX R:Int}(hF:L9 aa bX=some R):
   Fw.Spec Tryz.prog 47 [(zg [ae.v,(zi aa.Version)]),(zi bX)] [uX ae aa.Facts] (fun _:Unit=>(zi R)) (fun _=>[]):=by
 refine Se 12 Tryz.func47 [.tmp 4] ?_
 intro H0 F0
 unfold L9 at hF
 refine au ?_
 refine bB (fun k1=>?_)
 refine aZ ?_
 refine bnd hF fun r2 hx3 hF=>aX (abt hx3) (fun _=>?_)
 refine bf ?_
 refine Ci hF (fun hb5 hF=>?_) (fun hb5 hF=>?_)
 · exact ze hF
 exact ze hF
def IJ(aa:Access)(bX:Int):Option (Int):=
 (tH aa.Values bX).bind fun r2=>
 if (decide ((r2:Int)<0))then (
   some (-1))
 else (
   some r2)
theorem aa'{aa:Access}{ay:Sv}{bX R:Int}(hF:IJ aa bX=some R):
   Fw.Spec Tryz.prog 113 [(zg [(zi aa.Method),ay.v]),(zi bX)] [ah ay aa.Values] (fun _:Unit=>(zi R)) (fun _=>[]):=by
 refine Se 12 Tryz.func113 [.tmp 4] ?_
 intro H0 F0
 unfold IJ at hF
 refine au ?_
 refine bB (fun k1=>?_)
 refine aZ ?_
 refine bnd hF fun r2 hx3 hF=>aX (yz hx3) (fun _=>?_)
 refine bf ?_
 refine Ci hF (fun hb5 hF=>?_) (fun hb5 hF=>?_)
 · exact ze hF
 exact ze hF
def L_(aa:eH)(bX:Int):Option (Int):=
 (IJ aa.Access bX).bind fun r2=>
 if (decide ((r2:Int)<0))then (
   some (-1))
 else (
   (MK aa.Facts r2).bind fun r5=>
   if (decide ((r5:Int)<0))then (
     some (-1))
   else (
     some r5))
theorem ajj{aa:eH}{ay dm:Sv}{bX R:Int}(hF:L_ aa bX=some R):
   Fw.Spec Tryz.prog 204 [(zg [(zi aa.Access.Method),ay.v,dm.v,(zi aa.At)]),(zi bX)] [ah ay aa.Access.Values,uX dm aa.Facts] (fun _:Unit=>(zi R)) (fun _=>[]):=by
 refine Se 18 Tryz.func204 [.tmp 4] ?_
 intro H0 F0
 unfold L_ at hF
 refine au ?_
 refine bB (fun k1=>?_)
 refine aU ?_
 refine fq .h (fun hp=>ko (s:=2) (l:=[(zi aa.Access.Method),ay.v]) aez.h X6.h.sz (.tmp rfl rfl) hp.2 rfl (by decide) (Nat.le_of_ble_eq_true rfl) rfl) ?_
 refine au ?_
 refine bnd hF fun r2 hx3 hF=>aX (aa' hx3) (fun _=>?_)
 refine bf ?_
 refine Ci hF (fun v_ hF=>?_) (fun v_ hF=>?_)
 · exact ze hF
 refine aV ?_
 refine bnd hF fun r5 hx6 hF=>aX (abt hx6) (fun _=>?_)
 refine bf ?_
 refine Ci hF (fun wh hF=>?_) (fun wh hF=>?_)
 · exact ze hF
 exact ze hF
def KT:List eH->Nat->Int->Option (Int)
 |[],k5,c1=>some c1
 |x7::bz,k5,c1=>(L_ x7 c1).bind fun dS=>
   if (decide ((dS:Int)<0))then (
     some (-1))
   else (
     KT bz (k5+1) dS)
def RZ(aa:List eH)(bX:Int):Option (Int):=
 if (decide (((IntKind.i64.wrap (bX-(aa.length:Int))):Int)<0))then (
   some (-1))
 else (
   KT aa 0 (IntKind.i64.wrap (bX-(aa.length:Int))))
theorem aiQ{aa:List eH}{ae:Sv}{bX R:Int}(hF:RZ aa bX=some R):
   Fw.Spec Tryz.prog 112 [ae.v,(zi bX)] [zP ae aa] (fun _:Unit=>(zi R)) (fun _=>[]):=by
 refine Se 27 Tryz.func112 [.tmp 4] ?_
 intro H0 F0
 unfold RZ at hF
 refine zO ?_
 refine Ci hF (fun lg hF=>?_) (fun lg hF=>?_)
 · exact ze hF
 refine aV ?_
 refine bn (bF (m:=aa.length) (fun m3 f' cs'=>∃(g:Fr)(k5:Nat)(bz:List eH)(c1:Int),m3=bz.length/\f'=aM g [(0,ae.v),(1,(zi c1)),(5,(zi (k5:Int)))]/\List.drop k5 aa=bz/\aL cs' [zP ae aa]/\KT bz k5 c1=some R) ⟨_,0,_,_,rfl,aA,rfl,az,hF⟩ ?_)
 rintro m3 _ _ ⟨g4,k5,bz,c1,rfl,rfl,gL,hE,hF⟩
 refine Kb hE aa (fun qz=>?_)
 rcases bz with _|⟨x7,bz⟩
 · have jP:=dn gL
   rw[KT]at hF
   refine bf ?_
   refine bR ?_
   exact ze hF
 obtain⟨jP,eX,gD⟩:=bN gL
 rw[KT]at hF
 refine bf ?_
 refine bQ ?_
 refine aV ?_
 refine Ai eX (fun k14 vZ=>?_)
 refine zT (WA x7) abM (fun p16=>?_)
 refine au ?_
 refine bnd hF fun dS fV hF=>aX (ajj fV) (fun _=>?_)
 refine aZ ?_
 refine Ci hF (fun mH hF=>?_) (fun mH hF=>?_)
 · exact ze hF
 refine aZ ?_
 rw[wk k5]
 exact⟨_,bG _,_,k5+1,bz,_,rfl,aA,gD,az,hF⟩
def ML(aa:Cache)(bX:Int):Option (Int):=
 (RZ aa.Entries bX).bind fun r2=>
 if (decide ((r2:Int)<0))then (
   some (-1))
 else (
   some r2)
theorem aka{aa:Cache}{ae:Sv}{bX R:Int}(hF:ML aa bX=some R):
   Fw.Spec Tryz.prog 48 [(zg [ae.v,(zi aa.Age)]),(zi bX)] [zP ae aa.Entries] (fun _:Unit=>(zi R)) (fun _=>[]):=by
 refine Se 12 Tryz.func48 [.tmp 4] ?_
 intro H0 F0
 unfold ML at hF
 refine au ?_
 refine bB (fun k1=>?_)
 refine aZ ?_
 refine bnd hF fun r2 hx3 hF=>aX (aiQ hx3) (fun _=>?_)
 refine bf ?_
 refine Ci hF (fun hb5 hF=>?_) (fun hb5 hF=>?_)
 · exact ze hF
 exact ze hF
def KU:List Access->Nat->Int->Option (Int)
 |[],k5,c1=>some c1
 |x7::bz,k5,c1=>(IJ x7 c1).bind fun dS=>
   if (decide ((dS:Int)<0))then (
     some (-1))
   else (
     KU bz (k5+1) dS)
def R3(aa:List Access)(bX:Int):Option (Int):=
 if (decide (((IntKind.i64.wrap (bX-(aa.length:Int))):Int)<0))then (
   some (-1))
 else (
   KU aa 0 (IntKind.i64.wrap (bX-(aa.length:Int))))
theorem aiR{aa:List Access}{ae:Sv}{bX R:Int}(hF:R3 aa bX=some R):
   Fw.Spec Tryz.prog 49 [ae.v,(zi bX)] [FH ae aa] (fun _:Unit=>(zi R)) (fun _=>[]):=by
 refine Se 27 Tryz.func49 [.tmp 4] ?_
 intro H0 F0
 unfold R3 at hF
 refine zO ?_
 refine Ci hF (fun lg hF=>?_) (fun lg hF=>?_)
 · exact ze hF
 refine aV ?_
 refine bn (bF (m:=aa.length) (fun m3 f' cs'=>∃(g:Fr)(k5:Nat)(bz:List Access)(c1:Int),m3=bz.length/\f'=aM g [(0,ae.v),(1,(zi c1)),(5,(zi (k5:Int)))]/\List.drop k5 aa=bz/\aL cs' [FH ae aa]/\KU bz k5 c1=some R) ⟨_,0,_,_,rfl,aA,rfl,az,hF⟩ ?_)
 rintro m3 _ _ ⟨g4,k5,bz,c1,rfl,rfl,gL,hE,hF⟩
 refine Kb hE aa (fun qz=>?_)
 rcases bz with _|⟨x7,bz⟩
 · have jP:=dn gL
   rw[KU]at hF
   refine bf ?_
   refine bR ?_
   exact ze hF
 obtain⟨jP,eX,gD⟩:=bN gL
 rw[KU]at hF
 refine bf ?_
 refine bQ ?_
 refine aV ?_
 refine Ai eX (fun k14 vZ=>?_)
 refine iM (WB x7) abN (fun p16=>?_)
 refine au ?_
 refine bnd hF fun dS fV hF=>aX (aa' fV) (fun _=>?_)
 refine aZ ?_
 refine Ci hF (fun mH hF=>?_) (fun mH hF=>?_)
 · exact ze hF
 refine aZ ?_
 rw[wk k5]
 exact⟨_,bG _,_,k5+1,bz,_,rfl,aA,gD,az,hF⟩
def Lj:List (List Int)->Nat->Int->Option (Int)
 |[],k5,c1=>some c1
 |x7::bz,k5,c1=>(tH x7 c1).bind fun dS=>
   if (decide ((dS:Int)<0))then (
     some (-1))
   else (
     Lj bz (k5+1) dS)
def SC(aa:List (List Int))(bX:Int):Option (Int):=
 if (decide (((IntKind.i64.wrap (bX-(aa.length:Int))):Int)<0))then (
   some (-1))
 else (
   Lj aa 0 (IntKind.i64.wrap (bX-(aa.length:Int))))
theorem akb{aa:List (List Int)}{ae:Sv}{bX R:Int}(hF:SC aa bX=some R):
   Fw.Spec Tryz.prog 114 [ae.v,(zi bX)] [bK (aJ 22 (aJ 3 aK)) ae.v aa] (fun _:Unit=>(zi R)) (fun _=>[]):=by
 refine Se 27 Tryz.func114 [.tmp 4] ?_
 intro H0 F0
 unfold SC at hF
 refine zO ?_
 refine Ci hF (fun lg hF=>?_) (fun lg hF=>?_)
 · exact ze hF
 refine aV ?_
 refine bn (bF (m:=aa.length) (fun m3 f' cs'=>∃(g:Fr)(k5:Nat)(bz:List (List Int))(c1:Int),m3=bz.length/\f'=aM g [(0,ae.v),(1,(zi c1)),(5,(zi (k5:Int)))]/\List.drop k5 aa=bz/\aL cs' [bK (aJ 22 (aJ 3 aK)) ae.v aa]/\Lj bz k5 c1=some R) ⟨_,0,_,_,rfl,aA,rfl,az,hF⟩ ?_)
 rintro m3 _ _ ⟨g4,k5,bz,c1,rfl,rfl,gL,hE,hF⟩
 refine Kb hE aa (fun qz=>?_)
 rcases bz with _|⟨x7,bz⟩
 · have jP:=dn gL
   rw[Lj]at hF
   refine bf ?_
   refine bR ?_
   exact ze hF
 obtain⟨jP,eX,gD⟩:=bN gL
 rw[Lj]at hF
 refine bf ?_
 refine bQ ?_
 refine aV ?_
 refine Ai eX (fun k14 vZ=>?_)
 refine r_ (R':=(aJ 3 aK)) ji.h (.tmp rfl rfl) .h Js (fun w16=>?_)
 refine au ?_
 refine bnd hF fun dS fV hF=>aX (yz fV) (fun _=>?_)
 refine aZ ?_
 refine Ci hF (fun mH hF=>?_) (fun mH hF=>?_)
 · exact ze hF
 refine aZ ?_
 rw[wk k5]
 exact⟨_,bG _,_,k5+1,bz,_,rfl,aA,gD,az,hF⟩
def K5:List (List (List Int))->Nat->Int->Option (Int)
 |[],k5,c1=>some c1
 |x7::bz,k5,c1=>(SC x7 c1).bind fun dS=>
   if (decide ((dS:Int)<0))then (
     some (-1))
   else (
     K5 bz (k5+1) dS)
def Sg(aa:List (List (List Int)))(bX:Int):Option (Int):=
 if (decide (((IntKind.i64.wrap (bX-(aa.length:Int))):Int)<0))then (
   some (-1))
 else (
   K5 aa 0 (IntKind.i64.wrap (bX-(aa.length:Int))))
theorem ajk{aa:List (List (List Int))}{ae:Sv}{bX R:Int}(hF:Sg aa bX=some R):
   Fw.Spec Tryz.prog 50 [ae.v,(zi bX)] [bK (aJ 171 (aJ 22 (aJ 3 aK))) ae.v aa] (fun _:Unit=>(zi R)) (fun _=>[]):=by
 refine Se 27 Tryz.func50 [.tmp 4] ?_
 intro H0 F0
 unfold Sg at hF
 refine zO ?_
 refine Ci hF (fun lg hF=>?_) (fun lg hF=>?_)
 · exact ze hF
 refine aV ?_
 refine bn (bF (m:=aa.length) (fun m3 f' cs'=>∃(g:Fr)(k5:Nat)(bz:List (List (List Int)))(c1:Int),m3=bz.length/\f'=aM g [(0,ae.v),(1,(zi c1)),(5,(zi (k5:Int)))]/\List.drop k5 aa=bz/\aL cs' [bK (aJ 171 (aJ 22 (aJ 3 aK))) ae.v aa]/\K5 bz k5 c1=some R) ⟨_,0,_,_,rfl,aA,rfl,az,hF⟩ ?_)
 rintro m3 _ _ ⟨g4,k5,bz,c1,rfl,rfl,gL,hE,hF⟩
 refine Kb hE aa (fun qz=>?_)
 rcases bz with _|⟨x7,bz⟩
 · have jP:=dn gL
   rw[K5]at hF
   refine bf ?_
   refine bR ?_
   exact ze hF
 obtain⟨jP,eX,gD⟩:=bN gL
 rw[K5]at hF
 refine bf ?_
 refine bQ ?_
 refine aV ?_
 refine Ai eX (fun k14 vZ=>?_)
 refine r_ (R':=(aJ 22 (aJ 3 aK))) TN.h (.tmp rfl rfl) .h Tj (fun w16=>?_)
 refine au ?_
 refine bnd hF fun dS fV hF=>aX (akb fV) (fun _=>?_)
 refine aZ ?_
 refine Ci hF (fun mH hF=>?_) (fun mH hF=>?_)
 · exact ze hF
 refine aZ ?_
 rw[wk k5]
 exact⟨_,bG _,_,k5+1,bz,_,rfl,aA,gD,az,hF⟩
def Ll(aa:gV)(bX:Int):Option (Int):=
 (tH aa.Schema bX).bind fun r2=>
 if (decide ((r2:Int)<0))then (
   some (-1))
 else (
   (RY aa.Methods r2).bind fun r5=>
   if (decide ((r5:Int)<0))then (
     some (-1))
   else (
     (SB aa.Rules r5).bind fun r8=>
     if (decide ((r8:Int)<0))then (
       some (-1))
     else (
       (L9 aa.Source r8).bind fun qf=>
       if (decide ((qf:Int)<0))then (
         some (-1))
       else (
         (ML aa.Cache qf).bind fun jw=>
         if (decide ((jw:Int)<0))then (
           some (-1))
         else (
           (R3 aa.Log jw).bind fun dS=>
           if (decide ((dS:Int)<0))then (
             some (-1))
           else (
             (tH aa.Times dS).bind fun il=>
             if (decide ((il:Int)<0))then (
               some (-1))
             else (
               (Sg aa.Results il).bind fun iJ=>
               if (decide ((iJ:Int)<0))then (
                 some (-1))
               else (
                 some iJ))))))))
theorem aio{aa:gV}{ae ay dm gy iw iN iV jf:Sv}{bX R:Int}(hF:Ll aa bX=some R):
   Fw.Spec Tryz.prog 18 [(zg [ae.v,ay.v,dm.v,gy.v,(zi aa.Source.Version),iw.v,(zi aa.Cache.Age),(zi aa.Now),iN.v,iV.v,(zi aa.Spent),jf.v]),(zi bX)] [ah ae aa.Schema,FR ay aa.Methods,FT dm aa.Rules,uX gy aa.Source.Facts,zP iw aa.Cache.Entries,FH iN aa.Log,ah iV aa.Times,bK (aJ 171 (aJ 22 (aJ 3 aK))) jf.v aa.Results] (fun _:Unit=>(zi R)) (fun _=>[]):=by
 refine Se 54 Tryz.func18 [.tmp 4] ?_
 intro H0 F0
 unfold Ll at hF
 refine au ?_
 refine bB (fun k1=>?_)
 refine aZ ?_
 refine bnd hF fun r2 hx3 hF=>aX (yz hx3) (fun _=>?_)
 refine bf ?_
 refine Ci hF (fun OG hF=>?_) (fun OG hF=>?_)
 · exact ze hF
 refine aV ?_
 refine bnd hF fun r5 hx6 hF=>aX (aiP hx6) (fun _=>?_)
 refine bf ?_
 refine Ci hF (fun FU hF=>?_) (fun FU hF=>?_)
 · exact ze hF
 refine aV ?_
 refine bnd hF fun r8 bP hF=>aX (aj' bP) (fun _=>?_)
 refine bf ?_
 refine Ci hF (fun zU hF=>?_) (fun zU hF=>?_)
 · exact ze hF
 refine bq ?_
 refine fq .h (fun hp=>ko (s:=2) (l:=[gy.v,(zi aa.Source.Version)]) afn.h Yy.h.sz (.tmp rfl rfl) hp.2 rfl (by decide) (Nat.le_of_ble_eq_true rfl) rfl) ?_
 refine au ?_
 refine bnd hF fun qf qD hF=>aX (aji qD) (fun _=>?_)
 refine bf ?_
 refine Ci hF (fun o_ hF=>?_) (fun o_ hF=>?_)
 · exact ze hF
 refine bq ?_
 refine fq .h (fun hp=>ko (s:=2) (l:=[iw.v,(zi aa.Cache.Age)]) afo.h Yz.h.sz (.tmp rfl rfl) hp.2 rfl (by decide) (Nat.le_of_ble_eq_true rfl) rfl) ?_
 refine au ?_
 refine bnd hF fun jw jS hF=>aX (aka jS) (fun _=>?_)
 refine bf ?_
 refine Ci hF (fun zV hF=>?_) (fun zV hF=>?_)
 · exact ze hF
 refine aV ?_
 refine bnd hF fun dS fV hF=>aX (aiR fV) (fun _=>?_)
 refine bf ?_
 refine Ci hF (fun lh hF=>?_) (fun lh hF=>?_)
 · exact ze hF
 refine aV ?_
 refine bnd hF fun il kG hF=>aX (yz kG) (fun _=>?_)
 refine bf ?_
 refine Ci hF (fun mI hF=>?_) (fun mI hF=>?_)
 · exact ze hF
 refine aV ?_
 refine bnd hF fun iJ hx24 hF=>aX (ajk hx24) (fun _=>?_)
 refine bf ?_
 refine Ci hF (fun zW hF=>?_) (fun zW hF=>?_)
 · exact ze hF
 exact ze hF
def Nc(aa:Atom)(bX:Int):Option (Int):=
 (tH aa.Terms bX).bind fun r2=>
 if (decide ((r2:Int)<0))then (
   some (-1))
 else (
   some r2)
theorem akR{aa:Atom}{ay:Sv}{bX R:Int}(hF:Nc aa bX=some R):
   Fw.Spec Tryz.prog 65 [(zg [(zi aa.Rel),ay.v]),(zi bX)] [ah ay aa.Terms] (fun _:Unit=>(zi R)) (fun _=>[]):=by
 refine Se 12 Tryz.func65 [.tmp 4] ?_
 intro H0 F0
 unfold Nc at hF
 refine au ?_
 refine bB (fun k1=>?_)
 refine aZ ?_
 refine bnd hF fun r2 hx3 hF=>aX (yz hx3) (fun _=>?_)
 refine bf ?_
 refine Ci hF (fun hb5 hF=>?_) (fun hb5 hF=>?_)
 · exact ze hF
 exact ze hF
def Lm:List Atom->Nat->Int->Option (Int)
 |[],k5,c1=>some c1
 |x7::bz,k5,c1=>(Nc x7 c1).bind fun dS=>
   if (decide ((dS:Int)<0))then (
     some (-1))
   else (
     Lm bz (k5+1) dS)
def SE(aa:List Atom)(bX:Int):Option (Int):=
 if (decide (((IntKind.i64.wrap (bX-(aa.length:Int))):Int)<0))then (
   some (-1))
 else (
   Lm aa 0 (IntKind.i64.wrap (bX-(aa.length:Int))))
theorem akc{aa:List Atom}{ae:Sv}{bX R:Int}(hF:SE aa bX=some R):
   Fw.Spec Tryz.prog 26 [ae.v,(zi bX)] [FE ae aa] (fun _:Unit=>(zi R)) (fun _=>[]):=by
 refine Se 27 Tryz.func26 [.tmp 4] ?_
 intro H0 F0
 unfold SE at hF
 refine zO ?_
 refine Ci hF (fun lg hF=>?_) (fun lg hF=>?_)
 · exact ze hF
 refine aV ?_
 refine bn (bF (m:=aa.length) (fun m3 f' cs'=>∃(g:Fr)(k5:Nat)(bz:List Atom)(c1:Int),m3=bz.length/\f'=aM g [(0,ae.v),(1,(zi c1)),(5,(zi (k5:Int)))]/\List.drop k5 aa=bz/\aL cs' [FE ae aa]/\Lm bz k5 c1=some R) ⟨_,0,_,_,rfl,aA,rfl,az,hF⟩ ?_)
 rintro m3 _ _ ⟨g4,k5,bz,c1,rfl,rfl,gL,hE,hF⟩
 refine Kb hE aa (fun qz=>?_)
 rcases bz with _|⟨x7,bz⟩
 · have jP:=dn gL
   rw[Lm]at hF
   refine bf ?_
   refine bR ?_
   exact ze hF
 obtain⟨jP,eX,gD⟩:=bN gL
 rw[Lm]at hF
 refine bf ?_
 refine bQ ?_
 refine aV ?_
 refine Ai eX (fun k14 vZ=>?_)
 refine iM (WC x7) abO (fun p16=>?_)
 refine au ?_
 refine bnd hF fun dS fV hF=>aX (akR fV) (fun _=>?_)
 refine aZ ?_
 refine Ci hF (fun mH hF=>?_) (fun mH hF=>?_)
 · exact ze hF
 refine aZ ?_
 rw[wk k5]
 exact⟨_,bG _,_,k5+1,bz,_,rfl,aA,gD,az,hF⟩
def MM(aa:Query)(bX:Int):Option (Int):=
 (tH aa.Head bX).bind fun r2=>
 if (decide ((r2:Int)<0))then (
   some (-1))
 else (
   (SE aa.Atoms r2).bind fun r5=>
   if (decide ((r5:Int)<0))then (
     some (-1))
   else (
     some r5))
theorem akd{aa:Query}{ae ay:Sv}{bX R:Int}(hF:MM aa bX=some R):
   Fw.Spec Tryz.prog 7 [(zg [ae.v,ay.v]),(zi bX)] [ah ae aa.Head,FE ay aa.Atoms] (fun _:Unit=>(zi R)) (fun _=>[]):=by
 refine Se 18 Tryz.func7 [.tmp 4] ?_
 intro H0 F0
 unfold MM at hF
 refine au ?_
 refine bB (fun k1=>?_)
 refine aZ ?_
 refine bnd hF fun r2 hx3 hF=>aX (yz hx3) (fun _=>?_)
 refine bf ?_
 refine Ci hF (fun v_ hF=>?_) (fun v_ hF=>?_)
 · exact ze hF
 refine aV ?_
 refine bnd hF fun r5 hx6 hF=>aX (akc hx6) (fun _=>?_)
 refine bf ?_
 refine Ci hF (fun wh hF=>?_) (fun wh hF=>?_)
 · exact ze hF
 exact ze hF
def IA:List Int->Nat->(List Int)->Option ((List Int))
 |[],kI,qg=>some qg
 |x34::nE,kI,qg=>(jT (decide (0<=(kI:Int))&&decide ((kI:Int)<(qg.length:Int)))).bind fun u46=>
   (some (qg.set ((kI:Int)).toNat x34)).bind fun z48=>
   IA nE (kI+1) z48
def tJ(aa:List Int):Option ((List Int)):=
 (qc (aa.length:Int) (0:Int)).bind fun z1=>
 IA aa 0 z1
theorem yA{aa:List Int}{ae:Sv}{R:(List Int)}(hF:tJ aa=some R):
   Fw.Spec Tryz.prog 9 [ae.v] [ah ae aa] (fun p:Sv×List Nat=>p.1.v) (fun p=>[bC p.2 p.1 R]):=by
 refine Se 22 Tryz.func9 [.tmp 2] ?_
 intro H0 F0
 unfold tJ at hF
 refine aZ ?_
 refine bnd hF fun z1 hx2 hF=>?_
 have kS:=uM hx2
 refine dQ rfl (wO (g:=true) (c:=(aa.length:Int)) dh.h dw.h rfl rfl (by decide) (.tmp rfl rfl) kS.2.1 kS.2.2) (fun k4=>?_)
 refine dP (.cons .h .nil) (wV (Ro:=(aG aK)) (E:=3) (a:=(0:Int)) hx2 (fun _=>⟨rfl,rfl⟩)) ?_
 refine aZ ?_
 refine bn (bF (m:=aa.length) (fun Qx f' cs'=>∃(g:Fr)(kI:Nat)(nE qg:List Int)(F28:List Nat),Qx=nE.length/\f'=aM g [(0,ae.v),(3,(.slice (some ⟨k4,0,none⟩) (aa.length:Int).toNat 1)),(4,(zi (kI:Int)))]/\List.drop kI aa=nE/\aL cs' [ah ae aa,aQ (aP 3 (aG aK)) F28 (.slice (some ⟨k4,0,none⟩) (aa.length:Int).toNat 1) qg]/\IA nE kI qg=some R) ⟨_,0,_,_,[k4],rfl,aA,rfl,az,hF⟩ ?_)
 rintro Qx _ _ ⟨g31,kI,nE,qg,F28,rfl,rfl,OH,hE,hF⟩
 refine Kb hE aa (fun arc=>?_)
 rcases nE with _|⟨x34,nE⟩
 · have OI:=dn OH
   rw[IA]at hF
   refine bf ?_
   refine bR ?_
   refine dK ?_
   cases hF
   exact Er (⟨(some ⟨k4,0,none⟩),(aa.length:Int).toNat,1⟩,F28)
 obtain⟨OI,JJ,hd38⟩:=bN OH
 rw[IA]at hF
 refine bf ?_
 refine bQ ?_
 refine bf ?_
 refine Ai JJ (fun qh Ka=>?_)
 refine Al bY ?_
 refine bnd hF fun u46 ui hF=>?_
 have afB:=ru ui
 refine mY dh.h dw.h.sz (.tmp rfl rfl) (.tmp rfl rfl) .q2 afB (fun k43 auo=>?_)
 refine bnd hF fun z48 iO hF=>?_
 replace iO:=Option.some.inj iO
 refine dZ (.cons .q2 .nil) (tF (Ro:=(aG aK)) (a:=x34) (i:=(kI:Int)) dw.h.sz rfl (.tmp rfl rfl) (.tmp rfl rfl) auo afB (jF (fun _=>rfl)) (fun _ _ _ _ h=>by obtain⟨-,h⟩:=h; cases h; rfl)) (fun F50=>?_)
 rw[iO]
 refine aZ ?_
 rw[wk kI]
 exact⟨_,bG _,_,kI+1,nE,_,F50,rfl,aA,hd38,az,hF⟩
def Ma(aa:Method):Option (Method):=
 (tJ aa.Inputs).bind fun r4=>
 some (⟨aa.Rel,r4,aa.Limit,aa.Cost,aa.Quota⟩:Method)
theorem ajl{aa:Method}{ay:Sv}{R:Method}(hF:Ma aa=some R):
   Fw.Spec Tryz.prog 34 [(zg [(zi aa.Rel),ay.v,(zi aa.Limit),(zi aa.Cost),(zi aa.Quota)])] [ah ay aa.Inputs] (fun p:Sv×List Nat=>(zg [(zi R.Rel),p.1.v,(zi R.Limit),(zi R.Cost),(zi R.Quota)])) (fun p=>[bC p.2 p.1 R.Inputs]):=by
 refine Se 21 Tryz.func34 [.cell 2 89] ?_
 intro H0 F0
 unfold Ma at hF
 refine au ?_
 refine bB (fun k1=>?_)
 refine dH (fun k2=>?_)
 refine aW ?_
 refine dH (fun k3=>?_)
 refine aV ?_
 refine As (zg [(zi aa.Rel),(.slice none 0 0),(zi 0),(zi 0),(zi 0)]) ?_
 refine aU ?_
 refine bnd hF fun r4 hx5 hF=>eZ (yA hx5) (fun p6=>?_)
 refine au ?_
 refine As (zg [(zi aa.Rel),p6.1.v,(zi 0),(zi 0),(zi 0)]) ?_
 refine aV ?_
 refine As (zg [(zi aa.Rel),p6.1.v,(zi aa.Limit),(zi 0),(zi 0)]) ?_
 refine aV ?_
 refine As (zg [(zi aa.Rel),p6.1.v,(zi aa.Limit),(zi aa.Cost),(zi 0)]) ?_
 refine aV ?_
 refine As (zg [(zi aa.Rel),p6.1.v,(zi aa.Limit),(zi aa.Cost),(zi aa.Quota)]) ?_
 refine bq ?_
 refine As (zg [(zi aa.Rel),p6.1.v,(zi aa.Limit),(zi aa.Cost),(zi aa.Quota)]) ?_
 refine aW ?_
 cases hF
 exact Er (p6.1,p6.2)
def Hy:List Method->Nat->(List Method)->Option ((List Method))
 |[],bV,c31=>some c31
 |x38::dC,bV,c31=>(Ma x38).bind fun gM=>
   (jT (decide (0<=(bV:Int))&&decide ((bV:Int)<(c31.length:Int)))).bind fun qU=>
   (some (c31.set ((bV:Int)).toNat gM)).bind fun z56=>
   Hy dC (bV+1) z56
def R4(aa:List Method):Option ((List Method)):=
 (qc (aa.length:Int) ((⟨0,[],0,0,0⟩:Method):Method)).bind fun z1=>
 Hy aa 0 z1
theorem aiS{aa:List Method}{ae:Sv}{R:(List Method)}(hF:R4 aa=some R):
   Fw.Spec Tryz.prog 10 [ae.v] [FR ae aa] (fun p:Sv×List Nat=>p.1.v) (fun p=>[afz p.2 p.1 R]):=by
 refine Se 23 Tryz.func10 [.tmp 2] ?_
 intro H0 F0
 unfold R4 at hF
 refine aZ ?_
 refine bnd hF fun z1 hx2 hF=>?_
 have kS:=uM hx2
 refine dQ rfl (wO (g:=true) (c:=(aa.length:Int)) ug.h sD.h rfl rfl (by decide) (.tmp rfl rfl) kS.2.1 kS.2.2) (fun k4=>?_)
 refine dP (.cons .h .nil) (wV (Ro:=xH) (E:=89) (a:=((⟨0,[],0,0,0⟩:Method):Method)) hx2 (fun _=>⟨⟨none,0,0⟩,[],rfl,rfl,.inl ⟨rfl,rfl,rfl⟩⟩)) ?_
 refine aZ ?_
 refine bn (bF (m:=aa.length) (fun lX f' cs'=>∃(g:Fr)(bV:Nat)(dC c31:List Method)(jQ:List Nat),lX=dC.length/\f'=aM g [(0,ae.v),(3,(.slice (some ⟨k4,0,none⟩) (aa.length:Int).toNat 1)),(4,(zi (bV:Int)))]/\List.drop bV aa=dC/\aL cs' [FR ae aa,aQ (aP 89 xH) jQ (.slice (some ⟨k4,0,none⟩) (aa.length:Int).toNat 1) c31]/\Hy dC bV c31=some R) ⟨_,0,_,_,[k4],rfl,aA,rfl,az,hF⟩ ?_)
 rintro lX _ _ ⟨Gp,bV,dC,c31,jQ,rfl,rfl,hd39,hE,hF⟩
 refine Kb hE aa (fun FI=>?_)
 rcases dC with _|⟨x38,dC⟩
 · have qE:=dn hd39
   rw[Hy]at hF
   refine bf ?_
   refine bR ?_
   refine dK ?_
   cases hF
   exact Er (⟨(some ⟨k4,0,none⟩),(aa.length:Int).toNat,1⟩,jQ)
 obtain⟨qE,mJ,qF⟩:=bN hd39
 rw[Hy]at hF
 refine bf ?_
 refine bQ ?_
 refine bf ?_
 refine Ai mJ (fun Dh Gq=>?_)
 refine iM (WW x38) acv (fun p47=>?_)
 refine bnd hF fun gM iO hF=>eZ (ajl iO) (fun p50=>?_)
 refine bnd hF fun qU lQ hF=>?_
 have lS:=ru lQ
 refine mY ug.h sD.h.sz (.tmp rfl rfl) (.tmp rfl rfl) .q4 lS (fun wo qG=>?_)
 refine bnd hF fun z56 iI hF=>?_
 replace iI:=Option.some.inj iI
 refine dZ (.cons .q4 (.cons .h .nil)) (tF (Ro:=xH) (a:=gM) (i:=(bV:Int)) sD.h.sz rfl (.tmp rfl rfl) (.tmp rfl rfl) qG lS atP (fun _ _ _ _ h=>by obtain⟨_,_,rfl,rfl,_⟩:=h; rfl)) (fun lY=>?_)
 rw[iI]
 refine aZ ?_
 rw[wk bV]
 exact⟨_,bG _,_,bV+1,dC,_,lY,rfl,aA,qF,az,hF⟩
def Nf(aa:dG):Option (dG):=
 (tJ aa.Map).bind fun r4=>
 some (⟨aa.From,aa.To,r4⟩:dG)
theorem akS{aa:dG}{dm:Sv}{R:dG}(hF:Nf aa=some R):
   Fw.Spec Tryz.prog 35 [(zg [(zi aa.From),(zi aa.To),dm.v])] [ah dm aa.Map] (fun p:Sv×List Nat=>(zg [(zi R.From),(zi R.To),p.1.v])) (fun p=>[bC p.2 p.1 R.Map]):=by
 refine Se 15 Tryz.func35 [.cell 2 91] ?_
 intro H0 F0
 unfold Nf at hF
 refine au ?_
 refine bB (fun k1=>?_)
 refine dH (fun k2=>?_)
 refine aW ?_
 refine dH (fun k3=>?_)
 refine aV ?_
 refine As (zg [(zi aa.From),(zi 0),(.slice none 0 0)]) ?_
 refine aV ?_
 refine As (zg [(zi aa.From),(zi aa.To),(.slice none 0 0)]) ?_
 refine aU ?_
 refine bnd hF fun r4 hx5 hF=>eZ (yA hx5) (fun p6=>?_)
 refine au ?_
 refine As (zg [(zi aa.From),(zi aa.To),p6.1.v]) ?_
 refine bq ?_
 refine As (zg [(zi aa.From),(zi aa.To),p6.1.v]) ?_
 refine aW ?_
 cases hF
 exact Er (p6.1,p6.2)
def Ih:List dG->Nat->(List dG)->Option ((List dG))
 |[],bV,c31=>some c31
 |x38::dC,bV,c31=>(Nf x38).bind fun gM=>
   (jT (decide (0<=(bV:Int))&&decide ((bV:Int)<(c31.length:Int)))).bind fun qU=>
   (some (c31.set ((bV:Int)).toNat gM)).bind fun z56=>
   Ih dC (bV+1) z56
def SF(aa:List dG):Option ((List dG)):=
 (qc (aa.length:Int) ((⟨0,0,[]⟩:dG):dG)).bind fun z1=>
 Ih aa 0 z1
theorem ake{aa:List dG}{ae:Sv}{R:(List dG)}(hF:SF aa=some R):
   Fw.Spec Tryz.prog 11 [ae.v] [FT ae aa] (fun p:Sv×List Nat=>p.1.v) (fun p=>[afA p.2 p.1 R]):=by
 refine Se 23 Tryz.func11 [.tmp 2] ?_
 intro H0 F0
 unfold SF at hF
 refine aZ ?_
 refine bnd hF fun z1 hx2 hF=>?_
 have kS:=uM hx2
 refine dQ rfl (wO (g:=true) (c:=(aa.length:Int)) afq.h YB.h rfl rfl (by decide) (.tmp rfl rfl) kS.2.1 kS.2.2) (fun k4=>?_)
 refine dP (.cons .h .nil) (wV (Ro:=xI) (E:=91) (a:=((⟨0,0,[]⟩:dG):dG)) hx2 (fun _=>⟨⟨none,0,0⟩,[],rfl,rfl,.inl ⟨rfl,rfl,rfl⟩⟩)) ?_
 refine aZ ?_
 refine bn (bF (m:=aa.length) (fun lX f' cs'=>∃(g:Fr)(bV:Nat)(dC c31:List dG)(jQ:List Nat),lX=dC.length/\f'=aM g [(0,ae.v),(3,(.slice (some ⟨k4,0,none⟩) (aa.length:Int).toNat 1)),(4,(zi (bV:Int)))]/\List.drop bV aa=dC/\aL cs' [FT ae aa,aQ (aP 91 xI) jQ (.slice (some ⟨k4,0,none⟩) (aa.length:Int).toNat 1) c31]/\Ih dC bV c31=some R) ⟨_,0,_,_,[k4],rfl,aA,rfl,az,hF⟩ ?_)
 rintro lX _ _ ⟨Gp,bV,dC,c31,jQ,rfl,rfl,hd39,hE,hF⟩
 refine Kb hE aa (fun FI=>?_)
 rcases dC with _|⟨x38,dC⟩
 · have qE:=dn hd39
   rw[Ih]at hF
   refine bf ?_
   refine bR ?_
   refine dK ?_
   cases hF
   exact Er (⟨(some ⟨k4,0,none⟩),(aa.length:Int).toNat,1⟩,jQ)
 obtain⟨qE,mJ,qF⟩:=bN hd39
 rw[Ih]at hF
 refine bf ?_
 refine bQ ?_
 refine bf ?_
 refine Ai mJ (fun Dh Gq=>?_)
 refine iM (WX x38) acw (fun p47=>?_)
 refine bnd hF fun gM iO hF=>eZ (akS iO) (fun p50=>?_)
 refine bnd hF fun qU lQ hF=>?_
 have lS:=ru lQ
 refine mY afq.h YB.h.sz (.tmp rfl rfl) (.tmp rfl rfl) .q4 lS (fun wo qG=>?_)
 refine bnd hF fun z56 iI hF=>?_
 replace iI:=Option.some.inj iI
 refine dZ (.cons .q4 (.cons .h .nil)) (tF (Ro:=xI) (a:=gM) (i:=(bV:Int)) YB.h.sz rfl (.tmp rfl rfl) (.tmp rfl rfl) qG lS atQ (fun _ _ _ _ h=>by obtain⟨_,_,rfl,rfl,_⟩:=h; rfl)) (fun lY=>?_)
 rw[iI]
 refine aZ ?_
 rw[wk bV]
 exact⟨_,bG _,_,bV+1,dC,_,lY,rfl,aA,qF,az,hF⟩
def Ng(aa:Fact):Option (Fact):=
 (tJ aa.Values).bind fun r4=>
 some (⟨aa.Rel,r4⟩:Fact)
theorem akT{aa:Fact}{ay:Sv}{R:Fact}(hF:Ng aa=some R):
   Fw.Spec Tryz.prog 212 [(zg [(zi aa.Rel),ay.v])] [ah ay aa.Values] (fun p:Sv×List Nat=>(zg [(zi R.Rel),p.1.v])) (fun p=>[bC p.2 p.1 R.Values]):=by
 refine Se 12 Tryz.func212 [.cell 2 147] ?_
 intro H0 F0
 unfold Ng at hF
 refine au ?_
 refine bB (fun k1=>?_)
 refine dH (fun k2=>?_)
 refine aW ?_
 refine dH (fun k3=>?_)
 refine aV ?_
 refine As (zg [(zi aa.Rel),(.slice none 0 0)]) ?_
 refine aU ?_
 refine bnd hF fun r4 hx5 hF=>eZ (yA hx5) (fun p6=>?_)
 refine au ?_
 refine As (zg [(zi aa.Rel),p6.1.v]) ?_
 refine bq ?_
 refine As (zg [(zi aa.Rel),p6.1.v]) ?_
 refine aW ?_
 cases hF
 exact Er (p6.1,p6.2)
def Ii:List Fact->Nat->(List Fact)->Option ((List Fact))
 |[],bV,c31=>some c31
 |x38::dC,bV,c31=>(Ng x38).bind fun gM=>
   (jT (decide (0<=(bV:Int))&&decide ((bV:Int)<(c31.length:Int)))).bind fun qU=>
   (some (c31.set ((bV:Int)).toNat gM)).bind fun z56=>
   Ii dC (bV+1) z56
def MN(aa:List Fact):Option ((List Fact)):=
 (qc (aa.length:Int) ((⟨0,[]⟩:Fact):Fact)).bind fun z1=>
 Ii aa 0 z1
theorem abu{aa:List Fact}{ae:Sv}{R:(List Fact)}(hF:MN aa=some R):
   Fw.Spec Tryz.prog 127 [ae.v] [uX ae aa] (fun p:Sv×List Nat=>p.1.v) (fun p=>[nO p.2 p.1 R]):=by
 refine Se 23 Tryz.func127 [.tmp 2] ?_
 intro H0 F0
 unfold MN at hF
 refine aZ ?_
 refine bnd hF fun z1 hx2 hF=>?_
 have kS:=uM hx2
 refine dQ rfl (wO (g:=true) (c:=(aa.length:Int)) gz.h fB.h rfl rfl (by decide) (.tmp rfl rfl) kS.2.1 kS.2.2) (fun k4=>?_)
 refine dP (.cons .h .nil) (wV (Ro:=iT) (E:=147) (a:=((⟨0,[]⟩:Fact):Fact)) hx2 (fun _=>⟨⟨none,0,0⟩,[],rfl,rfl,.inl ⟨rfl,rfl,rfl⟩⟩)) ?_
 refine aZ ?_
 refine bn (bF (m:=aa.length) (fun lX f' cs'=>∃(g:Fr)(bV:Nat)(dC c31:List Fact)(jQ:List Nat),lX=dC.length/\f'=aM g [(0,ae.v),(3,(.slice (some ⟨k4,0,none⟩) (aa.length:Int).toNat 1)),(4,(zi (bV:Int)))]/\List.drop bV aa=dC/\aL cs' [uX ae aa,aQ (aP 147 iT) jQ (.slice (some ⟨k4,0,none⟩) (aa.length:Int).toNat 1) c31]/\Ii dC bV c31=some R) ⟨_,0,_,_,[k4],rfl,aA,rfl,az,hF⟩ ?_)
 rintro lX _ _ ⟨Gp,bV,dC,c31,jQ,rfl,rfl,hd39,hE,hF⟩
 refine Kb hE aa (fun FI=>?_)
 rcases dC with _|⟨x38,dC⟩
 · have qE:=dn hd39
   rw[Ii]at hF
   refine bf ?_
   refine bR ?_
   refine dK ?_
   cases hF
   exact Er (⟨(some ⟨k4,0,none⟩),(aa.length:Int).toNat,1⟩,jQ)
 obtain⟨qE,mJ,qF⟩:=bN hd39
 rw[Ii]at hF
 refine bf ?_
 refine bQ ?_
 refine bf ?_
 refine Ai mJ (fun Dh Gq=>?_)
 refine iM (Wz x38) abL (fun p47=>?_)
 refine bnd hF fun gM iO hF=>eZ (akT iO) (fun p50=>?_)
 refine bnd hF fun qU lQ hF=>?_
 have lS:=ru lQ
 refine mY gz.h fB.h.sz (.tmp rfl rfl) (.tmp rfl rfl) .q4 lS (fun wo qG=>?_)
 refine bnd hF fun z56 iI hF=>?_
 replace iI:=Option.some.inj iI
 refine dZ (.cons .q4 (.cons .h .nil)) (tF (Ro:=iT) (a:=gM) (i:=(bV:Int)) fB.h.sz rfl (.tmp rfl rfl) (.tmp rfl rfl) qG lS Cr (fun _ _ _ _ h=>by obtain⟨_,_,rfl,rfl,_⟩:=h; rfl)) (fun lY=>?_)
 rw[iI]
 refine aZ ?_
 rw[wk bV]
 exact⟨_,bG _,_,bV+1,dC,_,lY,rfl,aA,qF,az,hF⟩
def Mc(aa:Source):Option (Source):=
 (MN aa.Facts).bind fun r4=>
 some (⟨r4,aa.Version⟩:Source)
theorem ajm{aa:Source}{ae:Sv}{R:Source}(hF:Mc aa=some R):
   Fw.Spec Tryz.prog 54 [(zg [ae.v,(zi aa.Version)])] [uX ae aa.Facts] (fun p:Sv×List Nat=>(zg [p.1.v,(zi R.Version)])) (fun p=>[nO p.2 p.1 R.Facts]):=by
 refine Se 12 Tryz.func54 [.cell 2 60] ?_
 intro H0 F0
 unfold Mc at hF
 refine au ?_
 refine bB (fun k1=>?_)
 refine dH (fun k2=>?_)
 refine aW ?_
 refine dH (fun k3=>?_)
 refine aU ?_
 refine bnd hF fun r4 hx5 hF=>eZ (abu hx5) (fun p6=>?_)
 refine au ?_
 refine As (zg [p6.1.v,(zi 0)]) ?_
 refine aV ?_
 refine As (zg [p6.1.v,(zi aa.Version)]) ?_
 refine bq ?_
 refine As (zg [p6.1.v,(zi aa.Version)]) ?_
 refine aW ?_
 cases hF
 exact Er (p6.1,p6.2)
def IL(aa:Access):Option (Access):=
 (tJ aa.Values).bind fun r4=>
 some (⟨aa.Method,r4⟩:Access)
theorem aba{aa:Access}{ay:Sv}{R:Access}(hF:IL aa=some R):
   Fw.Spec Tryz.prog 129 [(zg [(zi aa.Method),ay.v])] [ah ay aa.Values] (fun p:Sv×List Nat=>(zg [(zi R.Method),p.1.v])) (fun p=>[bC p.2 p.1 R.Values]):=by
 refine Se 12 Tryz.func129 [.cell 2 145] ?_
 intro H0 F0
 unfold IL at hF
 refine au ?_
 refine bB (fun k1=>?_)
 refine dH (fun k2=>?_)
 refine aW ?_
 refine dH (fun k3=>?_)
 refine aV ?_
 refine As (zg [(zi aa.Method),(.slice none 0 0)]) ?_
 refine aU ?_
 refine bnd hF fun r4 hx5 hF=>eZ (yA hx5) (fun p6=>?_)
 refine au ?_
 refine As (zg [(zi aa.Method),p6.1.v]) ?_
 refine bq ?_
 refine As (zg [(zi aa.Method),p6.1.v]) ?_
 refine aW ?_
 cases hF
 exact Er (p6.1,p6.2)
def Md(aa:eH):Option (eH):=
 (IL aa.Access).bind fun r4=>
 (MN aa.Facts).bind fun r7=>
 some (⟨r4,r7,aa.At⟩:eH)
theorem ajn{aa:eH}{ay dm:Sv}{R:eH}(hF:Md aa=some R):
   Fw.Spec Tryz.prog 213 [(zg [(zi aa.Access.Method),ay.v,dm.v,(zi aa.At)])] [ah ay aa.Access.Values,uX dm aa.Facts] (fun p:Sv×List Nat×Sv×List Nat=>(zg [(zi R.Access.Method),p.1.v,p.2.2.1.v,(zi R.At)])) (fun p=>[bC p.2.1 p.1 R.Access.Values,nO p.2.2.2 p.2.2.1 R.Facts]):=by
 refine Se 16 Tryz.func213 [.cell 2 248] ?_
 intro H0 F0
 unfold Md at hF
 refine au ?_
 refine bB (fun k1=>?_)
 refine dH (fun k2=>?_)
 refine aW ?_
 refine dH (fun k3=>?_)
 refine bq ?_
 refine fq .q2 (fun hp=>ko (s:=2) (l:=[(zi aa.Access.Method),ay.v]) aez.h X6.h.sz (.tmp rfl rfl) hp.2 rfl (by decide) (Nat.le_of_ble_eq_true rfl) rfl) ?_
 refine bnd hF fun r4 hx5 hF=>eZ (aba hx5) (fun p6=>?_)
 refine au ?_
 refine As (zg [(zi r4.Method),p6.1.v,(.slice none 0 0),(zi 0)]) ?_
 refine aU ?_
 refine bnd hF fun r7 jy hF=>eZ (abu jy) (fun p9=>?_)
 refine au ?_
 refine As (zg [(zi r4.Method),p6.1.v,p9.1.v,(zi 0)]) ?_
 refine aV ?_
 refine As (zg [(zi r4.Method),p6.1.v,p9.1.v,(zi aa.At)]) ?_
 refine bq ?_
 refine As (zg [(zi r4.Method),p6.1.v,p9.1.v,(zi aa.At)]) ?_
 refine aW ?_
 cases hF
 exact Er (p6.1,p6.2,p9.1,p9.2)
def Hz:List eH->Nat->(List eH)->Option ((List eH))
 |[],bV,c31=>some c31
 |x38::dC,bV,c31=>(Md x38).bind fun gM=>
   (jT (decide (0<=(bV:Int))&&decide ((bV:Int)<(c31.length:Int)))).bind fun qU=>
   (some (c31.set ((bV:Int)).toNat gM)).bind fun z56=>
   Hz dC (bV+1) z56
def R5(aa:List eH):Option ((List eH)):=
 (qc (aa.length:Int) ((⟨(⟨0,[]⟩:Access),[],0⟩:eH):eH)).bind fun z1=>
 Hz aa 0 z1
theorem aiT{aa:List eH}{ae:Sv}{R:(List eH)}(hF:R5 aa=some R):
   Fw.Spec Tryz.prog 128 [ae.v] [zP ae aa] (fun p:Sv×List Nat=>p.1.v) (fun p=>[X_ p.2 p.1 R]):=by
 refine Se 23 Tryz.func128 [.tmp 2] ?_
 intro H0 F0
 unfold R5 at hF
 refine aZ ?_
 refine bnd hF fun z1 hx2 hF=>?_
 have kS:=uM hx2
 refine dQ rfl (wO (g:=true) (c:=(aa.length:Int)) afr.h TP.h rfl rfl (by decide) (.tmp rfl rfl) kS.2.1 kS.2.2) (fun k4=>?_)
 refine dP (.cons .h .nil) (wV (Ro:=xm) (E:=248) (a:=((⟨(⟨0,[]⟩:Access),[],0⟩:eH):eH)) hx2 (fun _=>⟨⟨none,0,0⟩,⟨none,0,0⟩,[],[],rfl,rfl,.inl ⟨rfl,rfl,rfl⟩,.inl ⟨rfl,rfl,rfl⟩⟩)) ?_
 refine aZ ?_
 refine bn (bF (m:=aa.length) (fun lX f' cs'=>∃(g:Fr)(bV:Nat)(dC c31:List eH)(jQ:List Nat),lX=dC.length/\f'=aM g [(0,ae.v),(3,(.slice (some ⟨k4,0,none⟩) (aa.length:Int).toNat 1)),(4,(zi (bV:Int)))]/\List.drop bV aa=dC/\aL cs' [zP ae aa,aQ (aP 248 xm) jQ (.slice (some ⟨k4,0,none⟩) (aa.length:Int).toNat 1) c31]/\Hz dC bV c31=some R) ⟨_,0,_,_,[k4],rfl,aA,rfl,az,hF⟩ ?_)
 rintro lX _ _ ⟨Gp,bV,dC,c31,jQ,rfl,rfl,hd39,hE,hF⟩
 refine Kb hE aa (fun FI=>?_)
 rcases dC with _|⟨x38,dC⟩
 · have qE:=dn hd39
   rw[Hz]at hF
   refine bf ?_
   refine bR ?_
   refine dK ?_
   cases hF
   exact Er (⟨(some ⟨k4,0,none⟩),(aa.length:Int).toNat,1⟩,jQ)
 obtain⟨qE,mJ,qF⟩:=bN hd39
 rw[Hz]at hF
 refine bf ?_
 refine bQ ?_
 refine bf ?_
 refine Ai mJ (fun Dh Gq=>?_)
 refine zT (WA x38) abM (fun p47=>?_)
 refine bnd hF fun gM iO hF=>Dg (ajn iO) (fun p50=>?_)
 refine bnd hF fun qU lQ hF=>?_
 have lS:=ru lQ
 refine mY afr.h TP.h.sz (.tmp rfl rfl) (.tmp rfl rfl) .q6 lS (fun wo qG=>?_)
 refine bnd hF fun z56 iI hF=>?_
 replace iI:=Option.some.inj iI
 refine dZ (.cons .q6 (.cons .h (.cons .h .nil))) (tF (Ro:=xm) (a:=gM) (i:=(bV:Int)) TP.h.sz rfl (.tmp rfl rfl) (.tmp rfl rfl) qG lS aqi (fun _ _ _ _ h=>by obtain⟨_,_,_,_,rfl,rfl,_⟩:=h; rfl)) (fun lY=>?_)
 rw[iI]
 refine aZ ?_
 rw[wk bV]
 exact⟨_,bG _,_,bV+1,dC,_,lY,rfl,aA,qF,az,hF⟩
def MO(aa:Cache):Option (Cache):=
 (R5 aa.Entries).bind fun r4=>
 some (⟨r4,aa.Age⟩:Cache)
theorem akf{aa:Cache}{ae:Sv}{R:Cache}(hF:MO aa=some R):
   Fw.Spec Tryz.prog 55 [(zg [ae.v,(zi aa.Age)])] [zP ae aa.Entries] (fun p:Sv×List Nat=>(zg [p.1.v,(zi R.Age)])) (fun p=>[X_ p.2 p.1 R.Entries]):=by
 refine Se 12 Tryz.func55 [.cell 2 63] ?_
 intro H0 F0
 unfold MO at hF
 refine au ?_
 refine bB (fun k1=>?_)
 refine dH (fun k2=>?_)
 refine aW ?_
 refine dH (fun k3=>?_)
 refine aU ?_
 refine bnd hF fun r4 hx5 hF=>eZ (aiT hx5) (fun p6=>?_)
 refine au ?_
 refine As (zg [p6.1.v,(zi 0)]) ?_
 refine aV ?_
 refine As (zg [p6.1.v,(zi aa.Age)]) ?_
 refine bq ?_
 refine As (zg [p6.1.v,(zi aa.Age)]) ?_
 refine aW ?_
 cases hF
 exact Er (p6.1,p6.2)
def HV:List Access->Nat->(List Access)->Option ((List Access))
 |[],bV,c31=>some c31
 |x38::dC,bV,c31=>(IL x38).bind fun gM=>
   (jT (decide (0<=(bV:Int))&&decide ((bV:Int)<(c31.length:Int)))).bind fun qU=>
   (some (c31.set ((bV:Int)).toNat gM)).bind fun z56=>
   HV dC (bV+1) z56
def R6(aa:List Access):Option ((List Access)):=
 (qc (aa.length:Int) ((⟨0,[]⟩:Access):Access)).bind fun z1=>
 HV aa 0 z1
theorem aiU{aa:List Access}{ae:Sv}{R:(List Access)}(hF:R6 aa=some R):
   Fw.Spec Tryz.prog 56 [ae.v] [FH ae aa] (fun p:Sv×List Nat=>p.1.v) (fun p=>[aeN p.2 p.1 R]):=by
 refine Se 23 Tryz.func56 [.tmp 2] ?_
 intro H0 F0
 unfold R6 at hF
 refine aZ ?_
 refine bnd hF fun z1 hx2 hF=>?_
 have kS:=uM hx2
 refine dQ rfl (wO (g:=true) (c:=(aa.length:Int)) Uj.h xn.h rfl rfl (by decide) (.tmp rfl rfl) kS.2.1 kS.2.2) (fun k4=>?_)
 refine dP (.cons .h .nil) (wV (Ro:=xq) (E:=145) (a:=((⟨0,[]⟩:Access):Access)) hx2 (fun _=>⟨⟨none,0,0⟩,[],rfl,rfl,.inl ⟨rfl,rfl,rfl⟩⟩)) ?_
 refine aZ ?_
 refine bn (bF (m:=aa.length) (fun lX f' cs'=>∃(g:Fr)(bV:Nat)(dC c31:List Access)(jQ:List Nat),lX=dC.length/\f'=aM g [(0,ae.v),(3,(.slice (some ⟨k4,0,none⟩) (aa.length:Int).toNat 1)),(4,(zi (bV:Int)))]/\List.drop bV aa=dC/\aL cs' [FH ae aa,aQ (aP 145 xq) jQ (.slice (some ⟨k4,0,none⟩) (aa.length:Int).toNat 1) c31]/\HV dC bV c31=some R) ⟨_,0,_,_,[k4],rfl,aA,rfl,az,hF⟩ ?_)
 rintro lX _ _ ⟨Gp,bV,dC,c31,jQ,rfl,rfl,hd39,hE,hF⟩
 refine Kb hE aa (fun FI=>?_)
 rcases dC with _|⟨x38,dC⟩
 · have qE:=dn hd39
   rw[HV]at hF
   refine bf ?_
   refine bR ?_
   refine dK ?_
   cases hF
   exact Er (⟨(some ⟨k4,0,none⟩),(aa.length:Int).toNat,1⟩,jQ)
 obtain⟨qE,mJ,qF⟩:=bN hd39
 rw[HV]at hF
 refine bf ?_
 refine bQ ?_
 refine bf ?_
 refine Ai mJ (fun Dh Gq=>?_)
 refine iM (WB x38) abN (fun p47=>?_)
 refine bnd hF fun gM iO hF=>eZ (aba iO) (fun p50=>?_)
 refine bnd hF fun qU lQ hF=>?_
 have lS:=ru lQ
 refine mY Uj.h xn.h.sz (.tmp rfl rfl) (.tmp rfl rfl) .q4 lS (fun wo qG=>?_)
 refine bnd hF fun z56 iI hF=>?_
 replace iI:=Option.some.inj iI
 refine dZ (.cons .q4 (.cons .h .nil)) (tF (Ro:=xq) (a:=gM) (i:=(bV:Int)) xn.h.sz rfl (.tmp rfl rfl) (.tmp rfl rfl) qG lS aqj (fun _ _ _ _ h=>by obtain⟨_,_,rfl,rfl,_⟩:=h; rfl)) (fun lY=>?_)
 rw[iI]
 refine aZ ?_
 rw[wk bV]
 exact⟨_,bG _,_,bV+1,dC,_,lY,rfl,aA,qF,az,hF⟩
def Ij:List (List Int)->Nat->(List (List Int))->Option ((List (List Int)))
 |[],bV,c31=>some c31
 |x38::dC,bV,c31=>(tJ x38).bind fun gM=>
   (jT (decide (0<=(bV:Int))&&decide ((bV:Int)<(c31.length:Int)))).bind fun qU=>
   (some (c31.set ((bV:Int)).toNat gM)).bind fun z56=>
   Ij dC (bV+1) z56
def SG(aa:List (List Int)):Option ((List (List Int))):=
 (qc (aa.length:Int) ([]:List Int)).bind fun z1=>
 Ij aa 0 z1
theorem akg{aa:List (List Int)}{ae:Sv}{R:(List (List Int))}(hF:SG aa=some R):
   Fw.Spec Tryz.prog 130 [ae.v] [bK (aJ 22 (aJ 3 aK)) ae.v aa] (fun p:Sv×List Nat=>p.1.v) (fun p=>[aQ (aP 22 (aP 3 (aG aK))) p.2 p.1.v R]):=by
 refine Se 23 Tryz.func130 [.tmp 2] ?_
 intro H0 F0
 unfold SG at hF
 refine aZ ?_
 refine bnd hF fun z1 hx2 hF=>?_
 have kS:=uM hx2
 refine dQ rfl (wO (g:=true) (c:=(aa.length:Int)) NU.h uf.h rfl rfl (by decide) (.tmp rfl rfl) kS.2.1 kS.2.2) (fun k4=>?_)
 refine dP (.cons .h .nil) (wV (Ro:=(aP 3 (aG aK))) (E:=22) (a:=([]:List Int)) hx2 (fun _=>(.inl ⟨rfl,rfl,rfl⟩))) ?_
 refine aZ ?_
 refine bn (bF (m:=aa.length) (fun lX f' cs'=>∃(g:Fr)(bV:Nat)(dC c31:List (List Int))(jQ:List Nat),lX=dC.length/\f'=aM g [(0,ae.v),(3,(.slice (some ⟨k4,0,none⟩) (aa.length:Int).toNat 1)),(4,(zi (bV:Int)))]/\List.drop bV aa=dC/\aL cs' [bK (aJ 22 (aJ 3 aK)) ae.v aa,aQ (aP 22 (aP 3 (aG aK))) jQ (.slice (some ⟨k4,0,none⟩) (aa.length:Int).toNat 1) c31]/\Ij dC bV c31=some R) ⟨_,0,_,_,[k4],rfl,aA,rfl,az,hF⟩ ?_)
 rintro lX _ _ ⟨Gp,bV,dC,c31,jQ,rfl,rfl,hd39,hE,hF⟩
 refine Kb hE aa (fun FI=>?_)
 rcases dC with _|⟨x38,dC⟩
 · have qE:=dn hd39
   rw[Ij]at hF
   refine bf ?_
   refine bR ?_
   refine dK ?_
   cases hF
   exact Er (⟨(some ⟨k4,0,none⟩),(aa.length:Int).toNat,1⟩,jQ)
 obtain⟨qE,mJ,qF⟩:=bN hd39
 rw[Ij]at hF
 refine bf ?_
 refine bQ ?_
 refine bf ?_
 refine Ai mJ (fun Dh Gq=>?_)
 refine r_ (R':=(aJ 3 aK)) ji.h (.tmp rfl rfl) .h Js (fun w47=>?_)
 refine bnd hF fun gM iO hF=>eZ (yA iO) (fun p50=>?_)
 refine bnd hF fun qU lQ hF=>?_
 have lS:=ru lQ
 refine mY NU.h uf.h.sz (.tmp rfl rfl) (.tmp rfl rfl) .q4 lS (fun wo qG=>?_)
 refine bnd hF fun z56 iI hF=>?_
 replace iI:=Option.some.inj iI
 refine dZ (.cons .q4 (.cons .h .nil)) (tF (Ro:=(aP 3 (aG aK))) (a:=gM) (i:=(bV:Int)) uf.h.sz rfl (.tmp rfl rfl) (.tmp rfl rfl) qG lS Tz (fun _ _ _ _ h=>by obtain⟨_,_,rfl⟩:=aP.len h; rfl)) (fun lY=>?_)
 rw[iI]
 refine aZ ?_
 rw[wk bV]
 exact⟨_,bG _,_,bV+1,dC,_,lY,rfl,aA,qF,az,hF⟩
def Ib:List (List (List Int))->Nat->(List (List (List Int)))->Option ((List (List (List Int))))
 |[],bV,c31=>some c31
 |x38::dC,bV,c31=>(SG x38).bind fun gM=>
   (jT (decide (0<=(bV:Int))&&decide ((bV:Int)<(c31.length:Int)))).bind fun qU=>
   (some (c31.set ((bV:Int)).toNat gM)).bind fun z56=>
   Ib dC (bV+1) z56
def Si(aa:List (List (List Int))):Option ((List (List (List Int)))):=
 (qc (aa.length:Int) ([]:List (List Int))).bind fun z1=>
 Ib aa 0 z1
theorem ajo{aa:List (List (List Int))}{ae:Sv}{R:(List (List (List Int)))}(hF:Si aa=some R):
   Fw.Spec Tryz.prog 57 [ae.v] [bK (aJ 171 (aJ 22 (aJ 3 aK))) ae.v aa] (fun p:Sv×List Nat=>p.1.v) (fun p=>[aQ (aP 171 (aP 22 (aP 3 (aG aK)))) p.2 p.1.v R]):=by
 refine Se 23 Tryz.func57 [.tmp 2] ?_
 intro H0 F0
 unfold Si at hF
 refine aZ ?_
 refine bnd hF fun z1 hx2 hF=>?_
 have kS:=uM hx2
 refine dQ rfl (wO (g:=true) (c:=(aa.length:Int)) YA.h X7.h rfl rfl (by decide) (.tmp rfl rfl) kS.2.1 kS.2.2) (fun k4=>?_)
 refine dP (.cons .h .nil) (wV (Ro:=(aP 22 (aP 3 (aG aK)))) (E:=171) (a:=([]:List (List Int))) hx2 (fun _=>(.inl ⟨rfl,rfl,rfl⟩))) ?_
 refine aZ ?_
 refine bn (bF (m:=aa.length) (fun lX f' cs'=>∃(g:Fr)(bV:Nat)(dC c31:List (List (List Int)))(jQ:List Nat),lX=dC.length/\f'=aM g [(0,ae.v),(3,(.slice (some ⟨k4,0,none⟩) (aa.length:Int).toNat 1)),(4,(zi (bV:Int)))]/\List.drop bV aa=dC/\aL cs' [bK (aJ 171 (aJ 22 (aJ 3 aK))) ae.v aa,aQ (aP 171 (aP 22 (aP 3 (aG aK)))) jQ (.slice (some ⟨k4,0,none⟩) (aa.length:Int).toNat 1) c31]/\Ib dC bV c31=some R) ⟨_,0,_,_,[k4],rfl,aA,rfl,az,hF⟩ ?_)
 rintro lX _ _ ⟨Gp,bV,dC,c31,jQ,rfl,rfl,hd39,hE,hF⟩
 refine Kb hE aa (fun FI=>?_)
 rcases dC with _|⟨x38,dC⟩
 · have qE:=dn hd39
   rw[Ib]at hF
   refine bf ?_
   refine bR ?_
   refine dK ?_
   cases hF
   exact Er (⟨(some ⟨k4,0,none⟩),(aa.length:Int).toNat,1⟩,jQ)
 obtain⟨qE,mJ,qF⟩:=bN hd39
 rw[Ib]at hF
 refine bf ?_
 refine bQ ?_
 refine bf ?_
 refine Ai mJ (fun Dh Gq=>?_)
 refine r_ (R':=(aJ 22 (aJ 3 aK))) TN.h (.tmp rfl rfl) .h Tj (fun w47=>?_)
 refine bnd hF fun gM iO hF=>eZ (akg iO) (fun p50=>?_)
 refine bnd hF fun qU lQ hF=>?_
 have lS:=ru lQ
 refine mY YA.h X7.h.sz (.tmp rfl rfl) (.tmp rfl rfl) .q4 lS (fun wo qG=>?_)
 refine bnd hF fun z56 iI hF=>?_
 replace iI:=Option.some.inj iI
 refine dZ (.cons .q4 (.cons .h .nil)) (tF (Ro:=(aP 22 (aP 3 (aG aK)))) (a:=gM) (i:=(bV:Int)) X7.h.sz rfl (.tmp rfl rfl) (.tmp rfl rfl) qG lS Tz (fun _ _ _ _ h=>by obtain⟨_,_,rfl⟩:=aP.len h; rfl)) (fun lY=>?_)
 rw[iI]
 refine aZ ?_
 rw[wk bV]
 exact⟨_,bG _,_,bV+1,dC,_,lY,rfl,aA,qF,az,hF⟩
def El(aa:gV):Option (gV):=
 (tJ aa.Schema).bind fun r4=>
 (R4 aa.Methods).bind fun r7=>
 (SF aa.Rules).bind fun nz=>
 (Mc aa.Source).bind fun ik=>
 (MO aa.Cache).bind fun r16=>
 (R6 aa.Log).bind fun Dj=>
 (tJ aa.Times).bind fun gH=>
 (Si aa.Results).bind fun nY=>
 some (⟨r4,r7,nz,ik,r16,aa.Now,Dj,gH,aa.Spent,nY⟩:gV)
theorem V6{aa:gV}{ae ay dm gy iw iN iV jf:Sv}{R:gV}(hF:El aa=some R):
   Fw.Spec Tryz.prog 20 [(zg [ae.v,ay.v,dm.v,gy.v,(zi aa.Source.Version),iw.v,(zi aa.Cache.Age),(zi aa.Now),iN.v,iV.v,(zi aa.Spent),jf.v])] [ah ae aa.Schema,FR ay aa.Methods,FT dm aa.Rules,uX gy aa.Source.Facts,zP iw aa.Cache.Entries,FH iN aa.Log,ah iV aa.Times,bK (aJ 171 (aJ 22 (aJ 3 aK))) jf.v aa.Results] (fun p:Sv×List Nat×Sv×List Nat×Sv×List Nat×Sv×List Nat×Sv×List Nat×Sv×List Nat×Sv×List Nat×Sv×List Nat=>(zg [p.1.v,p.2.2.1.v,p.2.2.2.2.1.v,p.2.2.2.2.2.2.1.v,(zi R.Source.Version),p.2.2.2.2.2.2.2.2.1.v,(zi R.Cache.Age),(zi R.Now),p.2.2.2.2.2.2.2.2.2.2.1.v,p.2.2.2.2.2.2.2.2.2.2.2.2.1.v,(zi R.Spent),p.2.2.2.2.2.2.2.2.2.2.2.2.2.2.1.v])) (fun p=>[bC p.2.1 p.1 R.Schema,afz p.2.2.2.1 p.2.2.1 R.Methods,afA p.2.2.2.2.2.1 p.2.2.2.2.1 R.Rules,nO p.2.2.2.2.2.2.2.1 p.2.2.2.2.2.2.1 R.Source.Facts,X_ p.2.2.2.2.2.2.2.2.2.1 p.2.2.2.2.2.2.2.2.1 R.Cache.Entries,aeN p.2.2.2.2.2.2.2.2.2.2.2.1 p.2.2.2.2.2.2.2.2.2.2.1 R.Log,bC p.2.2.2.2.2.2.2.2.2.2.2.2.2.1 p.2.2.2.2.2.2.2.2.2.2.2.2.1 R.Times,aQ (aP 171 (aP 22 (aP 3 (aG aK)))) p.2.2.2.2.2.2.2.2.2.2.2.2.2.2.2 p.2.2.2.2.2.2.2.2.2.2.2.2.2.2.1.v R.Results]):=by
 refine Se 43 Tryz.func20 [.cell 2 66] ?_
 intro H0 F0
 unfold El at hF
 refine au ?_
 refine bB (fun k1=>?_)
 refine dH (fun k2=>?_)
 refine aW ?_
 refine dH (fun k3=>?_)
 refine aU ?_
 refine bnd hF fun r4 hx5 hF=>eZ (yA hx5) (fun p6=>?_)
 refine au ?_
 refine As (zg [p6.1.v,(.slice none 0 0),(.slice none 0 0),(.slice none 0 0),(zi 0),(.slice none 0 0),(zi 0),(zi 0),(.slice none 0 0),(.slice none 0 0),(zi 0),(.slice none 0 0)]) ?_
 refine aU ?_
 refine bnd hF fun r7 jy hF=>eZ (aiS jy) (fun p9=>?_)
 refine au ?_
 refine As (zg [p6.1.v,p9.1.v,(.slice none 0 0),(.slice none 0 0),(zi 0),(.slice none 0 0),(zi 0),(zi 0),(.slice none 0 0),(.slice none 0 0),(zi 0),(.slice none 0 0)]) ?_
 refine aU ?_
 refine bnd hF fun nz mf hF=>eZ (ake mf) (fun lu=>?_)
 refine au ?_
 refine As (zg [p6.1.v,p9.1.v,lu.1.v,(.slice none 0 0),(zi 0),(.slice none 0 0),(zi 0),(zi 0),(.slice none 0 0),(.slice none 0 0),(zi 0),(.slice none 0 0)]) ?_
 refine bq ?_
 refine fq .q5 (fun hp=>ko (s:=2) (l:=[gy.v,(zi aa.Source.Version)]) afn.h Yy.h.sz (.tmp rfl rfl) hp.2 rfl (by decide) (Nat.le_of_ble_eq_true rfl) rfl) ?_
 refine bnd hF fun ik iy hF=>eZ (ajm iy) (fun jd=>?_)
 refine au ?_
 refine As (zg [p6.1.v,p9.1.v,lu.1.v,jd.1.v,(zi ik.Version),(.slice none 0 0),(zi 0),(zi 0),(.slice none 0 0),(.slice none 0 0),(zi 0),(.slice none 0 0)]) ?_
 refine bq ?_
 refine fq .q6 (fun hp=>ko (s:=2) (l:=[iw.v,(zi aa.Cache.Age)]) afo.h Yz.h.sz (.tmp rfl rfl) hp.2 rfl (by decide) (Nat.le_of_ble_eq_true rfl) rfl) ?_
 refine bnd hF fun r16 iP hF=>eZ (akf iP) (fun nZ=>?_)
 refine au ?_
 refine As (zg [p6.1.v,p9.1.v,lu.1.v,jd.1.v,(zi ik.Version),nZ.1.v,(zi r16.Age),(zi 0),(.slice none 0 0),(.slice none 0 0),(zi 0),(.slice none 0 0)]) ?_
 refine aV ?_
 refine As (zg [p6.1.v,p9.1.v,lu.1.v,jd.1.v,(zi ik.Version),nZ.1.v,(zi r16.Age),(zi aa.Now),(.slice none 0 0),(.slice none 0 0),(zi 0),(.slice none 0 0)]) ?_
 refine aU ?_
 refine bnd hF fun Dj lT hF=>eZ (aiU lT) (fun qi=>?_)
 refine au ?_
 refine As (zg [p6.1.v,p9.1.v,lu.1.v,jd.1.v,(zi ik.Version),nZ.1.v,(zi r16.Age),(zi aa.Now),qi.1.v,(.slice none 0 0),(zi 0),(.slice none 0 0)]) ?_
 refine aU ?_
 refine bnd hF fun gH mK hF=>eZ (yA mK) (fun iA=>?_)
 refine au ?_
 refine As (zg [p6.1.v,p9.1.v,lu.1.v,jd.1.v,(zi ik.Version),nZ.1.v,(zi r16.Age),(zi aa.Now),qi.1.v,iA.1.v,(zi 0),(.slice none 0 0)]) ?_
 refine aV ?_
 refine As (zg [p6.1.v,p9.1.v,lu.1.v,jd.1.v,(zi ik.Version),nZ.1.v,(zi r16.Age),(zi aa.Now),qi.1.v,iA.1.v,(zi aa.Spent),(.slice none 0 0)]) ?_
 refine aU ?_
 refine bnd hF fun nY nk hF=>eZ (ajo nk) (fun p27=>?_)
 refine au ?_
 refine As (zg [p6.1.v,p9.1.v,lu.1.v,jd.1.v,(zi ik.Version),nZ.1.v,(zi r16.Age),(zi aa.Now),qi.1.v,iA.1.v,(zi aa.Spent),p27.1.v]) ?_
 refine bq ?_
 refine As (zg [p6.1.v,p9.1.v,lu.1.v,jd.1.v,(zi ik.Version),nZ.1.v,(zi r16.Age),(zi aa.Now),qi.1.v,iA.1.v,(zi aa.Spent),p27.1.v]) ?_
 refine aW ?_
 cases hF
 exact Er (p6.1,p6.2,p9.1,p9.2,lu.1,lu.2,jd.1,jd.2,nZ.1,nZ.2,qi.1,qi.2,iA.1,iA.2,p27.1,p27.2)
def Nh(aa:Atom):Option (Atom):=
 (tJ aa.Terms).bind fun r4=>
 some (⟨aa.Rel,r4⟩:Atom)
theorem akU{aa:Atom}{ay:Sv}{R:Atom}(hF:Nh aa=some R):
   Fw.Spec Tryz.prog 87 [(zg [(zi aa.Rel),ay.v])] [ah ay aa.Terms] (fun p:Sv×List Nat=>(zg [(zi R.Rel),p.1.v])) (fun p=>[bC p.2 p.1 R.Terms]):=by
 refine Se 12 Tryz.func87 [.cell 2 123] ?_
 intro H0 F0
 unfold Nh at hF
 refine au ?_
 refine bB (fun k1=>?_)
 refine dH (fun k2=>?_)
 refine aW ?_
 refine dH (fun k3=>?_)
 refine aV ?_
 refine As (zg [(zi aa.Rel),(.slice none 0 0)]) ?_
 refine aU ?_
 refine bnd hF fun r4 hx5 hF=>eZ (yA hx5) (fun p6=>?_)
 refine au ?_
 refine As (zg [(zi aa.Rel),p6.1.v]) ?_
 refine bq ?_
 refine As (zg [(zi aa.Rel),p6.1.v]) ?_
 refine aW ?_
 cases hF
 exact Er (p6.1,p6.2)
def Ik:List Atom->Nat->(List Atom)->Option ((List Atom))
 |[],bV,c31=>some c31
 |x38::dC,bV,c31=>(Nh x38).bind fun gM=>
   (jT (decide (0<=(bV:Int))&&decide ((bV:Int)<(c31.length:Int)))).bind fun qU=>
   (some (c31.set ((bV:Int)).toNat gM)).bind fun z56=>
   Ik dC (bV+1) z56
def SH(aa:List Atom):Option ((List Atom)):=
 (qc (aa.length:Int) ((⟨0,[]⟩:Atom):Atom)).bind fun z1=>
 Ik aa 0 z1
theorem akh{aa:List Atom}{ae:Sv}{R:(List Atom)}(hF:SH aa=some R):
   Fw.Spec Tryz.prog 36 [ae.v] [FE ae aa] (fun p:Sv×List Nat=>p.1.v) (fun p=>[rD p.2 p.1 R]):=by
 refine Se 23 Tryz.func36 [.tmp 2] ?_
 intro H0 F0
 unfold SH at hF
 refine aZ ?_
 refine bnd hF fun z1 hx2 hF=>?_
 have kS:=uM hx2
 refine dQ rfl (wO (g:=true) (c:=(aa.length:Int)) uh.h ou.h rfl rfl (by decide) (.tmp rfl rfl) kS.2.1 kS.2.2) (fun k4=>?_)
 refine dP (.cons .h .nil) (wV (Ro:=kM) (E:=123) (a:=((⟨0,[]⟩:Atom):Atom)) hx2 (fun _=>⟨⟨none,0,0⟩,[],rfl,rfl,.inl ⟨rfl,rfl,rfl⟩⟩)) ?_
 refine aZ ?_
 refine bn (bF (m:=aa.length) (fun lX f' cs'=>∃(g:Fr)(bV:Nat)(dC c31:List Atom)(jQ:List Nat),lX=dC.length/\f'=aM g [(0,ae.v),(3,(.slice (some ⟨k4,0,none⟩) (aa.length:Int).toNat 1)),(4,(zi (bV:Int)))]/\List.drop bV aa=dC/\aL cs' [FE ae aa,aQ (aP 123 kM) jQ (.slice (some ⟨k4,0,none⟩) (aa.length:Int).toNat 1) c31]/\Ik dC bV c31=some R) ⟨_,0,_,_,[k4],rfl,aA,rfl,az,hF⟩ ?_)
 rintro lX _ _ ⟨Gp,bV,dC,c31,jQ,rfl,rfl,hd39,hE,hF⟩
 refine Kb hE aa (fun FI=>?_)
 rcases dC with _|⟨x38,dC⟩
 · have qE:=dn hd39
   rw[Ik]at hF
   refine bf ?_
   refine bR ?_
   refine dK ?_
   cases hF
   exact Er (⟨(some ⟨k4,0,none⟩),(aa.length:Int).toNat,1⟩,jQ)
 obtain⟨qE,mJ,qF⟩:=bN hd39
 rw[Ik]at hF
 refine bf ?_
 refine bQ ?_
 refine bf ?_
 refine Ai mJ (fun Dh Gq=>?_)
 refine iM (WC x38) abO (fun p47=>?_)
 refine bnd hF fun gM iO hF=>eZ (akU iO) (fun p50=>?_)
 refine bnd hF fun qU lQ hF=>?_
 have lS:=ru lQ
 refine mY uh.h ou.h.sz (.tmp rfl rfl) (.tmp rfl rfl) .q4 lS (fun wo qG=>?_)
 refine bnd hF fun z56 iI hF=>?_
 replace iI:=Option.some.inj iI
 refine dZ (.cons .q4 (.cons .h .nil)) (tF (Ro:=kM) (a:=gM) (i:=(bV:Int)) ou.h.sz rfl (.tmp rfl rfl) (.tmp rfl rfl) qG lS NW (fun _ _ _ _ h=>by obtain⟨_,_,rfl,rfl,_⟩:=h; rfl)) (fun lY=>?_)
 rw[iI]
 refine aZ ?_
 rw[wk bV]
 exact⟨_,bG _,_,bV+1,dC,_,lY,rfl,aA,qF,az,hF⟩
def EK(aa:Query):Option (Query):=
 (tJ aa.Head).bind fun r4=>
 (SH aa.Atoms).bind fun r7=>
 some (⟨r4,r7⟩:Query)
theorem Wn{aa:Query}{ae ay:Sv}{R:Query}(hF:EK aa=some R):
   Fw.Spec Tryz.prog 12 [(zg [ae.v,ay.v])] [ah ae aa.Head,FE ay aa.Atoms] (fun p:Sv×List Nat×Sv×List Nat=>(zg [p.1.v,p.2.2.1.v])) (fun p=>[bC p.2.1 p.1 R.Head,rD p.2.2.2 p.2.2.1 R.Atoms]):=by
 refine Se 13 Tryz.func12 [.cell 2 39] ?_
 intro H0 F0
 unfold EK at hF
 refine au ?_
 refine bB (fun k1=>?_)
 refine dH (fun k2=>?_)
 refine aW ?_
 refine dH (fun k3=>?_)
 refine aU ?_
 refine bnd hF fun r4 hx5 hF=>eZ (yA hx5) (fun p6=>?_)
 refine au ?_
 refine As (zg [p6.1.v,(.slice none 0 0)]) ?_
 refine aU ?_
 refine bnd hF fun r7 jy hF=>eZ (akh jy) (fun p9=>?_)
 refine au ?_
 refine As (zg [p6.1.v,p9.1.v]) ?_
 refine bq ?_
 refine As (zg [p6.1.v,p9.1.v]) ?_
 refine aW ?_
 cases hF
 exact Er (p6.1,p6.2,p9.1,p9.2)
def iG(bg:Int)(si:Int)(uU:Int):Option (Bool):=
 some ((decide ((si:Int)<=bg))&&(decide ((bg:Int)<=uU)))
theorem jl{bg si uU:Int}{R:Bool}(hF:iG bg si uU=some R):
   Fw.Spec Tryz.prog 72 [(zi bg),(zi si),(zi uU)] [] (fun _:Unit=>(.bool R)) (fun _=>[]):=by
 refine Se 15 Tryz.func72 [.tmp 6] ?_
 intro H0 F0
 unfold iG at hF
 refine aU ?_
 refine fE (fun f' cs'=>∃(g:Fr),f'=aM g [(6,(.bool ((decide ((si:Int)<=bg))&&(decide ((bg:Int)<=uU)))))]/\aL cs' []) ?_ ?_
 · refine aU ?_
   rcases bL (decide ((si:Int)<=bg))with hg1|hg1
   · rw[hg1]
     try rw[hg1]at hF; dsimp only[aO,aN]at hF
     refine dK ?_
     exact⟨_,aA,az⟩
   rw[hg1]
   try rw[hg1]at hF; dsimp only[aO,aN]at hF
   refine aZ ?_
   exact⟨_,aA,az⟩
 rintro _ _ ⟨g2,rfl,hE⟩
 refine bD hE ?_
 exact ze hF
def Ef(ag:List Int):List Int->Nat->Option (Bool)
 |[],k4=>(iG (ag.length:Int) 1 3).bind fun ik=>
   some ik
 |x6::ax,k4=>(iG x6 1 3).bind fun sP=>
   if (!sP)then (
     some false)
   else (
     Ef ag ax (k4+1))
def rX(ag:List Int):Option (Bool):=
 Ef ag ag 0
theorem yj{ag:List Int}{ae:Sv}{R:Bool}(hF:rX ag=some R):
   Fw.Spec Tryz.prog 71 [ae.v] [ah ae ag] (fun _:Unit=>(.bool R)) (fun _=>[]):=by
 refine Se 19 Tryz.func71 [.tmp 2] ?_
 intro H0 F0
 unfold rX at hF
 refine bf ?_
 refine bn (bF (m:=ag.length) (fun m2 f' cs'=>∃(g:Fr)(k4:Nat)(ax:List Int),m2=ax.length/\f'=aM g [(0,ae.v),(3,(zi (k4:Int)))]/\List.drop k4 ag=ax/\aL cs' [ah ae ag]/\Ef ag ax k4=some R) ⟨_,0,_,rfl,aA,rfl,az,hF⟩ ?_)
 rintro m2 _ _ ⟨g3,k4,ax,rfl,rfl,hd7,hE,hF⟩
 refine Kb hE ag (fun iK=>?_)
 rcases ax with _|⟨x6,ax⟩
 · have dM:=dn hd7
   rw[Ef]at hF
   refine bf ?_
   refine bR ?_
   refine bf ?_
   refine bnd hF fun ik iy hF=>aX (jl iy) (fun _=>?_)
   exact ze hF
 obtain⟨dM,bP,dL⟩:=bN hd7
 rw[Ef]at hF
 refine bf ?_
 refine bQ ?_
 refine aV ?_
 refine Ai bP (fun k16 Gr=>?_)
 refine Al bY ?_
 refine bnd hF fun sP jq hF=>aX (jl jq) (fun _=>?_)
 refine aW ?_
 refine Ci hF (fun lg hF=>?_) (fun lg hF=>?_)
 · exact ze hF
 refine aZ ?_
 rw[wk k4]
 exact⟨_,bG _,_,k4+1,ax,rfl,aA,dL,az,hF⟩
def yl(ag:List Int)(aF:Method):List Int->Nat->Option (Bool)
 |[],k27=>some true
 |x29::nG,k27=>((ix ag aF.Rel).bind fun x40=>
     (iG x29 0 (IntKind.i64.wrap (x40-1))).bind fun Az=>
     bif (!Az)then (some true)
     else (bif (decide ((0:Int)<(k27:Int)))then ((ix aF.Inputs (IntKind.i64.wrap ((k27:Int)-1))).bind fun Kc=>
         some (decide ((x29:Int)<=Kc)))
       else (some false))).bind fun Gs=>
   match Gs with
   |c59=>if c59 then (
       some false)
     else (
       yl ag aF nG (k27+1))
def IM(ag:List Int)(aF:Method):Option (Bool):=
 ((rX ag).bind fun r4=>
   bif (!r4)then (some true)
   else ((iG aF.Rel 0 (IntKind.i64.wrap ((ag.length:Int)-1))).bind fun r8=>
     bif (!r8)then (some true)
     else ((iG aF.Limit 0 9).bind fun ig=>
       bif (!ig)then (some true)
       else ((iG aF.Cost 0 99).bind fun r16=>
         bif (!r16)then (some true)
         else ((iG aF.Quota 1 99).bind fun il=>
           some (!il)))))).bind fun o2=>
 match o2 with
 |c23=>if c23 then (
     some false)
   else (
     yl ag aF aF.Inputs 0)
theorem ajp{ag:List Int}{ae:Sv}{aF:Method}{aR:Sv}{R:Bool}(hF:IM ag aF=some R):
   Fw.Spec Tryz.prog 148 [ae.v,(zg [(zi aF.Rel),aR.v,(zi aF.Limit),(zi aF.Cost),(zi aF.Quota)])] [ah ae ag,ah aR aF.Inputs] (fun _:Unit=>(.bool R)) (fun _=>[]):=by
 refine Se 74 Tryz.func148 [.tmp 4] ?_
 intro H0 F0
 unfold IM at hF
 refine au ?_
 refine bB (fun k1=>?_)
 refine bq ?_
 obtain⟨o2,gK,hO3⟩:=bind_some hF
 refine au ?_
 refine fE (fun f' cs'=>∃(c23:Bool)(g:Fr),c23=o2/\f'=aM g [(0,ae.v),(3,(pz k1)),(35,(.bool c23))]/\aL cs' [ah ae ag,bi k1 89 (zg [(zi aF.Rel),aR.v,(zi aF.Limit),(zi aF.Cost),(zi aF.Quota)]),ah aR aF.Inputs]) ?_ ?_
 · replace hF:=gK
   refine au ?_
   refine bnd hF fun r4 hx5 hF=>aX (yj hx5) (fun _=>?_)
   refine aW ?_
   rcases bL (!r4)with bI|bI
   · rw[bI]
     try rw[bI]at hF; dsimp only[aO,aN]at hF
     exact bO hF
   rw[bI]
   try rw[bI]at hF; dsimp only[aO,aN]at hF
   refine oC ?_
   refine bnd hF fun r8 bP hF=>aX (jl bP) (fun _=>?_)
   refine aU ?_
   rcases bL (!r8)with dJ|dJ
   · rw[dJ]
     try rw[dJ]at hF; dsimp only[aO,aN]at hF
     exact bO hF
   rw[dJ]
   try rw[dJ]at hF; dsimp only[aO,aN]at hF
   refine aV ?_
   refine bnd hF fun ig jr hF=>aX (jl jr) (fun _=>?_)
   refine aU ?_
   rcases bL (!ig)with jb|jb
   · rw[jb]
     try rw[jb]at hF; dsimp only[aO,aN]at hF
     exact bO hF
   rw[jb]
   try rw[jb]at hF; dsimp only[aO,aN]at hF
   refine aV ?_
   refine bnd hF fun r16 iP hF=>aX (jl iP) (fun _=>?_)
   refine aU ?_
   rcases bL (!r16)with jZ|jZ
   · rw[jZ]
     try rw[jZ]at hF; dsimp only[aO,aN]at hF
     exact bO hF
   rw[jZ]
   try rw[jZ]at hF; dsimp only[aO,aN]at hF
   refine aV ?_
   refine bnd hF fun il kG hF=>aX (jl kG) (fun _=>?_)
   exact bO hF
 rintro _ _ ⟨c23,g64,rfl,rfl,hE⟩
 replace hF:=hO3
 try dsimp only at hF
 refine bD hE ?_
 refine Ci hF (fun aup hF=>?_) (fun aup hF=>?_)
 · exact ze hF
 refine aV ?_
 refine bn (bF (m:=aF.Inputs.length) (fun Qy f' cs'=>∃(g:Fr)(k27:Nat)(nG:List Int),Qy=nG.length/\f'=aM g [(0,ae.v),(3,(pz k1)),(5,(zi (k27:Int)))]/\List.drop k27 aF.Inputs=nG/\aL cs' [ah ae ag,bi k1 89 (zg [(zi aF.Rel),aR.v,(zi aF.Limit),(zi aF.Cost),(zi aF.Quota)]),ah aR aF.Inputs]/\yl ag aF nG k27=some R) ⟨_,0,_,rfl,aA,rfl,az,hF⟩ ?_)
 rintro Qy _ _ ⟨g26,k27,nG,rfl,rfl,OJ,hE,hF⟩
 refine Kb hE aF.Inputs (fun ard=>?_)
 rcases nG with _|⟨x29,nG⟩
 · have hk31:=dn OJ
   rw[yl]at hF
   refine di ?_
   refine bR ?_
   exact ze hF
 obtain⟨hk31,hx32,JK⟩:=bN OJ
 rw[yl]at hF
 refine di ?_
 refine bQ ?_
 refine aW ?_
 obtain⟨Gs,Yb,YI⟩:=bind_some hF
 refine dE [0,1,2,3,4,5,6,7,8,9,10,11,12,13,14,15,16,17,18,19,20,21,22,23,24,25,26,27,28,29,30] [0,1,0,7,15,0,0,64,224,480,992,2047,4095,8191,16383,32767,65535,131071,262143,131071,1048575,2097151,131071,4325375,131071,16908287,63045631,130154495,268435455,536870911,1073741823] [11] mixed (by decide+kernel) ?_
 refine mD (fun f' cs'=>∃(c59:Bool)(g:Fr),c59=Gs/\f'=aM g [(0,ae.v),(3,(pz k1)),(5,(zi (k27:Int))),(73,(.bool c59))]/\aL cs' [ah ae ag,bi k1 89 (zg [(zi aF.Rel),aR.v,(zi aF.Limit),(zi aF.Cost),(zi aF.Quota)]),ah aR aF.Inputs]) ?_ ?_
 · replace hF:=Yb
   refine dI ?_
   refine Di hx32 (fun mo j39=>?_)
   refine Dl bY ?_
   refine dI ?_
   refine zI hF fun x40 afC oD hF=>?_
   refine Di oD (fun Vs j45=>?_)
   refine Dl bY ?_
   refine du ?_
   refine bnd hF fun Az ui hF=>dR (jl ui) (fun _=>?_)
   refine bS ?_
   rcases bL (!Az)with OL|OL
   · rw[OL]
     try rw[OL]at hF; dsimp only[aO,aN]at hF
     exact eO hF
   rw[OL]
   try rw[OL]at hF; dsimp only[aO,aN]at hF
   refine dI ?_
   rcases bL (decide ((0:Int)<(k27:Int)))with OM|OM
   · rw[OM]
     try rw[OM]at hF; dsimp only[aO,aN]at hF
     refine dI ?_
     refine Di hx32 (fun wo j52=>?_)
     refine Dl bY ?_
     refine o9 ?_
     refine zI hF fun Kc aBz auq hF=>?_
     refine Di auq (fun k57 j58=>?_)
     refine Dl bY ?_
     exact eO hF
   rw[OM]
   try rw[OM]at hF; dsimp only[aO,aN]at hF
   exact eO hF
 rintro _ _ ⟨c59,g62,rfl,rfl,hE⟩
 replace hF:=YI
 try dsimp only at hF
 refine bD hE ?_
 refine Ci hF (fun FV hF=>?_) (fun FV hF=>?_)
 · exact ze hF
 refine aZ ?_
 rw[wk k27]
 exact⟨_,bG _,_,k27+1,nG,rfl,aA,JK,az,hF⟩
def DX(ag:List Int)(ak:List Method):List Method->Nat->Option (Bool)
 |[],k4=>((rX ag).bind fun fI=>
     bif fI then (some (decide (((ak.length:Int):Int)<=5)))
     else (some false)).bind fun lZ=>
   match lZ with
   |c19=>some c19
 |x6::ax,k4=>(IM ag x6).bind fun mR=>
   if (!mR)then (
     some false)
   else (
     DX ag ak ax (k4+1))
def Bz(ag:List Int)(ak:List Method):Option (Bool):=
 DX ag ak ak 0
theorem Rv{ag:List Int}{ae:Sv}{ak:List Method}{aC:Sv}{R:Bool}(hF:Bz ag ak=some R):
   Fw.Spec Tryz.prog 66 [ae.v,aC.v] [ah ae ag,dD aC ak] (fun _:Unit=>(.bool R)) (fun _=>[]):=by
 refine Se 26 Tryz.func66 [.tmp 4] ?_
 intro H0 F0
 unfold Bz at hF
 refine bf ?_
 refine bn (bF (m:=ak.length) (fun m2 f' cs'=>∃(g:Fr)(k4:Nat)(ax:List Method),m2=ax.length/\f'=aM g [(0,ae.v),(1,aC.v),(5,(zi (k4:Int)))]/\List.drop k4 ak=ax/\aL cs' [ah ae ag,dD aC ak]/\DX ag ak ax k4=some R) ⟨_,0,_,rfl,aA,rfl,az,hF⟩ ?_)
 rintro m2 _ _ ⟨g3,k4,ax,rfl,rfl,hd7,hE,hF⟩
 refine Kb hE ak (fun iK=>?_)
 rcases ax with _|⟨x6,ax⟩
 · have dM:=dn hd7
   rw[DX]at hF
   refine bf ?_
   refine bR ?_
   refine aU ?_
   obtain⟨lZ,uY,vo⟩:=bind_some hF
   refine au ?_
   refine fE (fun f' cs'=>∃(c19:Bool)(g:Fr),c19=lZ/\f'=aM g [(4,(.bool c19))]/\aL cs' []) ?_ ?_
   · replace hF:=uY
     refine au ?_
     refine bnd hF fun fI hx16 hF=>aX (yj hx16) (fun _=>?_)
     refine au ?_
     rcases bL fI with j3|j3
     · rw[j3]
       try rw[j3]at hF; dsimp only[aO,aN]at hF
       exact bO hF
     rw[j3]
     try rw[j3]at hF; dsimp only[aO,aN]at hF
     exact bO hF
   rintro _ _ ⟨c19,g20,rfl,rfl,hE⟩
   replace hF:=vo
   try dsimp only at hF
   refine bD hE ?_
   exact ze hF
 obtain⟨dM,bP,dL⟩:=bN hd7
 rw[DX]at hF
 refine bf ?_
 refine bQ ?_
 refine aZ ?_
 refine Ai bP (fun k21 Vt=>?_)
 refine iM (uL x6) wQ (fun AA=>?_)
 refine bnd hF fun mR hx25 hF=>aX (ajp hx25) (fun _=>?_)
 refine aW ?_
 refine Ci hF (fun lh hF=>?_) (fun lh hF=>?_)
 · exact ze hF
 refine aZ ?_
 rw[wk k4]
 exact⟨_,bG _,_,k4+1,ax,rfl,aA,dL,az,hF⟩
def BI(ag:List Int)(gY:dG):List Int->Nat->Option (Bool)
 |[],k26=>some true
 |x28::nH,k26=>(ix ag gY.From).bind fun lJ=>
   (iG x28 0 (IntKind.i64.wrap (lJ-1))).bind fun Qz=>
   if (!Qz)then (
     some false)
   else (
     BI ag gY nH (k26+1))
def Jd(ag:List Int)(gY:dG):Option (Bool):=
 ((rX ag).bind fun r4=>
   bif (!r4)then (some true)
   else ((iG gY.From 0 (IntKind.i64.wrap ((ag.length:Int)-1))).bind fun r8=>
     bif (!r8)then (some true)
     else ((iG gY.To 0 (IntKind.i64.wrap ((ag.length:Int)-1))).bind fun ig=>
       bif (!ig)then (some true)
       else ((ix ag gY.To).bind fun gF=>
         some (((gY.Map.length:Int):Int)!=gF))))).bind fun o2=>
 match o2 with
 |QA=>if QA then (
     some false)
   else (
     BI ag gY gY.Map 0)
theorem akV{ag:List Int}{ae:Sv}{gY:dG}{oF:Sv}{R:Bool}(hF:Jd ag gY=some R):
   Fw.Spec Tryz.prog 149 [ae.v,(zg [(zi gY.From),(zi gY.To),oF.v])] [ah ae ag,ah oF gY.Map] (fun _:Unit=>(.bool R)) (fun _=>[]):=by
 refine Se 58 Tryz.func149 [.tmp 4] ?_
 intro H0 F0
 unfold Jd at hF
 refine au ?_
 refine bB (fun k1=>?_)
 refine bq ?_
 obtain⟨o2,gK,hO3⟩:=bind_some hF
 refine dE [0,1,2,3,4,5,6,7,8,9,10,11,12,13,14,15,16,17,18,19,20,21,22,23,24,25,26,27,28,29,30,31] [0,1,3,7,15,31,15,79,207,511,1023,2047,4095,8191,16383,8191,40959,106495,262143,524287,1048575,2097151,4194303,8388607,16777215,4194303,4194303,71303167,239075327,507510783,1073741823,2147483647] [1,9,18] mixed (by decide+kernel) ?_
 refine mD (fun f' cs'=>∃(QA:Bool)(g:Fr),QA=o2/\f'=aM g [(0,ae.v),(3,(pz k1)),(37,(.bool QA))]/\aL cs' [ah ae ag,bi k1 91 (zg [(zi gY.From),(zi gY.To),oF.v]),ah oF gY.Map]) ?_ ?_
 · replace hF:=gK
   refine du ?_
   refine bnd hF fun r4 hx5 hF=>dR (yj hx5) (fun _=>?_)
   refine bS ?_
   rcases bL (!r4)with bI|bI
   · rw[bI]
     try rw[bI]at hF; dsimp only[aO,aN]at hF
     exact eO hF
   rw[bI]
   try rw[bI]at hF; dsimp only[aO,aN]at hF
   refine ve ?_
   refine bnd hF fun r8 bP hF=>dR (jl bP) (fun _=>?_)
   refine dI ?_
   rcases bL (!r8)with dJ|dJ
   · rw[dJ]
     try rw[dJ]at hF; dsimp only[aO,aN]at hF
     exact eO hF
   rw[dJ]
   try rw[dJ]at hF; dsimp only[aO,aN]at hF
   refine ve ?_
   refine bnd hF fun ig jr hF=>dR (jl jr) (fun _=>?_)
   refine dI ?_
   rcases bL (!ig)with jb|jb
   · rw[jb]
     try rw[jb]at hF; dsimp only[aO,aN]at hF
     exact eO hF
   rw[jb]
   try rw[jb]at hF; dsimp only[aO,aN]at hF
   refine Cv ?_
   refine zI hF fun gF uj jq hF=>?_
   refine Di jq (fun k20 pF=>?_)
   refine Dl bY ?_
   exact eO hF
 rintro _ _ ⟨QA,g49,rfl,rfl,hE⟩
 replace hF:=hO3
 try dsimp only at hF
 refine bD hE ?_
 refine Ci hF (fun hb48 hF=>?_) (fun hb48 hF=>?_)
 · exact ze hF
 refine aV ?_
 refine bn (bF (m:=gY.Map.length) (fun m24 f' cs'=>∃(g:Fr)(k26:Nat)(nH:List Int),m24=nH.length/\f'=aM g [(0,ae.v),(3,(pz k1)),(5,(zi (k26:Int)))]/\List.drop k26 gY.Map=nH/\aL cs' [ah ae ag,bi k1 91 (zg [(zi gY.From),(zi gY.To),oF.v]),ah oF gY.Map]/\BI ag gY nH k26=some R) ⟨_,0,_,rfl,aA,rfl,az,hF⟩ ?_)
 rintro m24 _ _ ⟨QB,k26,nH,rfl,rfl,hd29,hE,hF⟩
 refine Kb hE gY.Map (fun arf=>?_)
 rcases nH with _|⟨x28,nH⟩
 · have YJ:=dn hd29
   rw[BI]at hF
   refine di ?_
   refine bR ?_
   exact ze hF
 obtain⟨YJ,hx31,hd32⟩:=bN hd29
 rw[BI]at hF
 refine di ?_
 refine bQ ?_
 refine aW ?_
 refine dE [0,1,2,3,4,5,6,7,8,9,10,11,12] [0,1,0,7,15,0,0,64,224,480,992,2047,4095] [11] mixed (by decide+kernel) ?_
 refine dI ?_
 refine Di hx31 (fun iB j36=>?_)
 refine Dl bY ?_
 refine dI ?_
 refine zI hF fun lJ aur sG hF=>?_
 refine Di sG (fun qh Ka=>?_)
 refine Dl bY ?_
 refine du ?_
 refine bnd hF fun Qz Cw hF=>dR (jl Cw) (fun _=>?_)
 refine bS ?_
 refine Ci hF (fun YK hF=>?_) (fun YK hF=>?_)
 · exact ze hF
 refine aZ ?_
 rw[wk k26]
 exact⟨_,bG _,_,k26+1,nH,rfl,aA,hd32,az,hF⟩
def Eg(ag:List Int)(ak:List dG):List dG->Nat->Option (Bool)
 |[],k4=>((rX ag).bind fun fI=>
     bif fI then (some (decide (((ak.length:Int):Int)<=4)))
     else (some false)).bind fun lZ=>
   match lZ with
   |c19=>some c19
 |x6::ax,k4=>(Jd ag x6).bind fun mR=>
   if (!mR)then (
     some false)
   else (
     Eg ag ak ax (k4+1))
def Me(ag:List Int)(ak:List dG):Option (Bool):=
 Eg ag ak ak 0
theorem ajq{ag:List Int}{ae:Sv}{ak:List dG}{aC:Sv}{R:Bool}(hF:Me ag ak=some R):
   Fw.Spec Tryz.prog 67 [ae.v,aC.v] [ah ae ag,lN aC ak] (fun _:Unit=>(.bool R)) (fun _=>[]):=by
 refine Se 26 Tryz.func67 [.tmp 4] ?_
 intro H0 F0
 unfold Me at hF
 refine bf ?_
 refine bn (bF (m:=ak.length) (fun m2 f' cs'=>∃(g:Fr)(k4:Nat)(ax:List dG),m2=ax.length/\f'=aM g [(0,ae.v),(1,aC.v),(5,(zi (k4:Int)))]/\List.drop k4 ak=ax/\aL cs' [ah ae ag,lN aC ak]/\Eg ag ak ax k4=some R) ⟨_,0,_,rfl,aA,rfl,az,hF⟩ ?_)
 rintro m2 _ _ ⟨g3,k4,ax,rfl,rfl,hd7,hE,hF⟩
 refine Kb hE ak (fun iK=>?_)
 rcases ax with _|⟨x6,ax⟩
 · have dM:=dn hd7
   rw[Eg]at hF
   refine bf ?_
   refine bR ?_
   refine aU ?_
   obtain⟨lZ,uY,vo⟩:=bind_some hF
   refine au ?_
   refine fE (fun f' cs'=>∃(c19:Bool)(g:Fr),c19=lZ/\f'=aM g [(4,(.bool c19))]/\aL cs' []) ?_ ?_
   · replace hF:=uY
     refine au ?_
     refine bnd hF fun fI hx16 hF=>aX (yj hx16) (fun _=>?_)
     refine au ?_
     rcases bL fI with j3|j3
     · rw[j3]
       try rw[j3]at hF; dsimp only[aO,aN]at hF
       exact bO hF
     rw[j3]
     try rw[j3]at hF; dsimp only[aO,aN]at hF
     exact bO hF
   rintro _ _ ⟨c19,g20,rfl,rfl,hE⟩
   replace hF:=vo
   try dsimp only at hF
   refine bD hE ?_
   exact ze hF
 obtain⟨dM,bP,dL⟩:=bN hd7
 rw[Eg]at hF
 refine bf ?_
 refine bQ ?_
 refine aZ ?_
 refine Ai bP (fun k21 Vt=>?_)
 refine iM (MJ x6) Sy (fun AA=>?_)
 refine bnd hF fun mR hx25 hF=>aX (akV hx25) (fun _=>?_)
 refine aW ?_
 refine Ci hF (fun lh hF=>?_) (fun lh hF=>?_)
 · exact ze hF
 refine aZ ?_
 rw[wk k4]
 exact⟨_,bG _,_,k4+1,ax,rfl,aA,dL,az,hF⟩
def Es:List Int->Nat->Option (Bool)
 |[],k22=>some true
 |x24::nI,k22=>(iG x24 0 9).bind fun sQ=>
   if (!sQ)then (
     some false)
   else (
     Es nI (k22+1))
def Ni(ag:List Int)(bu:Fact):Option (Bool):=
 ((rX ag).bind fun r4=>
   bif (!r4)then (some true)
   else ((iG bu.Rel 0 (IntKind.i64.wrap ((ag.length:Int)-1))).bind fun r8=>
     bif (!r8)then (some true)
     else ((ix ag bu.Rel).bind fun lv=>
       some (((bu.Values.length:Int):Int)!=lv)))).bind fun o2=>
 match o2 with
 |c18=>if c18 then (
     some false)
   else (
     Es bu.Values 0)
theorem akW{ag:List Int}{ae:Sv}{bu:Fact}{aR:Sv}{R:Bool}(hF:Ni ag bu=some R):
   Fw.Spec Tryz.prog 272 [ae.v,(zg [(zi bu.Rel),aR.v])] [ah ae ag,ah aR bu.Values] (fun _:Unit=>(.bool R)) (fun _=>[]):=by
 refine Se 43 Tryz.func272 [.tmp 4] ?_
 intro H0 F0
 unfold Ni at hF
 refine au ?_
 refine bB (fun k1=>?_)
 refine bq ?_
 obtain⟨o2,gK,hO3⟩:=bind_some hF
 refine dE [0,1,2,3,4,5,6,7,8,9,10,11,12,13,14,15,16,17,18,19,20,21,22] [0,1,3,7,15,31,15,79,207,511,1023,2047,4095,8191,16383,32767,8191,8191,139263,466943,991231,2097151,4194303] [1,9] mixed (by decide+kernel) ?_
 refine mD (fun f' cs'=>∃(c18:Bool)(g:Fr),c18=o2/\f'=aM g [(3,(pz k1)),(28,(.bool c18))]/\aL cs' [bi k1 147 (zg [(zi bu.Rel),aR.v]),ah aR bu.Values]) ?_ ?_
 · replace hF:=gK
   refine du ?_
   refine bnd hF fun r4 hx5 hF=>dR (yj hx5) (fun _=>?_)
   refine bS ?_
   rcases bL (!r4)with bI|bI
   · rw[bI]
     try rw[bI]at hF; dsimp only[aO,aN]at hF
     exact eO hF
   rw[bI]
   try rw[bI]at hF; dsimp only[aO,aN]at hF
   refine ve ?_
   refine bnd hF fun r8 bP hF=>dR (jl bP) (fun _=>?_)
   refine dI ?_
   rcases bL (!r8)with dJ|dJ
   · rw[dJ]
     try rw[dJ]at hF; dsimp only[aO,aN]at hF
     exact eO hF
   rw[dJ]
   try rw[dJ]at hF; dsimp only[aO,aN]at hF
   refine Cv ?_
   refine zI hF fun lv OO jS hF=>?_
   refine Di jS (fun k16 Gr=>?_)
   refine Dl bY ?_
   exact eO hF
 rintro _ _ ⟨c18,Vu,rfl,rfl,hE⟩
 replace hF:=hO3
 try dsimp only at hF
 refine bD hE ?_
 refine Ci hF (fun zX hF=>?_) (fun zX hF=>?_)
 · exact ze hF
 refine aV ?_
 refine bn (bF (m:=bu.Values.length) (fun m20 f' cs'=>∃(g:Fr)(k22:Nat)(nI:List Int),m20=nI.length/\f'=aM g [(3,(pz k1)),(5,(zi (k22:Int)))]/\List.drop k22 bu.Values=nI/\aL cs' [bi k1 147 (zg [(zi bu.Rel),aR.v]),ah aR bu.Values]/\Es nI k22=some R) ⟨_,0,_,rfl,aA,rfl,az,hF⟩ ?_)
 rintro m20 _ _ ⟨g21,k22,nI,rfl,rfl,hd25,hE,hF⟩
 refine Kb hE bu.Values (fun arh=>?_)
 rcases nI with _|⟨x24,nI⟩
 · have YL:=dn hd25
   rw[Es]at hF
   refine di ?_
   refine bR ?_
   exact ze hF
 obtain⟨YL,hx27,hd28⟩:=bN hd25
 rw[Es]at hF
 refine di ?_
 refine bQ ?_
 refine aZ ?_
 refine Ai hx27 (fun k31 j32=>?_)
 refine Al bY ?_
 refine bnd hF fun sQ hx34 hF=>aX (jl hx34) (fun _=>?_)
 refine aW ?_
 refine Ci hF (fun OP hF=>?_) (fun OP hF=>?_)
 · exact ze hF
 refine aZ ?_
 rw[wk k22]
 exact⟨_,bG _,_,k22+1,nI,rfl,aA,hd28,az,hF⟩
def Bc(aa:Fact)(aj:Fact):Nat->Int->Option (Int)
 |0,_=>none
 |m5+1,c4=>if ((decide ((c4:Int)<(aa.Values.length:Int)))&&(decide ((c4:Int)<(aj.Values.length:Int))))then (
     (ix aa.Values c4).bind fun j5=>
     (ix aj.Values c4).bind fun x21=>
     if (decide ((j5:Int)<x21))then (
       some (-1))
     else (
       (ix aa.Values c4).bind fun x27=>
       (ix aj.Values c4).bind fun x33=>
       if (decide ((x33:Int)<x27))then (
         some 1)
       else (
         Bc aa aj m5 (IntKind.i64.wrap (c4+1)))))
   else (
     if (decide (((aa.Values.length:Int):Int)<(aj.Values.length:Int)))then (
       some (-1))
     else (
       if (decide (((aj.Values.length:Int):Int)<(aa.Values.length:Int)))then (
         some 1)
       else (
         some 0)))
def D6(aa:Fact)(aj:Fact):Option (Int):=
 if ((aa.Rel:Int)!=aj.Rel)then (
   if (decide ((aa.Rel:Int)<aj.Rel))then (
     some (-1))
   else (
     some 1))
 else (
   Bc aa aj (((aa.Values.length:Int)-0).toNat+2) 0)
theorem VQ{aa:Fact}{ay:Sv}{aj:Fact}{aR:Sv}{R:Int}(hF:D6 aa aj=some R):
   Fw.Spec Tryz.prog 168 [(zg [(zi aa.Rel),ay.v]),(zg [(zi aj.Rel),aR.v])] [ah ay aa.Values,ah aR aj.Values] (fun _:Unit=>(zi R)) (fun _=>[]):=by
 refine Se 66 Tryz.func168 [.tmp 4] ?_
 intro H0 F0
 unfold D6 at hF
 refine au ?_
 refine bB (fun k1=>?_)
 refine bB (fun k2=>?_)
 refine iU ?_
 refine Ci hF (fun zY hF=>?_) (fun zY hF=>?_)
 · refine di ?_
   refine Ci hF (fun hb3 hF=>?_) (fun hb3 hF=>?_)
   · exact ze hF
   exact ze hF
 refine aV ?_
 refine bn (bF (m:=(((aa.Values.length:Int)-0).toNat+2)) (fun m5 f' cs'=>∃(g:Fr)(c4:Int),f'=aM g [(2,(pz k1)),(3,(pz k2)),(5,(zi c4))]/\aL cs' [bi k1 147 (zg [(zi aa.Rel),ay.v]),ah ay aa.Values,bi k2 147 (zg [(zi aj.Rel),aR.v]),ah aR aj.Values]/\Bc aa aj m5 c4=some R) ⟨_,_,aA,az,hF⟩ ?_)
 rintro m5 _ _ ⟨g6,c4,rfl,hE,hF⟩
 refine bD hE ?_
 rcases m5 with _|m5
 · rw[Bc]at hF
   exact absurd hF (by simp)
 rw[Bc]at hF
 refine aW ?_
 refine fE (fun f' cs'=>∃(g:Fr),f'=aM g [(2,(pz k1)),(3,(pz k2)),(5,(zi c4)),(27,(.bool ((decide ((c4:Int)<(aa.Values.length:Int)))&&(decide ((c4:Int)<(aj.Values.length:Int))))))]/\aL cs' [bi k1 147 (zg [(zi aa.Rel),ay.v]),ah ay aa.Values,bi k2 147 (zg [(zi aj.Rel),aR.v]),ah aR aj.Values]) ?_ ?_
 · refine aZ ?_
   rcases bL (decide ((c4:Int)<(aa.Values.length:Int)))with OQ|OQ
   · rw[OQ]
     try rw[OQ]at hF; dsimp only[aO,aN]at hF
     refine Cs ?_
     exact⟨_,aA,az⟩
   rw[OQ]
   try rw[OQ]at hF; dsimp only[aO,aN]at hF
   refine bf ?_
   exact⟨_,aA,az⟩
 rintro _ _ ⟨g14,rfl,hE⟩
 refine bD hE ?_
 refine Ci hF (fun YM hF=>?_) (fun YM hF=>?_)
 · refine bq ?_
   refine dE [0,1,2,3,4,5,6,7,8,9,10] [0,1,0,7,15,0,32,0,224,480,1023] [] mixed (by decide+kernel) ?_
   refine dI ?_
   refine zI hF fun j5 YN fV hF=>?_
   refine Di fV (fun k19 Ke=>?_)
   refine Dl bY ?_
   refine dI ?_
   refine zI hF fun x21 aBA hx24 hF=>?_
   refine Di hx24 (fun k25 j26=>?_)
   refine Dl bY ?_
   refine bS ?_
   refine Ci hF (fun aus hF=>?_) (fun aus hF=>?_)
   · exact ze hF
   refine au ?_
   refine dE [0,1,2,3,4,5,6,7,8,9,10] [0,1,0,7,15,0,32,0,224,480,1023] [] mixed (by decide+kernel) ?_
   refine dI ?_
   refine zI hF fun x27 aBB OT hF=>?_
   refine Di OT (fun k31 j32=>?_)
   refine Dl bY ?_
   refine dI ?_
   refine zI hF fun x33 aBC uk hF=>?_
   refine Di uk (fun k37 j38=>?_)
   refine Dl bY ?_
   refine bS ?_
   refine Ci hF (fun OU hF=>?_) (fun OU hF=>?_)
   · exact ze hF
   refine aZ ?_
   exact⟨m5,bG _,_,_,aA,az,hF⟩
 refine aq_ ?_
 refine Ci hF (fun OV hF=>?_) (fun OV hF=>?_)
 · exact ze hF
 refine oC ?_
 refine Ci hF (fun OW hF=>?_) (fun OW hF=>?_)
 · exact ze hF
 exact ze hF
def ym(ag:List Int)(ak:List Fact):List Fact->Nat->Option (Bool)
 |[],k4=>((rX ag).bind fun fI=>
     bif fI then (some (decide (((ak.length:Int):Int)<=24)))
     else (some false)).bind fun lZ=>
   match lZ with
   |c19=>some c19
 |x6::ax,k4=>((Ni ag x6).bind fun xV=>
     bif (!xV)then (some true)
     else (bif (decide ((0:Int)<(k4:Int)))then ((ix ak (IntKind.i64.wrap ((k4:Int)-1))).bind fun x31=>
         (D6 x31 x6).bind fun Kg=>
         some (decide ((0:Int)<=Kg)))
       else (some false))).bind fun Gt=>
   match Gt with
   |QC=>if QC then (
       some false)
     else (
       ym ag ak ax (k4+1))
def Mf(ag:List Int)(ak:List Fact):Option (Bool):=
 ym ag ak ak 0
theorem abb{ag:List Int}{ae:Sv}{ak:List Fact}{aC:Sv}{R:Bool}(hF:Mf ag ak=some R):
   Fw.Spec Tryz.prog 205 [ae.v,aC.v] [ah ae ag,dY aC ak] (fun _:Unit=>(.bool R)) (fun _=>[]):=by
 refine Se 43 Tryz.func205 [.tmp 4] ?_
 intro H0 F0
 unfold Mf at hF
 refine bf ?_
 refine bn (bF (m:=ak.length) (fun m2 f' cs'=>∃(g:Fr)(k4:Nat)(ax:List Fact),m2=ax.length/\f'=aM g [(0,ae.v),(1,aC.v),(5,(zi (k4:Int)))]/\List.drop k4 ak=ax/\aL cs' [ah ae ag,dY aC ak]/\ym ag ak ax k4=some R) ⟨_,0,_,rfl,aA,rfl,az,hF⟩ ?_)
 rintro m2 _ _ ⟨g3,k4,ax,rfl,rfl,hd7,hE,hF⟩
 refine Kb hE ak (fun iK=>?_)
 rcases ax with _|⟨x6,ax⟩
 · have dM:=dn hd7
   rw[ym]at hF
   refine bf ?_
   refine bR ?_
   refine aU ?_
   obtain⟨lZ,uY,vo⟩:=bind_some hF
   refine au ?_
   refine fE (fun f' cs'=>∃(c19:Bool)(g:Fr),c19=lZ/\f'=aM g [(4,(.bool c19))]/\aL cs' []) ?_ ?_
   · replace hF:=uY
     refine au ?_
     refine bnd hF fun fI hx16 hF=>aX (yj hx16) (fun _=>?_)
     refine au ?_
     rcases bL fI with j3|j3
     · rw[j3]
       try rw[j3]at hF; dsimp only[aO,aN]at hF
       exact bO hF
     rw[j3]
     try rw[j3]at hF; dsimp only[aO,aN]at hF
     exact bO hF
   rintro _ _ ⟨c19,g20,rfl,rfl,hE⟩
   replace hF:=vo
   try dsimp only at hF
   refine bD hE ?_
   exact ze hF
 obtain⟨dM,bP,dL⟩:=bN hd7
 rw[ym]at hF
 refine bf ?_
 refine bQ ?_
 refine aW ?_
 obtain⟨Gt,Yc,YO⟩:=bind_some hF
 refine dE [0,1,2,3,4,5,6,7,8,9,10,11,12,13,14,15,16,17,18,19,20,21,22,23] [0,0,0,6,14,31,63,127,255,511,1023,2047,2047,6143,16383,32767,2047,2047,198655,460799,1048575,2097151,4194303,8388607] [5,20] mixed (by decide+kernel) ?_
 refine mD (fun f' cs'=>∃(QC:Bool)(g:Fr),QC=Gt/\f'=aM g [(0,ae.v),(1,aC.v),(5,(zi (k4:Int))),(35,(.bool QC))]/\aL cs' [ah ae ag,dY aC ak]) ?_ ?_
 · replace hF:=Yc
   refine dI ?_
   refine Di bP (fun k23 j24=>?_)
   refine lc (oh x6) oU (fun p25=>?_)
   refine bnd hF fun xV hx27 hF=>dR (akW hx27) (fun _=>?_)
   refine bS ?_
   rcases bL (!xV)with vv|vv
   · rw[vv]
     try rw[vv]at hF; dsimp only[aO,aN]at hF
     exact eO hF
   rw[vv]
   try rw[vv]at hF; dsimp only[aO,aN]at hF
   refine dI ?_
   rcases bL (decide ((0:Int)<(k4:Int)))with vw|vw
   · rw[vw]
     try rw[vw]at hF; dsimp only[aO,aN]at hF
     refine dI ?_
     refine zI hF fun x31 aBD hx34 hF=>?_
     refine Di hx34 (fun iB j36=>?_)
     refine lc (oh x31) oU (fun p37=>?_)
     refine bS ?_
     refine Di bP (fun mo j39=>?_)
     refine lc (oh x6) oU (fun p40=>?_)
     refine bnd hF fun Kg JL hF=>dR (VQ JL) (fun _=>?_)
     exact eO hF
   rw[vw]
   try rw[vw]at hF; dsimp only[aO,aN]at hF
   exact eO hF
 rintro _ _ ⟨QC,g47,rfl,rfl,hE⟩
 replace hF:=YO
 try dsimp only at hF
 refine bD hE ?_
 refine Ci hF (fun aut hF=>?_) (fun aut hF=>?_)
 · exact ze hF
 refine aZ ?_
 rw[wk k4]
 exact⟨_,bG _,_,k4+1,ax,rfl,aA,dL,az,hF⟩
def Mg(ag:List Int)(bg:Source):Option (Bool):=
 ((Mf ag bg.Facts).bind fun r4=>
   bif r4 then ((iG bg.Version 0 1000).bind fun r8=>
     some r8)
   else (some false)).bind fun o2=>
 match o2 with
 |c11=>some c11
theorem ajr{ag:List Int}{ae:Sv}{bg:Source}{aC:Sv}{R:Bool}(hF:Mg ag bg=some R):
   Fw.Spec Tryz.prog 115 [ae.v,(zg [aC.v,(zi bg.Version)])] [ah ae ag,dY aC bg.Facts] (fun _:Unit=>(.bool R)) (fun _=>[]):=by
 refine Se 14 Tryz.func115 [.tmp 4] ?_
 intro H0 F0
 unfold Mg at hF
 refine au ?_
 refine bB (fun k1=>?_)
 refine aW ?_
 obtain⟨o2,gK,hO3⟩:=bind_some hF
 refine au ?_
 refine fE (fun f' cs'=>∃(c11:Bool)(g:Fr),c11=o2/\f'=aM g [(4,(.bool c11))]/\aL cs' []) ?_ ?_
 · replace hF:=gK
   refine bq ?_
   refine bnd hF fun r4 hx5 hF=>aX (abb hx5) (fun _=>?_)
   refine au ?_
   rcases bL r4 with bI|bI
   · rw[bI]
     try rw[bI]at hF; dsimp only[aO,aN]at hF
     refine aV ?_
     refine bnd hF fun r8 bP hF=>aX (jl bP) (fun _=>?_)
     exact bO hF
   rw[bI]
   try rw[bI]at hF; dsimp only[aO,aN]at hF
   exact bO hF
 rintro _ _ ⟨c11,g12,rfl,rfl,hE⟩
 replace hF:=hO3
 try dsimp only at hF
 refine bD hE ?_
 exact ze hF
def Eh:List Int->Nat->Option (Bool)
 |[],k23=>some true
 |x25::jW,k23=>(iG x25 0 9).bind fun wu=>
   if (!wu)then (
     some false)
   else (
     Eh jW (k23+1))
def EF(ag:List Int)(ak:List Method)(aa:Access):Option (Bool):=
 ((Bz ag ak).bind fun r4=>
   bif (!r4)then (some true)
   else ((iG aa.Method 0 (IntKind.i64.wrap ((ak.length:Int)-1))).bind fun r8=>
     bif (!r8)then (some true)
     else ((ix ak aa.Method).bind fun lv=>
       some (((aa.Values.length:Int):Int)!=(lv.Inputs.length:Int))))).bind fun o2=>
 match o2 with
 |c19=>if c19 then (
     some false)
   else (
     Eh aa.Values 0)
theorem abd{ag:List Int}{ae:Sv}{ak:List Method}{aC:Sv}{aa:Access}{eP:Sv}{R:Bool}(hF:EF ag ak aa=some R):
   Fw.Spec Tryz.prog 117 [ae.v,aC.v,(zg [(zi aa.Method),eP.v])] [ah ae ag,dD aC ak,ah eP aa.Values] (fun _:Unit=>(.bool R)) (fun _=>[]):=by
 refine Se 48 Tryz.func117 [.tmp 6] ?_
 intro H0 F0
 unfold EF at hF
 refine au ?_
 refine bB (fun k1=>?_)
 refine bq ?_
 obtain⟨o2,gK,hO3⟩:=bind_some hF
 refine dE [0,1,2,3,4,5,6,7,8,9,10,11,12,13,14,15,16,17,18,19,20,21,22,23,24,25] [0,0,3,7,15,31,63,31,159,415,1023,2047,4095,8191,16383,32767,65535,16383,16383,278527,933887,1982463,4079615,8273919,16777215,33554431] [2,10] mixed (by decide+kernel) ?_
 refine mD (fun f' cs'=>∃(c19:Bool)(g:Fr),c19=o2/\f'=aM g [(5,(pz k1)),(33,(.bool c19))]/\aL cs' [bi k1 145 (zg [(zi aa.Method),eP.v]),ah eP aa.Values]) ?_ ?_
 · replace hF:=gK
   refine bS ?_
   refine bnd hF fun r4 hx5 hF=>dR (Rv hx5) (fun _=>?_)
   refine bS ?_
   rcases bL (!r4)with bI|bI
   · rw[bI]
     try rw[bI]at hF; dsimp only[aO,aN]at hF
     exact eO hF
   rw[bI]
   try rw[bI]at hF; dsimp only[aO,aN]at hF
   refine ve ?_
   refine bnd hF fun r8 bP hF=>dR (jl bP) (fun _=>?_)
   refine dI ?_
   rcases bL (!r8)with dJ|dJ
   · rw[dJ]
     try rw[dJ]at hF; dsimp only[aO,aN]at hF
     exact eO hF
   rw[dJ]
   try rw[dJ]at hF; dsimp only[aO,aN]at hF
   refine Cv ?_
   refine zI hF fun lv OO jS hF=>?_
   refine Di jS (fun k16 Gr=>?_)
   refine du ?_
   refine uV (R':=(aJ 3 aK)) ji.h rfl (.on 21 rfl rfl rfl) (.tmp rfl rfl) rfl .h ad1 (fun w18=>?_)
   exact eO hF
 rintro _ _ ⟨c19,g40,rfl,rfl,hE⟩
 replace hF:=hO3
 try dsimp only at hF
 refine bD hE ?_
 refine Ci hF (fun OU hF=>?_) (fun OU hF=>?_)
 · exact ze hF
 refine aV ?_
 refine bn (bF (m:=aa.Values.length) (fun m21 f' cs'=>∃(g:Fr)(k23:Nat)(jW:List Int),m21=jW.length/\f'=aM g [(5,(pz k1)),(7,(zi (k23:Int)))]/\List.drop k23 aa.Values=jW/\aL cs' [bi k1 145 (zg [(zi aa.Method),eP.v]),ah eP aa.Values]/\Eh jW k23=some R) ⟨_,0,_,rfl,aA,rfl,az,hF⟩ ?_)
 rintro m21 _ _ ⟨g22,k23,jW,rfl,rfl,xJ,hE,hF⟩
 refine Kb hE aa.Values (fun aeO=>?_)
 rcases jW with _|⟨x25,jW⟩
 · have OX:=dn xJ
   rw[Eh]at hF
   refine di ?_
   refine bR ?_
   exact ze hF
 obtain⟨OX,hx28,hd29⟩:=bN xJ
 rw[Eh]at hF
 refine di ?_
 refine bQ ?_
 refine aZ ?_
 refine Ai hx28 (fun kI j33=>?_)
 refine Al bY ?_
 refine bnd hF fun wu qH hF=>aX (jl qH) (fun _=>?_)
 refine aW ?_
 refine Ci hF (fun zX hF=>?_) (fun zX hF=>?_)
 · exact ze hF
 refine aZ ?_
 rw[wk k23]
 exact⟨_,bG _,_,k23+1,jW,rfl,aA,hd29,az,hF⟩
def Et(aa:List Int)(aj:List Int):Nat->Int->Option (Bool)
 |0,_=>none
 |m2+1,c1=>if ((decide ((c1:Int)<(aa.length:Int)))&&(decide ((c1:Int)<(aj.length:Int))))then (
     (ix aa c1).bind fun lv=>
     (ix aj c1).bind fun iC=>
     if ((lv:Int)!=iC)then (
       (ix aa c1).bind fun x24=>
       (ix aj c1).bind fun x30=>
       some (decide ((x24:Int)<x30)))
     else (
       Et aa aj m2 (IntKind.i64.wrap (c1+1))))
   else (
     some (decide (((aa.length:Int):Int)<(aj.length:Int))))
def Nj(aa:List Int)(aj:List Int):Option (Bool):=
 Et aa aj (((aa.length:Int)-0).toNat+2) 0
theorem akX{aa:List Int}{ae:Sv}{aj:List Int}{aC:Sv}{R:Bool}(hF:Nj aa aj=some R):
   Fw.Spec Tryz.prog 157 [ae.v,aC.v] [ah ae aa,ah aC aj] (fun _:Unit=>(.bool R)) (fun _=>[]):=by
 refine Se 41 Tryz.func157 [.tmp 4] ?_
 intro H0 F0
 unfold Nj at hF
 refine bf ?_
 refine bn (bF (m:=(((aa.length:Int)-0).toNat+2)) (fun m2 f' cs'=>∃(g:Fr)(c1:Int),f'=aM g [(0,ae.v),(1,aC.v),(5,(zi c1))]/\aL cs' [ah ae aa,ah aC aj]/\Et aa aj m2 c1=some R) ⟨_,_,aA,az,hF⟩ ?_)
 rintro m2 _ _ ⟨g3,c1,rfl,hE,hF⟩
 refine bD hE ?_
 rcases m2 with _|m2
 · rw[Et]at hF
   exact absurd hF (by simp)
 rw[Et]at hF
 refine aW ?_
 refine fE (fun f' cs'=>∃(g:Fr),f'=aM g [(0,ae.v),(1,aC.v),(5,(zi c1)),(15,(.bool ((decide ((c1:Int)<(aa.length:Int)))&&(decide ((c1:Int)<(aj.length:Int))))))]/\aL cs' [ah ae aa,ah aC aj]) ?_ ?_
 · refine aV ?_
   rcases bL (decide ((c1:Int)<(aa.length:Int)))with lU|lU
   · rw[lU]
     try rw[lU]at hF; dsimp only[aO,aN]at hF
     refine iU ?_
     exact⟨_,aA,az⟩
   rw[lU]
   try rw[lU]at hF; dsimp only[aO,aN]at hF
   refine aZ ?_
   exact⟨_,aA,az⟩
 rintro _ _ ⟨g11,rfl,hE⟩
 refine bD hE ?_
 refine Ci hF (fun OP hF=>?_) (fun OP hF=>?_)
 · refine aW ?_
   refine dE [0,1,2,3,4,5,6,7,8] [0,0,3,7,0,0,48,112,255] [] mixed (by decide+kernel) ?_
   refine bS ?_
   refine zI hF fun lv OO jS hF=>?_
   refine Di jS (fun k16 Gr=>?_)
   refine Dl bY ?_
   refine bS ?_
   refine zI hF fun iC auu kG hF=>?_
   refine Di kG (fun k22 j23=>?_)
   refine Dl bY ?_
   refine bS ?_
   refine Ci hF (fun YP hF=>?_) (fun YP hF=>?_)
   · refine dE [0,1,2,3,4,5,6,7,8,9] [0,0,3,7,0,0,48,112,255,511] [] mixed (by decide+kernel) ?_
     refine bS ?_
     refine zI hF fun x24 auv hx27 hF=>?_
     refine Di hx27 (fun k28 j29=>?_)
     refine Dl bY ?_
     refine bS ?_
     refine zI hF fun x30 aBE vz hF=>?_
     refine Di vz (fun k34 j35=>?_)
     refine Dl bY ?_
     refine dI ?_
     exact ze hF
   refine aZ ?_
   exact⟨m2,bG _,_,_,aA,az,hF⟩
 exact ze hF
def MP(aa:Access)(aj:Access):Option (Bool):=
 if ((aa.Method:Int)!=aj.Method)then (
   some (decide ((aa.Method:Int)<aj.Method)))
 else (
   (Nj aa.Values aj.Values).bind fun r3=>
   some r3)
theorem aki{aa:Access}{ay:Sv}{aj:Access}{aR:Sv}{R:Bool}(hF:MP aa aj=some R):
   Fw.Spec Tryz.prog 206 [(zg [(zi aa.Method),ay.v]),(zg [(zi aj.Method),aR.v])] [ah ay aa.Values,ah aR aj.Values] (fun _:Unit=>(.bool R)) (fun _=>[]):=by
 refine Se 20 Tryz.func206 [.tmp 4] ?_
 intro H0 F0
 unfold MP at hF
 refine au ?_
 refine bB (fun k1=>?_)
 refine bB (fun k2=>?_)
 refine iU ?_
 refine Ci hF (fun hb6 hF=>?_) (fun hb6 hF=>?_)
 · exact ze hF
 refine aZ ?_
 refine bnd hF fun r3 hx4 hF=>aX (akX hx4) (fun _=>?_)
 exact ze hF
def Eu(ry:List Int)(bu:Fact):List Int->Nat->Option (Bool)
 |[],k6=>some true
 |x8::nP,k6=>(ix bu.Values x8).bind fun Dk=>
   (ix ry (k6:Int)).bind fun Gu=>
   if ((Dk:Int)!=Gu)then (
     some false)
   else (
     Eu ry bu nP (k6+1))
def Nk(aF:Method)(ry:List Int)(bu:Fact):Option (Bool):=
 if ((bu.Rel:Int)!=aF.Rel)then (
   some false)
 else (
   Eu ry bu aF.Inputs 0)
theorem akY{aF:Method}{ay:Sv}{ry:List Int}{aC:Sv}{bu:Fact}{eP:Sv}{R:Bool}(hF:Nk aF ry bu=some R):
   Fw.Spec Tryz.prog 207 [(zg [(zi aF.Rel),ay.v,(zi aF.Limit),(zi aF.Cost),(zi aF.Quota)]),aC.v,(zg [(zi bu.Rel),eP.v])] [ah ay aF.Inputs,ah aC ry,ah eP bu.Values] (fun _:Unit=>(.bool R)) (fun _=>[]):=by
 refine Se 34 Tryz.func207 [.tmp 6] ?_
 intro H0 F0
 unfold Nk at hF
 refine au ?_
 refine bB (fun k1=>?_)
 refine bB (fun k2=>?_)
 refine iU ?_
 refine Ci hF (fun zU hF=>?_) (fun zU hF=>?_)
 · exact ze hF
 refine aV ?_
 refine bn (bF (m:=aF.Inputs.length) (fun m4 f' cs'=>∃(g:Fr)(k6:Nat)(nP:List Int),m4=nP.length/\f'=aM g [(1,aC.v),(3,(pz k1)),(5,(pz k2)),(7,(zi (k6:Int)))]/\List.drop k6 aF.Inputs=nP/\aL cs' [ah aC ry,bi k1 89 (zg [(zi aF.Rel),ay.v,(zi aF.Limit),(zi aF.Cost),(zi aF.Quota)]),ah ay aF.Inputs,bi k2 147 (zg [(zi bu.Rel),eP.v]),ah eP bu.Values]/\Eu ry bu nP k6=some R) ⟨_,0,_,rfl,aA,rfl,az,hF⟩ ?_)
 rintro m4 _ _ ⟨g5,k6,nP,rfl,rfl,QD,hE,hF⟩
 refine Kb hE aF.Inputs (fun ari=>?_)
 rcases nP with _|⟨x8,nP⟩
 · have hk10:=dn QD
   rw[Eu]at hF
   refine di ?_
   refine bR ?_
   exact ze hF
 obtain⟨hk10,mf,lI⟩:=bN QD
 rw[Eu]at hF
 refine di ?_
 refine bQ ?_
 refine aW ?_
 refine dE [0,1,2,3,4,5,6,7,8,9,10,11,12,13] [0,1,0,4,0,28,60,127,255,0,0,1536,3584,8191] [] mixed (by decide+kernel) ?_
 refine ve ?_
 refine Di mf (fun k15 j16=>?_)
 refine Dl bY ?_
 refine zI hF fun Dk auw lT hF=>?_
 refine Di lT (fun k21 Vt=>?_)
 refine Dl bY ?_
 refine bS ?_
 refine zI hF fun Gu aBF nk hF=>?_
 refine Di nk (fun k27 j28=>?_)
 refine Dl bY ?_
 refine bS ?_
 refine Ci hF (fun o_ hF=>?_) (fun o_ hF=>?_)
 · exact ze hF
 refine aZ ?_
 rw[wk k6]
 exact⟨_,bG _,_,k6+1,nP,rfl,aA,lI,az,hF⟩
def BA(ak:List Method)(iC:eH):List Fact->Nat->Option (Sum (Bool) (Unit))
 |[],xW=>some (.inr ())
 |Gv::zl,xW=>(ix ak iC.Access.Method).bind fun x69=>
   (Nk x69 iC.Access.Values Gv).bind fun r79=>
   if (!r79)then (
     some (.inl false))
   else (
     BA ak iC zl (xW+1))
def yu(ag:List Int)(ak:List Method)(gN:Cache):List eH->Nat->Option (Bool)
 |[],k16=>some true
 |iC::zm,k16=>((((EF ag ak iC.Access).bind fun sQ=>
       bif (!sQ)then (some true)
       else ((Mf ag iC.Facts).bind fun r37=>
         bif (!r37)then (some true)
         else ((iG iC.At 0 10000).bind fun Kg=>
           bif (!Kg)then (some true)
           else (bif (decide ((0:Int)<(k16:Int)))then ((ix gN.Entries (IntKind.i64.wrap ((k16:Int)-1))).bind fun Dm=>
               (MP Dm.Access iC.Access).bind fun QE=>
               some (!QE))
             else (some false))))).bind fun o31=>
     match o31 with
     |pG=>if pG then (
         some (.inl false))
       else (
         BA ak iC iC.Facts 0)):Option (Sum (Bool) (Unit))).bind fun Dn=>
   match Dn with
   | .inl r=>some r
   | .inr _=>yu ag ak gN zm (k16+1)
def MQ(ag:List Int)(ak:List Method)(gN:Cache):Option (Bool):=
 ((Bz ag ak).bind fun r4=>
   bif (!r4)then (some true)
   else ((iG gN.Age 0 100).bind fun r8=>
     bif (!r8)then (some true)
     else (some (decide ((100:Int)<(gN.Entries.length:Int)))))).bind fun o2=>
 match o2 with
 |c12=>if c12 then (
     some false)
   else (
     yu ag ak gN gN.Entries 0)
theorem akj{ag:List Int}{ae:Sv}{ak:List Method}{aC:Sv}{gN:Cache}{bJ:Sv}{R:Bool}(hF:MQ ag ak gN=some R):
   Fw.Spec Tryz.prog 116 [ae.v,aC.v,(zg [bJ.v,(zi gN.Age)])] [ah ae ag,dD aC ak,kv bJ gN.Entries] (fun _:Unit=>(.bool R)) (fun _=>[]):=by
 refine Se 97 Tryz.func116 [.tmp 6] ?_
 intro H0 F0
 unfold MQ at hF
 refine au ?_
 refine bB (fun k1=>?_)
 refine bq ?_
 obtain⟨o2,gK,hO3⟩:=bind_some hF
 refine au ?_
 refine fE (fun f' cs'=>∃(c12:Bool)(g:Fr),c12=o2/\f'=aM g [(0,ae.v),(1,aC.v),(5,(pz k1)),(25,(.bool c12))]/\aL cs' [ah ae ag,dD aC ak,bi k1 63 (zg [bJ.v,(zi gN.Age)]),kv bJ gN.Entries]) ?_ ?_
 · replace hF:=gK
   refine aW ?_
   refine bnd hF fun r4 hx5 hF=>aX (Rv hx5) (fun _=>?_)
   refine aW ?_
   rcases bL (!r4)with bI|bI
   · rw[bI]
     try rw[bI]at hF; dsimp only[aO,aN]at hF
     exact bO hF
   rw[bI]
   try rw[bI]at hF; dsimp only[aO,aN]at hF
   refine aV ?_
   refine bnd hF fun r8 bP hF=>aX (jl bP) (fun _=>?_)
   refine aU ?_
   rcases bL (!r8)with dJ|dJ
   · rw[dJ]
     try rw[dJ]at hF; dsimp only[aO,aN]at hF
     exact bO hF
   rw[dJ]
   try rw[dJ]at hF; dsimp only[aO,aN]at hF
   exact bO hF
 rintro _ _ ⟨c12,g89,rfl,rfl,hE⟩
 replace hF:=hO3
 try dsimp only at hF
 refine bD hE ?_
 refine Ci hF (fun aux hF=>?_) (fun aux hF=>?_)
 · exact ze hF
 refine aV ?_
 refine bn (bF (m:=gN.Entries.length) (fun m14 f' cs'=>∃(g:Fr)(k16:Nat)(zm:List eH),m14=zm.length/\f'=aM g [(0,ae.v),(1,aC.v),(5,(pz k1)),(7,(zi (k16:Int)))]/\List.drop k16 gN.Entries=zm/\aL cs' [ah ae ag,dD aC ak,bi k1 63 (zg [bJ.v,(zi gN.Age)]),kv bJ gN.Entries]/\yu ag ak gN zm k16=some R) ⟨_,0,_,rfl,aA,rfl,az,hF⟩ ?_)
 rintro m14 _ _ ⟨g15,k16,zm,rfl,rfl,Uu,hE,hF⟩
 refine Kb hE gN.Entries (fun azU=>?_)
 rcases zm with _|⟨iC,zm⟩
 · have auy:=dn Uu
   rw[yu]at hF
   refine di ?_
   refine bR ?_
   exact ze hF
 obtain⟨auy,kG,auz⟩:=bN Uu
 rw[yu]at hF
 refine di ?_
 refine bQ ?_
 refine au ?_
 obtain⟨Dn,Yd,OY⟩:=bind_some hF
 refine gX (fun f' cs'=>∃(g:Fr),Dn= .inr ()/\f'=aM g [(0,ae.v),(1,aC.v),(5,(pz k1)),(7,(zi (k16:Int)))]/\aL cs' [ah ae ag,dD aC ak,bi k1 63 (zg [bJ.v,(zi gN.Age)]),kv bJ gN.Entries]) ?_ ?_
 · replace hF:=Yd
   refine bn (fe (aI (kK (off:=0) aou.h (.tmp rfl rfl)) ?_))
   refine aW ?_
   refine Ai kG (fun k27 j28=>?_)
   refine zT (LG iC) RV (fun p29=>?_)
   refine dH (fun pI=>?_)
   refine As (zg [(zi iC.Access.Method),p29.1.v,p29.2.v,(zi iC.At)]) ?_
   refine aW ?_
   obtain⟨o31,arj,auA⟩:=bind_some hF
   refine dE [0,1,2,3,4,5,6,7,8,9,10,11,12,13,14,15,16,17,18,19,20,21,22,23,24,25,26,27,28,29,30,31,32,33,34,35] [0,0,0,4,15,31,63,127,127,383,1023,2047,4095,8191,16383,32767,65535,131071,262143,524287,1048575,2097151,4194303,8388607,16777215,8388607,41943039,134217727,268435455,536870911,8388607,1082130431,4294967295,8589934591,17179869183,34359738367] [4,10,16,32] mixed (by decide+kernel) ?_
   refine mD (fun f' cs'=>∃(pG:Bool)(g:Fr),pG=o31/\f'=aM g [(0,ae.v),(1,aC.v),(5,(pz k1)),(7,(zi (k16:Int))),(8,(pz pI)),(73,(.bool pG))]/\aL cs' [ah ae ag,dD aC ak,bi k1 63 (zg [bJ.v,(zi gN.Age)]),kv bJ gN.Entries,b_ pI 248 (zg [(zi iC.Access.Method),p29.1.v,p29.2.v,(zi iC.At)]),ah p29.1 iC.Access.Values,dY p29.2 iC.Facts]) ?_ ?_
   · replace hF:=arj
     refine dI ?_
     refine fA rfl .no .h (fun ha hp=>ko (s:=2) (l:=[(zi iC.Access.Method),p29.1.v]) FB.h xn.h.sz (EN ha (.tmp rfl rfl) rfl) hp.2 rfl (by decide) (Nat.le_of_ble_eq_true rfl) rfl) ?_
     refine bnd hF fun sQ hx34 hF=>dR (abd hx34) (fun _=>?_)
     refine bS ?_
     rcases bL (!sQ)with vB|vB
     · rw[vB]
       try rw[vB]at hF; dsimp only[aO,aN]at hF
       exact eO hF
     rw[vB]
     try rw[vB]at hF; dsimp only[aO,aN]at hF
     refine bS ?_
     refine fA rfl (.on 44 rfl rfl rfl) .h (fun ha hp=>gu (v:=p29.2.v) aft.h (EN ha (.tmp rfl rfl) rfl) hp.2 rfl rfl) ?_
     refine bnd hF fun r37 hx38 hF=>dR (abb hx38) (fun _=>?_)
     refine dI ?_
     rcases bL (!r37)with OZ|OZ
     · rw[OZ]
       try rw[OZ]at hF; dsimp only[aO,aN]at hF
       exact eO hF
     rw[OZ]
     try rw[OZ]at hF; dsimp only[aO,aN]at hF
     refine du ?_
     refine fA rfl (.on 51 rfl rfl rfl) .h (fun ha hp=>gu (v:=(zi iC.At)) rP.h (EN ha (.tmp rfl rfl) rfl) hp.2 rfl rfl) ?_
     refine bnd hF fun Kg JL hF=>dR (jl JL) (fun _=>?_)
     refine dI ?_
     rcases bL (!Kg)with O0|O0
     · rw[O0]
       try rw[O0]at hF; dsimp only[aO,aN]at hF
       exact eO hF
     rw[O0]
     try rw[O0]at hF; dsimp only[aO,aN]at hF
     refine dI ?_
     rcases bL (decide ((0:Int)<(k16:Int)))with O1|O1
     · rw[O1]
       try rw[O1]at hF; dsimp only[aO,aN]at hF
       refine o9 ?_
       refine zI hF fun Dm aBG iO hF=>?_
       refine Di iO (fun k50 j51=>?_)
       refine du ?_
       refine lc (WE Dm) abP (fun p52=>?_)
       refine du ?_
       refine fA rfl (.on 60 rfl rfl rfl) .q2 (fun ha hp=>ko (s:=2) (l:=[(zi iC.Access.Method),p29.1.v]) FB.h xn.h.sz (EN ha (.tmp rfl rfl) rfl) hp.2 rfl (by decide) (Nat.le_of_ble_eq_true rfl) rfl) ?_
       refine bnd hF fun QE Cx hF=>dR (aki Cx) (fun _=>?_)
       exact eO hF
     rw[O1]
     try rw[O1]at hF; dsimp only[aO,aN]at hF
     exact eO hF
   rintro _ _ ⟨pG,g85,rfl,rfl,hE⟩
   replace hF:=auA
   try dsimp only at hF
   refine bD hE ?_
   refine Ci hF (fun auB hF=>?_) (fun auB hF=>?_)
   · refine aU ?_
     cases hF
     replace hF:=OY
     try dsimp only at hF
     exact ze hF
   refine aU ?_
   refine bn (bF (m:=iC.Facts.length) (fun m58 f' cs'=>∃(g:Fr)(xW:Nat)(zl:List Fact),m58=zl.length/\f'=aM g [(0,ae.v),(1,aC.v),(5,(pz k1)),(7,(zi (k16:Int))),(8,(pz pI)),(9,(zi (xW:Int)))]/\List.drop xW iC.Facts=zl/\aL cs' [ah ae ag,dD aC ak,bi k1 63 (zg [bJ.v,(zi gN.Age)]),kv bJ gN.Entries,b_ pI 248 (zg [(zi iC.Access.Method),p29.1.v,p29.2.v,(zi iC.At)]),ah p29.1 iC.Access.Values,dY p29.2 iC.Facts]/\BA ak iC zl xW=some Dn) ⟨_,0,_,rfl,aA,rfl,az,hF⟩ ?_)
   rintro m58 _ _ ⟨g59,xW,zl,rfl,rfl,afD,hE,hF⟩
   refine Kb hE iC.Facts (fun azV=>?_)
   rcases zl with _|⟨Gv,zl⟩
   · have auC:=dn afD
     rw[BA]at hF
     refine di ?_
     refine bR ?_
     refine aU ?_
     cases hF
     exact⟨_,rfl,aA,az⟩
   obtain⟨auC,zZ,auD⟩:=bN afD
   rw[BA]at hF
   refine di ?_
   refine bQ ?_
   refine aW ?_
   refine dE [0,1,2,3,4,5,6,7,8,9,10,11,12,13,14,15] [0,0,2,6,15,31,0,64,192,0,512,0,3584,7680,16383,32767] [14] mixed (by decide+kernel) ?_
   refine dI ?_
   refine fA rfl .no .q4 (fun ha hp=>gu (v:=(zi iC.Access.Method)) rP.h (EN ha (.tmp rfl rfl) rfl) hp.2 rfl rfl) ?_
   refine zI hF fun x69 aBH O3 hF=>?_
   refine Di O3 (fun k73 j74=>?_)
   refine lc (uL x69) wQ (fun p75=>?_)
   refine bS ?_
   refine fA rfl .no .q6 (fun ha hp=>gu (v:=p29.1.v) ji.h (EN ha (.tmp rfl rfl) rfl) hp.2 rfl rfl) ?_
   refine du ?_
   refine fA rfl .no .q6 (fun ha hp=>gu (v:=p29.2.v) aft.h (EN ha (.tmp rfl rfl) rfl) hp.2 rfl rfl) ?_
   refine du ?_
   refine Di zZ (fun k76 j77=>?_)
   refine lc (oh Gv) oU (fun QF=>?_)
   refine bnd hF fun r79 auE hF=>dR (akY auE) (fun _=>?_)
   refine bS ?_
   refine Ci hF (fun auF hF=>?_) (fun auF hF=>?_)
   · refine aU ?_
     cases hF
     replace hF:=OY
     try dsimp only at hF
     exact ze hF
   refine aZ ?_
   rw[wk xW]
   exact⟨_,bG _,_,xW+1,zl,rfl,aA,auD,az,hF⟩
 rintro _ _ ⟨g87,rfl,rfl,hE⟩
 replace hF:=OY
 try dsimp only at hF
 refine bD hE ?_
 refine aV ?_
 rw[wk k16]
 exact⟨_,bG _,_,k16+1,zm,rfl,aA,auz,az,hF⟩
def Bp(qm:List Int):List Int->Nat->Option (Bool)
 |[],k4=>some (decide (((qm.length:Int):Int)<=1000))
 |x6::ax,k4=>((iG x6 0 10000).bind fun dS=>
     bif (!dS)then (some true)
     else (bif (decide ((0:Int)<(k4:Int)))then ((ix qm (IntKind.i64.wrap ((k4:Int)-1))).bind fun x24=>
         some (decide ((x6:Int)<x24)))
       else (some false))).bind fun lZ=>
   match lZ with
   |ww=>if ww then (
       some false)
     else (
       Bp qm ax (k4+1))
def Mh(qm:List Int):Option (Bool):=
 Bp qm qm 0
theorem ajs{qm:List Int}{ae:Sv}{R:Bool}(hF:Mh qm=some R):
   Fw.Spec Tryz.prog 118 [ae.v] [ah ae qm] (fun _:Unit=>(.bool R)) (fun _=>[]):=by
 refine Se 35 Tryz.func118 [.tmp 2] ?_
 intro H0 F0
 unfold Mh at hF
 refine bf ?_
 refine bn (bF (m:=qm.length) (fun m2 f' cs'=>∃(g:Fr)(k4:Nat)(ax:List Int),m2=ax.length/\f'=aM g [(0,ae.v),(3,(zi (k4:Int)))]/\List.drop k4 qm=ax/\aL cs' [ah ae qm]/\Bp qm ax k4=some R) ⟨_,0,_,rfl,aA,rfl,az,hF⟩ ?_)
 rintro m2 _ _ ⟨g3,k4,ax,rfl,rfl,hd7,hE,hF⟩
 refine Kb hE qm (fun iK=>?_)
 rcases ax with _|⟨x6,ax⟩
 · have dM:=dn hd7
   rw[Bp]at hF
   refine bf ?_
   refine bR ?_
   exact ze hF
 obtain⟨dM,bP,dL⟩:=bN hd7
 rw[Bp]at hF
 refine bf ?_
 refine bQ ?_
 refine aW ?_
 obtain⟨lZ,uY,vo⟩:=bind_some hF
 refine dE [0,1,2,3,4,5,6,7,8,9,10,11,12,13,14,15,16,17,18,19,20,21] [0,0,3,7,15,31,63,127,255,511,1023,1023,4095,8191,1023,1023,33791,115711,246783,524287,1048575,2097151] [4] mixed (by decide+kernel) ?_
 refine mD (fun f' cs'=>∃(ww:Bool)(g:Fr),ww=lZ/\f'=aM g [(0,ae.v),(3,(zi (k4:Int))),(31,(.bool ww))]/\aL cs' [ah ae qm]) ?_ ?_
 · replace hF:=uY
   refine bS ?_
   refine Di bP (fun k15 j16=>?_)
   refine Dl bY ?_
   refine bnd hF fun dS fV hF=>dR (jl fV) (fun _=>?_)
   refine bS ?_
   rcases bL (!dS)with vC|vC
   · rw[vC]
     try rw[vC]at hF; dsimp only[aO,aN]at hF
     exact eO hF
   rw[vC]
   try rw[vC]at hF; dsimp only[aO,aN]at hF
   refine dI ?_
   rcases bL (decide ((0:Int)<(k4:Int)))with O4|O4
   · rw[O4]
     try rw[O4]at hF; dsimp only[aO,aN]at hF
     refine bS ?_
     refine Di bP (fun k22 j23=>?_)
     refine Dl bY ?_
     refine dI ?_
     refine zI hF fun x24 auv hx27 hF=>?_
     refine Di hx27 (fun k28 j29=>?_)
     refine Dl bY ?_
     exact eO hF
   rw[O4]
   try rw[O4]at hF; dsimp only[aO,aN]at hF
   exact eO hF
 rintro _ _ ⟨ww,g33,rfl,rfl,hE⟩
 replace hF:=vo
 try dsimp only at hF
 refine bD hE ?_
 refine Ci hF (fun FU hF=>?_) (fun FU hF=>?_)
 · exact ze hF
 refine aZ ?_
 rw[wk k4]
 exact⟨_,bG _,_,k4+1,ax,rfl,aA,dL,az,hF⟩
def Bi(aF:gV):List Access->Nat->Option (Bool)
 |[],k27=>((iG aF.Now 0 10000).bind fun sS=>
     bif sS then (bif (decide (((aF.Log.length:Int):Int)<=1000))then (bif (((aF.Times.length:Int):Int)==(aF.Log.length:Int))then ((Mh aF.Times).bind fun n_=>
           bif n_ then ((iG aF.Spent 0 1000000).bind fun gM=>
             bif gM then (some (decide (((aF.Results.length:Int):Int)<=100)))
             else (some false))
           else (some false))
         else (some false))
       else (some false))
     else (some false)).bind fun Gs=>
   match Gs with
   |wy=>some wy
 |x29::nG,k27=>(EF aF.Schema aF.Methods x29).bind fun r57=>
   if (!r57)then (
     some false)
   else (
     Bi aF nG (k27+1))
def Lp(aF:gV):Option (Bool):=
 ((rX aF.Schema).bind fun r4=>
   bif (!r4)then (some true)
   else ((Bz aF.Schema aF.Methods).bind fun r8=>
     bif (!r8)then (some true)
     else ((Me aF.Schema aF.Rules).bind fun ig=>
       bif (!ig)then (some true)
       else ((Mg aF.Schema aF.Source).bind fun r16=>
         bif (!r16)then (some true)
         else ((MQ aF.Schema aF.Methods aF.Cache).bind fun il=>
           some (!il)))))).bind fun o2=>
 match o2 with
 |c23=>if c23 then (
     some false)
   else (
     Bi aF aF.Log 0)
theorem aip{aF:gV}{ae ay dm gy iw iN iV jf:Sv}{R:Bool}(hF:Lp aF=some R):
   Fw.Spec Tryz.prog 51 [(zg [ae.v,ay.v,dm.v,gy.v,(zi aF.Source.Version),iw.v,(zi aF.Cache.Age),(zi aF.Now),iN.v,iV.v,(zi aF.Spent),jf.v])] [ah ae aF.Schema,dD ay aF.Methods,lN dm aF.Rules,dY gy aF.Source.Facts,kv iw aF.Cache.Entries,ng iN aF.Log,ah iV aF.Times,bK (aJ 171 (aJ 22 (aJ 3 aK))) jf.v aF.Results] (fun _:Unit=>(.bool R)) (fun _=>[]):=by
 refine Se 94 Tryz.func51 [.tmp 2] ?_
 intro H0 F0
 unfold Lp at hF
 refine au ?_
 refine bB (fun k1=>?_)
 refine bq ?_
 obtain⟨o2,gK,hO3⟩:=bind_some hF
 refine au ?_
 refine fE (fun f' cs'=>∃(c23:Bool)(g:Fr),c23=o2/\f'=aM g [(1,(pz k1)),(41,(.bool c23))]/\aL cs' [bi k1 66 (zg [ae.v,ay.v,dm.v,gy.v,(zi aF.Source.Version),iw.v,(zi aF.Cache.Age),(zi aF.Now),iN.v,iV.v,(zi aF.Spent),jf.v]),ah ae aF.Schema,dD ay aF.Methods,lN dm aF.Rules,dY gy aF.Source.Facts,kv iw aF.Cache.Entries,ng iN aF.Log,ah iV aF.Times,bK (aJ 171 (aJ 22 (aJ 3 aK))) jf.v aF.Results]) ?_ ?_
 · replace hF:=gK
   refine aW ?_
   refine bnd hF fun r4 hx5 hF=>aX (yj hx5) (fun _=>?_)
   refine aW ?_
   rcases bL (!r4)with bI|bI
   · rw[bI]
     try rw[bI]at hF; dsimp only[aO,aN]at hF
     exact bO hF
   rw[bI]
   try rw[bI]at hF; dsimp only[aO,aN]at hF
   refine dK ?_
   refine bnd hF fun r8 bP hF=>aX (Rv bP) (fun _=>?_)
   refine aU ?_
   rcases bL (!r8)with dJ|dJ
   · rw[dJ]
     try rw[dJ]at hF; dsimp only[aO,aN]at hF
     exact bO hF
   rw[dJ]
   try rw[dJ]at hF; dsimp only[aO,aN]at hF
   refine dK ?_
   refine bnd hF fun ig jr hF=>aX (ajq jr) (fun _=>?_)
   refine aU ?_
   rcases bL (!ig)with jb|jb
   · rw[jb]
     try rw[jb]at hF; dsimp only[aO,aN]at hF
     exact bO hF
   rw[jb]
   try rw[jb]at hF; dsimp only[aO,aN]at hF
   refine bf ?_
   refine fq .h (fun hp=>ko (s:=2) (l:=[gy.v,(zi aF.Source.Version)]) Ug.h Uf.h.sz (.tmp rfl rfl) hp.2 rfl (by decide) (Nat.le_of_ble_eq_true rfl) rfl) ?_
   refine au ?_
   refine bnd hF fun r16 iP hF=>aX (ajr iP) (fun _=>?_)
   refine aU ?_
   rcases bL (!r16)with jZ|jZ
   · rw[jZ]
     try rw[jZ]at hF; dsimp only[aO,aN]at hF
     exact bO hF
   rw[jZ]
   try rw[jZ]at hF; dsimp only[aO,aN]at hF
   refine oC ?_
   refine fq .h (fun hp=>ko (s:=2) (l:=[iw.v,(zi aF.Cache.Age)]) Ui.h Uh.h.sz (.tmp rfl rfl) hp.2 rfl (by decide) (Nat.le_of_ble_eq_true rfl) rfl) ?_
   refine au ?_
   refine bnd hF fun il kG hF=>aX (akj kG) (fun _=>?_)
   exact bO hF
 rintro _ _ ⟨c23,g63,rfl,rfl,hE⟩
 replace hF:=hO3
 try dsimp only at hF
 refine bD hE ?_
 refine Ci hF (fun auG hF=>?_) (fun auG hF=>?_)
 · exact ze hF
 refine aV ?_
 refine bn (bF (m:=aF.Log.length) (fun Qy f' cs'=>∃(g:Fr)(k27:Nat)(nG:List Access),Qy=nG.length/\f'=aM g [(1,(pz k1)),(3,(zi (k27:Int)))]/\List.drop k27 aF.Log=nG/\aL cs' [bi k1 66 (zg [ae.v,ay.v,dm.v,gy.v,(zi aF.Source.Version),iw.v,(zi aF.Cache.Age),(zi aF.Now),iN.v,iV.v,(zi aF.Spent),jf.v]),ah ae aF.Schema,dD ay aF.Methods,lN dm aF.Rules,dY gy aF.Source.Facts,kv iw aF.Cache.Entries,ng iN aF.Log,ah iV aF.Times,bK (aJ 171 (aJ 22 (aJ 3 aK))) jf.v aF.Results]/\Bi aF nG k27=some R) ⟨_,0,_,rfl,aA,rfl,az,hF⟩ ?_)
 rintro Qy _ _ ⟨g26,k27,nG,rfl,rfl,OJ,hE,hF⟩
 refine Kb hE aF.Log (fun ard=>?_)
 rcases nG with _|⟨x29,nG⟩
 · have hk31:=dn OJ
   rw[Bi]at hF
   refine di ?_
   refine bR ?_
   refine aU ?_
   obtain⟨Gs,Yb,YI⟩:=bind_some hF
   refine au ?_
   refine fE (fun f' cs'=>∃(wy:Bool)(g:Fr),wy=Gs/\f'=aM g [(2,(.bool wy))]/\aL cs' []) ?_ ?_
   · replace hF:=Yb
     refine aW ?_
     refine bnd hF fun sS hx39 hF=>aX (jl hx39) (fun _=>?_)
     refine au ?_
     rcases bL sS with O5|O5
     · rw[O5]
       try rw[O5]at hF; dsimp only[aO,aN]at hF
       refine iU ?_
       rcases bL (decide (((aF.Log.length:Int):Int)<=1000))with O6|O6
       · rw[O6]
         try rw[O6]at hF; dsimp only[aO,aN]at hF
         refine N_ ?_
         rcases bL (((aF.Times.length:Int):Int)==(aF.Log.length:Int))with O7|O7
         · rw[O7]
           try rw[O7]at hF; dsimp only[aO,aN]at hF
           refine aV ?_
           refine bnd hF fun n_ FW hF=>aX (ajs FW) (fun _=>?_)
           refine aW ?_
           rcases bL n_ with O8|O8
           · rw[O8]
             try rw[O8]at hF; dsimp only[aO,aN]at hF
             refine aV ?_
             refine bnd hF fun gM iO hF=>aX (jl iO) (fun _=>?_)
             refine aW ?_
             rcases bL gM with O9|O9
             · rw[O9]
               try rw[O9]at hF; dsimp only[aO,aN]at hF
               exact bO hF
             rw[O9]
             try rw[O9]at hF; dsimp only[aO,aN]at hF
             exact bO hF
           rw[O8]
           try rw[O8]at hF; dsimp only[aO,aN]at hF
           exact bO hF
         rw[O7]
         try rw[O7]at hF; dsimp only[aO,aN]at hF
         exact bO hF
       rw[O6]
       try rw[O6]at hF; dsimp only[aO,aN]at hF
       exact bO hF
     rw[O5]
     try rw[O5]at hF; dsimp only[aO,aN]at hF
     exact bO hF
   rintro _ _ ⟨wy,g53,rfl,rfl,hE⟩
   replace hF:=YI
   try dsimp only at hF
   refine bD hE ?_
   exact ze hF
 obtain⟨hk31,hx32,JK⟩:=bN OJ
 rw[Bi]at hF
 refine di ?_
 refine bQ ?_
 refine aW ?_
 refine dE [0,1,2,3,4,5,6,7,8,9,10] [0,1,0,4,0,16,0,112,240,511,1023] [9] mixed (by decide+kernel) ?_
 refine afx ?_
 refine Di hx32 (fun k54 j55=>?_)
 refine lc (LH x29) RX (fun p56=>?_)
 refine bnd hF fun r57 auH hF=>dR (abd auH) (fun _=>?_)
 refine bS ?_
 refine Ci hF (fun FV hF=>?_) (fun FV hF=>?_)
 · exact ze hF
 refine aZ ?_
 rw[wk k27]
 exact⟨_,bG _,_,k27+1,nG,rfl,aA,JK,az,hF⟩
def w_(fu:Int):Option (Bool):=
 (iG fu 10 17).bind fun r1=>
 some r1
theorem EG{fu:Int}{R:Bool}(hF:w_ fu=some R):
   Fw.Spec Tryz.prog 151 [(zi fu)] [] (fun _:Unit=>(.bool R)) (fun _=>[]):=by
 refine Se 5 Tryz.func151 [.tmp 2] ?_
 intro H0 F0
 unfold w_ at hF
 refine aV ?_
 refine bnd hF fun r1 hx2 hF=>aX (jl hx2) (fun _=>?_)
 exact ze hF
def IP(bg:Int):List Int->Nat->Option (Bool)
 |[],k4=>some false
 |x6::ax,k4=>if ((x6:Int)==bg)then (
     some true)
   else (
     IP bg ax (k4+1))
def xc(ak:List Int)(bg:Int):Option (Bool):=
 IP bg ak 0
theorem IQ{ak:List Int}{ae:Sv}{bg:Int}{R:Bool}(hF:xc ak bg=some R):
   Fw.Spec Tryz.prog 70 [ae.v,(zi bg)] [ah ae ak] (fun _:Unit=>(.bool R)) (fun _=>[]):=by
 refine Se 18 Tryz.func70 [.tmp 4] ?_
 intro H0 F0
 unfold xc at hF
 refine bf ?_
 refine bn (bF (m:=ak.length) (fun m2 f' cs'=>∃(g:Fr)(k4:Nat)(ax:List Int),m2=ax.length/\f'=aM g [(0,ae.v),(1,(zi bg)),(5,(zi (k4:Int)))]/\List.drop k4 ak=ax/\aL cs' [ah ae ak]/\IP bg ax k4=some R) ⟨_,0,_,rfl,aA,rfl,az,hF⟩ ?_)
 rintro m2 _ _ ⟨g3,k4,ax,rfl,rfl,hd7,hE,hF⟩
 refine Kb hE ak (fun iK=>?_)
 rcases ax with _|⟨x6,ax⟩
 · have dM:=dn hd7
   rw[IP]at hF
   refine bf ?_
   refine bR ?_
   exact ze hF
 obtain⟨dM,bP,dL⟩:=bN hd7
 rw[IP]at hF
 refine bf ?_
 refine bQ ?_
 refine aV ?_
 refine Ai bP (fun k13 j6=>?_)
 refine Al bY ?_
 refine bq ?_
 refine Ci hF (fun z_ hF=>?_) (fun z_ hF=>?_)
 · exact ze hF
 refine aZ ?_
 rw[wk k4]
 exact⟨_,bG _,_,k4+1,ax,rfl,aA,dL,az,hF⟩
end Go.Proofs.YtdmapdjncfkhhaaGreatDoor
