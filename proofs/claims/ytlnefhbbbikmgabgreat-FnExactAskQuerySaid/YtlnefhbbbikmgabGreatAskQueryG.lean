/-
  Functions of the program as Lean functions, and that the calls return what these say. No conditions.
-/
import Derived.Test.YtlnefhbbbikmgabGreatFd
import Derived.Shelf.Sort.Plain
import Derived.Shelf.Slices.In.SortNone
import Derived.Shelf.Slices.CompactI
import Derived.Test.YtlnefhbbbikmgabGreatProg
import Derived.KernelRfl
set_option maxRecDepth 100000
set_option maxHeartbeats 4000000
set_option linter.unusedVariables false
namespace Go.Proofs.YtlnefhbbbikmgabGreat
open Go Go.Fw
theorem dN{G:Prop}(h:G:=by (unfold FD; kernel_rfl)):G:=h
theorem iC{G:Prop}(h:G:=by (unfold AG; kernel_rfl)):G:=h
theorem qD{G:Prop}(h:G:=by (unfold SL; kernel_rfl)):G:=h
theorem jo{G:Prop}(h:G:=by (unfold TY; kernel_rfl)):G:=h
instance:bF Tryz.prog:=⟨fun _=>True⟩
structure Method where
 aD:Int
 bg:List Int
 Limit:Int
 bK:Int
 gW:Int
structure bO where
 From:Int
 To:Int
 Map:List Int
structure aj where
 aD:Int
 Values:List Int
structure Source where
 Facts:List aj
 Version:Int
structure ag where
 Method:Int
 Values:List Int
structure aS where
 ag:ag
 Facts:List aj
 At:Int
structure Cache where
 Entries:List aS
 Age:Int
structure bU where
 bA:List Int
 Methods:List Method
 bV:List bO
 Source:Source
 Cache:Cache
 Now:Int
 bD:List ag
 dh:List Int
 bI:Int
 bX:List (List (List Int))
structure aJ where
 aD:Int
 Terms:List Int
structure Query where
 a_:List Int
 aL:List aJ
instance aFX:dK Tryz.prog 34 12 224 (.agg [(.slice none 0 0),(.slice none 0 0),(.slice none 0 0),(.slice none 0 0),(.int .i64 0),(.slice none 0 0),(.int .i64 0),(.int .i64 0),(.slice none 0 0),(.slice none 0 0),(.int .i64 0),(.slice none 0 0)].toArray):=⟨jo⟩
instance aFY:dK Tryz.prog 37 2 48 (.agg [(.slice none 0 0),(.slice none 0 0)].toArray):=⟨jo⟩
instance aOy:d_ Tryz.prog 34 true:=⟨iC⟩
instance aLK:dJ Tryz.prog 34 0 0:=⟨dN⟩
instance ry:d_ Tryz.prog 22 false:=⟨iC⟩
instance jO:iN Tryz.prog 22 3:=⟨qD⟩
instance aLL:dJ Tryz.prog 34 1 1:=⟨dN⟩
instance aOz:d_ Tryz.prog 23 false:=⟨iC⟩
instance aOA:iN Tryz.prog 23 112:=⟨qD⟩
def CV(H:aB)(v:Value)(a:Method):Prop:=∃v0:Sv,v= .agg [(.int .i64 a.aD),v0.v,(.int .i64 a.Limit),(.int .i64 a.bK),(.int .i64 a.gW)].toArray/\(ak 3 ax) H v0.v a.bg
instance:bz CV:=⟨fun h hi=>by
 obtain⟨v0,h,h0⟩:=h
 exact⟨v0,h,bz.up h0 hi⟩⟩
instance:Cells CV 5:=⟨fun h=>by
 obtain⟨v0,rfl,h0⟩:=h
 exact⟨rfl,rfl⟩⟩
instance aCk:dK Tryz.prog 112 5 56 (.agg [(.int .i64 0),(.slice none 0 0),(.int .i64 0),(.int .i64 0),(.int .i64 0)].toArray):=⟨jo⟩
def au7(a:Method)(p:Sv):List Value:=[(.int .i64 a.aD),p.v,(.int .i64 a.Limit),(.int .i64 a.bK),(.int .i64 a.gW)]
theorem au8{a:Method}:∀H e,CV H e a-> ∃i:Sv,0+5<=e.cells.size/\(e.cells.toList.drop 0).take 5=au7 a i/\ ∀c∈([aI (ak 3 ax) i.v a.bg]:List ay),c.P H/\c.F=[]:=by
 intro H e h
 obtain⟨v0,rfl,h0⟩:=h
 refine⟨v0,aQS rfl,rfl,fun c hc=>by
   simp only[aQ1,aRd,aRQ]at hc
   rcases hc with rfl
   · exact⟨h0,rfl⟩
⟩
instance aMI:d_ Tryz.prog 112 true:=⟨iC⟩
instance aKT:dJ Tryz.prog 112 1 1:=⟨dN⟩
instance aLM:dJ Tryz.prog 34 2 2:=⟨dN⟩
instance aOB:d_ Tryz.prog 24 false:=⟨iC⟩
instance aOC:iN Tryz.prog 24 115:=⟨qD⟩
def CX(H:aB)(v:Value)(a:bO):Prop:=∃v0:Sv,v= .agg [(.int .i64 a.From),(.int .i64 a.To),v0.v].toArray/\(ak 3 ax) H v0.v a.Map
instance:bz CX:=⟨fun h hi=>by
 obtain⟨v0,h,h0⟩:=h
 exact⟨v0,h,bz.up h0 hi⟩⟩
instance:Cells CX 3:=⟨fun h=>by
 obtain⟨v0,rfl,h0⟩:=h
 exact⟨rfl,rfl⟩⟩
instance aCl:dK Tryz.prog 115 3 40 (.agg [(.int .i64 0),(.int .i64 0),(.slice none 0 0)].toArray):=⟨jo⟩
def au9(a:bO)(p:Sv):List Value:=[(.int .i64 a.From),(.int .i64 a.To),p.v]
theorem au_{a:bO}:∀H e,CX H e a-> ∃i:Sv,0+3<=e.cells.size/\(e.cells.toList.drop 0).take 3=au9 a i/\ ∀c∈([aI (ak 3 ax) i.v a.Map]:List ay),c.P H/\c.F=[]:=by
 intro H e h
 obtain⟨v0,rfl,h0⟩:=h
 refine⟨v0,aQS rfl,rfl,fun c hc=>by
   simp only[aQ1,aRd,aRQ]at hc
   rcases hc with rfl
   · exact⟨h0,rfl⟩
⟩
instance aMJ:d_ Tryz.prog 115 true:=⟨iC⟩
instance aKU:dJ Tryz.prog 115 2 2:=⟨dN⟩
instance aLN:dJ Tryz.prog 34 3 3:=⟨dN⟩
instance aOD:d_ Tryz.prog 27 true:=⟨iC⟩
instance aFZ:dK Tryz.prog 27 2 32 (.agg [(.slice none 0 0),(.int .i64 0)].toArray):=⟨jo⟩
instance aLO:dJ Tryz.prog 27 0 0:=⟨dN⟩
instance aOE:d_ Tryz.prog 25 false:=⟨iC⟩
instance aOF:iN Tryz.prog 25 195:=⟨qD⟩
def uu(H:aB)(v:Value)(a:aj):Prop:=∃v0:Sv,v= .agg [(.int .i64 a.aD),v0.v].toArray/\(ak 3 ax) H v0.v a.Values
instance:bz uu:=⟨fun h hi=>by
 obtain⟨v0,h,h0⟩:=h
 exact⟨v0,h,bz.up h0 hi⟩⟩
instance:Cells uu 2:=⟨fun h=>by
 obtain⟨v0,rfl,h0⟩:=h
 exact⟨rfl,rfl⟩⟩
instance aCm:dK Tryz.prog 195 2 32 (.agg [(.int .i64 0),(.slice none 0 0)].toArray):=⟨jo⟩
def au'(a:aj)(p:Sv):List Value:=[(.int .i64 a.aD),p.v]
theorem ava{a:aj}:∀H e,uu H e a-> ∃i:Sv,0+2<=e.cells.size/\(e.cells.toList.drop 0).take 2=au' a i/\ ∀c∈([aI (ak 3 ax) i.v a.Values]:List ay),c.P H/\c.F=[]:=by
 intro H e h
 obtain⟨v0,rfl,h0⟩:=h
 refine⟨v0,aQS rfl,rfl,fun c hc=>by
   simp only[aQ1,aRd,aRQ]at hc
   rcases hc with rfl
   · exact⟨h0,rfl⟩
⟩
instance aMK:d_ Tryz.prog 195 true:=⟨iC⟩
instance aKV:dJ Tryz.prog 195 1 1:=⟨dN⟩
instance aLP:dJ Tryz.prog 34 4 5:=⟨dN⟩
instance aOG:d_ Tryz.prog 30 true:=⟨iC⟩
instance aF0:dK Tryz.prog 30 2 32 (.agg [(.slice none 0 0),(.int .i64 0)].toArray):=⟨jo⟩
instance aLQ:dJ Tryz.prog 30 0 0:=⟨dN⟩
instance aOH:d_ Tryz.prog 28 false:=⟨iC⟩
instance aOI:iN Tryz.prog 28 198:=⟨qD⟩
def yK(H:aB)(v:Value)(a:aS):Prop:=∃v0 v1:Sv,v= .agg [(.int .i64 a.ag.Method),v0.v,v1.v,(.int .i64 a.At)].toArray/\(ak 3 ax) H v0.v a.ag.Values/\(ak 195 uu) H v1.v a.Facts
instance:bz yK:=⟨fun h hi=>by
 obtain⟨v0,v1,h,h0,h1⟩:=h
 exact⟨v0,v1,h,bz.up h0 hi,bz.up h1 hi⟩⟩
instance:Cells yK 4:=⟨fun h=>by
 obtain⟨v0,v1,rfl,h0,h1⟩:=h
 exact⟨rfl,rfl⟩⟩
instance aCn:dK Tryz.prog 198 4 64 (.agg [(.int .i64 0),(.slice none 0 0),(.slice none 0 0),(.int .i64 0)].toArray):=⟨jo⟩
def avb(a:aS)(p:Sv×Sv):List Value:=[(.int .i64 a.ag.Method),p.1.v,p.2.v,(.int .i64 a.At)]
theorem avc{a:aS}:∀H e,yK H e a-> ∃i:Sv×Sv,0+4<=e.cells.size/\(e.cells.toList.drop 0).take 4=avb a i/\ ∀c∈([aI (ak 3 ax) i.1.v a.ag.Values,aI (ak 195 uu) i.2.v a.Facts]:List ay),c.P H/\c.F=[]:=by
 intro H e h
 obtain⟨v0,v1,rfl,h0,h1⟩:=h
 refine⟨(v0,v1),aQS rfl,rfl,fun c hc=>by
   simp only[aQ1,aRd,aRQ]at hc
   rcases hc with rfl|rfl
   · exact⟨h0,rfl⟩
   · exact⟨h1,rfl⟩
⟩
instance aML:d_ Tryz.prog 198 true:=⟨iC⟩
instance aKW:dJ Tryz.prog 198 0 0:=⟨dN⟩
instance aMM:d_ Tryz.prog 119 true:=⟨iC⟩
instance aCo:dK Tryz.prog 119 2 32 (.agg [(.int .i64 0),(.slice none 0 0)].toArray):=⟨jo⟩
instance aKX:dJ Tryz.prog 119 1 1:=⟨dN⟩
instance aKY:dJ Tryz.prog 198 1 2:=⟨dN⟩
instance aLR:dJ Tryz.prog 34 6 8:=⟨dN⟩
instance aOJ:d_ Tryz.prog 31 false:=⟨iC⟩
instance aOK:iN Tryz.prog 31 119:=⟨qD⟩
def CY(H:aB)(v:Value)(a:ag):Prop:=∃v0:Sv,v= .agg [(.int .i64 a.Method),v0.v].toArray/\(ak 3 ax) H v0.v a.Values
instance:bz CY:=⟨fun h hi=>by
 obtain⟨v0,h,h0⟩:=h
 exact⟨v0,h,bz.up h0 hi⟩⟩
instance:Cells CY 2:=⟨fun h=>by
 obtain⟨v0,rfl,h0⟩:=h
 exact⟨rfl,rfl⟩⟩
def avd(a:ag)(p:Sv):List Value:=[(.int .i64 a.Method),p.v]
theorem ave{a:ag}:∀H e,CY H e a-> ∃i:Sv,0+2<=e.cells.size/\(e.cells.toList.drop 0).take 2=avd a i/\ ∀c∈([aI (ak 3 ax) i.v a.Values]:List ay),c.P H/\c.F=[]:=by
 intro H e h
 obtain⟨v0,rfl,h0⟩:=h
 refine⟨v0,aQS rfl,rfl,fun c hc=>by
   simp only[aQ1,aRd,aRQ]at hc
   rcases hc with rfl
   · exact⟨h0,rfl⟩
⟩
instance aLS:dJ Tryz.prog 34 7 9:=⟨dN⟩
instance aLT:dJ Tryz.prog 34 9 11:=⟨dN⟩
instance ap4:d_ Tryz.prog 32 false:=⟨iC⟩
instance Aw:iN Tryz.prog 32 79:=⟨qD⟩
instance xG:dK Tryz.prog 79 1 24 (.slice none 0 0):=⟨jo⟩
theorem ae4{a:List (List Int)}:∀H e,(ak 22 (ak 3 ax)) H e a-> ∃w:Sv,e.cells.toList[0]?=some w.v/\(ak 22 (ak 3 ax)) H w.v a:=by
 intro H e h
 obtain⟨a0,m,rfl⟩:=ak.len h
 exact⟨⟨a0,_,m⟩,rfl,h⟩
instance abp:d_ Tryz.prog 79 false:=⟨iC⟩
instance mM:iN Tryz.prog 79 22:=⟨qD⟩
instance lw:dK Tryz.prog 22 1 24 (.slice none 0 0):=⟨jo⟩
theorem ae5{a:List Int}:∀H e,(ak 3 ax) H e a-> ∃w:Sv,e.cells.toList[0]?=some w.v/\(ak 3 ax) H w.v a:=by
 intro H e h
 obtain⟨a0,m,rfl⟩:=ak.len h
 exact⟨⟨a0,_,m⟩,rfl,h⟩
instance aOL:d_ Tryz.prog 37 true:=⟨iC⟩
instance aLU:dJ Tryz.prog 37 0 0:=⟨dN⟩
instance aLV:dJ Tryz.prog 37 1 1:=⟨dN⟩
instance aOM:d_ Tryz.prog 35 false:=⟨iC⟩
instance aON:iN Tryz.prog 35 123:=⟨qD⟩
def CZ(H:aB)(v:Value)(a:aJ):Prop:=∃v0:Sv,v= .agg [(.int .i64 a.aD),v0.v].toArray/\(ak 3 ax) H v0.v a.Terms
instance:bz CZ:=⟨fun h hi=>by
 obtain⟨v0,h,h0⟩:=h
 exact⟨v0,h,bz.up h0 hi⟩⟩
instance:Cells CZ 2:=⟨fun h=>by
 obtain⟨v0,rfl,h0⟩:=h
 exact⟨rfl,rfl⟩⟩
instance aCp:dK Tryz.prog 123 2 32 (.agg [(.int .i64 0),(.slice none 0 0)].toArray):=⟨jo⟩
def avf(a:aJ)(p:Sv):List Value:=[(.int .i64 a.aD),p.v]
theorem avg{a:aJ}:∀H e,CZ H e a-> ∃i:Sv,0+2<=e.cells.size/\(e.cells.toList.drop 0).take 2=avf a i/\ ∀c∈([aI (ak 3 ax) i.v a.Terms]:List ay),c.P H/\c.F=[]:=by
 intro H e h
 obtain⟨v0,rfl,h0⟩:=h
 refine⟨v0,aQS rfl,rfl,fun c hc=>by
   simp only[aQ1,aRd,aRQ]at hc
   rcases hc with rfl
   · exact⟨h0,rfl⟩
⟩
instance aMN:d_ Tryz.prog 123 true:=⟨iC⟩
instance aKZ:dJ Tryz.prog 123 1 1:=⟨dN⟩
theorem mixed:Tryz.prog.follows .mixedOrders=true:=by kernel_rfl
instance qE:dK Tryz.prog 50 12 224 (.agg [(.slice none 0 0),(.slice none 0 0),(.slice none 0 0),(.slice none 0 0),(.int .i64 0),(.slice none 0 0),(.int .i64 0),(.int .i64 0),(.slice none 0 0),(.slice none 0 0),(.int .i64 0),(.slice none 0 0)].toArray):=⟨jo⟩
instance gP:dK Tryz.prog 3 1 8 (.int .i64 0):=⟨jo⟩
theorem TI{a:Int}:∀H e,ax H e a->e.cells.toList[0]?=some (.int .i64 a):=by
 intro H e h
 subst h
 rfl
instance wL:d_ Tryz.prog 3 false:=⟨iC⟩
instance aLW:dJ Tryz.prog 50 0 0:=⟨dN⟩
instance yS:iN Tryz.prog 40 127:=⟨qD⟩
instance xu:dK Tryz.prog 127 5 56 (.agg [(.int .i64 0),(.slice none 0 0),(.int .i64 0),(.int .i64 0),(.int .i64 0)].toArray):=⟨jo⟩
def iB(H:aB)(v:Value)(a:Method):Prop:=∃v0:Sv,v= .agg [(.int .i64 a.aD),v0.v,(.int .i64 a.Limit),(.int .i64 a.bK),(.int .i64 a.gW)].toArray/\(ak 3 ax) H v0.v a.bg
instance:bz iB:=⟨fun h hi=>by
 obtain⟨v0,h,h0⟩:=h
 exact⟨v0,h,bz.up h0 hi⟩⟩
instance:Cells iB 5:=⟨fun h=>by
 obtain⟨v0,rfl,h0⟩:=h
 exact⟨rfl,rfl⟩⟩
def iT:b_ Method:=fun F H v a=>∃(v0:Sv)(F0:List Nat),v= .agg [(.int .i64 a.aD),v0.v,(.int .i64 a.Limit),(.int .i64 a.bK),(.int .i64 a.gW)].toArray/\F0=F/\(aa 3 (az ax)) F0 H v0.v a.bg
instance:bS iT:=⟨fun h hi hg=>by
 obtain⟨v0,F0,rfl,rfl,h0⟩:=h
 exact⟨v0,F0,rfl,rfl,bS.keep h0 hi (fun k hk=>hg k (by simp[hk]))⟩⟩
instance:Local iT:=⟨fun h hg=>by
 obtain⟨v0,F0,rfl,rfl,h0⟩:=h
 exact⟨v0,F0,rfl,rfl,Local.keep h0 (fun k hk=>hg k (by simp[hk]))⟩⟩
instance:j4 iT:=⟨fun h k hk=>by
 obtain⟨v0,F0,rfl,rfl,h0⟩:=h
 exact j4.owns h0 k hk
⟩
instance:kL iT 5:=⟨fun h=>by
 obtain⟨v0,F0,rfl,rfl,h0⟩:=h
 exact⟨rfl,rfl⟩⟩
instance:jS iT iB:=⟨fun h hg=>by
 obtain⟨v0,F0,rfl,rfl,h0⟩:=h
 exact⟨v0,rfl,jS.cO h0 (fun k hk=>hg k (by simp[hk]))⟩⟩
instance aK0:dJ Tryz.prog 112 0 0:=⟨dN⟩
instance aK1:dJ Tryz.prog 127 0 0:=⟨dN⟩
instance aK2:dJ Tryz.prog 127 1 1:=⟨dN⟩
instance aK3:dJ Tryz.prog 112 2 2:=⟨dN⟩
instance aK4:dJ Tryz.prog 127 2 2:=⟨dN⟩
instance aK5:dJ Tryz.prog 112 3 3:=⟨dN⟩
instance aK6:dJ Tryz.prog 127 3 3:=⟨dN⟩
instance aK7:dJ Tryz.prog 112 4 4:=⟨dN⟩
instance aK8:dJ Tryz.prog 127 4 4:=⟨dN⟩
instance aCq:d_ Tryz.prog 127 true:=⟨iC⟩
theorem aaq{a:Method}{v0:Sv}{F0:List Nat}:Mk iT F0 (.agg [(.int .i64 a.aD),v0.v,(.int .i64 a.Limit),(.int .i64 a.bK),(.int .i64 a.gW)].toArray) a [ah (aa 3 (az ax)) F0 v0.v a.bg]:=
 ⟨fun H h=>⟨v0,F0,rfl,rfl,h (ah (aa 3 (az ax)) F0 v0.v a.bg) (by simp)⟩,by simp[ah]⟩
instance aLX:dJ Tryz.prog 50 1 1:=⟨dN⟩
instance aOO:dK Tryz.prog 40 1 24 (.slice none 0 0):=⟨jo⟩
instance F9:iN Tryz.prog 41 129:=⟨qD⟩
instance yL:dK Tryz.prog 129 3 40 (.agg [(.int .i64 0),(.int .i64 0),(.slice none 0 0)].toArray):=⟨jo⟩
def qy(H:aB)(v:Value)(a:bO):Prop:=∃v0:Sv,v= .agg [(.int .i64 a.From),(.int .i64 a.To),v0.v].toArray/\(ak 3 ax) H v0.v a.Map
instance:bz qy:=⟨fun h hi=>by
 obtain⟨v0,h,h0⟩:=h
 exact⟨v0,h,bz.up h0 hi⟩⟩
instance:Cells qy 3:=⟨fun h=>by
 obtain⟨v0,rfl,h0⟩:=h
 exact⟨rfl,rfl⟩⟩
def jX:b_ bO:=fun F H v a=>∃(v0:Sv)(F0:List Nat),v= .agg [(.int .i64 a.From),(.int .i64 a.To),v0.v].toArray/\F0=F/\(aa 3 (az ax)) F0 H v0.v a.Map
instance:bS jX:=⟨fun h hi hg=>by
 obtain⟨v0,F0,rfl,rfl,h0⟩:=h
 exact⟨v0,F0,rfl,rfl,bS.keep h0 hi (fun k hk=>hg k (by simp[hk]))⟩⟩
instance:Local jX:=⟨fun h hg=>by
 obtain⟨v0,F0,rfl,rfl,h0⟩:=h
 exact⟨v0,F0,rfl,rfl,Local.keep h0 (fun k hk=>hg k (by simp[hk]))⟩⟩
instance:j4 jX:=⟨fun h k hk=>by
 obtain⟨v0,F0,rfl,rfl,h0⟩:=h
 exact j4.owns h0 k hk
⟩
instance:kL jX 3:=⟨fun h=>by
 obtain⟨v0,F0,rfl,rfl,h0⟩:=h
 exact⟨rfl,rfl⟩⟩
instance:jS jX qy:=⟨fun h hg=>by
 obtain⟨v0,F0,rfl,rfl,h0⟩:=h
 exact⟨v0,rfl,jS.cO h0 (fun k hk=>hg k (by simp[hk]))⟩⟩
instance aK9:dJ Tryz.prog 115 0 0:=⟨dN⟩
instance aK_:dJ Tryz.prog 129 0 0:=⟨dN⟩
instance aK':dJ Tryz.prog 115 1 1:=⟨dN⟩
instance aLa:dJ Tryz.prog 129 1 1:=⟨dN⟩
instance aLb:dJ Tryz.prog 129 2 2:=⟨dN⟩
instance aCr:d_ Tryz.prog 129 true:=⟨iC⟩
theorem TJ{a:bO}{v0:Sv}{F0:List Nat}:Mk jX F0 (.agg [(.int .i64 a.From),(.int .i64 a.To),v0.v].toArray) a [ah (aa 3 (az ax)) F0 v0.v a.Map]:=
 ⟨fun H h=>⟨v0,F0,rfl,rfl,h (ah (aa 3 (az ax)) F0 v0.v a.Map) (by simp)⟩,by simp[ah]⟩
instance aLY:dJ Tryz.prog 50 2 2:=⟨dN⟩
instance ap5:dK Tryz.prog 41 1 24 (.slice none 0 0):=⟨jo⟩
instance ap6:dK Tryz.prog 44 2 32 (.agg [(.slice none 0 0),(.int .i64 0)].toArray):=⟨jo⟩
instance lC:iN Tryz.prog 42 164:=⟨qD⟩
instance jY:dK Tryz.prog 164 2 32 (.agg [(.int .i64 0),(.slice none 0 0)].toArray):=⟨jo⟩
def gZ(H:aB)(v:Value)(a:aj):Prop:=∃v0:Sv,v= .agg [(.int .i64 a.aD),v0.v].toArray/\(ak 3 ax) H v0.v a.Values
instance:bz gZ:=⟨fun h hi=>by
 obtain⟨v0,h,h0⟩:=h
 exact⟨v0,h,bz.up h0 hi⟩⟩
instance:Cells gZ 2:=⟨fun h=>by
 obtain⟨v0,rfl,h0⟩:=h
 exact⟨rfl,rfl⟩⟩
def dV:b_ aj:=fun F H v a=>∃(v0:Sv)(F0:List Nat),v= .agg [(.int .i64 a.aD),v0.v].toArray/\F0=F/\(aa 3 (az ax)) F0 H v0.v a.Values
instance:bS dV:=⟨fun h hi hg=>by
 obtain⟨v0,F0,rfl,rfl,h0⟩:=h
 exact⟨v0,F0,rfl,rfl,bS.keep h0 hi (fun k hk=>hg k (by simp[hk]))⟩⟩
instance:Local dV:=⟨fun h hg=>by
 obtain⟨v0,F0,rfl,rfl,h0⟩:=h
 exact⟨v0,F0,rfl,rfl,Local.keep h0 (fun k hk=>hg k (by simp[hk]))⟩⟩
instance:j4 dV:=⟨fun h k hk=>by
 obtain⟨v0,F0,rfl,rfl,h0⟩:=h
 exact j4.owns h0 k hk
⟩
instance:kL dV 2:=⟨fun h=>by
 obtain⟨v0,F0,rfl,rfl,h0⟩:=h
 exact⟨rfl,rfl⟩⟩
instance:jS dV gZ:=⟨fun h hg=>by
 obtain⟨v0,F0,rfl,rfl,h0⟩:=h
 exact⟨v0,rfl,jS.cO h0 (fun k hk=>hg k (by simp[hk]))⟩⟩
instance aLc:dJ Tryz.prog 195 0 0:=⟨dN⟩
instance aLd:dJ Tryz.prog 164 0 0:=⟨dN⟩
instance aLe:dJ Tryz.prog 164 1 1:=⟨dN⟩
instance afC:d_ Tryz.prog 164 true:=⟨iC⟩
theorem afD{a:aj}{v0:Sv}{F0:List Nat}:Mk dV F0 (.agg [(.int .i64 a.aD),v0.v].toArray) a [ah (aa 3 (az ax)) F0 v0.v a.Values]:=
 ⟨fun H h=>⟨v0,F0,rfl,rfl,h (ah (aa 3 (az ax)) F0 v0.v a.Values) (by simp)⟩,by simp[ah]⟩
instance aLZ:dJ Tryz.prog 44 0 0:=⟨dN⟩
instance agT:dK Tryz.prog 42 1 24 (.slice none 0 0):=⟨jo⟩
instance aL0:dJ Tryz.prog 27 1 1:=⟨dN⟩
instance aL1:dJ Tryz.prog 44 1 1:=⟨dN⟩
instance ap7:d_ Tryz.prog 44 true:=⟨iC⟩
instance aL2:dJ Tryz.prog 50 3 3:=⟨dN⟩
instance p_:dK Tryz.prog 47 2 32 (.agg [(.slice none 0 0),(.int .i64 0)].toArray):=⟨jo⟩
instance jE:iN Tryz.prog 45 201:=⟨qD⟩
instance jl:dK Tryz.prog 201 4 64 (.agg [(.int .i64 0),(.slice none 0 0),(.slice none 0 0),(.int .i64 0)].toArray):=⟨jo⟩
def jm(H:aB)(v:Value)(a:aS):Prop:=∃v0 v1:Sv,v= .agg [(.int .i64 a.ag.Method),v0.v,v1.v,(.int .i64 a.At)].toArray/\(ak 3 ax) H v0.v a.ag.Values/\(ak 164 gZ) H v1.v a.Facts
instance:bz jm:=⟨fun h hi=>by
 obtain⟨v0,v1,h,h0,h1⟩:=h
 exact⟨v0,v1,h,bz.up h0 hi,bz.up h1 hi⟩⟩
instance:Cells jm 4:=⟨fun h=>by
 obtain⟨v0,v1,rfl,h0,h1⟩:=h
 exact⟨rfl,rfl⟩⟩
def g_:b_ aS:=fun F H v a=>∃(v0 v1:Sv)(F0 F1:List Nat),v= .agg [(.int .i64 a.ag.Method),v0.v,v1.v,(.int .i64 a.At)].toArray/\F=(F0++F1)/\(aa 3 (az ax)) F0 H v0.v a.ag.Values/\(aa 164 dV) F1 H v1.v a.Facts
instance:bS g_:=⟨fun h hi hg=>by
 obtain⟨v0,v1,F0,F1,rfl,rfl,h0,h1⟩:=h
 exact⟨v0,v1,F0,F1,rfl,rfl,bS.keep h0 hi (fun k hk=>hg k (by simp[hk])),bS.keep h1 hi (fun k hk=>hg k (by simp[hk]))⟩⟩
instance:Local g_:=⟨fun h hg=>by
 obtain⟨v0,v1,F0,F1,rfl,rfl,h0,h1⟩:=h
 exact⟨v0,v1,F0,F1,rfl,rfl,Local.keep h0 (fun k hk=>hg k (by simp[hk])),Local.keep h1 (fun k hk=>hg k (by simp[hk]))⟩⟩
instance:j4 g_:=⟨fun h k hk=>by
 obtain⟨v0,v1,F0,F1,rfl,rfl,h0,h1⟩:=h
 simp only[aQZ]at hk
 rcases hk with hk|hk
 · exact j4.owns h0 k hk
 · exact j4.owns h1 k hk
⟩
instance:kL g_ 4:=⟨fun h=>by
 obtain⟨v0,v1,F0,F1,rfl,rfl,h0,h1⟩:=h
 exact⟨rfl,rfl⟩⟩
instance:jS g_ jm:=⟨fun h hg=>by
 obtain⟨v0,v1,F0,F1,rfl,rfl,h0,h1⟩:=h
 exact⟨v0,v1,rfl,jS.cO h0 (fun k hk=>hg k (by simp[hk])),jS.cO h1 (fun k hk=>hg k (by simp[hk]))⟩⟩
instance nD:dK Tryz.prog 85 2 32 (.agg [(.int .i64 0),(.slice none 0 0)].toArray):=⟨jo⟩
instance aLf:dJ Tryz.prog 119 0 0:=⟨dN⟩
instance aL3:dJ Tryz.prog 85 0 0:=⟨dN⟩
instance aL4:dJ Tryz.prog 85 1 1:=⟨dN⟩
instance abq:d_ Tryz.prog 85 true:=⟨iC⟩
instance aLg:dJ Tryz.prog 201 0 0:=⟨dN⟩
instance aLh:dJ Tryz.prog 201 1 2:=⟨dN⟩
instance aLi:dJ Tryz.prog 198 2 3:=⟨dN⟩
instance aLj:dJ Tryz.prog 201 2 3:=⟨dN⟩
instance aMO:d_ Tryz.prog 201 true:=⟨iC⟩
theorem Jo{a:aS}{v0 v1:Sv}{F0 F1:List Nat}:Mk g_ (F0++F1) (.agg [(.int .i64 a.ag.Method),v0.v,v1.v,(.int .i64 a.At)].toArray) a [ah (aa 3 (az ax)) F0 v0.v a.ag.Values,ah (aa 164 dV) F1 v1.v a.Facts]:=
 ⟨fun H h=>⟨v0,v1,F0,F1,rfl,rfl,h (ah (aa 3 (az ax)) F0 v0.v a.ag.Values) (by simp),h (ah (aa 164 dV) F1 v1.v a.Facts) (by simp)⟩,by simp[ah]⟩
instance azF:dJ Tryz.prog 47 0 0:=⟨dN⟩
instance ap8:dK Tryz.prog 45 1 24 (.slice none 0 0):=⟨jo⟩
instance aL5:dJ Tryz.prog 30 1 1:=⟨dN⟩
instance aL6:dJ Tryz.prog 47 1 1:=⟨dN⟩
instance wD:d_ Tryz.prog 47 true:=⟨iC⟩
instance aL7:dJ Tryz.prog 50 4 5:=⟨dN⟩
instance aL8:dJ Tryz.prog 34 5 7:=⟨dN⟩
instance aL9:dJ Tryz.prog 50 5 7:=⟨dN⟩
instance uD:iN Tryz.prog 48 85:=⟨qD⟩
def kN(H:aB)(v:Value)(a:ag):Prop:=∃v0:Sv,v= .agg [(.int .i64 a.Method),v0.v].toArray/\(ak 3 ax) H v0.v a.Values
instance:bz kN:=⟨fun h hi=>by
 obtain⟨v0,h,h0⟩:=h
 exact⟨v0,h,bz.up h0 hi⟩⟩
instance:Cells kN 2:=⟨fun h=>by
 obtain⟨v0,rfl,h0⟩:=h
 exact⟨rfl,rfl⟩⟩
def ji:b_ ag:=fun F H v a=>∃(v0:Sv)(F0:List Nat),v= .agg [(.int .i64 a.Method),v0.v].toArray/\F0=F/\(aa 3 (az ax)) F0 H v0.v a.Values
instance:bS ji:=⟨fun h hi hg=>by
 obtain⟨v0,F0,rfl,rfl,h0⟩:=h
 exact⟨v0,F0,rfl,rfl,bS.keep h0 hi (fun k hk=>hg k (by simp[hk]))⟩⟩
instance:Local ji:=⟨fun h hg=>by
 obtain⟨v0,F0,rfl,rfl,h0⟩:=h
 exact⟨v0,F0,rfl,rfl,Local.keep h0 (fun k hk=>hg k (by simp[hk]))⟩⟩
instance:j4 ji:=⟨fun h k hk=>by
 obtain⟨v0,F0,rfl,rfl,h0⟩:=h
 exact j4.owns h0 k hk
⟩
instance:kL ji 2:=⟨fun h=>by
 obtain⟨v0,F0,rfl,rfl,h0⟩:=h
 exact⟨rfl,rfl⟩⟩
instance:jS ji kN:=⟨fun h hg=>by
 obtain⟨v0,F0,rfl,rfl,h0⟩:=h
 exact⟨v0,rfl,jS.cO h0 (fun k hk=>hg k (by simp[hk]))⟩⟩
theorem UV{a:ag}{v0:Sv}{F0:List Nat}:Mk ji F0 (.agg [(.int .i64 a.Method),v0.v].toArray) a [ah (aa 3 (az ax)) F0 v0.v a.Values]:=
 ⟨fun H h=>⟨v0,F0,rfl,rfl,h (ah (aa 3 (az ax)) F0 v0.v a.Values) (by simp)⟩,by simp[ah]⟩
instance aL_:dJ Tryz.prog 50 6 8:=⟨dN⟩
instance agU:dK Tryz.prog 48 1 24 (.slice none 0 0):=⟨jo⟩
instance aL':dJ Tryz.prog 50 7 9:=⟨dN⟩
instance aMa:dJ Tryz.prog 34 8 10:=⟨dN⟩
instance aMb:dJ Tryz.prog 50 8 10:=⟨dN⟩
instance aMc:dJ Tryz.prog 50 9 11:=⟨dN⟩
instance ap9:dK Tryz.prog 32 1 24 (.slice none 0 0):=⟨jo⟩
instance Dy:d_ Tryz.prog 50 true:=⟨iC⟩
instance F_:dK Tryz.prog 56 2 48 (.agg [(.slice none 0 0),(.slice none 0 0)].toArray):=⟨jo⟩
instance aMd:dJ Tryz.prog 56 0 0:=⟨dN⟩
instance agV:iN Tryz.prog 54 138:=⟨qD⟩
instance zZ:dK Tryz.prog 138 2 32 (.agg [(.int .i64 0),(.slice none 0 0)].toArray):=⟨jo⟩
def l7(H:aB)(v:Value)(a:aJ):Prop:=∃v0:Sv,v= .agg [(.int .i64 a.aD),v0.v].toArray/\(ak 3 ax) H v0.v a.Terms
instance:bz l7:=⟨fun h hi=>by
 obtain⟨v0,h,h0⟩:=h
 exact⟨v0,h,bz.up h0 hi⟩⟩
instance:Cells l7 2:=⟨fun h=>by
 obtain⟨v0,rfl,h0⟩:=h
 exact⟨rfl,rfl⟩⟩
def jZ:b_ aJ:=fun F H v a=>∃(v0:Sv)(F0:List Nat),v= .agg [(.int .i64 a.aD),v0.v].toArray/\F0=F/\(aa 3 (az ax)) F0 H v0.v a.Terms
instance:bS jZ:=⟨fun h hi hg=>by
 obtain⟨v0,F0,rfl,rfl,h0⟩:=h
 exact⟨v0,F0,rfl,rfl,bS.keep h0 hi (fun k hk=>hg k (by simp[hk]))⟩⟩
instance:Local jZ:=⟨fun h hg=>by
 obtain⟨v0,F0,rfl,rfl,h0⟩:=h
 exact⟨v0,F0,rfl,rfl,Local.keep h0 (fun k hk=>hg k (by simp[hk]))⟩⟩
instance:j4 jZ:=⟨fun h k hk=>by
 obtain⟨v0,F0,rfl,rfl,h0⟩:=h
 exact j4.owns h0 k hk
⟩
instance:kL jZ 2:=⟨fun h=>by
 obtain⟨v0,F0,rfl,rfl,h0⟩:=h
 exact⟨rfl,rfl⟩⟩
instance:jS jZ l7:=⟨fun h hg=>by
 obtain⟨v0,F0,rfl,rfl,h0⟩:=h
 exact⟨v0,rfl,jS.cO h0 (fun k hk=>hg k (by simp[hk]))⟩⟩
instance aLk:dJ Tryz.prog 123 0 0:=⟨dN⟩
instance aLl:dJ Tryz.prog 138 0 0:=⟨dN⟩
instance aLm:dJ Tryz.prog 138 1 1:=⟨dN⟩
instance aar:d_ Tryz.prog 138 true:=⟨iC⟩
theorem afE{a:aJ}{v0:Sv}{F0:List Nat}:Mk jZ F0 (.agg [(.int .i64 a.aD),v0.v].toArray) a [ah (aa 3 (az ax)) F0 v0.v a.Terms]:=
 ⟨fun H h=>⟨v0,F0,rfl,rfl,h (ah (aa 3 (az ax)) F0 v0.v a.Terms) (by simp)⟩,by simp[ah]⟩
instance aMe:dJ Tryz.prog 56 1 1:=⟨dN⟩
instance aOP:dK Tryz.prog 54 1 24 (.slice none 0 0):=⟨jo⟩
instance abr:d_ Tryz.prog 56 true:=⟨iC⟩
instance JQ:d_ Tryz.prog 48 false:=⟨iC⟩
theorem yT:oH Tryz.prog 22:=.inr ⟨3,by kernel_rfl⟩
instance abt:d_ Tryz.prog 42 false:=⟨iC⟩
theorem aya{a:aj}:∀H e,gZ H e a->e.cells.toList[0]?=some (.int .i64 a.aD):=by
 intro H e h
 obtain⟨_,rfl,_⟩:=h
 rfl
theorem ayb{a:aj}:∀H e,gZ H e a-> ∃w:Sv,e.cells.toList[1]?=some w.v/\(ak 3 ax) H w.v a.Values:=by
 intro H e h
 obtain⟨v0,rfl,h0⟩:=h
 exact⟨v0,rfl,h0⟩
theorem ap_:oH Tryz.prog 42:=.inr ⟨164,by kernel_rfl⟩
instance agW:d_ Tryz.prog 45 false:=⟨iC⟩
def akC(a:aS)(p:Sv×Sv):List Value:=[(.int .i64 a.ag.Method),p.1.v,p.2.v,(.int .i64 a.At)]
theorem akD{a:aS}:∀H e,jm H e a-> ∃i:Sv×Sv,0+4<=e.cells.size/\(e.cells.toList.drop 0).take 4=akC a i/\ ∀c∈([aI (ak 3 ax) i.1.v a.ag.Values,aI (ak 164 gZ) i.2.v a.Facts]:List ay),c.P H/\c.F=[]:=by
 intro H e h
 obtain⟨v0,v1,rfl,h0,h1⟩:=h
 refine⟨(v0,v1),aQS rfl,rfl,fun c hc=>by
   simp only[aQ1,aRd,aRQ]at hc
   rcases hc with rfl|rfl
   · exact⟨h0,rfl⟩
   · exact⟨h1,rfl⟩
⟩
theorem NZ:oH Tryz.prog 45:=.inr ⟨201,by kernel_rfl⟩
theorem anx{a:ag}:∀H e,kN H e a->e.cells.toList[0]?=some (.int .i64 a.Method):=by
 intro H e h
 obtain⟨_,rfl,_⟩:=h
 rfl
theorem anz{a:ag}:∀H e,kN H e a-> ∃w:Sv,e.cells.toList[1]?=some w.v/\(ak 3 ax) H w.v a.Values:=by
 intro H e h
 obtain⟨v0,rfl,h0⟩:=h
 exact⟨v0,rfl,h0⟩
theorem N7:oH Tryz.prog 48:=.inr ⟨85,by kernel_rfl⟩
instance aOQ:d_ Tryz.prog 40 false:=⟨iC⟩
instance ap':d_ Tryz.prog 41 false:=⟨iC⟩
theorem aqa:oH Tryz.prog 79:=.inr ⟨22,by kernel_rfl⟩
theorem UW:oH Tryz.prog 32:=.inr ⟨79,by kernel_rfl⟩
theorem amV{a:bO}:∀H e,qy H e a->e.cells.toList[0]?=some (.int .i64 a.From):=by
 intro H e h
 obtain⟨_,rfl,_⟩:=h
 rfl
theorem amW{a:bO}:∀H e,qy H e a->e.cells.toList[1]?=some (.int .i64 a.To):=by
 intro H e h
 obtain⟨_,rfl,_⟩:=h
 rfl
theorem amX{a:bO}:∀H e,qy H e a-> ∃w:Sv,e.cells.toList[2]?=some w.v/\(ak 3 ax) H w.v a.Map:=by
 intro H e h
 obtain⟨v0,rfl,h0⟩:=h
 exact⟨v0,rfl,h0⟩
theorem agX:oH Tryz.prog 41:=.inr ⟨129,by kernel_rfl⟩
def Ie(a:Method)(p:Sv):List Value:=[(.int .i64 a.aD),p.v,(.int .i64 a.Limit),(.int .i64 a.bK),(.int .i64 a.gW)]
theorem Ig{a:Method}:∀H e,iB H e a-> ∃i:Sv,0+5<=e.cells.size/\(e.cells.toList.drop 0).take 5=Ie a i/\ ∀c∈([aI (ak 3 ax) i.v a.bg]:List ay),c.P H/\c.F=[]:=by
 intro H e h
 obtain⟨v0,rfl,h0⟩:=h
 refine⟨v0,aQS rfl,rfl,fun c hc=>by
   simp only[aQ1,aRd,aRQ]at hc
   rcases hc with rfl
   · exact⟨h0,rfl⟩
⟩
theorem aqb:oH Tryz.prog 40:=.inr ⟨127,by kernel_rfl⟩
def akE(a:bO)(p:Sv):List Value:=[(.int .i64 a.From),(.int .i64 a.To),p.v]
theorem akF{a:bO}:∀H e,qy H e a-> ∃i:Sv,0+3<=e.cells.size/\(e.cells.toList.drop 0).take 3=akE a i/\ ∀c∈([aI (ak 3 ax) i.v a.Map]:List ay),c.P H/\c.F=[]:=by
 intro H e h
 obtain⟨v0,rfl,h0⟩:=h
 refine⟨v0,aQS rfl,rfl,fun c hc=>by
   simp only[aQ1,aRd,aRQ]at hc
   rcases hc with rfl
   · exact⟨h0,rfl⟩
⟩
def QL(a:aj)(p:Sv):List Value:=[(.int .i64 a.aD),p.v]
theorem QM{a:aj}:∀H e,gZ H e a-> ∃i:Sv,0+2<=e.cells.size/\(e.cells.toList.drop 0).take 2=QL a i/\ ∀c∈([aI (ak 3 ax) i.v a.Values]:List ay),c.P H/\c.F=[]:=by
 intro H e h
 obtain⟨v0,rfl,h0⟩:=h
 refine⟨v0,aQS rfl,rfl,fun c hc=>by
   simp only[aQ1,aRd,aRQ]at hc
   rcases hc with rfl
   · exact⟨h0,rfl⟩
⟩
theorem ayc{a:Method}:∀H e,iB H e a-> ∃w:Sv,e.cells.toList[1]?=some w.v/\(ak 3 ax) H w.v a.bg:=by
 intro H e h
 obtain⟨v0,rfl,h0⟩:=h
 exact⟨v0,rfl,h0⟩
def avR(a:aS)(p:Sv):List Value:=[(.int .i64 a.ag.Method),p.v]
theorem avS{a:aS}:∀H e,jm H e a-> ∃i:Sv,0+2<=e.cells.size/\(e.cells.toList.drop 0).take 2=avR a i/\ ∀c∈([aI (ak 3 ax) i.v a.ag.Values]:List ay),c.P H/\c.F=[]:=by
 intro H e h
 obtain⟨v0,v1,rfl,h0,h1⟩:=h
 refine⟨v0,aQS rfl,rfl,fun c hc=>by
   simp only[aQ1,aRd,aRQ]at hc
   rcases hc with rfl
   · exact⟨h0,rfl⟩
⟩
def awD(a:ag)(p:Sv):List Value:=[(.int .i64 a.Method),p.v]
theorem awE{a:ag}:∀H e,kN H e a-> ∃i:Sv,0+2<=e.cells.size/\(e.cells.toList.drop 0).take 2=awD a i/\ ∀c∈([aI (ak 3 ax) i.v a.Values]:List ay),c.P H/\c.F=[]:=by
 intro H e h
 obtain⟨v0,rfl,h0⟩:=h
 refine⟨v0,aQS rfl,rfl,fun c hc=>by
   simp only[aQ1,aRd,aRQ]at hc
   rcases hc with rfl
   · exact⟨h0,rfl⟩
⟩
instance aF1:d_ Tryz.prog 54 false:=⟨iC⟩
theorem ayd{a:aJ}:∀H e,l7 H e a-> ∃w:Sv,e.cells.toList[1]?=some w.v/\(ak 3 ax) H w.v a.Terms:=by
 intro H e h
 obtain⟨v0,rfl,h0⟩:=h
 exact⟨v0,rfl,h0⟩
theorem aas{a:Int}:∀F H e,(az ax) F H e a->e.cells.toList[0]?=some (.int .i64 a):=by
 intro F H e h
 obtain⟨-,h⟩:=h
 subst h
 rfl
def Bp(a:aJ)(p:Sv):List Value:=[(.int .i64 a.aD),p.v]
theorem Bq{a:aJ}:∀H e,l7 H e a-> ∃i:Sv,0+2<=e.cells.size/\(e.cells.toList.drop 0).take 2=Bp a i/\ ∀c∈([aI (ak 3 ax) i.v a.Terms]:List ay),c.P H/\c.F=[]:=by
 intro H e h
 obtain⟨v0,rfl,h0⟩:=h
 refine⟨v0,aQS rfl,rfl,fun c hc=>by
   simp only[aQ1,aRd,aRQ]at hc
   rcases hc with rfl
   · exact⟨h0,rfl⟩
⟩
structure Step where
 aJ:Int
 Method:Int
structure qF where
 Query:Query
 Steps:List Step
 bK:Int
instance Dz:dK Tryz.prog 76 4 80 (.agg [(.slice none 0 0),(.slice none 0 0),(.slice none 0 0),(.int .i64 0)].toArray):=⟨jo⟩
instance abu:d_ Tryz.prog 76 true:=⟨iC⟩
def fZ(_:aB)(v:Value)(a:Step):Prop:=v= .agg [(.int .i64 a.aJ),(.int .i64 a.Method)].toArray
instance:Pure fZ:=⟨fun h=>h⟩
instance:Cells fZ 2:=⟨fun h=>by
 subst h
 exact⟨rfl,rfl⟩⟩
instance aCs:iN Tryz.prog 142 56:=⟨qD⟩
def N8(H:aB)(v:Value)(a:Query):Prop:=∃v0 v1:Sv,v= .agg [v0.v,v1.v].toArray/\(ak 3 ax) H v0.v a.a_/\(ak 138 l7) H v1.v a.aL
instance:bz N8:=⟨fun h hi=>by
 obtain⟨v0,v1,h,h0,h1⟩:=h
 exact⟨v0,v1,h,bz.up h0 hi,bz.up h1 hi⟩⟩
instance:Cells N8 2:=⟨fun h=>by
 obtain⟨v0,v1,rfl,h0,h1⟩:=h
 exact⟨rfl,rfl⟩⟩
def xH:b_ Query:=fun F H v a=>∃(v0 v1:Sv)(F0 F1:List Nat),v= .agg [v0.v,v1.v].toArray/\F=(F0++F1)/\(aa 3 (az ax)) F0 H v0.v a.a_/\(aa 138 jZ) F1 H v1.v a.aL
instance:bS xH:=⟨fun h hi hg=>by
 obtain⟨v0,v1,F0,F1,rfl,rfl,h0,h1⟩:=h
 exact⟨v0,v1,F0,F1,rfl,rfl,bS.keep h0 hi (fun k hk=>hg k (by simp[hk])),bS.keep h1 hi (fun k hk=>hg k (by simp[hk]))⟩⟩
instance:Local xH:=⟨fun h hg=>by
 obtain⟨v0,v1,F0,F1,rfl,rfl,h0,h1⟩:=h
 exact⟨v0,v1,F0,F1,rfl,rfl,Local.keep h0 (fun k hk=>hg k (by simp[hk])),Local.keep h1 (fun k hk=>hg k (by simp[hk]))⟩⟩
instance:j4 xH:=⟨fun h k hk=>by
 obtain⟨v0,v1,F0,F1,rfl,rfl,h0,h1⟩:=h
 simp only[aQZ]at hk
 rcases hk with hk|hk
 · exact j4.owns h0 k hk
 · exact j4.owns h1 k hk
⟩
instance:kL xH 2:=⟨fun h=>by
 obtain⟨v0,v1,F0,F1,rfl,rfl,h0,h1⟩:=h
 exact⟨rfl,rfl⟩⟩
instance:jS xH N8:=⟨fun h hg=>by
 obtain⟨v0,v1,F0,F1,rfl,rfl,h0,h1⟩:=h
 exact⟨v0,v1,rfl,jS.cO h0 (fun k hk=>hg k (by simp[hk])),jS.cO h1 (fun k hk=>hg k (by simp[hk]))⟩⟩
structure aN where
 Vars:List Int
 Values:List Int
instance gB:dK Tryz.prog 152 2 48 (.agg [(.slice none 0 0),(.slice none 0 0)].toArray):=⟨jo⟩
theorem aye{a:aJ}:∀H e,l7 H e a->e.cells.toList[0]?=some (.int .i64 a.aD):=by
 intro H e h
 obtain⟨_,rfl,_⟩:=h
 rfl
theorem aF2:oH Tryz.prog 54:=.inr ⟨138,by kernel_rfl⟩
instance vD:d_ Tryz.prog 152 true:=⟨iC⟩
instance aLn:dJ Tryz.prog 152 0 0:=⟨dN⟩
instance aLo:dJ Tryz.prog 152 1 1:=⟨dN⟩
theorem aov{a:aj}{v0:Sv}:Mk (az gZ) [] (.agg [(.int .i64 a.aD),v0.v].toArray) a [aI (ak 3 ax) v0.v a.Values]:=
 ⟨fun H h=>⟨rfl,v0,rfl,h (aI (ak 3 ax) v0.v a.Values) (by simp)⟩,by simp[aI]⟩
instance uw:iN Tryz.prog 153 152:=⟨qD⟩
def sF(H:aB)(v:Value)(a:aN):Prop:=∃v0 v1:Sv,v= .agg [v0.v,v1.v].toArray/\(ak 3 ax) H v0.v a.Vars/\(ak 3 ax) H v1.v a.Values
instance:bz sF:=⟨fun h hi=>by
 obtain⟨v0,v1,h,h0,h1⟩:=h
 exact⟨v0,v1,h,bz.up h0 hi,bz.up h1 hi⟩⟩
instance:Cells sF 2:=⟨fun h=>by
 obtain⟨v0,v1,rfl,h0,h1⟩:=h
 exact⟨rfl,rfl⟩⟩
def j3:b_ aN:=fun F H v a=>∃(v0 v1:Sv)(F0 F1:List Nat),v= .agg [v0.v,v1.v].toArray/\F=(F0++F1)/\(aa 3 (az ax)) F0 H v0.v a.Vars/\(aa 3 (az ax)) F1 H v1.v a.Values
instance:bS j3:=⟨fun h hi hg=>by
 obtain⟨v0,v1,F0,F1,rfl,rfl,h0,h1⟩:=h
 exact⟨v0,v1,F0,F1,rfl,rfl,bS.keep h0 hi (fun k hk=>hg k (by simp[hk])),bS.keep h1 hi (fun k hk=>hg k (by simp[hk]))⟩⟩
instance:Local j3:=⟨fun h hg=>by
 obtain⟨v0,v1,F0,F1,rfl,rfl,h0,h1⟩:=h
 exact⟨v0,v1,F0,F1,rfl,rfl,Local.keep h0 (fun k hk=>hg k (by simp[hk])),Local.keep h1 (fun k hk=>hg k (by simp[hk]))⟩⟩
instance:j4 j3:=⟨fun h k hk=>by
 obtain⟨v0,v1,F0,F1,rfl,rfl,h0,h1⟩:=h
 simp only[aQZ]at hk
 rcases hk with hk|hk
 · exact j4.owns h0 k hk
 · exact j4.owns h1 k hk
⟩
instance:kL j3 2:=⟨fun h=>by
 obtain⟨v0,v1,F0,F1,rfl,rfl,h0,h1⟩:=h
 exact⟨rfl,rfl⟩⟩
instance:jS j3 sF:=⟨fun h hg=>by
 obtain⟨v0,v1,F0,F1,rfl,rfl,h0,h1⟩:=h
 exact⟨v0,v1,rfl,jS.cO h0 (fun k hk=>hg k (by simp[hk])),jS.cO h1 (fun k hk=>hg k (by simp[hk]))⟩⟩
theorem aat{a:aN}{v0 v1:Sv}{F0 F1:List Nat}:Mk j3 (F0++F1) (.agg [v0.v,v1.v].toArray) a [ah (aa 3 (az ax)) F0 v0.v a.Vars,ah (aa 3 (az ax)) F1 v1.v a.Values]:=
 ⟨fun H h=>⟨v0,v1,F0,F1,rfl,rfl,h (ah (aa 3 (az ax)) F0 v0.v a.Vars) (by simp),h (ah (aa 3 (az ax)) F1 v1.v a.Values) (by simp)⟩,by simp[ah]⟩
def L6(a:aN)(p:Sv×Sv):List Value:=[p.1.v,p.2.v]
theorem L8{a:aN}:∀H e,sF H e a-> ∃i:Sv×Sv,0+2<=e.cells.size/\(e.cells.toList.drop 0).take 2=L6 a i/\ ∀c∈([aI (ak 3 ax) i.1.v a.Vars,aI (ak 3 ax) i.2.v a.Values]:List ay),c.P H/\c.F=[]:=by
 intro H e h
 obtain⟨v0,v1,rfl,h0,h1⟩:=h
 refine⟨(v0,v1),aQS rfl,rfl,fun c hc=>by
   simp only[aQ1,aRd,aRQ]at hc
   rcases hc with rfl|rfl
   · exact⟨h0,rfl⟩
   · exact⟨h1,rfl⟩
⟩
theorem NG:oH Tryz.prog 153:=.inr ⟨152,by kernel_rfl⟩
theorem aqc{a:Query}{v0 v1:Sv}{F0 F1:List Nat}:Mk xH (F0++F1) (.agg [v0.v,v1.v].toArray) a [ah (aa 3 (az ax)) F0 v0.v a.a_,ah (aa 138 jZ) F1 v1.v a.aL]:=
 ⟨fun H h=>⟨v0,v1,F0,F1,rfl,rfl,h (ah (aa 3 (az ax)) F0 v0.v a.a_) (by simp),h (ah (aa 138 jZ) F1 v1.v a.aL) (by simp)⟩,by simp[ah]⟩
theorem aCt:oH Tryz.prog 142:=.inr ⟨56,by kernel_rfl⟩
def Zz(a:Query)(p:Sv×Sv):List Value:=[p.1.v,p.2.v]
theorem ZA{a:Query}:∀H e,N8 H e a-> ∃i:Sv×Sv,0+2<=e.cells.size/\(e.cells.toList.drop 0).take 2=Zz a i/\ ∀c∈([aI (ak 3 ax) i.1.v a.a_,aI (ak 138 l7) i.2.v a.aL]:List ay),c.P H/\c.F=[]:=by
 intro H e h
 obtain⟨v0,v1,rfl,h0,h1⟩:=h
 refine⟨(v0,v1),aQS rfl,rfl,fun c hc=>by
   simp only[aQ1,aRd,aRQ]at hc
   rcases hc with rfl|rfl
   · exact⟨h0,rfl⟩
   · exact⟨h1,rfl⟩
⟩
instance sM:iN Tryz.prog 74 155:=⟨qD⟩
instance vE:dK Tryz.prog 155 2 16 (.agg [(.int .i64 0),(.int .i64 0)].toArray):=⟨jo⟩
theorem aow{a:Method}{v0:Sv}:Mk (az iB) [] (.agg [(.int .i64 a.aD),v0.v,(.int .i64 a.Limit),(.int .i64 a.bK),(.int .i64 a.gW)].toArray) a [aI (ak 3 ax) v0.v a.bg]:=
 ⟨fun H h=>⟨rfl,v0,rfl,h (aI (ak 3 ax) v0.v a.bg) (by simp)⟩,by simp[aI]⟩
instance aLp:dJ Tryz.prog 155 1 1:=⟨dN⟩
theorem aev{a:Step}:∀H e,fZ H e a->e.cells.toList[1]?=some (.int .i64 a.Method):=by
 intro H e h
 subst h
 rfl
theorem ayf{a:Method}:∀H e,iB H e a->e.cells.toList[3]?=some (.int .i64 a.bK):=by
 intro H e h
 obtain⟨_,rfl,_⟩:=h
 rfl
theorem UX:oH Tryz.prog 74:=.inr ⟨155,by kernel_rfl⟩
instance aLq:dJ Tryz.prog 155 0 0:=⟨dN⟩
theorem aew{a:Step}:∀H e,fZ H e a->e.cells.toList[0]?=some (.int .i64 a.aJ):=by
 intro H e h
 subst h
 rfl
instance aMf:dJ Tryz.prog 76 2 3:=⟨dN⟩
instance aMg:dJ Tryz.prog 76 0 0:=⟨dN⟩
instance aMh:dJ Tryz.prog 76 1 2:=⟨dN⟩
instance UY:d_ Tryz.prog 74 false:=⟨iC⟩
structure Run where
 nN:List (List Int)
 bD:List ag
 rP:List aj
 bK:Int
instance Ay:dK Tryz.prog 81 4 80 (.agg [(.slice none 0 0),(.slice none 0 0),(.slice none 0 0),(.int .i64 0)].toArray):=⟨jo⟩
theorem ayg{a:Method}:∀H e,iB H e a->e.cells.toList[2]?=some (.int .i64 a.Limit):=by
 intro H e h
 obtain⟨_,rfl,_⟩:=h
 rfl
instance UZ:d_ Tryz.prog 81 true:=⟨iC⟩
instance aMi:dJ Tryz.prog 81 0 0:=⟨dN⟩
instance aMj:dJ Tryz.prog 81 1 1:=⟨dN⟩
instance aMk:dJ Tryz.prog 81 3 3:=⟨dN⟩
theorem ayh{a:Method}:∀H e,iB H e a->e.cells.toList[0]?=some (.int .i64 a.aD):=by
 intro H e h
 obtain⟨_,rfl,_⟩:=h
 rfl
theorem ayi{a:aS}:∀H e,jm H e a-> ∃w:Sv,e.cells.toList[2]?=some w.v/\(ak 164 gZ) H w.v a.Facts:=by
 intro H e h
 obtain⟨v0,v1,rfl,h0,h1⟩:=h
 exact⟨v1,rfl,h1⟩
theorem abv{a:ag}{v0:Sv}:Mk (az kN) [] (.agg [(.int .i64 a.Method),v0.v].toArray) a [aI (ak 3 ax) v0.v a.Values]:=
 ⟨fun H h=>⟨rfl,v0,rfl,h (aI (ak 3 ax) v0.v a.Values) (by simp)⟩,by simp[aI]⟩
theorem aau{a:aS}{v0 v1:Sv}:Mk (az jm) [] (.agg [(.int .i64 a.ag.Method),v0.v,v1.v,(.int .i64 a.At)].toArray) a [aI (ak 3 ax) v0.v a.ag.Values,aI (ak 164 gZ) v1.v a.Facts]:=
 ⟨fun H h=>⟨rfl,v0,v1,rfl,h (aI (ak 3 ax) v0.v a.ag.Values) (by simp),h (aI (ak 164 gZ) v1.v a.Facts) (by simp)⟩,by simp[aI]⟩
theorem Jp{a:aN}{v0 v1:Sv}:Mk (az sF) [] (.agg [v0.v,v1.v].toArray) a [aI (ak 3 ax) v0.v a.Vars,aI (ak 3 ax) v1.v a.Values]:=
 ⟨fun H h=>⟨rfl,v0,v1,rfl,h (aI (ak 3 ax) v0.v a.Vars) (by simp),h (aI (ak 3 ax) v1.v a.Values) (by simp)⟩,by simp[aI]⟩
instance aMl:dJ Tryz.prog 81 2 2:=⟨dN⟩
def avh:Go.Shelf.Ren:=⟨fun|189=>312|125=>321|257=>320|128=>332|129=>333|294=>324|295=>325|296=>326|297=>327|298=>328|299=>329|216=>238|300=>330|301=>331|328=>335|329=>336|330=>337|331=>338|332=>339|215=>274|343=>340|n=>n,fun|28=>22|3=>3|46=>293|0=>0|51=>304|53=>306|4=>4|183=>297|182=>296|131=>301|5=>5|9=>9|218=>308|222=>312|228=>314|229=>315|n=>n,fun|n=>n⟩
theorem amY:Go.Proofs.Lays.n189 Tryz.prog avh:={
 mixed:=by kernel_rfl
 f125:=Tryz.func321.trans (aRJ some (by kernel_rfl))
 f128:=Tryz.func332.trans (aRJ some (by kernel_rfl))
 f129:=Tryz.func333.trans (aRJ some (by kernel_rfl))
 f189:=Tryz.func312.trans (aRJ some (by kernel_rfl))
 f215:=Tryz.func274.trans (aRJ some (by kernel_rfl))
 f216:=Tryz.func238.trans (aRJ some (by kernel_rfl))
 f257:=Tryz.func320.trans (aRJ some (by kernel_rfl))
 f294:=Tryz.func324.trans (aRJ some (by kernel_rfl))
 f295:=Tryz.func325.trans (aRJ some (by kernel_rfl))
 f296:=Tryz.func326.trans (aRJ some (by kernel_rfl))
 f297:=Tryz.func327.trans (aRJ some (by kernel_rfl))
 f298:=Tryz.func328.trans (aRJ some (by kernel_rfl))
 f299:=Tryz.func329.trans (aRJ some (by kernel_rfl))
 f300:=Tryz.func330.trans (aRJ some (by kernel_rfl))
 f301:=Tryz.func331.trans (aRJ some (by kernel_rfl))
 f328:=Tryz.func335.trans (aRJ some (by kernel_rfl))
 f329:=Tryz.func336.trans (aRJ some (by kernel_rfl))
 f330:=Tryz.func337.trans (aRJ some (by kernel_rfl))
 f331:=Tryz.func338.trans (aRJ some (by kernel_rfl))
 f332:=Tryz.func339.trans (aRJ some (by kernel_rfl))
 f343:=Tryz.func340.trans (aRJ some (by kernel_rfl))
 t0:=Tryz.underlying0
 a0:=Tryz.isAgg0
 z0:=Tryz.sizeOf0
 v0:=Tryz.zeroValue0
 t3:=Tryz.underlying3
 a3:=Tryz.isAgg3
 z3:=Tryz.sizeOf3
 v3:=Tryz.zeroValue3
 t4:=Tryz.underlying4
 a4:=Tryz.isAgg4
 z4:=Tryz.sizeOf4
 v4:=Tryz.zeroValue4
 t5:=Tryz.underlying5
 a5:=Tryz.isAgg5
 z5:=Tryz.sizeOf5
 v5:=Tryz.zeroValue5
 t9:=Tryz.underlying9
 a9:=Tryz.isAgg9
 z9:=Tryz.sizeOf9
 v9:=Tryz.zeroValue9
 t28:=Tryz.underlying22
 a28:=Tryz.isAgg22
 z28:=Tryz.sizeOf22
 v28:=Tryz.zeroValue22
 t46:=Tryz.underlying293
 a46:=Tryz.isAgg293
 z46:=Tryz.sizeOf293
 v46:=Tryz.zeroValue293
 t51:=Tryz.underlying304
 a51:=Tryz.isAgg304
 z51:=Tryz.sizeOf304
 v51:=Tryz.zeroValue304
 t53:=Tryz.underlying306
 a53:=Tryz.isAgg306
 z53:=Tryz.sizeOf306
 v53:=Tryz.zeroValue306
 t131:=Tryz.underlying301
 a131:=Tryz.isAgg301
 z131:=Tryz.sizeOf301
 v131:=Tryz.zeroValue301
 t182:=Tryz.underlying296
 a182:=Tryz.isAgg296
 z182:=Tryz.sizeOf296
 v182:=Tryz.zeroValue296
 t183:=Tryz.underlying297
 a183:=Tryz.isAgg297
 z183:=Tryz.sizeOf297
 v183:=Tryz.zeroValue297
 t218:=Tryz.underlying308
 a218:=Tryz.isAgg308
 z218:=Tryz.sizeOf308
 v218:=Tryz.zeroValue308
 t222:=Tryz.underlying312
 a222:=Tryz.isAgg312
 z222:=Tryz.sizeOf312
 v222:=Tryz.zeroValue312
 t228:=Tryz.underlying314
 a228:=Tryz.isAgg314
 z228:=Tryz.sizeOf314
 v228:=Tryz.zeroValue314
 t229:=Tryz.underlying315
 a229:=Tryz.isAgg315
 z229:=Tryz.sizeOf315
 v229:=Tryz.zeroValue315}
def auy:Go.Shelf.Ren:=⟨fun|20=>313|n=>n,fun|22=>22|3=>3|4=>4|0=>0|n=>n,fun|n=>n⟩
theorem amb:Go.Proofs.Lays2.n20 Tryz.prog auy:={
 mixed:=by kernel_rfl
 f20:=Tryz.func313.trans (aRJ some (by kernel_rfl))
 t0:=Tryz.underlying0
 a0:=Tryz.isAgg0
 z0:=Tryz.sizeOf0
 v0:=Tryz.zeroValue0
 t3:=Tryz.underlying3
 a3:=Tryz.isAgg3
 z3:=Tryz.sizeOf3
 v3:=Tryz.zeroValue3
 t4:=Tryz.underlying4
 a4:=Tryz.isAgg4
 z4:=Tryz.sizeOf4
 v4:=Tryz.zeroValue4
 t22:=Tryz.underlying22
 a22:=Tryz.isAgg22
 z22:=Tryz.sizeOf22
 v22:=Tryz.zeroValue22
 i3:=by kernel_rfl}
theorem axh{a:Method}{d:Int}:∀F H e,(az iB) F H e a->(az iB) F H (lW e 0 (Value.cells (.int .i64 d)).toList) {a with aD:=d}:=by
 intro F H e h
 obtain⟨rfl,v0,rfl,h0⟩:=h
 exact⟨rfl,v0,rfl,h0⟩
theorem awF{a:Method}:∀F H e,(az iB) F H e a->0+1<=e.cells.size:=by
 intro F H e h
 obtain⟨rfl,v0,rfl,h0⟩:=h
 exact aQS rfl
theorem We:IK Tryz.prog 3 .i64:=by unfold IK; kernel_rfl
theorem azG:∀args w,(callFunc 304 args).run Tryz.prog w=((Extern.SlicesOverlaps.overlaps #[42,42] #[4] args).run Tryz.prog w).andThen fun v w'=>.ok (.value v) w':=fun args w=>run_callFunc_extern Tryz.func304 (by kernel_rfl) (by kernel_rfl) (by kernel_rfl) (e:=Extern.SlicesOverlaps.overlaps #[42,42] #[4]) (by kernel_rfl) args w
structure finder where
 l:List Method
 atoms:List aJ
 steps:List Step
 oK:List Step
 cost:Int
instance aCu:dK Tryz.prog 180 5 104 (.agg [(.slice none 0 0),(.slice none 0 0),(.slice none 0 0),(.slice none 0 0),(.int .i64 0)].toArray):=⟨jo⟩
instance NH:iN Tryz.prog 182 4:=⟨qD⟩
instance Ee:dK Tryz.prog 4 1 1 (.bool false):=⟨jo⟩
instance aLr:dJ Tryz.prog 180 2 2:=⟨dN⟩
instance aLs:dJ Tryz.prog 180 1 1:=⟨dN⟩
instance aLt:dJ Tryz.prog 180 3 3:=⟨dN⟩
instance aLu:dJ Tryz.prog 180 4 4:=⟨dN⟩
instance aF3:dK Tryz.prog 74 1 24 (.slice none 0 0):=⟨jo⟩
instance aLv:dJ Tryz.prog 180 0 0:=⟨dN⟩
instance ag4:d_ Tryz.prog 4 false:=⟨iC⟩
theorem aox{a:Bool}:∀F H e,(az rdBool) F H e a->e.cells.toList[0]?=some (.bool a):=by
 intro F H e h
 obtain⟨-,h⟩:=h
 subst h
 rfl
def akG(a:Step)(_:Unit):List Value:=[(.int .i64 a.aJ),(.int .i64 a.Method)]
theorem akH{a:Step}:∀H e,fZ H e a-> ∃i:Unit,0+2<=e.cells.size/\(e.cells.toList.drop 0).take 2=akG a i/\ ∀c∈([]:List ay),c.P H/\c.F=[]:=by
 intro H e h
 subst h
 refine⟨(),aQS rfl,rfl,fun c hc=>by simp at hc⟩
instance aMP:d_ Tryz.prog 155 true:=⟨iC⟩
instance aMQ:dK Tryz.prog 184 1 8 (.pointer none):=⟨jo⟩
def pX(Hn:aB):b_ ag:=fun F H v a=>∃(v0:Sv)(F0:List Nat),v= .agg [(.int .i64 a.Method),v0.v].toArray/\F0=F/\vM Hn 3 ax F0 H v0.v a.Values
instance{Hn:aB}:bS (pX Hn):=⟨fun h hi hg=>by
 obtain⟨v0,F0,rfl,rfl,h0⟩:=h
 exact⟨v0,F0,rfl,rfl,bS.keep h0 hi hg⟩⟩
instance{Hn:aB}:kL (pX Hn) 2:=⟨fun h=>by
 obtain⟨v0,F0,rfl,rfl,h0⟩:=h
 exact⟨rfl,rfl⟩⟩
instance:Ed pX ji:=⟨fun h hG=>by
 obtain⟨v0,F0,rfl,rfl,h0⟩:=h
 exact⟨v0,F0,rfl,rfl,Ed.mh (RF:=fun Hn=>vM Hn 3 ax) h0 hG⟩,fun h k hk c hc=>by
 obtain⟨v0,F0,rfl,rfl,h0⟩:=h
 exact Ed.V5 (RF:=fun Hn=>vM Hn 3 ax) (Ro:=aa 3 (az ax)) h0 k hk c hc⟩
instance:Oq ji pX:=⟨fun h hG=>by
 obtain⟨v0,F0,rfl,rfl,h0⟩:=h
 exact⟨v0,F0,rfl,rfl,Oq.V6 (RF:=fun Hn=>vM Hn 3 ax) h0 hG⟩⟩
theorem aCv{Hn:aB}{a:ag}{v0:Sv}{F0:List Nat}:Mk (pX Hn) F0 (.agg [(.int .i64 a.Method),v0.v].toArray) a [ah (vM Hn 3 ax) F0 v0.v a.Values]:=
 ⟨fun H h=>⟨v0,F0,rfl,rfl,h (ah (vM Hn 3 ax) F0 v0.v a.Values) (by simp)⟩,by simp[foot,ah]⟩
theorem azH:∀args w,(callFunc 317 args).run Tryz.prog w=((Extern.SlicesOverlaps.overlaps #[79,79] #[4] args).run Tryz.prog w).andThen fun v w'=>.ok (.value v) w':=fun args w=>run_callFunc_extern Tryz.func317 (by kernel_rfl) (by kernel_rfl) (by kernel_rfl) (e:=Extern.SlicesOverlaps.overlaps #[79,79] #[4]) (by kernel_rfl) args w
instance aMR:d_ Tryz.prog 184 false:=⟨iC⟩
theorem azI:∀args w,(callFunc 294 args).run Tryz.prog w=((Extern.SlicesOverlaps.overlaps #[45,45] #[4] args).run Tryz.prog w).andThen fun v w'=>.ok (.value v) w':=fun args w=>run_callFunc_extern Tryz.func294 (by kernel_rfl) (by kernel_rfl) (by kernel_rfl) (e:=Extern.SlicesOverlaps.overlaps #[45,45] #[4]) (by kernel_rfl) args w
theorem aF4{a:ag}:Un ji a (fun p:Sv×List Nat=>.agg [(.int .i64 a.Method),p.1.v].toArray) (fun p=>[ah (aa 3 (az ax)) p.2 p.1.v a.Values]):=⟨fun F H e h=>by
 obtain⟨v0,F0,rfl,rfl,h0⟩:=h
 refine⟨(v0,F0),rfl,fun c hc=>?_,by simp[foot,ah]⟩
 simp only[aQ1,aRd,aRQ]at hc
 rcases hc with rfl
 · exact h0⟩
theorem ayj{a:Method}{d:Int}:∀F H e,iT F H e a->iT F H (lW e 0 (Value.cells (.int .i64 d)).toList) {a with aD:=d}:=by
 intro F H e h
 obtain⟨v0,F0,rfl,rfl,h0⟩:=h
 exact⟨v0,F0,rfl,rfl,h0⟩
theorem axi{a:Method}:∀F H e,iT F H e a->0+1<=e.cells.size:=by
 intro F H e h
 obtain⟨v0,F0,rfl,rfl,h0⟩:=h
 exact aQS rfl
theorem amZ:Part iT 1 (aa 3 (az ax)) (fun a:Method=>a.bg) (fun a d=>{a with bg:=d}):=⟨fun{F H e a} h=>by
 obtain⟨v0,F0,rfl,rfl,h0⟩:=h
 exact⟨v0,[],F0,[],rfl,by simp,h0,fun hi hk h'=>⟨v0,_,rfl,by simp,h'⟩⟩⟩
theorem ayk{a:Method}{d:Int}:∀F H e,iT F H e a->iT F H (lW e 2 (Value.cells (.int .i64 d)).toList) {a with Limit:=d}:=by
 intro F H e h
 obtain⟨v0,F0,rfl,rfl,h0⟩:=h
 exact⟨v0,F0,rfl,rfl,h0⟩
theorem axj{a:Method}:∀F H e,iT F H e a->2+1<=e.cells.size:=by
 intro F H e h
 obtain⟨v0,F0,rfl,rfl,h0⟩:=h
 exact aQS rfl
theorem ayl{a:Method}{d:Int}:∀F H e,iT F H e a->iT F H (lW e 3 (Value.cells (.int .i64 d)).toList) {a with bK:=d}:=by
 intro F H e h
 obtain⟨v0,F0,rfl,rfl,h0⟩:=h
 exact⟨v0,F0,rfl,rfl,h0⟩
theorem axk{a:Method}:∀F H e,iT F H e a->3+1<=e.cells.size:=by
 intro F H e h
 obtain⟨v0,F0,rfl,rfl,h0⟩:=h
 exact aQS rfl
theorem aym{a:Method}{d:Int}:∀F H e,iT F H e a->iT F H (lW e 4 (Value.cells (.int .i64 d)).toList) {a with gW:=d}:=by
 intro F H e h
 obtain⟨v0,F0,rfl,rfl,h0⟩:=h
 exact⟨v0,F0,rfl,rfl,h0⟩
theorem axl{a:Method}:∀F H e,iT F H e a->4+1<=e.cells.size:=by
 intro F H e h
 obtain⟨v0,F0,rfl,rfl,h0⟩:=h
 exact aQS rfl
theorem ayn{a:bO}{d:Int}:∀F H e,jX F H e a->jX F H (lW e 0 (Value.cells (.int .i64 d)).toList) {a with From:=d}:=by
 intro F H e h
 obtain⟨v0,F0,rfl,rfl,h0⟩:=h
 exact⟨v0,F0,rfl,rfl,h0⟩
theorem axm{a:bO}:∀F H e,jX F H e a->0+1<=e.cells.size:=by
 intro F H e h
 obtain⟨v0,F0,rfl,rfl,h0⟩:=h
 exact aQS rfl
theorem ayo{a:bO}{d:Int}:∀F H e,jX F H e a->jX F H (lW e 1 (Value.cells (.int .i64 d)).toList) {a with To:=d}:=by
 intro F H e h
 obtain⟨v0,F0,rfl,rfl,h0⟩:=h
 exact⟨v0,F0,rfl,rfl,h0⟩
theorem axn{a:bO}:∀F H e,jX F H e a->1+1<=e.cells.size:=by
 intro F H e h
 obtain⟨v0,F0,rfl,rfl,h0⟩:=h
 exact aQS rfl
theorem am0:Part jX 2 (aa 3 (az ax)) (fun a:bO=>a.Map) (fun a d=>{a with Map:=d}):=⟨fun{F H e a} h=>by
 obtain⟨v0,F0,rfl,rfl,h0⟩:=h
 exact⟨v0,[],F0,[],rfl,by simp,h0,fun hi hk h'=>⟨v0,_,rfl,by simp,h'⟩⟩⟩
theorem ayp{a:aj}{d:Int}:∀F H e,dV F H e a->dV F H (lW e 0 (Value.cells (.int .i64 d)).toList) {a with aD:=d}:=by
 intro F H e h
 obtain⟨v0,F0,rfl,rfl,h0⟩:=h
 exact⟨v0,F0,rfl,rfl,h0⟩
theorem axo{a:aj}:∀F H e,dV F H e a->0+1<=e.cells.size:=by
 intro F H e h
 obtain⟨v0,F0,rfl,rfl,h0⟩:=h
 exact aQS rfl
theorem am1:Part dV 1 (aa 3 (az ax)) (fun a:aj=>a.Values) (fun a d=>{a with Values:=d}):=⟨fun{F H e a} h=>by
 obtain⟨v0,F0,rfl,rfl,h0⟩:=h
 exact⟨v0,[],F0,[],rfl,by simp,h0,fun hi hk h'=>⟨v0,_,rfl,by simp,h'⟩⟩⟩
theorem ayq{a:aS}{d:Int}:∀F H e,g_ F H e a->g_ F H (lW e 0 (Value.cells (.int .i64 d)).toList) {a with ag:={a.ag with Method:=d}}:=by
 intro F H e h
 obtain⟨v0,v1,F0,F1,rfl,rfl,h0,h1⟩:=h
 exact⟨v0,v1,F0,F1,rfl,rfl,h0,h1⟩
theorem axp{a:aS}:∀F H e,g_ F H e a->0+1<=e.cells.size:=by
 intro F H e h
 obtain⟨v0,v1,F0,F1,rfl,rfl,h0,h1⟩:=h
 exact aQS rfl
theorem am2:Part g_ 1 (aa 3 (az ax)) (fun a:aS=>a.ag.Values) (fun a d=>{a with ag:={a.ag with Values:=d}}):=⟨fun{F H e a} h=>by
 obtain⟨v0,v1,F0,F1,rfl,rfl,h0,h1⟩:=h
 exact⟨v0,[],F0,F1,rfl,by simp,h0,fun hi hk h'=>⟨v0,v1,_,F1,rfl,by simp,h',bS.keep h1 hi (fun k hm=>hk k (by simp[hm]))⟩⟩⟩
theorem am3:Part g_ 2 (aa 164 dV) (fun a:aS=>a.Facts) (fun a d=>{a with Facts:=d}):=⟨fun{F H e a} h=>by
 obtain⟨v0,v1,F0,F1,rfl,rfl,h0,h1⟩:=h
 exact⟨v1,F0,F1,[],rfl,by simp,h1,fun hi hk h'=>⟨v0,v1,F0,_,rfl,by simp,bS.keep h0 hi (fun k hm=>hk k (by simp[hm])),h'⟩⟩⟩
theorem ayr{a:aS}{d:Int}:∀F H e,g_ F H e a->g_ F H (lW e 3 (Value.cells (.int .i64 d)).toList) {a with At:=d}:=by
 intro F H e h
 obtain⟨v0,v1,F0,F1,rfl,rfl,h0,h1⟩:=h
 exact⟨v0,v1,F0,F1,rfl,rfl,h0,h1⟩
theorem axq{a:aS}:∀F H e,g_ F H e a->3+1<=e.cells.size:=by
 intro F H e h
 obtain⟨v0,v1,F0,F1,rfl,rfl,h0,h1⟩:=h
 exact aQS rfl
theorem azJ{a:ag}{d:Int}:∀F H e,ji F H e a->ji F H (lW e 0 (Value.cells (.int .i64 d)).toList) {a with Method:=d}:=by
 intro F H e h
 obtain⟨v0,F0,rfl,rfl,h0⟩:=h
 exact⟨v0,F0,rfl,rfl,h0⟩
theorem ays{a:ag}:∀F H e,ji F H e a->0+1<=e.cells.size:=by
 intro F H e h
 obtain⟨v0,F0,rfl,rfl,h0⟩:=h
 exact aQS rfl
theorem anA:Part ji 1 (aa 3 (az ax)) (fun a:ag=>a.Values) (fun a d=>{a with Values:=d}):=⟨fun{F H e a} h=>by
 obtain⟨v0,F0,rfl,rfl,h0⟩:=h
 exact⟨v0,[],F0,[],rfl,by simp,h0,fun hi hk h'=>⟨v0,_,rfl,by simp,h'⟩⟩⟩
theorem anB:Part (aa 22 (aa 3 (az ax))) 0 (aa 22 (aa 3 (az ax))) (fun a=>a) (fun _ b=>b):=Part.self (fun h=>by obtain⟨a,m,rfl⟩:=aa.len h; exact⟨⟨a,_,m⟩,rfl⟩)
theorem anC:Part (aa 3 (az ax)) 0 (aa 3 (az ax)) (fun a=>a) (fun _ b=>b):=Part.self (fun h=>by obtain⟨a,m,rfl⟩:=aa.len h; exact⟨⟨a,_,m⟩,rfl⟩)
theorem ayt{a:aJ}{d:Int}:∀F H e,jZ F H e a->jZ F H (lW e 0 (Value.cells (.int .i64 d)).toList) {a with aD:=d}:=by
 intro F H e h
 obtain⟨v0,F0,rfl,rfl,h0⟩:=h
 exact⟨v0,F0,rfl,rfl,h0⟩
theorem axr{a:aJ}:∀F H e,jZ F H e a->0+1<=e.cells.size:=by
 intro F H e h
 obtain⟨v0,F0,rfl,rfl,h0⟩:=h
 exact aQS rfl
theorem am4:Part jZ 1 (aa 3 (az ax)) (fun a:aJ=>a.Terms) (fun a d=>{a with Terms:=d}):=⟨fun{F H e a} h=>by
 obtain⟨v0,F0,rfl,rfl,h0⟩:=h
 exact⟨v0,[],F0,[],rfl,by simp,h0,fun hi hk h'=>⟨v0,_,rfl,by simp,h'⟩⟩⟩
theorem ayu{a:Method}:∀H e,iB H e a->e.cells.toList[4]?=some (.int .i64 a.gW):=by
 intro H e h
 obtain⟨_,rfl,_⟩:=h
 rfl
theorem ayv{a:aS}:∀H e,jm H e a->e.cells.toList[0]?=some (.int .i64 a.ag.Method):=by
 intro H e h
 obtain⟨_,_,rfl,_,_⟩:=h
 rfl
theorem ayw{a:aS}:∀H e,jm H e a-> ∃w:Sv,e.cells.toList[1]?=some w.v/\(ak 3 ax) H w.v a.ag.Values:=by
 intro H e h
 obtain⟨v0,v1,rfl,h0,h1⟩:=h
 exact⟨v0,rfl,h0⟩
theorem ayx{a:aS}:∀H e,jm H e a->e.cells.toList[3]?=some (.int .i64 a.At):=by
 intro H e h
 obtain⟨_,_,rfl,_,_⟩:=h
 rfl
def abw(H:aB)(v:Value)(a:bU):Prop:=∃v0 v1 v2 v3 v4 v5 v6 v7:Sv,v= .agg [v0.v,v1.v,v2.v,v3.v,(.int .i64 a.Source.Version),v4.v,(.int .i64 a.Cache.Age),(.int .i64 a.Now),v5.v,v6.v,(.int .i64 a.bI),v7.v].toArray/\(ak 3 ax) H v0.v a.bA/\(ak 112 CV) H v1.v a.Methods/\(ak 115 CX) H v2.v a.bV/\(ak 195 uu) H v3.v a.Source.Facts/\(ak 198 yK) H v4.v a.Cache.Entries/\(ak 119 CY) H v5.v a.bD/\(ak 3 ax) H v6.v a.dh/\(ak 79 (ak 22 (ak 3 ax))) H v7.v a.bX
instance:bz abw:=⟨fun h hi=>by
 obtain⟨v0,v1,v2,v3,v4,v5,v6,v7,h,h0,h1,h2,h3,h4,h5,h6,h7⟩:=h
 exact⟨v0,v1,v2,v3,v4,v5,v6,v7,h,bz.up h0 hi,bz.up h1 hi,bz.up h2 hi,bz.up h3 hi,bz.up h4 hi,bz.up h5 hi,bz.up h6 hi,bz.up h7 hi⟩⟩
instance:Cells abw 12:=⟨fun h=>by
 obtain⟨v0,v1,v2,v3,v4,v5,v6,v7,rfl,h0,h1,h2,h3,h4,h5,h6,h7⟩:=h
 exact⟨rfl,rfl⟩⟩
theorem am5:fieldAt Tryz.prog 112 0=some (3,0,1):=by kernel_rfl
theorem ayy:fieldAt Tryz.prog 112 1=some (22,1,1):=by kernel_rfl
theorem ayz:fieldAt Tryz.prog 112 2=some (3,2,1):=by kernel_rfl
theorem ayA:fieldAt Tryz.prog 112 3=some (3,3,1):=by kernel_rfl
theorem ayB:fieldAt Tryz.prog 112 4=some (3,4,1):=by kernel_rfl
def aav(a:Method):Prop:=l5 a.aD/\(jN l5) a.bg/\l5 a.Limit/\l5 a.bK/\l5 a.gW
theorem aCw:eT Tryz.prog 112 CV aav:=by
 intro T enc w fuel cs x h hw ρ H hr hF
 have hl:=zU am5 h (n:=5) aCk.h.sz.cells
 obtain⟨ρ0,H0,uO,a0,r0,f0,u0,i0,v0,q0,w0⟩:=j_ am5 h hw (eT.int (by kernel_rfl)) hr hF
 obtain⟨ρ1,H1,wM,a1,r1,f1,u1,i1,v1,q1,w1⟩:=j_ ayy h hw (eT.slice (s:=1) (by kernel_rfl) (by kernel_rfl) (by decide) (aQ2 (by decide) (aRe (show 8=_ from by kernel_rfl))) (eT.int (by kernel_rfl))) r0 f0
 obtain⟨ρ2,H2,Wh,a2,r2,f2,u2,i2,v2,q2,w2⟩:=j_ ayz h hw (eT.int (by kernel_rfl)) r1 f1
 obtain⟨ρ3,H3,av3,a3,r3,f3,u3,i3,v3,q3,w3⟩:=j_ ayA h hw (eT.int (by kernel_rfl)) r2 f2
 obtain⟨ρ4,H4,av4,a4,r4,f4,u4,i4,v4,q4,w4⟩:=j_ ayB h hw (eT.int (by kernel_rfl)) r3 f3
 obtain rfl:uO=(.int .i64 a0):=q0
 replace v0:=v0.up (((u1.trans u2).trans u3).trans u4)
 obtain⟨sa1,qf,rfl⟩:=ak.len q1
 replace v1:=v1.one rfl
 replace v1:=v1.up ((u2.trans u3).trans u4)
 obtain rfl:Wh=(.int .i64 a2):=q2
 replace v2:=v2.up (u3.trans u4)
 obtain rfl:av3=(.int .i64 a3):=q3
 replace v3:=v3.up u4
 obtain rfl:av4=(.int .i64 a4):=q4
 have hv:=bn.field (o:=0) v0 (bn.field (o:=1) v1 (bn.field (o:=2) v2 (bn.field (o:=3) v3 (bn.field (o:=4) v4 (bn.end hl)))))
 rw[aRl]at hv
 refine⟨ρ4,H4,(.agg [(.int .i64 a0),(.slice sa1 a1.length qf),(.int .i64 a2),(.int .i64 a3),(.int .i64 a4)].toArray:Value),({aD:=a0,bg:=a1,Limit:=a2,bK:=a3,gW:=a4}:Method),r4,f4,((((u0.trans u1).trans u2).trans u3).trans u4),((((i0.trans i1).trans i2).trans i3).trans i4),?_,?_,w0,w1,w2,w3,w4⟩
 · exact hv
 · exact⟨⟨sa1,_,qf⟩,rfl,(bz.up q1 ((i2.trans i3).trans i4))⟩
theorem am6:fieldAt Tryz.prog 115 0=some (3,0,1):=by kernel_rfl
theorem ayC:fieldAt Tryz.prog 115 1=some (3,1,1):=by kernel_rfl
theorem ayD:fieldAt Tryz.prog 115 2=some (22,2,1):=by kernel_rfl
def aaw(a:bO):Prop:=l5 a.From/\l5 a.To/\(jN l5) a.Map
theorem aCx:eT Tryz.prog 115 CX aaw:=by
 intro T enc w fuel cs x h hw ρ H hr hF
 have hl:=zU am6 h (n:=3) aCl.h.sz.cells
 obtain⟨ρ0,H0,uO,a0,r0,f0,u0,i0,v0,q0,w0⟩:=j_ am6 h hw (eT.int (by kernel_rfl)) hr hF
 obtain⟨ρ1,H1,wM,a1,r1,f1,u1,i1,v1,q1,w1⟩:=j_ ayC h hw (eT.int (by kernel_rfl)) r0 f0
 obtain⟨ρ2,H2,Wh,a2,r2,f2,u2,i2,v2,q2,w2⟩:=j_ ayD h hw (eT.slice (s:=1) (by kernel_rfl) (by kernel_rfl) (by decide) (aQ2 (by decide) (aRe (show 8=_ from by kernel_rfl))) (eT.int (by kernel_rfl))) r1 f1
 obtain rfl:uO=(.int .i64 a0):=q0
 replace v0:=v0.up (u1.trans u2)
 obtain rfl:wM=(.int .i64 a1):=q1
 replace v1:=v1.up u2
 obtain⟨Wi,Wj,rfl⟩:=ak.len q2
 replace v2:=v2.one rfl
 have hv:=bn.field (o:=0) v0 (bn.field (o:=1) v1 (bn.field (o:=2) v2 (bn.end hl)))
 rw[aRl]at hv
 refine⟨ρ2,H2,(.agg [(.int .i64 a0),(.int .i64 a1),(.slice Wi a2.length Wj)].toArray:Value),({From:=a0,To:=a1,Map:=a2}:bO),r2,f2,((u0.trans u1).trans u2),((i0.trans i1).trans i2),?_,?_,w0,w1,w2⟩
 · exact hv
 · exact⟨⟨Wi,_,Wj⟩,rfl,q2⟩
def agY(H:aB)(v:Value)(a:Source):Prop:=∃v0:Sv,v= .agg [v0.v,(.int .i64 a.Version)].toArray/\(ak 195 uu) H v0.v a.Facts
instance:bz agY:=⟨fun h hi=>by
 obtain⟨v0,h,h0⟩:=h
 exact⟨v0,h,bz.up h0 hi⟩⟩
instance:Cells agY 2:=⟨fun h=>by
 obtain⟨v0,rfl,h0⟩:=h
 exact⟨rfl,rfl⟩⟩
theorem am7:fieldAt Tryz.prog 195 0=some (3,0,1):=by kernel_rfl
theorem ayE:fieldAt Tryz.prog 195 1=some (22,1,1):=by kernel_rfl
def TK(a:aj):Prop:=l5 a.aD/\(jN l5) a.Values
theorem aoy:eT Tryz.prog 195 uu TK:=by
 intro T enc w fuel cs x h hw ρ H hr hF
 have hl:=zU am7 h (n:=2) aCm.h.sz.cells
 obtain⟨ρ0,H0,uO,a0,r0,f0,u0,i0,v0,q0,w0⟩:=j_ am7 h hw (eT.int (by kernel_rfl)) hr hF
 obtain⟨ρ1,H1,wM,a1,r1,f1,u1,i1,v1,q1,w1⟩:=j_ ayE h hw (eT.slice (s:=1) (by kernel_rfl) (by kernel_rfl) (by decide) (aQ2 (by decide) (aRe (show 8=_ from by kernel_rfl))) (eT.int (by kernel_rfl))) r0 f0
 obtain rfl:uO=(.int .i64 a0):=q0
 replace v0:=v0.up u1
 obtain⟨sa1,qf,rfl⟩:=ak.len q1
 replace v1:=v1.one rfl
 have hv:=bn.field (o:=0) v0 (bn.field (o:=1) v1 (bn.end hl))
 rw[aRl]at hv
 refine⟨ρ1,H1,(.agg [(.int .i64 a0),(.slice sa1 a1.length qf)].toArray:Value),({aD:=a0,Values:=a1}:aj),r1,f1,(u0.trans u1),(i0.trans i1),?_,?_,w0,w1⟩
 · exact hv
 · exact⟨⟨sa1,_,qf⟩,rfl,q1⟩
theorem anD:fieldAt Tryz.prog 27 0=some (25,0,1):=by kernel_rfl
theorem azK:fieldAt Tryz.prog 27 1=some (3,1,1):=by kernel_rfl
def agZ(a:Source):Prop:=(jN TK) a.Facts/\l5 a.Version
theorem aF5:eT Tryz.prog 27 agY agZ:=by
 intro T enc w fuel cs x h hw ρ H hr hF
 have hl:=zU anD h (n:=2) aFZ.h.sz.cells
 obtain⟨ρ0,H0,uO,a0,r0,f0,u0,i0,v0,q0,w0⟩:=j_ anD h hw (eT.slice (s:=2) (by kernel_rfl) (by kernel_rfl) (by decide) (aQ2 (by decide) (aRe (show 32=_ from by kernel_rfl))) aoy) hr hF
 obtain⟨ρ1,H1,wM,a1,r1,f1,u1,i1,v1,q1,w1⟩:=j_ azK h hw (eT.int (by kernel_rfl)) r0 f0
 obtain⟨zB,zC,rfl⟩:=ak.len q0
 replace v0:=v0.one rfl
 replace v0:=v0.up u1
 obtain rfl:wM=(.int .i64 a1):=q1
 have hv:=bn.field (o:=0) v0 (bn.field (o:=1) v1 (bn.end hl))
 rw[aRl]at hv
 refine⟨ρ1,H1,(.agg [(.slice zB a0.length zC),(.int .i64 a1)].toArray:Value),({Facts:=a0,Version:=a1}:Source),r1,f1,(u0.trans u1),(i0.trans i1),?_,?_,w0,w1⟩
 · exact hv
 · exact⟨⟨zB,_,zC⟩,rfl,(bz.up q0 i1)⟩
def ag0(H:aB)(v:Value)(a:Cache):Prop:=∃v0:Sv,v= .agg [v0.v,(.int .i64 a.Age)].toArray/\(ak 198 yK) H v0.v a.Entries
instance:bz ag0:=⟨fun h hi=>by
 obtain⟨v0,h,h0⟩:=h
 exact⟨v0,h,bz.up h0 hi⟩⟩
instance:Cells ag0 2:=⟨fun h=>by
 obtain⟨v0,rfl,h0⟩:=h
 exact⟨rfl,rfl⟩⟩
theorem am8:fieldAt Tryz.prog 119 0=some (3,0,1):=by kernel_rfl
theorem ayF:fieldAt Tryz.prog 119 1=some (22,1,1):=by kernel_rfl
def TL(a:ag):Prop:=l5 a.Method/\(jN l5) a.Values
theorem aoz:eT Tryz.prog 119 CY TL:=by
 intro T enc w fuel cs x h hw ρ H hr hF
 have hl:=zU am8 h (n:=2) aCo.h.sz.cells
 obtain⟨ρ0,H0,uO,a0,r0,f0,u0,i0,v0,q0,w0⟩:=j_ am8 h hw (eT.int (by kernel_rfl)) hr hF
 obtain⟨ρ1,H1,wM,a1,r1,f1,u1,i1,v1,q1,w1⟩:=j_ ayF h hw (eT.slice (s:=1) (by kernel_rfl) (by kernel_rfl) (by decide) (aQ2 (by decide) (aRe (show 8=_ from by kernel_rfl))) (eT.int (by kernel_rfl))) r0 f0
 obtain rfl:uO=(.int .i64 a0):=q0
 replace v0:=v0.up u1
 obtain⟨sa1,qf,rfl⟩:=ak.len q1
 replace v1:=v1.one rfl
 have hv:=bn.field (o:=0) v0 (bn.field (o:=1) v1 (bn.end hl))
 rw[aRl]at hv
 refine⟨ρ1,H1,(.agg [(.int .i64 a0),(.slice sa1 a1.length qf)].toArray:Value),({Method:=a0,Values:=a1}:ag),r1,f1,(u0.trans u1),(i0.trans i1),?_,?_,w0,w1⟩
 · exact hv
 · exact⟨⟨sa1,_,qf⟩,rfl,q1⟩
theorem am9:fieldAt Tryz.prog 198 0=some (119,0,2):=by kernel_rfl
theorem ayG:fieldAt Tryz.prog 198 1=some (25,2,1):=by kernel_rfl
theorem ayH:fieldAt Tryz.prog 198 2=some (3,3,1):=by kernel_rfl
def aax(a:aS):Prop:=TL a.ag/\(jN TK) a.Facts/\l5 a.At
theorem aCy:eT Tryz.prog 198 yK aax:=by
 intro T enc w fuel cs x h hw ρ H hr hF
 have hl:=zU am9 h (n:=4) aCn.h.sz.cells
 obtain⟨ρ0,H0,uO,a0,r0,f0,u0,i0,v0,q0,w0⟩:=j_ am9 h hw aoz hr hF
 obtain⟨ρ1,H1,wM,a1,r1,f1,u1,i1,v1,q1,w1⟩:=j_ ayG h hw (eT.slice (s:=2) (by kernel_rfl) (by kernel_rfl) (by decide) (aQ2 (by decide) (aRe (show 32=_ from by kernel_rfl))) aoy) r0 f0
 obtain⟨ρ2,H2,Wh,a2,r2,f2,u2,i2,v2,q2,w2⟩:=j_ ayH h hw (eT.int (by kernel_rfl)) r1 f1
 obtain⟨aah,rfl,ae6⟩:=q0
 replace v0:=v0.up (u1.trans u2)
 obtain⟨sa1,qf,rfl⟩:=ak.len q1
 replace v1:=v1.one rfl
 replace v1:=v1.up u2
 obtain rfl:Wh=(.int .i64 a2):=q2
 have hv:=bn.field (o:=0) v0 (bn.field (o:=2) v1 (bn.field (o:=3) v2 (bn.end hl)))
 rw[aRl]at hv
 refine⟨ρ2,H2,(.agg [(.int .i64 a0.Method),aah.v,(.slice sa1 a1.length qf),(.int .i64 a2)].toArray:Value),({ag:=a0,Facts:=a1,At:=a2}:aS),r2,f2,((u0.trans u1).trans u2),((i0.trans i1).trans i2),?_,?_,w0,w1,w2⟩
 · exact hv
 · exact⟨aah,⟨sa1,_,qf⟩,rfl,(bz.up ae6 (i1.trans i2)),(bz.up q1 i2)⟩
theorem anE:fieldAt Tryz.prog 30 0=some (28,0,1):=by kernel_rfl
theorem azL:fieldAt Tryz.prog 30 1=some (3,1,1):=by kernel_rfl
def ag1(a:Cache):Prop:=(jN aax) a.Entries/\l5 a.Age
theorem aF6:eT Tryz.prog 30 ag0 ag1:=by
 intro T enc w fuel cs x h hw ρ H hr hF
 have hl:=zU anE h (n:=2) aF0.h.sz.cells
 obtain⟨ρ0,H0,uO,a0,r0,f0,u0,i0,v0,q0,w0⟩:=j_ anE h hw (eT.slice (s:=4) (by kernel_rfl) (by kernel_rfl) (by decide) (aQ2 (by decide) (aRe (show 64=_ from by kernel_rfl))) aCy) hr hF
 obtain⟨ρ1,H1,wM,a1,r1,f1,u1,i1,v1,q1,w1⟩:=j_ azL h hw (eT.int (by kernel_rfl)) r0 f0
 obtain⟨zB,zC,rfl⟩:=ak.len q0
 replace v0:=v0.one rfl
 replace v0:=v0.up u1
 obtain rfl:wM=(.int .i64 a1):=q1
 have hv:=bn.field (o:=0) v0 (bn.field (o:=1) v1 (bn.end hl))
 rw[aRl]at hv
 refine⟨ρ1,H1,(.agg [(.slice zB a0.length zC),(.int .i64 a1)].toArray:Value),({Entries:=a0,Age:=a1}:Cache),r1,f1,(u0.trans u1),(i0.trans i1),?_,?_,w0,w1⟩
 · exact hv
 · exact⟨⟨zB,_,zC⟩,rfl,(bz.up q0 i1)⟩
theorem anF:fieldAt Tryz.prog 34 0=some (22,0,1):=by kernel_rfl
theorem azM:fieldAt Tryz.prog 34 1=some (23,1,1):=by kernel_rfl
theorem azN:fieldAt Tryz.prog 34 2=some (24,2,1):=by kernel_rfl
theorem azO:fieldAt Tryz.prog 34 3=some (27,3,2):=by kernel_rfl
theorem azP:fieldAt Tryz.prog 34 4=some (30,5,2):=by kernel_rfl
theorem azQ:fieldAt Tryz.prog 34 5=some (3,7,1):=by kernel_rfl
theorem azR:fieldAt Tryz.prog 34 6=some (31,8,1):=by kernel_rfl
theorem azS:fieldAt Tryz.prog 34 7=some (22,9,1):=by kernel_rfl
theorem azT:fieldAt Tryz.prog 34 8=some (3,10,1):=by kernel_rfl
theorem azU:fieldAt Tryz.prog 34 9=some (32,11,1):=by kernel_rfl
def ag2(a:bU):Prop:=(jN l5) a.bA/\(jN aav) a.Methods/\(jN aaw) a.bV/\agZ a.Source/\ag1 a.Cache/\l5 a.Now/\(jN TL) a.bD/\(jN l5) a.dh/\l5 a.bI/\(jN (jN (jN l5))) a.bX
theorem aF7:∀H v a,abw H v a->yF v=UN Tryz.prog 34:=by
 intro H v a h
 obtain⟨v0,v1,v2,v3,v5,v8,v9,v11,rfl,_,_,_,_,_,_,_,_⟩:=h
 kernel_rfl
theorem aF8:eT Tryz.prog 34 abw ag2:=by
 intro T enc w fuel cs x h hw ρ H hr hF
 have hl:=zU anF h (n:=12) aFX.h.sz.cells
 obtain⟨ρ0,H0,uO,a0,r0,f0,u0,i0,v0,q0,w0⟩:=j_ anF h hw (eT.slice (s:=1) (by kernel_rfl) (by kernel_rfl) (by decide) (aQ2 (by decide) (aRe (show 8=_ from by kernel_rfl))) (eT.int (by kernel_rfl))) hr hF
 obtain⟨ρ1,H1,wM,a1,r1,f1,u1,i1,v1,q1,w1⟩:=j_ azM h hw (eT.slice (s:=5) (by kernel_rfl) (by kernel_rfl) (by decide) (aQ2 (by decide) (aRe (show 56=_ from by kernel_rfl))) aCw) r0 f0
 obtain⟨ρ2,H2,Wh,a2,r2,f2,u2,i2,v2,q2,w2⟩:=j_ azN h hw (eT.slice (s:=3) (by kernel_rfl) (by kernel_rfl) (by decide) (aQ2 (by decide) (aRe (show 40=_ from by kernel_rfl))) aCx) r1 f1
 obtain⟨ρ3,H3,av3,a3,r3,f3,u3,i3,v3,q3,w3⟩:=j_ azO h hw aF5 r2 f2
 obtain⟨ρ4,H4,av4,a4,r4,f4,u4,i4,v4,q4,w4⟩:=j_ azP h hw aF6 r3 f3
 obtain⟨ρ5,H5,av5,a5,r5,f5,u5,i5,v5,q5,w5⟩:=j_ azQ h hw (eT.int (by kernel_rfl)) r4 f4
 obtain⟨ρ6,H6,av6,a6,r6,f6,u6,i6,v6,q6,w6⟩:=j_ azR h hw (eT.slice (s:=2) (by kernel_rfl) (by kernel_rfl) (by decide) (aQ2 (by decide) (aRe (show 32=_ from by kernel_rfl))) aoz) r5 f5
 obtain⟨ρ7,H7,av7,a7,r7,f7,u7,i7,v7,q7,w7⟩:=j_ azS h hw (eT.slice (s:=1) (by kernel_rfl) (by kernel_rfl) (by decide) (aQ2 (by decide) (aRe (show 8=_ from by kernel_rfl))) (eT.int (by kernel_rfl))) r6 f6
 obtain⟨ρ8,H8,av8,a8,r8,f8,u8,i8,v8,q8,w8⟩:=j_ azT h hw (eT.int (by kernel_rfl)) r7 f7
 obtain⟨ρ9,H9,av9,a9,r9,f9,u9,i9,v9,q9,w9⟩:=j_ azU h hw (eT.slice (s:=1) (by kernel_rfl) (by kernel_rfl) (by decide) (aQ2 (by decide) (aRe (show 24=_ from by kernel_rfl))) (eT.slice (s:=1) (by kernel_rfl) (by kernel_rfl) (by decide) (aQ2 (by decide) (aRe (show 24=_ from by kernel_rfl))) (eT.slice (s:=1) (by kernel_rfl) (by kernel_rfl) (by decide) (aQ2 (by decide) (aRe (show 8=_ from by kernel_rfl))) (eT.int (by kernel_rfl))))) r8 f8
 obtain⟨zB,zC,rfl⟩:=ak.len q0
 replace v0:=v0.one rfl
 replace v0:=v0.up ((((((((u1.trans u2).trans u3).trans u4).trans u5).trans u6).trans u7).trans u8).trans u9)
 obtain⟨sa1,qf,rfl⟩:=ak.len q1
 replace v1:=v1.one rfl
 replace v1:=v1.up (((((((u2.trans u3).trans u4).trans u5).trans u6).trans u7).trans u8).trans u9)
 obtain⟨Wi,Wj,rfl⟩:=ak.len q2
 replace v2:=v2.one rfl
 replace v2:=v2.up ((((((u3.trans u4).trans u5).trans u6).trans u7).trans u8).trans u9)
 obtain⟨anG,rfl,azV⟩:=q3
 replace v3:=v3.up (((((u4.trans u5).trans u6).trans u7).trans u8).trans u9)
 obtain⟨anH,rfl,azW⟩:=q4
 replace v4:=v4.up ((((u5.trans u6).trans u7).trans u8).trans u9)
 obtain rfl:av5=(.int .i64 a5):=q5
 replace v5:=v5.up (((u6.trans u7).trans u8).trans u9)
 obtain⟨sa6,sm6,rfl⟩:=ak.len q6
 replace v6:=v6.one rfl
 replace v6:=v6.up ((u7.trans u8).trans u9)
 obtain⟨sa7,sm7,rfl⟩:=ak.len q7
 replace v7:=v7.one rfl
 replace v7:=v7.up (u8.trans u9)
 obtain rfl:av8=(.int .i64 a8):=q8
 replace v8:=v8.up u9
 obtain⟨sa9,sm9,rfl⟩:=ak.len q9
 replace v9:=v9.one rfl
 have hv:=bn.field (o:=0) v0 (bn.field (o:=1) v1 (bn.field (o:=2) v2 (bn.field (o:=3) v3 (bn.field (o:=5) v4 (bn.field (o:=7) v5 (bn.field (o:=8) v6 (bn.field (o:=9) v7 (bn.field (o:=10) v8 (bn.field (o:=11) v9 (bn.end hl))))))))))
 rw[aRl]at hv
 refine⟨ρ9,H9,(.agg [(.slice zB a0.length zC),(.slice sa1 a1.length qf),(.slice Wi a2.length Wj),anG.v,(.int .i64 a3.Version),anH.v,(.int .i64 a4.Age),(.int .i64 a5),(.slice sa6 a6.length sm6),(.slice sa7 a7.length sm7),(.int .i64 a8),(.slice sa9 a9.length sm9)].toArray:Value),({bA:=a0,Methods:=a1,bV:=a2,Source:=a3,Cache:=a4,Now:=a5,bD:=a6,dh:=a7,bI:=a8,bX:=a9}:bU),r9,f9,(((((((((u0.trans u1).trans u2).trans u3).trans u4).trans u5).trans u6).trans u7).trans u8).trans u9),(((((((((i0.trans i1).trans i2).trans i3).trans i4).trans i5).trans i6).trans i7).trans i8).trans i9),?_,?_,w0,w1,w2,w3,w4,w5,w6,w7,w8,w9⟩
 · exact hv
 · exact⟨⟨zB,_,zC⟩,⟨sa1,_,qf⟩,⟨Wi,_,Wj⟩,anG,anH,⟨sa6,_,sm6⟩,⟨sa7,_,sm7⟩,⟨sa9,_,sm9⟩,rfl,(bz.up q0 ((((((((i1.trans i2).trans i3).trans i4).trans i5).trans i6).trans i7).trans i8).trans i9)),(bz.up q1 (((((((i2.trans i3).trans i4).trans i5).trans i6).trans i7).trans i8).trans i9)),(bz.up q2 ((((((i3.trans i4).trans i5).trans i6).trans i7).trans i8).trans i9)),(bz.up azV (((((i4.trans i5).trans i6).trans i7).trans i8).trans i9)),(bz.up azW ((((i5.trans i6).trans i7).trans i8).trans i9)),(bz.up q6 ((i7.trans i8).trans i9)),(bz.up q7 (i8.trans i9)),q9⟩
def abx(H:aB)(v:Value)(a:Query):Prop:=∃v0 v1:Sv,v= .agg [v0.v,v1.v].toArray/\(ak 3 ax) H v0.v a.a_/\(ak 123 CZ) H v1.v a.aL
instance:bz abx:=⟨fun h hi=>by
 obtain⟨v0,v1,h,h0,h1⟩:=h
 exact⟨v0,v1,h,bz.up h0 hi,bz.up h1 hi⟩⟩
instance:Cells abx 2:=⟨fun h=>by
 obtain⟨v0,v1,rfl,h0,h1⟩:=h
 exact⟨rfl,rfl⟩⟩
theorem am_:fieldAt Tryz.prog 123 0=some (3,0,1):=by kernel_rfl
theorem ayI:fieldAt Tryz.prog 123 1=some (22,1,1):=by kernel_rfl
def aay(a:aJ):Prop:=l5 a.aD/\(jN l5) a.Terms
theorem aCz:eT Tryz.prog 123 CZ aay:=by
 intro T enc w fuel cs x h hw ρ H hr hF
 have hl:=zU am_ h (n:=2) aCp.h.sz.cells
 obtain⟨ρ0,H0,uO,a0,r0,f0,u0,i0,v0,q0,w0⟩:=j_ am_ h hw (eT.int (by kernel_rfl)) hr hF
 obtain⟨ρ1,H1,wM,a1,r1,f1,u1,i1,v1,q1,w1⟩:=j_ ayI h hw (eT.slice (s:=1) (by kernel_rfl) (by kernel_rfl) (by decide) (aQ2 (by decide) (aRe (show 8=_ from by kernel_rfl))) (eT.int (by kernel_rfl))) r0 f0
 obtain rfl:uO=(.int .i64 a0):=q0
 replace v0:=v0.up u1
 obtain⟨sa1,qf,rfl⟩:=ak.len q1
 replace v1:=v1.one rfl
 have hv:=bn.field (o:=0) v0 (bn.field (o:=1) v1 (bn.end hl))
 rw[aRl]at hv
 refine⟨ρ1,H1,(.agg [(.int .i64 a0),(.slice sa1 a1.length qf)].toArray:Value),({aD:=a0,Terms:=a1}:aJ),r1,f1,(u0.trans u1),(i0.trans i1),?_,?_,w0,w1⟩
 · exact hv
 · exact⟨⟨sa1,_,qf⟩,rfl,q1⟩
theorem anI:fieldAt Tryz.prog 37 0=some (22,0,1):=by kernel_rfl
theorem azX:fieldAt Tryz.prog 37 1=some (35,1,1):=by kernel_rfl
def ag5(a:Query):Prop:=(jN l5) a.a_/\(jN aay) a.aL
theorem aF9:∀H v a,abx H v a->yF v=UN Tryz.prog 37:=by
 intro H v a h
 obtain⟨v0,v1,rfl,_,_⟩:=h
 kernel_rfl
theorem aF_:eT Tryz.prog 37 abx ag5:=by
 intro T enc w fuel cs x h hw ρ H hr hF
 have hl:=zU anI h (n:=2) aFY.h.sz.cells
 obtain⟨ρ0,H0,uO,a0,r0,f0,u0,i0,v0,q0,w0⟩:=j_ anI h hw (eT.slice (s:=1) (by kernel_rfl) (by kernel_rfl) (by decide) (aQ2 (by decide) (aRe (show 8=_ from by kernel_rfl))) (eT.int (by kernel_rfl))) hr hF
 obtain⟨ρ1,H1,wM,a1,r1,f1,u1,i1,v1,q1,w1⟩:=j_ azX h hw (eT.slice (s:=2) (by kernel_rfl) (by kernel_rfl) (by decide) (aQ2 (by decide) (aRe (show 32=_ from by kernel_rfl))) aCz) r0 f0
 obtain⟨zB,zC,rfl⟩:=ak.len q0
 replace v0:=v0.one rfl
 replace v0:=v0.up u1
 obtain⟨sa1,qf,rfl⟩:=ak.len q1
 replace v1:=v1.one rfl
 have hv:=bn.field (o:=0) v0 (bn.field (o:=1) v1 (bn.end hl))
 rw[aRl]at hv
 refine⟨ρ1,H1,(.agg [(.slice zB a0.length zC),(.slice sa1 a1.length qf)].toArray:Value),({a_:=a0,aL:=a1}:Query),r1,f1,(u0.trans u1),(i0.trans i1),?_,?_,w0,w1⟩
 · exact hv
 · exact⟨⟨zB,_,zC⟩,⟨sa1,_,qf⟩,rfl,(bz.up q0 i1),q1⟩
instance:sP ax 0 (fun a:Int=>(.int .i64 a)):=⟨fun _=>TI⟩
instance:sP gZ 0 (fun a:aj=>(.int .i64 a.aD)):=⟨fun _=>aya⟩
instance:sP kN 0 (fun a:ag=>(.int .i64 a.Method)):=⟨fun _=>anx⟩
instance:sP qy 0 (fun a:bO=>(.int .i64 a.From)):=⟨fun _=>amV⟩
instance:sP qy 1 (fun a:bO=>(.int .i64 a.To)):=⟨fun _=>amW⟩
instance:sP l7 0 (fun a:aJ=>(.int .i64 a.aD)):=⟨fun _=>aye⟩
instance:sP fZ 1 (fun a:Step=>(.int .i64 a.Method)):=⟨fun _=>aev⟩
instance:sP iB 3 (fun a:Method=>(.int .i64 a.bK)):=⟨fun _=>ayf⟩
instance:sP fZ 0 (fun a:Step=>(.int .i64 a.aJ)):=⟨fun _=>aew⟩
instance:sP iB 2 (fun a:Method=>(.int .i64 a.Limit)):=⟨fun _=>ayg⟩
instance:sP iB 0 (fun a:Method=>(.int .i64 a.aD)):=⟨fun _=>ayh⟩
instance:sP iB 4 (fun a:Method=>(.int .i64 a.gW)):=⟨fun _=>ayu⟩
instance:sP jm 0 (fun a:aS=>(.int .i64 a.ag.Method)):=⟨fun _=>ayv⟩
instance:sP jm 3 (fun a:aS=>(.int .i64 a.At)):=⟨fun _=>ayx⟩
instance:zz (ak 22 (ak 3 ax)) 0 _ (ak 22 (ak 3 ax)) inferInstance (fun a:List (List Int)=>a):=⟨fun _=>ae4⟩
instance:zz (ak 3 ax) 0 _ (ak 3 ax) inferInstance (fun a:List Int=>a):=⟨fun _=>ae5⟩
instance:zz gZ 1 _ (ak 3 ax) inferInstance (fun a:aj=>a.Values):=⟨fun _=>ayb⟩
instance:zz kN 1 _ (ak 3 ax) inferInstance (fun a:ag=>a.Values):=⟨fun _=>anz⟩
instance:zz qy 2 _ (ak 3 ax) inferInstance (fun a:bO=>a.Map):=⟨fun _=>amX⟩
instance:zz iB 1 _ (ak 3 ax) inferInstance (fun a:Method=>a.bg):=⟨fun _=>ayc⟩
instance:zz l7 1 _ (ak 3 ax) inferInstance (fun a:aJ=>a.Terms):=⟨fun _=>ayd⟩
instance:zz jm 2 _ (ak 164 gZ) inferInstance (fun a:aS=>a.Facts):=⟨fun _=>ayi⟩
instance:zz jm 1 _ (ak 3 ax) inferInstance (fun a:aS=>a.ag.Values):=⟨fun _=>ayw⟩
instance:rO CV 0 5 (Sv) (fun(a:Method)(p:Sv)=>[(.int .i64 a.aD),p.v,(.int .i64 a.Limit),(.int .i64 a.bK),(.int .i64 a.gW)]) (fun(a:Method)(i:Sv)=>[aI (ak 3 ax) i.v a.bg]):=⟨fun _=>au8⟩
instance:rO CX 0 3 (Sv) (fun(a:bO)(p:Sv)=>[(.int .i64 a.From),(.int .i64 a.To),p.v]) (fun(a:bO)(i:Sv)=>[aI (ak 3 ax) i.v a.Map]):=⟨fun _=>au_⟩
instance:rO uu 0 2 (Sv) (fun(a:aj)(p:Sv)=>[(.int .i64 a.aD),p.v]) (fun(a:aj)(i:Sv)=>[aI (ak 3 ax) i.v a.Values]):=⟨fun _=>ava⟩
instance:rO yK 0 4 (Sv×Sv) (fun(a:aS)(p:Sv×Sv)=>[(.int .i64 a.ag.Method),p.1.v,p.2.v,(.int .i64 a.At)]) (fun(a:aS)(i:Sv×Sv)=>[aI (ak 3 ax) i.1.v a.ag.Values,aI (ak 195 uu) i.2.v a.Facts]):=⟨fun _=>avc⟩
instance:rO CY 0 2 (Sv) (fun(a:ag)(p:Sv)=>[(.int .i64 a.Method),p.v]) (fun(a:ag)(i:Sv)=>[aI (ak 3 ax) i.v a.Values]):=⟨fun _=>ave⟩
instance:rO CZ 0 2 (Sv) (fun(a:aJ)(p:Sv)=>[(.int .i64 a.aD),p.v]) (fun(a:aJ)(i:Sv)=>[aI (ak 3 ax) i.v a.Terms]):=⟨fun _=>avg⟩
instance:rO jm 0 4 (Sv×Sv) (fun(a:aS)(p:Sv×Sv)=>[(.int .i64 a.ag.Method),p.1.v,p.2.v,(.int .i64 a.At)]) (fun(a:aS)(i:Sv×Sv)=>[aI (ak 3 ax) i.1.v a.ag.Values,aI (ak 164 gZ) i.2.v a.Facts]):=⟨fun _=>akD⟩
instance:rO iB 0 5 (Sv) (fun(a:Method)(p:Sv)=>[(.int .i64 a.aD),p.v,(.int .i64 a.Limit),(.int .i64 a.bK),(.int .i64 a.gW)]) (fun(a:Method)(i:Sv)=>[aI (ak 3 ax) i.v a.bg]):=⟨fun _=>Ig⟩
instance:rO qy 0 3 (Sv) (fun(a:bO)(p:Sv)=>[(.int .i64 a.From),(.int .i64 a.To),p.v]) (fun(a:bO)(i:Sv)=>[aI (ak 3 ax) i.v a.Map]):=⟨fun _=>akF⟩
instance:rO gZ 0 2 (Sv) (fun(a:aj)(p:Sv)=>[(.int .i64 a.aD),p.v]) (fun(a:aj)(i:Sv)=>[aI (ak 3 ax) i.v a.Values]):=⟨fun _=>QM⟩
instance:rO jm 0 2 (Sv) (fun(a:aS)(p:Sv)=>[(.int .i64 a.ag.Method),p.v]) (fun(a:aS)(i:Sv)=>[aI (ak 3 ax) i.v a.ag.Values]):=⟨fun _=>avS⟩
instance:rO kN 0 2 (Sv) (fun(a:ag)(p:Sv)=>[(.int .i64 a.Method),p.v]) (fun(a:ag)(i:Sv)=>[aI (ak 3 ax) i.v a.Values]):=⟨fun _=>awE⟩
instance:rO l7 0 2 (Sv) (fun(a:aJ)(p:Sv)=>[(.int .i64 a.aD),p.v]) (fun(a:aJ)(i:Sv)=>[aI (ak 3 ax) i.v a.Terms]):=⟨fun _=>Bq⟩
instance:rO sF 0 2 (Sv×Sv) (fun(a:aN)(p:Sv×Sv)=>[p.1.v,p.2.v]) (fun(a:aN)(i:Sv×Sv)=>[aI (ak 3 ax) i.1.v a.Vars,aI (ak 3 ax) i.2.v a.Values]):=⟨fun _=>L8⟩
instance:rO N8 0 2 (Sv×Sv) (fun(a:Query)(p:Sv×Sv)=>[p.1.v,p.2.v]) (fun(a:Query)(i:Sv×Sv)=>[aI (ak 3 ax) i.1.v a.a_,aI (ak 138 l7) i.2.v a.aL]):=⟨fun _=>ZA⟩
instance:rO fZ 0 2 (Unit) (fun(a:Step)(_:Unit)=>[(.int .i64 a.aJ),(.int .i64 a.Method)]) (fun(a:Step)(i:Unit)=>[]):=⟨fun _=>akH⟩
instance:V9 Tryz.prog 3 .i64:=⟨We⟩
instance:V8 Tryz.prog 4:=⟨Tryz.underlying4⟩
instance:ug Tryz.prog 22:=⟨yT⟩
instance:ug Tryz.prog 42:=⟨ap_⟩
instance:ug Tryz.prog 45:=⟨NZ⟩
instance:ug Tryz.prog 48:=⟨N7⟩
instance:ug Tryz.prog 79:=⟨aqa⟩
instance:ug Tryz.prog 32:=⟨UW⟩
instance:ug Tryz.prog 41:=⟨agX⟩
instance:ug Tryz.prog 40:=⟨aqb⟩
instance:ug Tryz.prog 54:=⟨aF2⟩
instance:ug Tryz.prog 153:=⟨NG⟩
instance:ug Tryz.prog 142:=⟨aCt⟩
instance:ug Tryz.prog 74:=⟨UX⟩
theorem kC{α:Type}{Ro:b_ α}{cs rest:List ay}{F:List Nat}{vs:List Value}{xs:List α}(h:MS Ro cs rest F vs xs:=by first|exact msN|((refine' lS (vg (fun _=>rfl)) ?zq_s ?fo); (case zq_s=>exact selN); (case fo=>exact kC))|((refine' lS (yA) ?zq_s ?fo); (case zq_s=>exact selN); (case fo=>exact kC))|((refine' lS (aak) ?zq_s ?fo); (case zq_s=>exact selN); (case fo=>exact kC))|((refine' lS (ng aaq rfl rfl) ?zq_s ?fo); (case zq_s=>exact selN); (case fo=>exact kC))|((refine' lS (ng TJ rfl rfl) ?zq_s ?fo); (case zq_s=>exact selN); (case fo=>exact kC))|((refine' lS (ng afD rfl rfl) ?zq_s ?fo); (case zq_s=>exact selN); (case fo=>exact kC))|((refine' lS (ng Jo rfl rfl) ?zq_s ?fo); (case zq_s=>exact selN); (case fo=>exact kC))|((refine' lS (ng UV rfl rfl) ?zq_s ?fo); (case zq_s=>exact selN); (case fo=>exact kC))|((refine' lS (ng afE rfl rfl) ?zq_s ?fo); (case zq_s=>exact selN); (case fo=>exact kC))|((refine' lS (ng aov rfl rfl) ?zq_s ?fo); (case zq_s=>exact selN); (case fo=>exact kC))|((refine' lS (ng aat rfl rfl) ?zq_s ?fo); (case zq_s=>exact selN); (case fo=>exact kC))|((refine' lS (ng aqc rfl rfl) ?zq_s ?fo); (case zq_s=>exact selN); (case fo=>exact kC))|((refine' lS (ng aow rfl rfl) ?zq_s ?fo); (case zq_s=>exact selN); (case fo=>exact kC))|((refine' lS (ng abv rfl rfl) ?zq_s ?fo); (case zq_s=>exact selN); (case fo=>exact kC))|((refine' lS (ng aau rfl rfl) ?zq_s ?fo); (case zq_s=>exact selN); (case fo=>exact kC))|((refine' lS (ng Jp rfl rfl) ?zq_s ?fo); (case zq_s=>exact selN); (case fo=>exact kC))|((refine' lS (ng (aaq (v0:=⟨_,_,_⟩)) rfl rfl) ?zq_s ?fo); (case zq_s=>exact selN); (case fo=>exact kC))|((refine' lS (ng (TJ (v0:=⟨_,_,_⟩)) rfl rfl) ?zq_s ?fo); (case zq_s=>exact selN); (case fo=>exact kC))|((refine' lS (ng (afD (v0:=⟨_,_,_⟩)) rfl rfl) ?zq_s ?fo); (case zq_s=>exact selN); (case fo=>exact kC))|((refine' lS (ng (Jo (v0:=⟨_,_,_⟩) (v1:=⟨_,_,_⟩)) rfl rfl) ?zq_s ?fo); (case zq_s=>exact selN); (case fo=>exact kC))|((refine' lS (ng (UV (v0:=⟨_,_,_⟩)) rfl rfl) ?zq_s ?fo); (case zq_s=>exact selN); (case fo=>exact kC))|((refine' lS (ng (afE (v0:=⟨_,_,_⟩)) rfl rfl) ?zq_s ?fo); (case zq_s=>exact selN); (case fo=>exact kC))|((refine' lS (ng (aov (v0:=⟨_,_,_⟩)) rfl rfl) ?zq_s ?fo); (case zq_s=>exact selN); (case fo=>exact kC))|((refine' lS (ng (aat (v0:=⟨_,_,_⟩) (v1:=⟨_,_,_⟩)) rfl rfl) ?zq_s ?fo); (case zq_s=>exact selN); (case fo=>exact kC))|((refine' lS (ng (aqc (v0:=⟨_,_,_⟩) (v1:=⟨_,_,_⟩)) rfl rfl) ?zq_s ?fo); (case zq_s=>exact selN); (case fo=>exact kC))|((refine' lS (ng (aow (v0:=⟨_,_,_⟩)) rfl rfl) ?zq_s ?fo); (case zq_s=>exact selN); (case fo=>exact kC))|((refine' lS (ng (abv (v0:=⟨_,_,_⟩)) rfl rfl) ?zq_s ?fo); (case zq_s=>exact selN); (case fo=>exact kC))|((refine' lS (ng (aau (v0:=⟨_,_,_⟩) (v1:=⟨_,_,_⟩)) rfl rfl) ?zq_s ?fo); (case zq_s=>exact selN); (case fo=>exact kC))|((refine' lS (ng (Jp (v0:=⟨_,_,_⟩) (v1:=⟨_,_,_⟩)) rfl rfl) ?zq_s ?fo); (case zq_s=>exact selN); (case fo=>exact kC))|fail):MS Ro cs rest F vs xs:=h
instance:GK 3 _ (az ax):=⟨inferInstance⟩
instance:GK 85 _ ji:=⟨inferInstance⟩
instance:GK 22 _ (aa 3 (az ax)):=⟨inferInstance⟩
instance:GK 152 _ j3:=⟨inferInstance⟩
instance:GK 56 _ xH:=⟨inferInstance⟩
instance:GK 155 _ (az fZ):=⟨inferInstance⟩
abbrev t0:TA (List Int):=fun k=>∀{a:List Int}{v0:Sv},k a v0.v (fun l=>aI (ak 3 ax) v0.v a::l)
abbrev t1:TA (Int):=fun k=>∀{a:Int},k a (.int .i64 a) (fun l=>l)
abbrev t2:TA (Method):=fun k=>∀{a:Method}{v0:Sv},k a (.agg [(.int .i64 a.aD),v0.v,(.int .i64 a.Limit),(.int .i64 a.bK),(.int .i64 a.gW)].toArray) (fun l=>aI (ak 3 ax) v0.v a.bg::l)
abbrev t3:TA (List Method):=fun k=>∀{a:List Method}{v0:Sv},k a v0.v (fun l=>aI (ak 112 CV) v0.v a::l)
abbrev t4:TA (bO):=fun k=>∀{a:bO}{v0:Sv},k a (.agg [(.int .i64 a.From),(.int .i64 a.To),v0.v].toArray) (fun l=>aI (ak 3 ax) v0.v a.Map::l)
abbrev t5:TA (List bO):=fun k=>∀{a:List bO}{v0:Sv},k a v0.v (fun l=>aI (ak 115 CX) v0.v a::l)
abbrev t6:TA (aj):=fun k=>∀{a:aj}{v0:Sv},k a (.agg [(.int .i64 a.aD),v0.v].toArray) (fun l=>aI (ak 3 ax) v0.v a.Values::l)
abbrev t7:TA (List aj):=fun k=>∀{a:List aj}{v0:Sv},k a v0.v (fun l=>aI (ak 195 uu) v0.v a::l)
abbrev t8:TA (Source):=fun k=>∀{a:Source}{v0:Sv},k a (.agg [v0.v,(.int .i64 a.Version)].toArray) (fun l=>aI (ak 195 uu) v0.v a.Facts::l)
abbrev t9:TA (ag):=fun k=>∀{a:ag}{v0:Sv},k a (.agg [(.int .i64 a.Method),v0.v].toArray) (fun l=>aI (ak 3 ax) v0.v a.Values::l)
abbrev t10:TA (aS):=fun k=>∀{a:aS}{v0:Sv}{v1:Sv},k a (.agg [(.int .i64 a.ag.Method),v0.v,v1.v,(.int .i64 a.At)].toArray) (fun l=>aI (ak 3 ax) v0.v a.ag.Values::aI (ak 195 uu) v1.v a.Facts::l)
abbrev t11:TA (List aS):=fun k=>∀{a:List aS}{v0:Sv},k a v0.v (fun l=>aI (ak 198 yK) v0.v a::l)
abbrev t12:TA (Cache):=fun k=>∀{a:Cache}{v0:Sv},k a (.agg [v0.v,(.int .i64 a.Age)].toArray) (fun l=>aI (ak 198 yK) v0.v a.Entries::l)
abbrev t13:TA (List ag):=fun k=>∀{a:List ag}{v0:Sv},k a v0.v (fun l=>aI (ak 119 CY) v0.v a::l)
abbrev A8:TA (List (List Int)):=fun k=>∀{a:List (List Int)}{v0:Sv},k a v0.v (fun l=>aI (ak 22 (ak 3 ax)) v0.v a::l)
abbrev Wl:TA (List (List (List Int))):=fun k=>∀{a:List (List (List Int))}{v0:Sv},k a v0.v (fun l=>aI (ak 79 (ak 22 (ak 3 ax))) v0.v a::l)
abbrev t16:TA (bU):=fun k=>∀{a:bU}{v0:Sv}{v1:Sv}{v2:Sv}{v3:Sv}{v4:Sv}{v5:Sv}{v6:Sv}{v7:Sv},k a (.agg [v0.v,v1.v,v2.v,v3.v,(.int .i64 a.Source.Version),v4.v,(.int .i64 a.Cache.Age),(.int .i64 a.Now),v5.v,v6.v,(.int .i64 a.bI),v7.v].toArray) (fun l=>aI (ak 3 ax) v0.v a.bA::aI (ak 112 CV) v1.v a.Methods::aI (ak 115 CX) v2.v a.bV::aI (ak 195 uu) v3.v a.Source.Facts::aI (ak 198 yK) v4.v a.Cache.Entries::aI (ak 119 CY) v5.v a.bD::aI (ak 3 ax) v6.v a.dh::aI (ak 79 (ak 22 (ak 3 ax))) v7.v a.bX::l)
abbrev t17:TA (aJ):=fun k=>∀{a:aJ}{v0:Sv},k a (.agg [(.int .i64 a.aD),v0.v].toArray) (fun l=>aI (ak 3 ax) v0.v a.Terms::l)
abbrev t18:TA (List aJ):=fun k=>∀{a:List aJ}{v0:Sv},k a v0.v (fun l=>aI (ak 123 CZ) v0.v a::l)
abbrev t19:TA (Query):=fun k=>∀{a:Query}{v0:Sv}{v1:Sv},k a (.agg [v0.v,v1.v].toArray) (fun l=>aI (ak 3 ax) v0.v a.a_::aI (ak 123 CZ) v1.v a.aL::l)
abbrev t20:TA (List aj):=fun k=>∀{a:List aj}{v0:Sv},k a v0.v (fun l=>aI (ak 164 gZ) v0.v a::l)
abbrev t21:TA (Source):=fun k=>∀{a:Source}{v0:Sv},k a (.agg [v0.v,(.int .i64 a.Version)].toArray) (fun l=>aI (ak 164 gZ) v0.v a.Facts::l)
abbrev t22:TA (aS):=fun k=>∀{a:aS}{v0:Sv}{v1:Sv},k a (.agg [(.int .i64 a.ag.Method),v0.v,v1.v,(.int .i64 a.At)].toArray) (fun l=>aI (ak 3 ax) v0.v a.ag.Values::aI (ak 164 gZ) v1.v a.Facts::l)
abbrev t23:TA (Cache):=fun k=>∀{a:Cache}{v0:Sv},k a (.agg [v0.v,(.int .i64 a.Age)].toArray) (fun l=>aI (ak 201 jm) v0.v a.Entries::l)
abbrev t24:TA (List ag):=fun k=>∀{a:List ag}{v0:Sv},k a v0.v (fun l=>aI (ak 85 kN) v0.v a::l)
abbrev t25:TA (bU):=fun k=>∀{a:bU}{v0:Sv}{v1:Sv}{v2:Sv}{v3:Sv}{v4:Sv}{v5:Sv}{v6:Sv}{v7:Sv},k a (.agg [v0.v,v1.v,v2.v,v3.v,(.int .i64 a.Source.Version),v4.v,(.int .i64 a.Cache.Age),(.int .i64 a.Now),v5.v,v6.v,(.int .i64 a.bI),v7.v].toArray) (fun l=>aI (ak 3 ax) v0.v a.bA::aI (ak 127 iB) v1.v a.Methods::aI (ak 129 qy) v2.v a.bV::aI (ak 164 gZ) v3.v a.Source.Facts::aI (ak 201 jm) v4.v a.Cache.Entries::aI (ak 85 kN) v5.v a.bD::aI (ak 3 ax) v6.v a.dh::aI (ak 79 (ak 22 (ak 3 ax))) v7.v a.bX::l)
abbrev t26:TA (List Method):=fun k=>∀{a:List Method}{v0:Sv},k a v0.v (fun l=>aI (ak 127 iB) v0.v a::l)
abbrev t27:TA (List bO):=fun k=>∀{a:List bO}{v0:Sv},k a v0.v (fun l=>aI (ak 129 qy) v0.v a::l)
abbrev t28:TA (List Int):=fun k=>∀{a:List Int}{v0:Sv}{v1:List Nat},k a v0.v (fun l=>ah (aa 3 (az ax)) v1 v0.v a::l)
abbrev t29:TA (Query):=fun k=>∀{a:Query}{v0:Sv}{v1:Sv},k a (.agg [v0.v,v1.v].toArray) (fun l=>aI (ak 3 ax) v0.v a.a_::aI (ak 138 l7) v1.v a.aL::l)
abbrev t30:TA (aN):=fun k=>∀{a:aN}{v0:Sv}{v1:Sv},k a (.agg [v0.v,v1.v].toArray) (fun l=>aI (ak 3 ax) v0.v a.Vars::aI (ak 3 ax) v1.v a.Values::l)
abbrev t31:TA (List aN):=fun k=>∀{a:List aN}{v0:Sv},k a v0.v (fun l=>aI (ak 152 sF) v0.v a::l)
abbrev t32:TA (List Step):=fun k=>∀{a:List Step}{v0:Sv},k a v0.v (fun l=>aI (ak 155 fZ) v0.v a::l)
abbrev t33:TA (Int):=fun k=>∀{a:Int}{v0:Nat},k a (.pointer (some ⟨v0,0,some 0⟩)) (fun l=>bC v0 3 (.int .i64 a)::l)
abbrev t34:TA (Int):=fun k=>∀{a:Int}{v0:Nat},k a (.func (.func 271) [].toArray [(.pointer (some ⟨v0,0,some 0⟩))].toArray) (fun l=>bC v0 3 (.int .i64 a)::l)
abbrev t35:TA (Int):=fun k=>∀{a:Int}{v0:Nat},k a (.func (.func 273) [].toArray [(.pointer (some ⟨v0,0,some 0⟩))].toArray) (fun l=>bC v0 3 (.int .i64 a)::l)
abbrev t40:TA (List aJ):=fun k=>∀{a:List aJ}{v0:Sv},k a v0.v (fun l=>aI (ak 138 l7) v0.v a::l)
abbrev t44:TA (List aj):=fun k=>∀{a:List aj}{v0:Sv}{v1:List Nat},k a v0.v (fun l=>ah (aa 164 dV) v1 v0.v a::l)
abbrev t46:TA (Step):=fun k=>∀{a:Step},k a (.agg [(.int .i64 a.aJ),(.int .i64 a.Method)].toArray) (fun l=>l)
abbrev t47:TA (List (List Int)):=fun k=>∀{a:List (List Int)}{v0:Sv}{v1:List Nat},k a v0.v (fun l=>ah (aa 22 (aa 3 (az ax))) v1 v0.v a::l)
abbrev t48:TA (List aS):=fun k=>∀{a:List aS}{v0:Sv},k a v0.v (fun l=>aI (ak 201 jm) v0.v a::l)
abbrev t51:TA (ag):=fun k=>∀{a:ag}{v0:Nat}{v1:Sv},k a (.func (.func 264) [].toArray [(.pointer (some ⟨v0,0,some 0⟩))].toArray) (fun l=>bC v0 85 (.agg [(.int .i64 a.Method),v1.v].toArray)::l)
abbrev t53:TA (ag):=fun k=>∀{a:ag}{v0:Nat}{v1:Sv},k a (.func (.func 285) [].toArray [(.pointer (some ⟨v0,0,some 0⟩))].toArray) (fun l=>bC v0 85 (.agg [(.int .i64 a.Method),v1.v].toArray)::l)
abbrev u0:TR (Int):=fun r k=>k (Unit) (fun _=>(.int .i64 r)) (fun _=>[])
abbrev u1:TR ((List Int)):=fun r k=>k (Sv×List Nat) (fun p=>p.1.v) (fun p=>[ah (aa 3 (az ax)) p.2 p.1.v r])
abbrev u2:TR (Method):=fun r k=>k (Sv×List Nat) (fun p=>(.agg [(.int .i64 r.aD),p.1.v,(.int .i64 r.Limit),(.int .i64 r.bK),(.int .i64 r.gW)].toArray)) (fun p=>[ah (aa 3 (az ax)) p.2 p.1.v r.bg])
abbrev u3:TR ((List Method)):=fun r k=>k (Sv×List Nat) (fun p=>p.1.v) (fun p=>[ah (aa 127 iT) p.2 p.1.v r])
abbrev u4:TR (bO):=fun r k=>k (Sv×List Nat) (fun p=>(.agg [(.int .i64 r.From),(.int .i64 r.To),p.1.v].toArray)) (fun p=>[ah (aa 3 (az ax)) p.2 p.1.v r.Map])
abbrev u5:TR ((List bO)):=fun r k=>k (Sv×List Nat) (fun p=>p.1.v) (fun p=>[ah (aa 129 jX) p.2 p.1.v r])
abbrev u6:TR (aj):=fun r k=>k (Sv×List Nat) (fun p=>(.agg [(.int .i64 r.aD),p.1.v].toArray)) (fun p=>[ah (aa 3 (az ax)) p.2 p.1.v r.Values])
abbrev u7:TR ((List aj)):=fun r k=>k (Sv×List Nat) (fun p=>p.1.v) (fun p=>[ah (aa 164 dV) p.2 p.1.v r])
abbrev u8:TR (Source):=fun r k=>k (Sv×List Nat) (fun p=>(.agg [p.1.v,(.int .i64 r.Version)].toArray)) (fun p=>[ah (aa 164 dV) p.2 p.1.v r.Facts])
abbrev u9:TR (ag):=fun r k=>k (Sv×List Nat) (fun p=>(.agg [(.int .i64 r.Method),p.1.v].toArray)) (fun p=>[ah (aa 3 (az ax)) p.2 p.1.v r.Values])
abbrev u10:TR (aS):=fun r k=>k (Sv×List Nat×Sv×List Nat) (fun p=>(.agg [(.int .i64 r.ag.Method),p.1.v,p.2.2.1.v,(.int .i64 r.At)].toArray)) (fun p=>[ah (aa 3 (az ax)) p.2.1 p.1.v r.ag.Values,ah (aa 164 dV) p.2.2.2 p.2.2.1.v r.Facts])
abbrev u11:TR ((List aS)):=fun r k=>k (Sv×List Nat) (fun p=>p.1.v) (fun p=>[ah (aa 201 g_) p.2 p.1.v r])
abbrev u12:TR (Cache):=fun r k=>k (Sv×List Nat) (fun p=>(.agg [p.1.v,(.int .i64 r.Age)].toArray)) (fun p=>[ah (aa 201 g_) p.2 p.1.v r.Entries])
abbrev u13:TR ((List ag)):=fun r k=>k (Sv×List Nat) (fun p=>p.1.v) (fun p=>[ah (aa 85 ji) p.2 p.1.v r])
abbrev Kn:TR ((List (List Int))):=fun r k=>k (Sv×List Nat) (fun p=>p.1.v) (fun p=>[ah (aa 22 (aa 3 (az ax))) p.2 p.1.v r])
abbrev u15:TR ((List (List (List Int)))):=fun r k=>k (Sv×List Nat) (fun p=>p.1.v) (fun p=>[ah (aa 79 (aa 22 (aa 3 (az ax)))) p.2 p.1.v r])
abbrev u16:TR (bU):=fun r k=>k (Sv×List Nat×Sv×List Nat×Sv×List Nat×Sv×List Nat×Sv×List Nat×Sv×List Nat×Sv×List Nat×Sv×List Nat) (fun p=>(.agg [p.1.v,p.2.2.1.v,p.2.2.2.2.1.v,p.2.2.2.2.2.2.1.v,(.int .i64 r.Source.Version),p.2.2.2.2.2.2.2.2.1.v,(.int .i64 r.Cache.Age),(.int .i64 r.Now),p.2.2.2.2.2.2.2.2.2.2.1.v,p.2.2.2.2.2.2.2.2.2.2.2.2.1.v,(.int .i64 r.bI),p.2.2.2.2.2.2.2.2.2.2.2.2.2.2.1.v].toArray)) (fun p=>[ah (aa 3 (az ax)) p.2.1 p.1.v r.bA,ah (aa 127 iT) p.2.2.2.1 p.2.2.1.v r.Methods,ah (aa 129 jX) p.2.2.2.2.2.1 p.2.2.2.2.1.v r.bV,ah (aa 164 dV) p.2.2.2.2.2.2.2.1 p.2.2.2.2.2.2.1.v r.Source.Facts,ah (aa 201 g_) p.2.2.2.2.2.2.2.2.2.1 p.2.2.2.2.2.2.2.2.1.v r.Cache.Entries,ah (aa 85 ji) p.2.2.2.2.2.2.2.2.2.2.2.1 p.2.2.2.2.2.2.2.2.2.2.1.v r.bD,ah (aa 3 (az ax)) p.2.2.2.2.2.2.2.2.2.2.2.2.2.1 p.2.2.2.2.2.2.2.2.2.2.2.2.1.v r.dh,ah (aa 79 (aa 22 (aa 3 (az ax)))) p.2.2.2.2.2.2.2.2.2.2.2.2.2.2.2 p.2.2.2.2.2.2.2.2.2.2.2.2.2.2.1.v r.bX])
abbrev u17:TR (aJ):=fun r k=>k (Sv×List Nat) (fun p=>(.agg [(.int .i64 r.aD),p.1.v].toArray)) (fun p=>[ah (aa 3 (az ax)) p.2 p.1.v r.Terms])
abbrev u18:TR ((List aJ)):=fun r k=>k (Sv×List Nat) (fun p=>p.1.v) (fun p=>[ah (aa 138 jZ) p.2 p.1.v r])
abbrev u19:TR (Query):=fun r k=>k (Sv×List Nat×Sv×List Nat) (fun p=>(.agg [p.1.v,p.2.2.1.v].toArray)) (fun p=>[ah (aa 3 (az ax)) p.2.1 p.1.v r.a_,ah (aa 138 jZ) p.2.2.2 p.2.2.1.v r.aL])
abbrev u20:TR (Bool):=fun r k=>k (Unit) (fun _=>(.bool r)) (fun _=>[])
abbrev u21:TR (aN):=fun r k=>k (Sv×List Nat×Sv×List Nat) (fun p=>(.agg [p.1.v,p.2.2.1.v].toArray)) (fun p=>[ah (aa 3 (az ax)) p.2.1 p.1.v r.Vars,ah (aa 3 (az ax)) p.2.2.2 p.2.2.1.v r.Values])
abbrev u22:TR ((List aj)×aN×Bool):=fun r k=>k (Sv×List Nat×Sv×List Nat×Sv×List Nat) (fun p=>(.tuple [p.1.v,(.agg [p.2.2.1.v,p.2.2.2.2.1.v].toArray),(.bool r.2.2)].toArray)) (fun p=>[ah (aa 164 dV) p.2.1 p.1.v r.1,ah (aa 3 (az ax)) p.2.2.2.1 p.2.2.1.v r.2.1.Vars,ah (aa 3 (az ax)) p.2.2.2.2.2 p.2.2.2.2.1.v r.2.1.Values])
abbrev u23:TR ((List aj)×aN×Bool):=fun r k=>k (Sv×List Nat×Sv×List Nat×Sv×List Nat) (fun p=>(.tuple [p.1.v,(.agg [p.2.2.1.v,p.2.2.2.2.1.v].toArray),(.bool r.2.2)].toArray)) (fun p=>[ah (aa 164 (az gZ)) p.2.1 p.1.v r.1,ah (aa 3 (az ax)) p.2.2.2.1 p.2.2.1.v r.2.1.Vars,ah (aa 3 (az ax)) p.2.2.2.2.2 p.2.2.2.2.1.v r.2.1.Values])
abbrev u24:TR (aN×Bool):=fun r k=>k (Sv×List Nat×Sv×List Nat) (fun p=>(.tuple [(.agg [p.1.v,p.2.2.1.v].toArray),(.bool r.2)].toArray)) (fun p=>[ah (aa 3 (az ax)) p.2.1 p.1.v r.1.Vars,ah (aa 3 (az ax)) p.2.2.2 p.2.2.1.v r.1.Values])
abbrev u25:TR ((List aN)):=fun r k=>k (Sv×List Nat) (fun p=>p.1.v) (fun p=>[ah (aa 152 j3) p.2 p.1.v r])
abbrev u26:TR ((List Query)):=fun r k=>k (Sv×List Nat) (fun p=>p.1.v) (fun p=>[ah (aa 56 xH) p.2 p.1.v r])
abbrev u27:TR ((List Method)):=fun r k=>k (Sv×List Nat) (fun p=>p.1.v) (fun p=>[ah (aa 127 (az iB)) p.2 p.1.v r])
abbrev u28:TR (qF×Bool):=fun r k=>k (Sv×List Nat×Sv×List Nat×Sv) (fun p=>(.tuple [(.agg [p.1.v,p.2.2.1.v,p.2.2.2.2.v,(.int .i64 r.1.bK)].toArray),(.bool r.2)].toArray)) (fun p=>[ah (aa 3 (az ax)) p.2.1 p.1.v r.1.Query.a_,ah (aa 138 jZ) p.2.2.2.1 p.2.2.1.v r.1.Query.aL,aI (ak 155 fZ) p.2.2.2.2.v r.1.Steps])
abbrev u29:TR ((List aj)×Bool):=fun r k=>k (Sv×List Nat) (fun p=>(.tuple [p.1.v,(.bool r.2)].toArray)) (fun p=>[ah (aa 164 dV) p.2 p.1.v r.1])
abbrev u30:TR (Cache):=fun r k=>k (Sv) (fun p=>(.agg [p.v,(.int .i64 r.Age)].toArray)) (fun p=>[aI (ak 201 jm) p.v r.Entries])
abbrev u31:TR (Run×Cache):=fun r k=>k (Sv×List Nat×Sv×Sv×List Nat×Sv) (fun p=>(.tuple [(.agg [p.1.v,p.2.2.1.v,p.2.2.2.1.v,(.int .i64 r.1.bK)].toArray),(.agg [p.2.2.2.2.2.v,(.int .i64 r.2.Age)].toArray)].toArray)) (fun p=>[ah (aa 22 (aa 3 (az ax))) p.2.1 p.1.v r.1.nN,aI (ak 85 kN) p.2.2.1.v r.1.bD,ah (aa 164 dV) p.2.2.2.2.1 p.2.2.2.1.v r.1.rP,aI (ak 201 jm) p.2.2.2.2.2.v r.2.Entries])
abbrev u32:TR (bU×Bool):=fun r k=>k (Sv×List Nat×Sv×List Nat×Sv×List Nat×Sv×List Nat×Sv×Sv×List Nat×Sv×List Nat×Sv×List Nat) (fun p=>(.tuple [(.agg [p.1.v,p.2.2.1.v,p.2.2.2.2.1.v,p.2.2.2.2.2.2.1.v,(.int .i64 r.1.Source.Version),p.2.2.2.2.2.2.2.2.1.v,(.int .i64 r.1.Cache.Age),(.int .i64 r.1.Now),p.2.2.2.2.2.2.2.2.2.1.v,p.2.2.2.2.2.2.2.2.2.2.2.1.v,(.int .i64 r.1.bI),p.2.2.2.2.2.2.2.2.2.2.2.2.2.1.v].toArray),(.bool r.2)].toArray)) (fun p=>[ah (aa 3 (az ax)) p.2.1 p.1.v r.1.bA,ah (aa 127 iT) p.2.2.2.1 p.2.2.1.v r.1.Methods,ah (aa 129 jX) p.2.2.2.2.2.1 p.2.2.2.2.1.v r.1.bV,ah (aa 164 dV) p.2.2.2.2.2.2.2.1 p.2.2.2.2.2.2.1.v r.1.Source.Facts,aI (ak 201 jm) p.2.2.2.2.2.2.2.2.1.v r.1.Cache.Entries,ah (aa 85 ji) p.2.2.2.2.2.2.2.2.2.2.1 p.2.2.2.2.2.2.2.2.2.1.v r.1.bD,ah (aa 3 (az ax)) p.2.2.2.2.2.2.2.2.2.2.2.2.1 p.2.2.2.2.2.2.2.2.2.2.2.1.v r.1.dh,ah (aa 79 (aa 22 (aa 3 (az ax)))) p.2.2.2.2.2.2.2.2.2.2.2.2.2.2 p.2.2.2.2.2.2.2.2.2.2.2.2.2.1.v r.1.bX])
abbrev u33:TR (aN×Bool):=fun r k=>k (Sv×Sv) (fun p=>(.tuple [(.agg [p.1.v,p.2.v].toArray),(.bool r.2)].toArray)) (fun p=>[aI (ak 3 ax) p.1.v r.1.Vars,aI (ak 3 ax) p.2.v r.1.Values])
abbrev u34:TR ((List Step)):=fun r k=>k (Sv×List Nat) (fun p=>p.1.v) (fun p=>[ah (aa 155 (az fZ)) p.2 p.1.v r])
abbrev u35:TR (Run×Cache):=fun r k=>k (Sv×List Nat×Sv×List Nat×Sv×List Nat×Sv×List Nat) (fun p=>(.tuple [(.agg [p.1.v,p.2.2.1.v,p.2.2.2.2.1.v,(.int .i64 r.1.bK)].toArray),(.agg [p.2.2.2.2.2.2.1.v,(.int .i64 r.2.Age)].toArray)].toArray)) (fun p=>[ah (aa 22 (aa 3 (az ax))) p.2.1 p.1.v r.1.nN,ah (aa 85 ji) p.2.2.2.1 p.2.2.1.v r.1.bD,ah (aa 164 dV) p.2.2.2.2.2.1 p.2.2.2.2.1.v r.1.rP,ah (aa 201 g_) p.2.2.2.2.2.2.2 p.2.2.2.2.2.2.1.v r.2.Entries])
abbrev u36:TR (List Int):=fun r k=>k (Sv×List Nat) (fun p=>p.1.v) (fun p=>[ah (aa 3 (az ax)) p.2 p.1.v r])
abbrev u37:TR (qF×Bool):=fun r k=>k (Sv×Sv×Sv×List Nat) (fun p=>(.tuple [(.agg [p.1.v,p.2.1.v,p.2.2.1.v,(.int .i64 r.1.bK)].toArray),(.bool r.2)].toArray)) (fun p=>[aI (ak 3 ax) p.1.v r.1.Query.a_,aI (ak 138 l7) p.2.1.v r.1.Query.aL,ah (aa 155 (az fZ)) p.2.2.2 p.2.2.1.v r.1.Steps])
abbrev u38:TR (bU×Bool):=fun r k=>k (Sv×List Nat×Sv×List Nat×Sv×List Nat×Sv×List Nat×Sv×List Nat×Sv×List Nat×Sv×List Nat×Sv×List Nat) (fun p=>(.tuple [(.agg [p.1.v,p.2.2.1.v,p.2.2.2.2.1.v,p.2.2.2.2.2.2.1.v,(.int .i64 r.1.Source.Version),p.2.2.2.2.2.2.2.2.1.v,(.int .i64 r.1.Cache.Age),(.int .i64 r.1.Now),p.2.2.2.2.2.2.2.2.2.2.1.v,p.2.2.2.2.2.2.2.2.2.2.2.2.1.v,(.int .i64 r.1.bI),p.2.2.2.2.2.2.2.2.2.2.2.2.2.2.1.v].toArray),(.bool r.2)].toArray)) (fun p=>[ah (aa 3 (az ax)) p.2.1 p.1.v r.1.bA,ah (aa 127 iT) p.2.2.2.1 p.2.2.1.v r.1.Methods,ah (aa 129 jX) p.2.2.2.2.2.1 p.2.2.2.2.1.v r.1.bV,ah (aa 164 dV) p.2.2.2.2.2.2.2.1 p.2.2.2.2.2.2.1.v r.1.Source.Facts,ah (aa 201 g_) p.2.2.2.2.2.2.2.2.2.1 p.2.2.2.2.2.2.2.2.1.v r.1.Cache.Entries,ah (aa 85 ji) p.2.2.2.2.2.2.2.2.2.2.2.1 p.2.2.2.2.2.2.2.2.2.2.1.v r.1.bD,ah (aa 3 (az ax)) p.2.2.2.2.2.2.2.2.2.2.2.2.2.1 p.2.2.2.2.2.2.2.2.2.2.2.2.1.v r.1.dh,ah (aa 79 (aa 22 (aa 3 (az ax)))) p.2.2.2.2.2.2.2.2.2.2.2.2.2.2.2 p.2.2.2.2.2.2.2.2.2.2.2.2.2.2.1.v r.1.bX])
abbrev I1(g:Nat){α1:Type}{ρ:Type}(t1:TA α1)(u:TR ρ)(F:α1->Option ρ):Prop:=dz Tryz.prog g (S1 Tryz.prog g t1 u F)
abbrev IF1(g:Nat){α1:Type}{ρ:Type}(t1:TA α1)(u:TR ρ)(F:Nat->α1->Option ρ):Prop:=dz Tryz.prog g (∀{fuel:Nat},S1 Tryz.prog g t1 u (F fuel))
abbrev I2(g:Nat){α1:Type}{α2:Type}{ρ:Type}(t1:TA α1)(t2:TA α2)(u:TR ρ)(F:α1->α2->Option ρ):Prop:=dz Tryz.prog g (S2 Tryz.prog g t1 t2 u F)
abbrev GL(g:Nat){α1:Type}{α2:Type}{ρ:Type}(t1:TA α1)(t2:TA α2)(u:TR ρ)(F:Nat->α1->α2->Option ρ):Prop:=dz Tryz.prog g (∀{fuel:Nat},S2 Tryz.prog g t1 t2 u (F fuel))
abbrev I3(g:Nat){α1:Type}{α2:Type}{α3:Type}{ρ:Type}(t1:TA α1)(t2:TA α2)(t3:TA α3)(u:TR ρ)(F:α1->α2->α3->Option ρ):Prop:=dz Tryz.prog g (S3 Tryz.prog g t1 t2 t3 u F)
abbrev IF3(g:Nat){α1:Type}{α2:Type}{α3:Type}{ρ:Type}(t1:TA α1)(t2:TA α2)(t3:TA α3)(u:TR ρ)(F:Nat->α1->α2->α3->Option ρ):Prop:=dz Tryz.prog g (∀{fuel:Nat},S3 Tryz.prog g t1 t2 t3 u (F fuel))
abbrev I4(g:Nat){α1:Type}{α2:Type}{α3:Type}{α4:Type}{ρ:Type}(t1:TA α1)(t2:TA α2)(t3:TA α3)(t4:TA α4)(u:TR ρ)(F:α1->α2->α3->α4->Option ρ):Prop:=dz Tryz.prog g (S4 Tryz.prog g t1 t2 t3 t4 u F)
abbrev I5(g:Nat){α1:Type}{α2:Type}{α3:Type}{α4:Type}{α5:Type}{ρ:Type}(t1:TA α1)(t2:TA α2)(t3:TA α3)(t4:TA α4)(t5:TA α5)(u:TR ρ)(F:α1->α2->α3->α4->α5->Option ρ):Prop:=dz Tryz.prog g (S5 Tryz.prog g t1 t2 t3 t4 t5 u F)
abbrev I7(g:Nat){α1:Type}{α2:Type}{α3:Type}{α4:Type}{α5:Type}{α6:Type}{α7:Type}{ρ:Type}(t1:TA α1)(t2:TA α2)(t3:TA α3)(t4:TA α4)(t5:TA α5)(t6:TA α6)(t7:TA α7)(u:TR ρ)(F:α1->α2->α3->α4->α5->α6->α7->Option ρ):Prop:=dz Tryz.prog g (S7 Tryz.prog g t1 t2 t3 t4 t5 t6 t7 u F)
instance cf3:bM Tryz.prog 3:=⟨Tryz.call3⟩
instance cf4:bM Tryz.prog 4:=⟨Tryz.call4⟩
instance cf5:bM Tryz.prog 5:=⟨Tryz.call5⟩
instance cf6:bM Tryz.prog 6:=⟨Tryz.call6⟩
instance cf7:bM Tryz.prog 7:=⟨Tryz.call7⟩
instance cf8:bM Tryz.prog 8:=⟨Tryz.call8⟩
instance cf9:bM Tryz.prog 9:=⟨Tryz.call9⟩
instance aby:bM Tryz.prog 10:=⟨Tryz.call10⟩
instance aF':bM Tryz.prog 11:=⟨Tryz.call11⟩
instance aOR:bM Tryz.prog 12:=⟨Tryz.call12⟩
instance aOS:bM Tryz.prog 13:=⟨Tryz.call13⟩
instance aqd:bM Tryz.prog 14:=⟨Tryz.call14⟩
instance aOT:bM Tryz.prog 23:=⟨Tryz.call23⟩
instance aOU:bM Tryz.prog 24:=⟨Tryz.call24⟩
instance aOV:bM Tryz.prog 25:=⟨Tryz.call25⟩
instance aOW:bM Tryz.prog 26:=⟨Tryz.call26⟩
instance aOX:bM Tryz.prog 27:=⟨Tryz.call27⟩
instance aqe:bM Tryz.prog 28:=⟨Tryz.call28⟩
instance aGa:bM Tryz.prog 29:=⟨Tryz.call29⟩
instance aOY:bM Tryz.prog 38:=⟨Tryz.call38⟩
instance aOZ:bM Tryz.prog 39:=⟨Tryz.call39⟩
instance aO0:bM Tryz.prog 40:=⟨Tryz.call40⟩
instance aGb:bM Tryz.prog 41:=⟨Tryz.call41⟩
instance aGc:bM Tryz.prog 72:=⟨Tryz.call72⟩
instance aGd:bM Tryz.prog 73:=⟨Tryz.call73⟩
instance aGe:bM Tryz.prog 74:=⟨Tryz.call74⟩
instance aO1:bM Tryz.prog 75:=⟨Tryz.call75⟩
instance aO2:bM Tryz.prog 80:=⟨Tryz.call80⟩
instance aO3:bM Tryz.prog 82:=⟨Tryz.call82⟩
instance aO4:bM Tryz.prog 87:=⟨Tryz.call87⟩
instance aO5:bM Tryz.prog 88:=⟨Tryz.call88⟩
instance aGf:bM Tryz.prog 89:=⟨Tryz.call89⟩
instance aGg:bM Tryz.prog 90:=⟨Tryz.call90⟩
instance aO6:bM Tryz.prog 91:=⟨Tryz.call91⟩
instance aO7:bM Tryz.prog 92:=⟨Tryz.call92⟩
instance aO8:bM Tryz.prog 93:=⟨Tryz.call93⟩
instance aO9:bM Tryz.prog 94:=⟨Tryz.call94⟩
instance aO_:bM Tryz.prog 95:=⟨Tryz.call95⟩
instance aGh:bM Tryz.prog 96:=⟨Tryz.call96⟩
instance aO':bM Tryz.prog 97:=⟨Tryz.call97⟩
instance aPa:bM Tryz.prog 98:=⟨Tryz.call98⟩
instance aPb:bM Tryz.prog 99:=⟨Tryz.call99⟩
instance aMS:bM Tryz.prog 100:=⟨Tryz.call100⟩
instance afF:bM Tryz.prog 101:=⟨Tryz.call101⟩
instance afG:bM Tryz.prog 102:=⟨Tryz.call102⟩
instance aCA:bM Tryz.prog 103:=⟨Tryz.call103⟩
instance aCB:bM Tryz.prog 104:=⟨Tryz.call104⟩
instance aoA:bM Tryz.prog 112:=⟨Tryz.call112⟩
instance aCC:bM Tryz.prog 113:=⟨Tryz.call113⟩
instance aCD:bM Tryz.prog 114:=⟨Tryz.call114⟩
instance aCE:bM Tryz.prog 115:=⟨Tryz.call115⟩
instance aCF:bM Tryz.prog 116:=⟨Tryz.call116⟩
instance aCG:bM Tryz.prog 117:=⟨Tryz.call117⟩
instance aCH:bM Tryz.prog 118:=⟨Tryz.call118⟩
instance aMT:bM Tryz.prog 129:=⟨Tryz.call129⟩
instance aMU:bM Tryz.prog 130:=⟨Tryz.call130⟩
instance aMV:bM Tryz.prog 131:=⟨Tryz.call131⟩
instance aCI:bM Tryz.prog 132:=⟨Tryz.call132⟩
instance aMW:bM Tryz.prog 136:=⟨Tryz.call136⟩
instance aMX:bM Tryz.prog 152:=⟨Tryz.call152⟩
instance aMY:bM Tryz.prog 153:=⟨Tryz.call153⟩
instance aCJ:bM Tryz.prog 156:=⟨Tryz.call156⟩
instance aMZ:bM Tryz.prog 162:=⟨Tryz.call162⟩
instance aM0:bM Tryz.prog 163:=⟨Tryz.call163⟩
instance aCK:bM Tryz.prog 164:=⟨Tryz.call164⟩
instance aCL:bM Tryz.prog 172:=⟨Tryz.call172⟩
instance aoB:bM Tryz.prog 178:=⟨Tryz.call178⟩
instance aM1:bM Tryz.prog 179:=⟨Tryz.call179⟩
instance aoC:bM Tryz.prog 181:=⟨Tryz.call181⟩
instance aCM:bM Tryz.prog 200:=⟨Tryz.call200⟩
instance aM2:bM Tryz.prog 201:=⟨Tryz.call201⟩
instance aoD:bM Tryz.prog 202:=⟨Tryz.call202⟩
instance aM3:bM Tryz.prog 207:=⟨Tryz.call207⟩
instance aCN:bM Tryz.prog 208:=⟨Tryz.call208⟩
instance aCO:bM Tryz.prog 209:=⟨Tryz.call209⟩
instance aM4:bM Tryz.prog 210:=⟨Tryz.call210⟩
instance aCP:bM Tryz.prog 211:=⟨Tryz.call211⟩
instance aCQ:bM Tryz.prog 212:=⟨Tryz.call212⟩
instance aoE:bM Tryz.prog 213:=⟨Tryz.call213⟩
instance aM5:bM Tryz.prog 217:=⟨Tryz.call217⟩
instance aCR:bM Tryz.prog 218:=⟨Tryz.call218⟩
instance aCS:bM Tryz.prog 219:=⟨Tryz.call219⟩
instance aM6:bM Tryz.prog 237:=⟨Tryz.call237⟩
instance aM7:bM Tryz.prog 244:=⟨Tryz.call244⟩
instance aM8:bM Tryz.prog 246:=⟨Tryz.call246⟩
instance aM9:bM Tryz.prog 247:=⟨Tryz.call247⟩
instance aM_:bM Tryz.prog 248:=⟨Tryz.call248⟩
instance aCT:bM Tryz.prog 250:=⟨Tryz.call250⟩
instance aCU:bM Tryz.prog 251:=⟨Tryz.call251⟩
instance aM':bM Tryz.prog 252:=⟨Tryz.call252⟩
instance aoF:bM Tryz.prog 253:=⟨Tryz.call253⟩
instance aCV:bM Tryz.prog 254:=⟨Tryz.call254⟩
instance aNa:bM Tryz.prog 258:=⟨Tryz.call258⟩
instance aCW:bM Tryz.prog 259:=⟨Tryz.call259⟩
instance aCX:bM Tryz.prog 260:=⟨Tryz.call260⟩
instance aNb:bM Tryz.prog 265:=⟨Tryz.call265⟩
instance aNc:bM Tryz.prog 277:=⟨Tryz.call277⟩
instance aCY:bM Tryz.prog 279:=⟨Tryz.call279⟩
instance aoG:bM Tryz.prog 280:=⟨Tryz.call280⟩
instance aCZ:bM Tryz.prog 281:=⟨Tryz.call281⟩
instance aC0:bM Tryz.prog 282:=⟨Tryz.call282⟩
instance aoH:bM Tryz.prog 284:=⟨Tryz.call284⟩
instance aC1:bM Tryz.prog 287:=⟨Tryz.call287⟩
instance aNd:bM Tryz.prog 289:=⟨Tryz.call289⟩
instance aNe:bM Tryz.prog 290:=⟨Tryz.call290⟩
instance aNf:bM Tryz.prog 291:=⟨Tryz.call291⟩
instance aC2:bM Tryz.prog 299:=⟨Tryz.call299⟩
instance aC3:bM Tryz.prog 301:=⟨Tryz.call301⟩
instance aNg:bM Tryz.prog 306:=⟨Tryz.call306⟩
instance aC4:bM Tryz.prog 307:=⟨Tryz.call307⟩
instance aC5:bM Tryz.prog 308:=⟨Tryz.call308⟩
instance aNh:bM Tryz.prog 310:=⟨Tryz.call310⟩
instance aNi:bM Tryz.prog 312:=⟨Tryz.call312⟩
instance aNj:bM Tryz.prog 313:=⟨Tryz.call313⟩
theorem zI{α β:Type}{l:List α}{i:Int}{f:α->Option β}{R:β}{G:Prop}(hF:(ix l i).bind f=some R)(k:∀x,0<=i->l[i.toNat]?=some x->f x=some R->G):G:=by
 obtain⟨x,h,e⟩:=Option.bind_eq_some_iff.1 hF
 obtain⟨h1,h2⟩:=kU h
 exact k x h1 h2 e
theorem aaz{G N:Prop}(k:N)(h:N->G:=by (intro k; (iterate 10 refine au ?_); exact k)):G:=h k
theorem afH{G N:Prop}(k:N)(h:N->G:=by (intro k; (iterate 11 refine au ?_); exact k)):G:=h k
theorem TM{G N:Prop}(k:N)(h:N->G:=by (intro k; (iterate 12 refine au ?_); exact k)):G:=h k
theorem aC6{G N:Prop}(k:N)(h:N->G:=by (intro k; (iterate 13 refine au ?_); exact k)):G:=h k
theorem aoI{G N:Prop}(k:N)(h:N->G:=by (intro k; (iterate 16 refine au ?_); exact k)):G:=h k
theorem aC7{G N:Prop}(k:N)(h:N->G:=by (intro k; (iterate 18 refine au ?_); exact k)):G:=h k
theorem eu{G N:Prop}(k:N)(h:N->G:=by (intro k; (iterate 2 refine au ?_); exact k)):G:=h k
theorem fw{G N:Prop}(k:N)(h:N->G:=by (intro k; (iterate 3 refine au ?_); exact k)):G:=h k
theorem dO{G N:Prop}(k:N)(h:N->G:=by (intro k; (iterate 4 refine au ?_); exact k)):G:=h k
theorem fI{G N:Prop}(k:N)(h:N->G:=by (intro k; (iterate 5 refine au ?_); exact k)):G:=h k
theorem lN{G N:Prop}(k:N)(h:N->G:=by (intro k; (iterate 6 refine au ?_); exact k)):G:=h k
theorem iq{G N:Prop}(k:N)(h:N->G:=by (intro k; (iterate 7 refine au ?_); exact k)):G:=h k
theorem kP{G N:Prop}(k:N)(h:N->G:=by (intro k; (iterate 8 refine au ?_); exact k)):G:=h k
theorem JR{G N:Prop}(k:N)(h:N->G:=by (intro k; (iterate 9 refine au ?_); exact k)):G:=h k
theorem kQ(b:Bool):b=true\/b=false:=aRM b
theorem eY{α:Sort _}{a b:α}:cond false a b=b:=rfl
theorem eZ{α:Sort _}{a b:α}:cond true a b=a:=rfl
theorem aC8{G N:Prop}(k:N)(h:N->G:=by (intro k; (iterate 10 refine du ?_); exact k)):G:=h k
theorem aC9{G N:Prop}(k:N)(h:N->G:=by (intro k; (iterate 13 refine du ?_); exact k)):G:=h k
theorem jF{G N:Prop}(k:N)(h:N->G:=by (intro k; (iterate 2 refine du ?_); exact k)):G:=h k
theorem pu{G N:Prop}(k:N)(h:N->G:=by (intro k; (iterate 3 refine du ?_); exact k)):G:=h k
theorem Az{G N:Prop}(k:N)(h:N->G:=by (intro k; (iterate 4 refine du ?_); exact k)):G:=h k
theorem aGi{G N:Prop}(k:N)(h:N->G:=by (intro k; (iterate 5 refine du ?_); exact k)):G:=h k
theorem aGj{G N:Prop}(k:N)(h:N->G:=by (intro k; (iterate 7 refine du ?_); exact k)):G:=h k
theorem aGk{G N:Prop}(k:N)(h:N->G:=by (intro k; (iterate 8 refine du ?_); exact k)):G:=h k
theorem ze{G P:Prop}(hF:P)(h:P->G:=by (intro hF; (repeat refine au ?_); cases hF; exact Er ())):G:=h hF
theorem jP{G P:Prop}(hF:P)(h:P->G:=by (intro hF; (repeat refine au ?_); cases hF; exact⟨_,_,rfl,df,bT⟩)):G:=h hF
theorem aqf{G P:Prop}(hF:P)(h:P->G:=by (intro hF; (repeat refine du ?_); cases hF; exact⟨_,_,rfl,df,bT⟩)):G:=h hF
abbrev zg(l:List Value):Value:=.agg l.toArray
abbrev zi(n:Int):Value:=.int .i64 n
theorem lT(n:Nat):n<n.succ:=aST n
abbrev qz(F:List Nat)(v:Sv):=ah (aa 127 iT) F v.v
abbrev qY(F:List Nat)(v:Sv):=ah (aa 129 jX) F v.v
abbrev TN(F:List Nat)(v:Sv):=ah (aa 138 jZ) F v.v
abbrev wo(F:List Nat)(v:Sv):=ah (aa 152 j3) F v.v
abbrev ik(F:List Nat)(v:Sv):=ah (aa 164 dV) F v.v
abbrev jK(F:List Nat)(v:Sv):=ah (aa 201 g_) F v.v
abbrev oL(F:List Nat)(v:Sv):=ah (aa 85 ji) F v.v
abbrev uy(F:List Nat)(v:Sv):=ah (aa 155 (az fZ)) F v.v
abbrev afI(F:List Nat)(v:Sv):=ah (aa 201 (az jm)) F v.v
abbrev dW(F:List Nat)(v:Sv):=ah (aa 3 (az ax)) F v.v
abbrev A9(F:List Nat)(v:Sv):=ah (aa 4 (az rdBool)) F v.v
abbrev wE(F:List Nat)(v:Sv):=ah (aa 85 (az kN)) F v.v
abbrev afJ(v:Sv):=aI (ak 112 CV) v.v
abbrev afK(v:Sv):=aI (ak 115 CX) v.v
abbrev afL(v:Sv):=aI (ak 119 CY) v.v
abbrev afM(v:Sv):=aI (ak 123 CZ) v.v
abbrev dY(v:Sv):=aI (ak 127 iB) v.v
abbrev wu(v:Sv):=aI (ak 129 qy) v.v
abbrev eF(v:Sv):=aI (ak 138 l7) v.v
abbrev C8(v:Sv):=aI (ak 152 sF) v.v
abbrev h_(v:Sv):=aI (ak 155 fZ) v.v
abbrev iK(v:Sv):=aI (ak 164 gZ) v.v
abbrev afN(v:Sv):=aI (ak 195 uu) v.v
abbrev afO(v:Sv):=aI (ak 198 yK) v.v
abbrev ku(v:Sv):=aI (ak 201 jm) v.v
abbrev bi(v:Sv):=aI (ak 3 ax) v.v
abbrev N9(v:Sv):=aI (ak 56 N8) v.v
abbrev sN(v:Sv):=aI (ak 85 kN) v.v
theorem zx{G N:Prop}(k:N)(h:N->G:=by (intro k; exact aP (tC (.tmp rfl rfl) rfl) k)):G:=h k
theorem _root_.Go.Fw.Mem.q2{c d0 d1:ay}{l:List ay}:Fw.Mem c (d0::d1::c::l):=.t (.t .h)
theorem _root_.Go.Fw.Mem.q3{c d0 d1 d2:ay}{l:List ay}:Fw.Mem c (d0::d1::d2::c::l):=.t (.t (.t .h))
theorem _root_.Go.Fw.Mem.q4{c d0 d1 d2 d3:ay}{l:List ay}:Fw.Mem c (d0::d1::d2::d3::c::l):=.t (.t (.t (.t .h)))
theorem _root_.Go.Fw.Mem.q5{c d0 d1 d2 d3 d4:ay}{l:List ay}:Fw.Mem c (d0::d1::d2::d3::d4::c::l):=.t (.t (.t (.t (.t .h))))
theorem _root_.Go.Fw.Mem.q6{c d0 d1 d2 d3 d4 d5:ay}{l:List ay}:Fw.Mem c (d0::d1::d2::d3::d4::d5::c::l):=.t (.t (.t (.t (.t (.t .h)))))
theorem _root_.Go.Fw.Mem.q7{c d0 d1 d2 d3 d4 d5 d6:ay}{l:List ay}:Fw.Mem c (d0::d1::d2::d3::d4::d5::d6::c::l):=.t (.t (.t (.t (.t (.t (.t .h))))))
theorem _root_.Go.Fw.Mem.q8{c d0 d1 d2 d3 d4 d5 d6 d7:ay}{l:List ay}:Fw.Mem c (d0::d1::d2::d3::d4::d5::d6::d7::c::l):=.t (.t (.t (.t (.t (.t (.t (.t .h)))))))
theorem _root_.Go.Fw.Mem.q9{c d0 d1 d2 d3 d4 d5 d6 d7 d8:ay}{l:List ay}:Fw.Mem c (d0::d1::d2::d3::d4::d5::d6::d7::d8::c::l):=.t (.t (.t (.t (.t (.t (.t (.t (.t .h))))))))
theorem _root_.Go.Fw.Mem.q10{c d0 d1 d2 d3 d4 d5 d6 d7 d8 d9:ay}{l:List ay}:Fw.Mem c (d0::d1::d2::d3::d4::d5::d6::d7::d8::d9::c::l):=.t (.t (.t (.t (.t (.t (.t (.t (.t (.t .h)))))))))
theorem _root_.Go.Fw.Mem.q11{c d0 d1 d2 d3 d4 d5 d6 d7 d8 d9 qN:ay}{l:List ay}:Fw.Mem c (d0::d1::d2::d3::d4::d5::d6::d7::d8::d9::qN::c::l):=.t (.t (.t (.t (.t (.t (.t (.t (.t (.t (.t .h))))))))))
theorem _root_.Go.Fw.Mem.q12{c d0 d1 d2 d3 d4 d5 d6 d7 d8 d9 qN vR:ay}{l:List ay}:Fw.Mem c (d0::d1::d2::d3::d4::d5::d6::d7::d8::d9::qN::vR::c::l):=.t (.t (.t (.t (.t (.t (.t (.t (.t (.t (.t (.t .h)))))))))))
theorem _root_.Go.Fw.Mem.q13{c d0 d1 d2 d3 d4 d5 d6 d7 d8 d9 qN vR Ef:ay}{l:List ay}:Fw.Mem c (d0::d1::d2::d3::d4::d5::d6::d7::d8::d9::qN::vR::Ef::c::l):=.t (.t (.t (.t (.t (.t (.t (.t (.t (.t (.t (.t (.t .h))))))))))))
theorem _root_.Go.Fw.Mem.q14{c d0 d1 d2 d3 d4 d5 d6 d7 d8 d9 qN vR Ef d13:ay}{l:List ay}:Fw.Mem c (d0::d1::d2::d3::d4::d5::d6::d7::d8::d9::qN::vR::Ef::d13::c::l):=.t (.t (.t (.t (.t (.t (.t (.t (.t (.t (.t (.t (.t (.t .h)))))))))))))
theorem _root_.Go.Fw.dU.q2{c d0 d1:ay}{l:List ay}:Fw.dU (d0::d1::c::l) c (d0::d1::l):=.t (.t .h)
theorem _root_.Go.Fw.dU.q3{c d0 d1 d2:ay}{l:List ay}:Fw.dU (d0::d1::d2::c::l) c (d0::d1::d2::l):=.t (.t (.t .h))
theorem _root_.Go.Fw.dU.q4{c d0 d1 d2 d3:ay}{l:List ay}:Fw.dU (d0::d1::d2::d3::c::l) c (d0::d1::d2::d3::l):=.t (.t (.t (.t .h)))
theorem _root_.Go.Fw.dU.q5{c d0 d1 d2 d3 d4:ay}{l:List ay}:Fw.dU (d0::d1::d2::d3::d4::c::l) c (d0::d1::d2::d3::d4::l):=.t (.t (.t (.t (.t .h))))
theorem _root_.Go.Fw.dU.q6{c d0 d1 d2 d3 d4 d5:ay}{l:List ay}:Fw.dU (d0::d1::d2::d3::d4::d5::c::l) c (d0::d1::d2::d3::d4::d5::l):=.t (.t (.t (.t (.t (.t .h)))))
theorem _root_.Go.Fw.dU.q7{c d0 d1 d2 d3 d4 d5 d6:ay}{l:List ay}:Fw.dU (d0::d1::d2::d3::d4::d5::d6::c::l) c (d0::d1::d2::d3::d4::d5::d6::l):=.t (.t (.t (.t (.t (.t (.t .h))))))
theorem _root_.Go.Fw.dU.q8{c d0 d1 d2 d3 d4 d5 d6 d7:ay}{l:List ay}:Fw.dU (d0::d1::d2::d3::d4::d5::d6::d7::c::l) c (d0::d1::d2::d3::d4::d5::d6::d7::l):=.t (.t (.t (.t (.t (.t (.t (.t .h)))))))
theorem _root_.Go.Fw.dU.q9{c d0 d1 d2 d3 d4 d5 d6 d7 d8:ay}{l:List ay}:Fw.dU (d0::d1::d2::d3::d4::d5::d6::d7::d8::c::l) c (d0::d1::d2::d3::d4::d5::d6::d7::d8::l):=.t (.t (.t (.t (.t (.t (.t (.t (.t .h))))))))
theorem _root_.Go.Fw.dU.q10{c d0 d1 d2 d3 d4 d5 d6 d7 d8 d9:ay}{l:List ay}:Fw.dU (d0::d1::d2::d3::d4::d5::d6::d7::d8::d9::c::l) c (d0::d1::d2::d3::d4::d5::d6::d7::d8::d9::l):=.t (.t (.t (.t (.t (.t (.t (.t (.t (.t .h)))))))))
theorem _root_.Go.Fw.dU.q11{c d0 d1 d2 d3 d4 d5 d6 d7 d8 d9 qN:ay}{l:List ay}:Fw.dU (d0::d1::d2::d3::d4::d5::d6::d7::d8::d9::qN::c::l) c (d0::d1::d2::d3::d4::d5::d6::d7::d8::d9::qN::l):=.t (.t (.t (.t (.t (.t (.t (.t (.t (.t (.t .h))))))))))
theorem _root_.Go.Fw.dU.q12{c d0 d1 d2 d3 d4 d5 d6 d7 d8 d9 qN vR:ay}{l:List ay}:Fw.dU (d0::d1::d2::d3::d4::d5::d6::d7::d8::d9::qN::vR::c::l) c (d0::d1::d2::d3::d4::d5::d6::d7::d8::d9::qN::vR::l):=.t (.t (.t (.t (.t (.t (.t (.t (.t (.t (.t (.t .h)))))))))))
theorem _root_.Go.Fw.dU.q13{c d0 d1 d2 d3 d4 d5 d6 d7 d8 d9 qN vR Ef:ay}{l:List ay}:Fw.dU (d0::d1::d2::d3::d4::d5::d6::d7::d8::d9::qN::vR::Ef::c::l) c (d0::d1::d2::d3::d4::d5::d6::d7::d8::d9::qN::vR::Ef::l):=.t (.t (.t (.t (.t (.t (.t (.t (.t (.t (.t (.t (.t .h))))))))))))
theorem _root_.Go.Fw.dU.q14{c d0 d1 d2 d3 d4 d5 d6 d7 d8 d9 qN vR Ef d13:ay}{l:List ay}:Fw.dU (d0::d1::d2::d3::d4::d5::d6::d7::d8::d9::qN::vR::Ef::d13::c::l) c (d0::d1::d2::d3::d4::d5::d6::d7::d8::d9::qN::vR::Ef::d13::l):=.t (.t (.t (.t (.t (.t (.t (.t (.t (.t (.t (.t (.t (.t .h)))))))))))))
end Go.Proofs.YtlnefhbbbikmgabGreat
