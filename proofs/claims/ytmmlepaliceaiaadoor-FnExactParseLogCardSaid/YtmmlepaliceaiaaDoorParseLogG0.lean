/-
  Functions of the program as Lean functions, and that the calls return what these say: part 1. No conditions.
-/
import Derived.Test.YtmmlepaliceaiaaDoorFc
import Derived.Shelf.Strconv.Itoa3
import Derived.Shelf.Strings.OnBuilder
import Derived.Test.YtmmlepaliceaiaaDoorProg
import Derived.KernelRfl
set_option maxRecDepth 100000
set_option maxHeartbeats 1000000
set_option linter.unusedVariables false
namespace Go.Proofs.YtmmlepaliceaiaaDoor
open Go Go.Fw

theorem yG{G:Prop}(h:G:=by (unfold FD; kernel_rfl)):G:=h
theorem qm{G:Prop}(h:G:=by (unfold AG; kernel_rfl)):G:=h
theorem qo{G:Prop}(h:G:=by (unfold SL; kernel_rfl)):G:=h
theorem nO{G:Prop}(h:G:=by (unfold TY; kernel_rfl)):G:=h
instance:ay Tryd.prog:=⟨fun w=>Lib.TabIs Tryd.prog w "internal/strconv.uint64pow10" .u64 Lib.pow10Tab/\(∃tp p,w.var? Tryd.prog "strconv.ErrSyntax" =some #[.iface tp p])/\ ∃tp p,w.var? Tryd.prog "strconv.ErrRange" =some #[.iface tp p]⟩
theorem bv:Fw.ST Tryd.prog 9:=by unfold Fw.ST; kernel_rfl
instance Kc:aQ Tryd.prog 4:=⟨Tryd.call4⟩
structure ak where
 Method:Int
 Values:List Int
instance iO:iY Tryd.prog 22 32:=⟨qo⟩
instance dA:dZ Tryd.prog 32 2 32 (.agg [(.int .i64 0),(.slice none 0 0)].toArray):=⟨nO⟩
def ku(H:aa)(v:Value)(a:ak):Prop:=∃v0:Sv,v= .agg [(.int .i64 a.Method),v0.v].toArray/\(bD 3 cu) H v0.v a.Values
instance:aR ku:=⟨fun h hi=>by
 obtain⟨v0,h,h0⟩:=h
 exact⟨v0,h,aR.up h0 hi⟩⟩
instance:Cells ku 2:=⟨fun h=>by
 obtain⟨v0,rfl,h0⟩:=h
 exact⟨rfl,rfl⟩⟩
def di:bJ ak:=fun F H v a=>∃(v0:Sv)(F0:List Nat),v= .agg [(.int .i64 a.Method),v0.v].toArray/\F0=F/\(aK 3 (bG cu)) F0 H v0.v a.Values
instance:bM di:=⟨fun h hi hg=>by
 obtain⟨v0,F0,rfl,rfl,h0⟩:=h
 exact⟨v0,F0,rfl,rfl,bM.keep h0 hi (fun k hk=>hg k (by simp[hk]))⟩⟩
instance:Local di:=⟨fun h hg=>by
 obtain⟨v0,F0,rfl,rfl,h0⟩:=h
 exact⟨v0,F0,rfl,rfl,Local.keep h0 (fun k hk=>hg k (by simp[hk]))⟩⟩
instance:iL di:=⟨fun h k hk=>by
 obtain⟨v0,F0,rfl,rfl,h0⟩:=h
 exact iL.owns h0 k hk
⟩
instance:iA di 2:=⟨fun h=>by
 obtain⟨v0,F0,rfl,rfl,h0⟩:=h
 exact⟨rfl,rfl⟩⟩
instance:iW di ku:=⟨fun h hg=>by
 obtain⟨v0,F0,rfl,rfl,h0⟩:=h
 exact⟨v0,rfl,iW.frz h0 (fun k hk=>hg k (by simp[hk]))⟩⟩
instance Ke:aQ Tryd.prog 9:=⟨Tryd.call9⟩
instance iP:iY Tryd.prog 28 9:=⟨qo⟩
instance gB:dZ Tryd.prog 9 1 16 (.string ⟨[].toArray⟩):=⟨nO⟩
theorem tu:lC Tryd.prog 28:=.inr ⟨9,by kernel_rfl⟩
instance II:dY Tryd.prog 9 false:=⟨qm⟩
theorem EU{a:List UInt8}:∀F H e,(bG rdStr) F H e a->e.cells.toList[0]?=some (sv a):=by
 intro F H e h
 obtain⟨-,h⟩:=h
 subst h
 rfl
instance I9:aQ Tryd.prog 10:=⟨Tryd.call10⟩
instance F6:aQ Tryd.prog 17:=⟨Tryd.call17⟩
instance I_:aQ Tryd.prog 24:=⟨Tryd.call24⟩
theorem oF:IK Tryd.prog 5 .u8:=by unfold IK; kernel_rfl
theorem uu:IK Tryd.prog 3 .i64:=by unfold IK; kernel_rfl
instance Ja:aQ Tryd.prog 26:=⟨Tryd.call26⟩
instance qp:iY Tryd.prog 61 5:=⟨qo⟩
instance qM:dZ Tryd.prog 5 1 1 (.int .u8 0):=⟨nO⟩
theorem yH:Tryd.prog.underlying 9=some .string:=by kernel_rfl
instance nP:dY Tryd.prog 32 true:=⟨qm⟩
theorem mixed:Tryd.prog.follows .mixedOrders=true:=by kernel_rfl
instance IZ:qK Tryd.prog 32 1 1:=⟨yG⟩
instance tC:dY Tryd.prog 30 false:=⟨qm⟩
theorem sM{a:List UInt8}:∀H e,rdStr H e a->e.cells.toList[0]?=some (sv a):=by
 intro H e h
 subst h
 rfl
instance lQ:iY Tryd.prog 30 3:=⟨qo⟩
instance jJ:dZ Tryd.prog 3 1 8 (.int .i64 0):=⟨nO⟩
theorem yI:lC Tryd.prog 30:=.inr ⟨3,by kernel_rfl⟩
instance F8:dZ Tryd.prog 30 1 24 (.slice none 0 0):=⟨nO⟩
theorem yJ{a:ak}{v0:Sv}{F0:List Nat}:Mk di F0 (.agg [(.int .i64 a.Method),v0.v].toArray) a [aG (aK 3 (bG cu)) F0 v0.v a.Values]:=
 ⟨fun H h=>⟨v0,F0,rfl,rfl,h (aG (aK 3 (bG cu)) F0 v0.v a.Values) (by simp)⟩,by simp[aG]⟩
theorem yK:lC Tryd.prog 22:=.inr ⟨32,by kernel_rfl⟩
instance F_:aQ Tryd.prog 11:=⟨Tryd.call11⟩
def pO(a:ak)(p:Sv):List Value:=[(.int .i64 a.Method),p.v]
theorem rC{a:ak}:∀H e,ku H e a-> ∃i:Sv,0+2<=e.cells.size/\(e.cells.toList.drop 0).take 2=pO a i/\ ∀c∈([bV (bD 3 cu) i.v a.Values]:List ag),c.P H/\c.F=[]:=by
 intro H e h
 obtain⟨v0,rfl,h0⟩:=h
 refine⟨v0,Nat.le_of_ble_eq_true rfl,rfl,fun c hc=>by
   simp only[List.mem_cons,List.not_mem_nil,or_false]at hc
   rcases hc with rfl
   · exact⟨h0,rfl⟩
⟩
instance Jb:aQ Tryd.prog 18:=⟨Tryd.call18⟩
instance I1:qK Tryd.prog 32 0 0:=⟨yG⟩
instance Kg:dY Tryd.prog 3 false:=⟨qm⟩
instance Jc:aQ Tryd.prog 25:=⟨Tryd.call25⟩
instance Jd:aQ Tryd.prog 27:=⟨Tryd.call27⟩
theorem jr{a:Int}:∀H e,cu H e a->e.cells.toList[0]?=some (.int .i64 a):=by
 intro H e h
 subst h
 rfl
instance Kh:aQ Tryd.prog 5:=⟨Tryd.call5⟩
instance Je:aQ Tryd.prog 12:=⟨Tryd.call12⟩
instance Jf:aQ Tryd.prog 19:=⟨Tryd.call19⟩
def AP:Go.Shelf.Ren:=⟨fun|221=>19|268=>28|138=>29|143=>30|195=>40|197=>41|218=>42|219=>43|260=>54|217=>55|225=>56|224=>57|267=>58|266=>67|314=>68|n=>n,fun|9=>9|3=>3|31=>28|4=>4|0=>0|105=>62|21=>21|5=>5|46=>73|119=>81|139=>84|138=>83|146=>86|51=>85|n=>n,fun|1=>0|3=>1|4=>2|n=>n⟩
theorem CJ:Go.Proofs.Lays.n221 Tryd.prog AP:={
 mixed:=by kernel_rfl
 f138:=Tryd.func29.trans (congrArg some (by kernel_rfl))
 f143:=Tryd.func30.trans (congrArg some (by kernel_rfl))
 f195:=Tryd.func40.trans (congrArg some (by kernel_rfl))
 f197:=Tryd.func41.trans (congrArg some (by kernel_rfl))
 f217:=Tryd.func55.trans (congrArg some (by kernel_rfl))
 f218:=Tryd.func42.trans (congrArg some (by kernel_rfl))
 f219:=Tryd.func43.trans (congrArg some (by kernel_rfl))
 f221:=Tryd.func19.trans (congrArg some (by kernel_rfl))
 f224:=Tryd.func57.trans (congrArg some (by kernel_rfl))
 f225:=Tryd.func56.trans (congrArg some (by kernel_rfl))
 f260:=Tryd.func54.trans (congrArg some (by kernel_rfl))
 f266:=Tryd.func67.trans (congrArg some (by kernel_rfl))
 f267:=Tryd.func58.trans (congrArg some (by kernel_rfl))
 f268:=Tryd.func28.trans (congrArg some (by kernel_rfl))
 f314:=Tryd.func68.trans (congrArg some (by kernel_rfl))
 t0:=Tryd.underlying0
 a0:=Tryd.isAgg0
 z0:=Tryd.sizeOf0
 v0:=Tryd.zeroValue0
 t3:=Tryd.underlying3
 a3:=Tryd.isAgg3
 z3:=Tryd.sizeOf3
 v3:=Tryd.zeroValue3
 t4:=Tryd.underlying4
 a4:=Tryd.isAgg4
 z4:=Tryd.sizeOf4
 v4:=Tryd.zeroValue4
 t5:=Tryd.underlying5
 a5:=Tryd.isAgg5
 z5:=Tryd.sizeOf5
 v5:=Tryd.zeroValue5
 t9:=Tryd.underlying9
 a9:=Tryd.isAgg9
 z9:=Tryd.sizeOf9
 v9:=Tryd.zeroValue9
 t21:=Tryd.underlying21
 a21:=Tryd.isAgg21
 z21:=Tryd.sizeOf21
 v21:=Tryd.zeroValue21
 t31:=Tryd.underlying28
 a31:=Tryd.isAgg28
 z31:=Tryd.sizeOf28
 v31:=Tryd.zeroValue28
 t46:=Tryd.underlying73
 a46:=Tryd.isAgg73
 z46:=Tryd.sizeOf73
 v46:=Tryd.zeroValue73
 t51:=Tryd.underlying85
 a51:=Tryd.isAgg85
 z51:=Tryd.sizeOf85
 v51:=Tryd.zeroValue85
 t105:=Tryd.underlying62
 a105:=Tryd.isAgg62
 z105:=Tryd.sizeOf62
 v105:=Tryd.zeroValue62
 t119:=Tryd.underlying81
 a119:=Tryd.isAgg81
 z119:=Tryd.sizeOf81
 t138:=Tryd.underlying83
 a138:=Tryd.isAgg83
 z138:=Tryd.sizeOf83
 v138:=Tryd.zeroValue83
 t139:=Tryd.underlying84
 a139:=Tryd.isAgg84
 z139:=Tryd.sizeOf84
 v139:=Tryd.zeroValue84
 t146:=Tryd.underlying86
 a146:=Tryd.isAgg86
 z146:=Tryd.sizeOf86
 v146:=Tryd.zeroValue86
 g1:=by kernel_rfl
 g3:=by kernel_rfl
 g4:=by kernel_rfl}
theorem hi9:(Tryd.prog.info? 9).map (fun i=>(i.zero,i.size,i.bytes))=some (some (.string ByteArray.empty),1,16):=by kernel_rfl
instance Jg:aQ Tryd.prog 13:=⟨Tryd.call13⟩
instance Jh:aQ Tryd.prog 20:=⟨Tryd.call20⟩
instance Ji:aQ Tryd.prog 31:=⟨Tryd.call31⟩
instance Jj:aQ Tryd.prog 44:=⟨Tryd.call44⟩
instance Jk:aQ Tryd.prog 43:=⟨Tryd.call43⟩
def AQ:Go.Shelf.Ren:=⟨fun|219=>43|217=>55|225=>56|224=>57|267=>58|266=>67|314=>68|n=>n,fun|9=>9|3=>3|4=>4|5=>5|46=>73|146=>86|51=>85|n=>n,fun|1=>0|n=>n⟩
theorem CK:Go.Proofs.Lays.n219 Tryd.prog AQ:={
 mixed:=by kernel_rfl
 f217:=Tryd.func55.trans (congrArg some (by kernel_rfl))
 f219:=Tryd.func43.trans (congrArg some (by kernel_rfl))
 f224:=Tryd.func57.trans (congrArg some (by kernel_rfl))
 f225:=Tryd.func56.trans (congrArg some (by kernel_rfl))
 f266:=Tryd.func67.trans (congrArg some (by kernel_rfl))
 f267:=Tryd.func58.trans (congrArg some (by kernel_rfl))
 f314:=Tryd.func68.trans (congrArg some (by kernel_rfl))
 t3:=Tryd.underlying3
 a3:=Tryd.isAgg3
 z3:=Tryd.sizeOf3
 v3:=Tryd.zeroValue3
 t4:=Tryd.underlying4
 a4:=Tryd.isAgg4
 z4:=Tryd.sizeOf4
 v4:=Tryd.zeroValue4
 t5:=Tryd.underlying5
 a5:=Tryd.isAgg5
 z5:=Tryd.sizeOf5
 v5:=Tryd.zeroValue5
 t9:=Tryd.underlying9
 a9:=Tryd.isAgg9
 z9:=Tryd.sizeOf9
 v9:=Tryd.zeroValue9
 t46:=Tryd.underlying73
 a46:=Tryd.isAgg73
 z46:=Tryd.sizeOf73
 v46:=Tryd.zeroValue73
 t51:=Tryd.underlying85
 a51:=Tryd.isAgg85
 z51:=Tryd.sizeOf85
 v51:=Tryd.zeroValue85
 t146:=Tryd.underlying86
 a146:=Tryd.isAgg86
 z146:=Tryd.sizeOf86
 v146:=Tryd.zeroValue86
 g1:=by kernel_rfl}
instance Jl:aQ Tryd.prog 33:=⟨Tryd.call33⟩
instance Jm:aQ Tryd.prog 46:=⟨Tryd.call46⟩
instance Jn:aQ Tryd.prog 61:=⟨Tryd.call61⟩
instance Jo:aQ Tryd.prog 32:=⟨Tryd.call32⟩
instance Ga:aQ Tryd.prog 45:=⟨Tryd.call45⟩
def Ay:Go.Shelf.Ren:=⟨fun|172=>45|244=>59|245=>60|247=>69|279=>70|280=>71|281=>72|282=>73|287=>77|316=>78|171=>52|205=>79|321=>86|322=>87|243=>63|246=>74|283=>80|284=>81|285=>82|286=>83|129=>89|317=>88|318=>90|319=>91|320=>92|337=>93|338=>94|n=>n,fun|9=>9|3=>3|75=>66|76=>67|4=>4|5=>5|167=>88|37=>61|0=>0|85=>89|2=>2|168=>91|53=>96|175=>97|46=>73|210=>101|127=>95|145=>114|143=>112|21=>21|171=>103|173=>106|212=>116|51=>85|20=>20|213=>117|232=>120|233=>121|80=>80|n=>n,fun|15=>3|16=>4|17=>5|18=>6|19=>7|n=>n⟩
theorem BV:Go.Proofs.LaysC.n172 Tryd.prog Ay:={
 mixed:=by kernel_rfl
 f129:=Tryd.func89.trans (congrArg some (by kernel_rfl))
 f171:=Tryd.func52.trans (congrArg some (by kernel_rfl))
 f172:=Tryd.func45.trans (congrArg some (by kernel_rfl))
 f205:=Tryd.func79.trans (congrArg some (by kernel_rfl))
 f243:=Tryd.func63.trans (congrArg some (by kernel_rfl))
 f244:=Tryd.func59.trans (congrArg some (by kernel_rfl))
 f245:=Tryd.func60.trans (congrArg some (by kernel_rfl))
 f246:=Tryd.func74.trans (congrArg some (by kernel_rfl))
 f247:=Tryd.func69.trans (congrArg some (by kernel_rfl))
 f279:=Tryd.func70.trans (congrArg some (by kernel_rfl))
 f280:=Tryd.func71.trans (congrArg some (by kernel_rfl))
 f281:=Tryd.func72.trans (congrArg some (by kernel_rfl))
 f282:=Tryd.func73.trans (congrArg some (by kernel_rfl))
 f283:=Tryd.func80.trans (congrArg some (by kernel_rfl))
 f284:=Tryd.func81.trans (congrArg some (by kernel_rfl))
 f285:=Tryd.func82.trans (congrArg some (by kernel_rfl))
 f286:=Tryd.func83.trans (congrArg some (by kernel_rfl))
 f287:=Tryd.func77.trans (congrArg some (by kernel_rfl))
 f316:=Tryd.func78.trans (congrArg some (by kernel_rfl))
 f317:=Tryd.func88.trans (congrArg some (by kernel_rfl))
 f318:=Tryd.func90.trans (congrArg some (by kernel_rfl))
 f319:=Tryd.func91.trans (congrArg some (by kernel_rfl))
 f320:=Tryd.func92.trans (congrArg some (by kernel_rfl))
 f321:=Tryd.func86.trans (congrArg some (by kernel_rfl))
 f322:=Tryd.func87.trans (congrArg some (by kernel_rfl))
 f337:=Tryd.func93.trans (congrArg some (by kernel_rfl))
 f338:=Tryd.func94.trans (congrArg some (by kernel_rfl))
 t0:=Tryd.underlying0
 a0:=Tryd.isAgg0
 z0:=Tryd.sizeOf0
 v0:=Tryd.zeroValue0
 t2:=Tryd.underlying2
 a2:=Tryd.isAgg2
 z2:=Tryd.sizeOf2
 v2:=Tryd.zeroValue2
 t3:=Tryd.underlying3
 a3:=Tryd.isAgg3
 z3:=Tryd.sizeOf3
 v3:=Tryd.zeroValue3
 t4:=Tryd.underlying4
 a4:=Tryd.isAgg4
 z4:=Tryd.sizeOf4
 v4:=Tryd.zeroValue4
 t5:=Tryd.underlying5
 a5:=Tryd.isAgg5
 z5:=Tryd.sizeOf5
 v5:=Tryd.zeroValue5
 t9:=Tryd.underlying9
 a9:=Tryd.isAgg9
 z9:=Tryd.sizeOf9
 v9:=Tryd.zeroValue9
 t20:=Tryd.underlying20
 a20:=Tryd.isAgg20
 z20:=Tryd.sizeOf20
 v20:=Tryd.zeroValue20
 t21:=Tryd.underlying21
 a21:=Tryd.isAgg21
 z21:=Tryd.sizeOf21
 v21:=Tryd.zeroValue21
 t37:=Tryd.underlying61
 a37:=Tryd.isAgg61
 z37:=Tryd.sizeOf61
 v37:=Tryd.zeroValue61
 t46:=Tryd.underlying73
 a46:=Tryd.isAgg73
 z46:=Tryd.sizeOf73
 v46:=Tryd.zeroValue73
 t51:=Tryd.underlying85
 a51:=Tryd.isAgg85
 z51:=Tryd.sizeOf85
 v51:=Tryd.zeroValue85
 t53:=Tryd.underlying96
 a53:=Tryd.isAgg96
 z53:=Tryd.sizeOf96
 v53:=Tryd.zeroValue96
 t75:=Tryd.underlying66
 a75:=Tryd.isAgg66
 z75:=Tryd.sizeOf66
 v75:=Tryd.zeroValue66
 t76:=Tryd.underlying67
 a76:=Tryd.isAgg67
 z76:=Tryd.sizeOf67
 v76:=Tryd.zeroValue67
 t85:=Tryd.underlying89
 a85:=Tryd.isAgg89
 z85:=Tryd.sizeOf89
 v85:=Tryd.zeroValue89
 t127:=Tryd.underlying95
 a127:=Tryd.isAgg95
 z127:=Tryd.sizeOf95
 v127:=Tryd.zeroValue95
 t143:=Tryd.underlying112
 a143:=Tryd.isAgg112
 z143:=Tryd.sizeOf112
 v143:=Tryd.zeroValue112
 t145:=Tryd.underlying114
 a145:=Tryd.isAgg114
 z145:=Tryd.sizeOf114
 v145:=Tryd.zeroValue114
 t167:=Tryd.underlying88
 a167:=Tryd.isAgg88
 z167:=Tryd.sizeOf88
 v167:=Tryd.zeroValue88
 t168:=Tryd.underlying91
 a168:=Tryd.isAgg91
 z168:=Tryd.sizeOf91
 v168:=Tryd.zeroValue91
 t171:=Tryd.underlying103
 a171:=Tryd.isAgg103
 z171:=Tryd.sizeOf103
 v171:=Tryd.zeroValue103
 t173:=Tryd.underlying106
 a173:=Tryd.isAgg106
 z173:=Tryd.sizeOf106
 v173:=Tryd.zeroValue106
 t175:=Tryd.underlying97
 a175:=Tryd.isAgg97
 z175:=Tryd.sizeOf97
 v175:=Tryd.zeroValue97
 t210:=Tryd.underlying101
 a210:=Tryd.isAgg101
 z210:=Tryd.sizeOf101
 v210:=Tryd.zeroValue101
 t212:=Tryd.underlying116
 a212:=Tryd.isAgg116
 z212:=Tryd.sizeOf116
 v212:=Tryd.zeroValue116
 t213:=Tryd.underlying117
 a213:=Tryd.isAgg117
 z213:=Tryd.sizeOf117
 t232:=Tryd.underlying120
 a232:=Tryd.isAgg120
 z232:=Tryd.sizeOf120
 v232:=Tryd.zeroValue120
 t233:=Tryd.underlying121
 a233:=Tryd.isAgg121
 z233:=Tryd.sizeOf121
 v233:=Tryd.zeroValue121
 g15:=by kernel_rfl
 g16:=by kernel_rfl
 g17:=by kernel_rfl
 g18:=by kernel_rfl
 g19:=by kernel_rfl
 t80:=Tryd.underlying80
 a80:=Tryd.isAgg80
 z80:=Tryd.sizeOf80
 v80:=Tryd.zeroValue80
 i0:=by kernel_rfl
 i2:=by kernel_rfl
 i3:=by kernel_rfl
 i4:=by kernel_rfl
 i5:=by kernel_rfl
 i9:=by kernel_rfl
 i20:=by kernel_rfl
 i21:=by kernel_rfl
 i37:=by kernel_rfl
 i46:=by kernel_rfl
 i51:=by kernel_rfl
 i53:=by kernel_rfl
 i75:=by kernel_rfl
 i76:=by kernel_rfl
 i80:=by kernel_rfl
 i85:=by kernel_rfl
 i127:=by kernel_rfl
 i143:=by kernel_rfl
 i145:=by kernel_rfl
 i167:=by kernel_rfl
 i168:=by kernel_rfl
 i171:=by kernel_rfl
 i173:=by kernel_rfl
 i175:=by kernel_rfl
 i210:=by kernel_rfl
 i212:=by kernel_rfl
 i232:=by kernel_rfl
 i233:=by kernel_rfl
 m15:=by kernel_rfl
 m16:=by kernel_rfl
 m17:=by kernel_rfl
 m18:=by kernel_rfl
 m19:=by kernel_rfl
 c0:=by kernel_rfl
 c2:=by kernel_rfl
 c3:=by kernel_rfl
 c4:=by kernel_rfl
 c5:=by kernel_rfl
 c9:=by kernel_rfl
 c20:=by kernel_rfl
 c21:=by kernel_rfl
 c37:=by kernel_rfl
 c46:=by kernel_rfl
 c51:=by kernel_rfl
 c53:=by kernel_rfl
 c75:=by kernel_rfl
 c76:=by kernel_rfl
 c80:=by kernel_rfl
 c85:=by kernel_rfl
 c127:=by kernel_rfl
 c143:=by kernel_rfl
 c145:=by kernel_rfl
 c167:=by kernel_rfl
 c168:=by kernel_rfl
 c171:=by kernel_rfl
 c173:=by kernel_rfl
 c175:=by kernel_rfl
 c210:=by kernel_rfl
 c212:=by kernel_rfl
 c213:=by kernel_rfl
 c232:=by kernel_rfl
 c233:=by kernel_rfl}
theorem EW:Tryd.prog.underlying 66=some (.interface (Tryd.prog.methodsAt 66)):=by kernel_rfl
instance Gb:aQ Tryd.prog 36:=⟨Tryd.call36⟩
instance Gc:aQ Tryd.prog 38:=⟨Tryd.call38⟩
instance Jp:aQ Tryd.prog 52:=⟨Tryd.call52⟩
def Az:Go.Shelf.Ren:=⟨fun|171=>52|243=>63|246=>74|283=>80|284=>81|285=>82|286=>83|129=>89|317=>88|318=>90|319=>91|320=>92|337=>93|338=>94|n=>n,fun|3=>3|9=>9|2=>2|4=>4|171=>103|0=>0|53=>96|37=>61|5=>5|173=>106|212=>116|51=>85|20=>20|213=>117|46=>73|232=>120|233=>121|n=>n,fun|17=>5|18=>6|19=>7|n=>n⟩
theorem BX:Go.Proofs.LaysM.n171 Tryd.prog Az:={
 mixed:=by kernel_rfl
 f129:=Tryd.func89.trans (congrArg some (by kernel_rfl))
 f171:=Tryd.func52.trans (congrArg some (by kernel_rfl))
 f243:=Tryd.func63.trans (congrArg some (by kernel_rfl))
 f246:=Tryd.func74.trans (congrArg some (by kernel_rfl))
 f283:=Tryd.func80.trans (congrArg some (by kernel_rfl))
 f284:=Tryd.func81.trans (congrArg some (by kernel_rfl))
 f285:=Tryd.func82.trans (congrArg some (by kernel_rfl))
 f286:=Tryd.func83.trans (congrArg some (by kernel_rfl))
 f317:=Tryd.func88.trans (congrArg some (by kernel_rfl))
 f318:=Tryd.func90.trans (congrArg some (by kernel_rfl))
 f319:=Tryd.func91.trans (congrArg some (by kernel_rfl))
 f320:=Tryd.func92.trans (congrArg some (by kernel_rfl))
 f337:=Tryd.func93.trans (congrArg some (by kernel_rfl))
 f338:=Tryd.func94.trans (congrArg some (by kernel_rfl))
 t0:=Tryd.underlying0
 a0:=Tryd.isAgg0
 z0:=Tryd.sizeOf0
 v0:=Tryd.zeroValue0
 t2:=Tryd.underlying2
 a2:=Tryd.isAgg2
 z2:=Tryd.sizeOf2
 v2:=Tryd.zeroValue2
 t3:=Tryd.underlying3
 a3:=Tryd.isAgg3
 z3:=Tryd.sizeOf3
 v3:=Tryd.zeroValue3
 t4:=Tryd.underlying4
 a4:=Tryd.isAgg4
 z4:=Tryd.sizeOf4
 v4:=Tryd.zeroValue4
 t5:=Tryd.underlying5
 a5:=Tryd.isAgg5
 z5:=Tryd.sizeOf5
 v5:=Tryd.zeroValue5
 t9:=Tryd.underlying9
 a9:=Tryd.isAgg9
 z9:=Tryd.sizeOf9
 v9:=Tryd.zeroValue9
 t20:=Tryd.underlying20
 a20:=Tryd.isAgg20
 z20:=Tryd.sizeOf20
 v20:=Tryd.zeroValue20
 t37:=Tryd.underlying61
 a37:=Tryd.isAgg61
 z37:=Tryd.sizeOf61
 v37:=Tryd.zeroValue61
 t46:=Tryd.underlying73
 a46:=Tryd.isAgg73
 z46:=Tryd.sizeOf73
 v46:=Tryd.zeroValue73
 t51:=Tryd.underlying85
 a51:=Tryd.isAgg85
 z51:=Tryd.sizeOf85
 v51:=Tryd.zeroValue85
 t53:=Tryd.underlying96
 a53:=Tryd.isAgg96
 z53:=Tryd.sizeOf96
 v53:=Tryd.zeroValue96
 t171:=Tryd.underlying103
 a171:=Tryd.isAgg103
 z171:=Tryd.sizeOf103
 v171:=Tryd.zeroValue103
 t173:=Tryd.underlying106
 a173:=Tryd.isAgg106
 z173:=Tryd.sizeOf106
 v173:=Tryd.zeroValue106
 t212:=Tryd.underlying116
 a212:=Tryd.isAgg116
 z212:=Tryd.sizeOf116
 v212:=Tryd.zeroValue116
 t213:=Tryd.underlying117
 a213:=Tryd.isAgg117
 z213:=Tryd.sizeOf117
 t232:=Tryd.underlying120
 a232:=Tryd.isAgg120
 z232:=Tryd.sizeOf120
 v232:=Tryd.zeroValue120
 t233:=Tryd.underlying121
 a233:=Tryd.isAgg121
 z233:=Tryd.sizeOf121
 v233:=Tryd.zeroValue121
 g17:=by kernel_rfl
 g18:=by kernel_rfl
 g19:=by kernel_rfl
 i0:=by kernel_rfl
 i2:=by kernel_rfl
 i3:=by kernel_rfl
 i4:=by kernel_rfl
 i5:=by kernel_rfl
 i9:=by kernel_rfl
 i20:=by kernel_rfl
 i37:=by kernel_rfl
 i46:=by kernel_rfl
 i51:=by kernel_rfl
 i53:=by kernel_rfl
 i171:=by kernel_rfl
 i173:=by kernel_rfl
 i212:=by kernel_rfl
 i232:=by kernel_rfl
 i233:=by kernel_rfl
 m17:=by kernel_rfl
 m18:=by kernel_rfl
 m19:=by kernel_rfl}
instance Jq:aQ Tryd.prog 34:=⟨Tryd.call34⟩
instance Jr:aQ Tryd.prog 47:=⟨Tryd.call47⟩
instance Js:aQ Tryd.prog 35:=⟨Tryd.call35⟩
instance Jt:aQ Tryd.prog 48:=⟨Tryd.call48⟩
instance Ju:aQ Tryd.prog 21:=⟨Tryd.call21⟩
instance Gd:aQ Tryd.prog 22:=⟨Tryd.call22⟩
instance Jv:aQ Tryd.prog 37:=⟨Tryd.call37⟩
instance Jw:aQ Tryd.prog 49:=⟨Tryd.call49⟩
instance Jy:aQ Tryd.prog 62:=⟨Tryd.call62⟩
instance Gf:aQ Tryd.prog 50:=⟨Tryd.call50⟩
instance Jz:aQ Tryd.prog 51:=⟨Tryd.call51⟩
instance JA:aQ Tryd.prog 39:=⟨Tryd.call39⟩
instance Gg:aQ Tryd.prog 53:=⟨Tryd.call53⟩
def vQ:Go.Shelf.Ren:=⟨fun|156=>53|165=>64|166=>65|169=>66|240=>75|241=>76|276=>84|277=>85|n=>n,fun|31=>28|9=>9|3=>3|4=>4|0=>0|20=>20|72=>78|76=>67|70=>76|37=>61|75=>66|127=>95|164=>108|5=>5|80=>80|n=>n,fun|n=>n⟩
theorem xE:Go.Proofs.Lays.n156 Tryd.prog vQ:={
 mixed:=by kernel_rfl
 f156:=Tryd.func53.trans (congrArg some (by kernel_rfl))
 f165:=Tryd.func64.trans (congrArg some (by kernel_rfl))
 f166:=Tryd.func65.trans (congrArg some (by kernel_rfl))
 f169:=Tryd.func66.trans (congrArg some (by kernel_rfl))
 f240:=Tryd.func75.trans (congrArg some (by kernel_rfl))
 f241:=Tryd.func76.trans (congrArg some (by kernel_rfl))
 f276:=Tryd.func84.trans (congrArg some (by kernel_rfl))
 f277:=Tryd.func85.trans (congrArg some (by kernel_rfl))
 t0:=Tryd.underlying0
 a0:=Tryd.isAgg0
 z0:=Tryd.sizeOf0
 v0:=Tryd.zeroValue0
 t3:=Tryd.underlying3
 a3:=Tryd.isAgg3
 z3:=Tryd.sizeOf3
 v3:=Tryd.zeroValue3
 t4:=Tryd.underlying4
 a4:=Tryd.isAgg4
 z4:=Tryd.sizeOf4
 v4:=Tryd.zeroValue4
 t9:=Tryd.underlying9
 a9:=Tryd.isAgg9
 z9:=Tryd.sizeOf9
 v9:=Tryd.zeroValue9
 t20:=Tryd.underlying20
 a20:=Tryd.isAgg20
 z20:=Tryd.sizeOf20
 v20:=Tryd.zeroValue20
 t31:=Tryd.underlying28
 a31:=Tryd.isAgg28
 z31:=Tryd.sizeOf28
 v31:=Tryd.zeroValue28
 t37:=Tryd.underlying61
 a37:=Tryd.isAgg61
 z37:=Tryd.sizeOf61
 v37:=Tryd.zeroValue61
 t70:=Tryd.underlying76
 a70:=Tryd.isAgg76
 z70:=Tryd.sizeOf76
 v70:=Tryd.zeroValue76
 t72:=Tryd.underlying78
 a72:=Tryd.isAgg78
 z72:=Tryd.sizeOf78
 v72:=Tryd.zeroValue78
 t75:=Tryd.underlying66
 a75:=Tryd.isAgg66
 z75:=Tryd.sizeOf66
 v75:=Tryd.zeroValue66
 t76:=Tryd.underlying67
 a76:=Tryd.isAgg67
 z76:=Tryd.sizeOf67
 v76:=Tryd.zeroValue67
 t127:=Tryd.underlying95
 a127:=Tryd.isAgg95
 z127:=Tryd.sizeOf95
 v127:=Tryd.zeroValue95
 t164:=Tryd.underlying108
 a164:=Tryd.isAgg108
 z164:=Tryd.sizeOf108
 v164:=Tryd.zeroValue108}
theorem extra:Go.Proofs.Builder.Extra Tryd.prog vQ:={
 sizeBuilder:=by kernel_rfl
 liesBuilder:=by kernel_rfl
 t5:=Tryd.underlying5
 a5:=Tryd.isAgg5
 z5:=Tryd.sizeOf5
 v5:=Tryd.zeroValue5
 infoByte:=by kernel_rfl
 cellsByte:=by kernel_rfl
 sizeByte:=by kernel_rfl
 neB5:=by decide}
instance y5:aQ Tryd.prog 6:=⟨Tryd.call6⟩
instance JB:aQ Tryd.prog 14:=⟨Tryd.call14⟩
instance JC:aQ Tryd.prog 23:=⟨Tryd.call23⟩
instance Ki:aQ Tryd.prog 7:=⟨Tryd.call7⟩
theorem Du{a:ak}{d:Int}:∀F H e,di F H e a->di F H (eQ e 0 (Value.cells (.int .i64 d)).toList) {a with Method:=d}:=by
 intro F H e h
 obtain⟨v0,F0,rfl,rfl,h0⟩:=h
 exact⟨v0,F0,rfl,rfl,h0⟩
theorem CL{a:ak}:∀F H e,di F H e a->0+1<=e.cells.size:=by
 intro F H e h
 obtain⟨v0,F0,rfl,rfl,h0⟩:=h
 exact Nat.le_of_ble_eq_true rfl
theorem xP:Part di 1 (aK 3 (bG cu)) (fun a:ak=>a.Values) (fun a d=>{a with Values:=d}):=⟨fun{F H e a} h=>by
 obtain⟨v0,F0,rfl,rfl,h0⟩:=h
 exact⟨v0,[],F0,[],rfl,by simp,h0,fun hi hk h'=>⟨v0,_,rfl,by simp,h'⟩⟩⟩
instance Gh:aQ Tryd.prog 15:=⟨Tryd.call15⟩
instance y7:aQ Tryd.prog 8:=⟨Tryd.call8⟩
theorem Dv{a:ak}:∀H e,ku H e a->e.cells.toList[0]?=some (.int .i64 a.Method):=by
 intro H e h
 obtain⟨_,rfl,_⟩:=h
 rfl
theorem Dw{a:ak}:∀H e,ku H e a-> ∃w:Sv,e.cells.toList[1]?=some w.v/\(bD 3 cu) H w.v a.Values:=by
 intro H e h
 obtain⟨v0,rfl,h0⟩:=h
 exact⟨v0,rfl,h0⟩
instance JD:aQ Tryd.prog 16:=⟨Tryd.call16⟩
theorem zI{α β:Type}{l:List α}{i:Int}{f:α->Option β}{R:β}{G:Prop}(hF:(ix l i).bind f=some R)(k:∀x,0<=i->l[i.toNat]?=some x->f x=some R->G):G:=by
 obtain⟨x,h,e⟩:=Option.bind_eq_some_iff.1 hF
 obtain⟨h1,h2⟩:=mY h
 exact k x h1 h2 e
theorem j6{G N:Prop}(k:N)(h:N->G:=by (intro k; (iterate 10 refine au ?_); exact k)):G:=h k
theorem qj{G N:Prop}(k:N)(h:N->G:=by (intro k; (iterate 11 refine au ?_); exact k)):G:=h k
theorem EX{G N:Prop}(k:N)(h:N->G:=by (intro k; (iterate 14 refine au ?_); exact k)):G:=h k
theorem bf{G N:Prop}(k:N)(h:N->G:=by (intro k; (iterate 2 refine au ?_); exact k)):G:=h k
theorem bg{G N:Prop}(k:N)(h:N->G:=by (intro k; (iterate 3 refine au ?_); exact k)):G:=h k
theorem bn{G N:Prop}(k:N)(h:N->G:=by (intro k; (iterate 4 refine au ?_); exact k)):G:=h k
theorem aY{G N:Prop}(k:N)(h:N->G:=by (intro k; (iterate 5 refine au ?_); exact k)):G:=h k
theorem bH{G N:Prop}(k:N)(h:N->G:=by (intro k; (iterate 6 refine au ?_); exact k)):G:=h k
theorem aZ{G N:Prop}(k:N)(h:N->G:=by (intro k; (iterate 7 refine au ?_); exact k)):G:=h k
theorem iQ{G N:Prop}(k:N)(h:N->G:=by (intro k; (iterate 8 refine au ?_); exact k)):G:=h k
theorem gV{G N:Prop}(k:N)(h:N->G:=by (intro k; (iterate 9 refine au ?_); exact k)):G:=h k
theorem cZ(b:Bool):b=true\/b=false:=Bool.eq_false_or_eq_true b
theorem aV{α:Sort _}{a b:α}:cond false a b=b:=rfl
theorem aW{α:Sort _}{a b:α}:cond true a b=a:=rfl
theorem gy{G N:Prop}(k:N)(h:N->G:=by (intro k; (iterate 2 refine du ?_); exact k)):G:=h k
theorem yL{G N:Prop}(k:N)(h:N->G:=by (intro k; (iterate 3 refine du ?_); exact k)):G:=h k
theorem tF{G N:Prop}(k:N)(h:N->G:=by (intro k; (iterate 4 refine du ?_); exact k)):G:=h k
theorem Gi{G N:Prop}(k:N)(h:N->G:=by (intro k; (iterate 5 refine du ?_); exact k)):G:=h k
theorem Gj{G N:Prop}(k:N)(h:N->G:=by (intro k; (iterate 8 refine du ?_); exact k)):G:=h k
theorem ze{G P:Prop}(hF:P)(h:P->G:=by (intro hF; (repeat refine au ?_); cases hF; exact Er ())):G:=h hF
theorem bI{G P:Prop}(hF:P)(h:P->G:=by (intro hF; (repeat refine au ?_); cases hF; exact⟨_,_,rfl,aN,aM⟩)):G:=h hF
theorem yM{G P:Prop}(hF:P)(h:P->G:=by (intro hF; (repeat refine au ?_); cases hF; exact⟨_,_,_,rfl,aN,aM⟩)):G:=h hF
theorem tH{G P:Prop}(hF:P)(h:P->G:=by (intro hF; (repeat refine du ?_); cases hF; exact⟨_,_,rfl,aN,aM⟩)):G:=h hF
abbrev zg(l:List Value):Value:=.agg l.toArray
abbrev zi(n:Int):Value:=.int .i64 n
theorem dC(n:Nat):n<n.succ:=Nat.lt_succ_self n
abbrev gW(F:List Nat)(v:Sv):=aG (aK 32 di) F v.v
abbrev iZ(F:List Nat)(v:Sv):=aG (aK 3 (bG cu)) F v.v
abbrev oG(F:List Nat)(v:Sv):=aG (aK 9 (bG rdStr)) F v.v
abbrev dw(v:Sv):=bV (bD 3 cu) v.v
abbrev iR(v:Sv):=bV (bD 32 ku) v.v
abbrev jK(v:Sv):=bV (bD 9 rdStr) v.v
theorem zx{G N:Prop}(k:N)(h:N->G:=by (intro k; exact ax (ry (.tmp rfl rfl) rfl) k)):G:=h k
theorem _root_.Go.Fw.Mem.q2{c d0 d1:ag}{l:List ag}:Fw.Mem c (d0::d1::c::l):=.t (.t .h)
theorem _root_.Go.Fw.Mem.q3{c d0 d1 d2:ag}{l:List ag}:Fw.Mem c (d0::d1::d2::c::l):=.t (.t (.t .h))
theorem _root_.Go.Fw.Mem.q4{c d0 d1 d2 d3:ag}{l:List ag}:Fw.Mem c (d0::d1::d2::d3::c::l):=.t (.t (.t (.t .h)))
theorem _root_.Go.Fw.Sel.q2{c d0 d1:ag}{l:List ag}:Fw.Sel (d0::d1::c::l) c (d0::d1::l):=.t (.t .h)
theorem _root_.Go.Fw.Sel.q3{c d0 d1 d2:ag}{l:List ag}:Fw.Sel (d0::d1::d2::c::l) c (d0::d1::d2::l):=.t (.t (.t .h))
theorem _root_.Go.Fw.Sel.q4{c d0 d1 d2 d3:ag}{l:List ag}:Fw.Sel (d0::d1::d2::d3::c::l) c (d0::d1::d2::d3::l):=.t (.t (.t (.t .h)))
def ji(ae:List UInt8)(dB:UInt8):Nat->(List (List UInt8))->(List UInt8)->Int->Option ((List (List UInt8)))
 |0,_,_,_=>none
 |m7+1,c2,c5,c6=>if (decide ((c6:Int)<(ae.length:Int)))then (
     ((ix ae c6).bind fun uw=>
       if (((uw.toNat:Int):Int)==(dB.toNat:Int))then (
         (app c2 ([c5]:List (List UInt8))).bind fun z22=>
         some (z22,[]))
       else (
         (eZ (decide (0<=c6)&&decide (c6<=(IntKind.i64.wrap (c6+1)))&&decide ((IntKind.i64.wrap (c6+1))<=((ae).length:Int)))).bind fun u26=>
         (aI c5 ((ae.take ((IntKind.i64.wrap (c6+1))).toNat).drop (c6).toNat)).bind fun x28=>
         some (c2,x28))).bind fun kE=>
     match kE with
     |(fu,dV)=>ji ae dB m7 fu dV (IntKind.i64.wrap (c6+1)))
   else (
     (app c2 ([c5]:List (List UInt8))).bind fun z39=>
     some z39)
def mZ(ae:List UInt8)(dB:UInt8):Option ((List (List UInt8))):=
 ji ae dB (((ae.length:Int)-0).toNat+2) ([]:List (List UInt8)) [] 0
theorem vZ{ae:List UInt8}{dB:UInt8}{R:(List (List UInt8))}(hF:mZ ae dB=some R):
   Fw.Spec Tryd.prog 9 [(sv ae),(.int .u8 (dB.toNat:Int))] [] (fun p:Sv×List Nat=>p.1.v) (fun p=>[oG p.2 p.1 R]):=by
 refine Se 35 Tryd.func9 [.tmp 4] ?_
 intro H0 F0
 unfold mZ at hF
 refine bn ?_
 refine eF rfl (d_ (g:=true) iP.h gB.h .nil (vs:=[]) rfl rfl rfl (by simp)) (fun k1=>?_)
 refine fq (.cons .h .nil) (eD (Ro:=(bG rdStr)) (E:=9) (F:=[]) (xs:=([]:List (List UInt8))) eB rfl rfl) ?_
 refine gV ?_
 refine bW (dE (m:=(((ae.length:Int)-0).toNat+2)) (fun m7 f' cs'=>∃(g:Fr)(c2:List (List UInt8))(c5:List UInt8)(c6:Int)(v3:Sv)(F4:List Nat),f'=aU g [(0,(sv ae)),(1,(.int .u8 (dB.toNat:Int))),(5,v3.v),(6,(sv c5)),(7,(zi c6))]/\aJ cs' [oG F4 v3 c2]/\ji ae dB m7 c2 c5 c6=some R) ⟨_,_,_,_,⟨(some ⟨k1,0,none⟩),0,1⟩,(k1::[]),aN,aM,hF⟩ ?_)
 rintro m7 _ _ ⟨g8,c2,c5,c6,v3,F4,rfl,hE,hF⟩
 refine bL hE ?_
 rcases m7 with _|m7
 · rw[ji]at hF
   exact absurd hF (by simp)
 rw[ji]at hF
 refine bn ?_
 refine ax (dx (s:=ae) bv (.tmp rfl rfl)) ?_
 refine bf ?_
 refine Ci hF (fun Gl hF=>?_) (fun Gl hF=>?_)
 · refine au ?_
   obtain⟨kE,sN,qw⟩:=bind_some hF
   refine j5 (fun f' cs'=>∃(fu:List (List UInt8))(dV:List UInt8)(v34:Sv)(uy:List Nat)(g:Fr),kE=(fu,dV)/\f'=aU g [(0,(sv ae)),(1,(.int .u8 (dB.toNat:Int))),(5,v34.v),(6,(sv dV)),(7,(zi c6))]/\aJ cs' [oG uy v34 fu]) ?_ ?_
   · replace hF:=sN
     refine bW (gI (Cm (sv ae) rfl rfl ?_))
     refine au ?_
     refine zI hF fun uw Gm jC hF=>?_
     refine ax (jm (u:=uw) bv (.tmp rfl rfl) (.tmp rfl rfl) Gm jC) ?_
     refine bg ?_
     refine Ci hF (fun kv hF=>?_) (fun kv hF=>?_)
     · refine bg ?_
       refine eF rfl (d_ (g:=true) iP.h gB.h dh (vs:=[(sv c5)]) rfl rfl rfl (by intro v hv; simp at hv; rcases hv with rfl<;>rfl)) (fun k21=>?_)
       refine fq (.cons .h .nil) (eD (Ro:=(bG rdStr)) (E:=9) (F:=([]++[])) (xs:=([c5]:List (List UInt8))) (ik (jo (fun _=>rfl)) eB dM) rfl rfl) ?_
       refine bnd hF fun z22 fU hF=>eH (.cons (.t .h) (.cons .h .nil)) (jV (Ro:=(bG rdStr)) iP.h tu gB.h rfl rfl rfl (.tmp rfl rfl) (.tmp rfl rfl) fU jY) (fun l9=>?_)
       refine aY ?_
       cases hF
       exact⟨_,_,l9.1,l9.2,_,rfl,aN,aM⟩
     refine bH ?_
     refine bnd hF fun u26 hx27 hF=>?_
     have hc25:=gJ hx27
     simp only[Bool.and_eq_true,decide_eq_true_eq]at hc25
     refine ax (rH (s:=ae) (i:=c6) (j:=(IntKind.i64.wrap (c6+1))) bv (.tmp rfl rfl) (.tmp rfl rfl) (.tmp rfl rfl) hc25.1.1 hc25.1.2 hc25.2) ?_
     refine bnd hF fun x28 hx29 hF=>?_
     obtain⟨Gn,Gp⟩:=dD hx29
     refine ax (dK (s:=c5) (t:=((ae.take ((IntKind.i64.wrap (c6+1))).toNat).drop (c6).toNat)) (u:=x28) (.tmp rfl rfl) (.tmp rfl rfl) hx29) ?_
     refine bf ?_
     cases hF
     exact⟨_,_,v3,F4,_,rfl,aN,aM⟩
   rintro _ _ ⟨fu,dV,v34,uy,Kk,rfl,rfl,hE⟩
   replace hF:=qw
   try dsimp only at hF
   refine bL hE ?_
   refine aY ?_
   exact⟨m7,dC _,_,_,_,_,v34,uy,aN,aM,hF⟩
 refine aZ ?_
 refine eF rfl (d_ (g:=true) iP.h gB.h dh (vs:=[(sv c5)]) rfl rfl rfl (by intro v hv; simp at hv; rcases hv with rfl<;>rfl)) (fun Kl=>?_)
 refine fq (.cons .h .nil) (eD (Ro:=(bG rdStr)) (E:=9) (F:=([]++[])) (xs:=([c5]:List (List UInt8))) (ik (jo (fun _=>rfl)) eB dM) rfl rfl) ?_
 refine bnd hF fun z39 qx hF=>eH (.cons (.t .h) (.cons .h .nil)) (jV (Ro:=(bG rdStr)) iP.h tu gB.h rfl rfl rfl (.tmp rfl rfl) (.tmp rfl rfl) qx jY) (fun p41=>?_)
 refine bg ?_
 cases hF
 exact Er (p41.1,p41.2)
def gH:Nat->Int->(List UInt8)->Option ((List UInt8))
 |0,_,_=>none
 |m5+1,c3,c4=>if ((c3:Int)!=0)then (
     if (decide (((Int.tmod c3 10):Int)<0))then (
       (aI [(eU (IntKind.i64.wrap (48+(IntKind.i64.wrap (-(Int.tmod c3 10))))))] c4).bind fun l_=>
       gH m5 (IntKind.i64.wrap (Int.tdiv c3 10)) l_)
     else (
       (aI [(eU (IntKind.i64.wrap (48+(Int.tmod c3 10))))] c4).bind fun uz=>
       gH m5 (IntKind.i64.wrap (Int.tdiv c3 10)) uz))
   else (
     some c4)
def fA(fuel:Nat)(aX:Int):Option ((List UInt8)):=
 if ((aX:Int)==0)then (
   some [48])
 else (
   (gH fuel aX []).bind fun o1=>
   match o1 with
   |kF=>if (decide ((aX:Int)<0))then (
       (aI [45] kF).bind fun uA=>
       some uA)
     else (
       some kF))
theorem mq{fuel:Nat}{aX:Int}{R:(List UInt8)}(hF:fA fuel aX=some R):
   Fw.Spec Tryd.prog 26 [(zi aX)] [] (fun _:Unit=>(sv R)) (fun _=>[]):=by
 refine Se 31 Tryd.func26 [.tmp 2] ?_
 intro H0 F0
 unfold fA at hF
 refine iQ ?_
 refine Ci hF (fun kv hF=>?_) (fun kv hF=>?_)
 · exact ze hF
 refine gV ?_
 obtain⟨o1,nQ,hO2⟩:=bind_some hF
 refine j5 (fun f' cs'=>∃(kF:List UInt8)(g:Fr),kF=o1/\f'=aU g [(3,(sv kF)),(4,(.bool (decide ((aX:Int)<0))))]/\aJ cs' []) ?_ ?_
 · replace hF:=nQ
   refine bW (dE (m:=fuel) (fun m5 f' cs'=>∃(g:Fr)(c3:Int)(c4:List UInt8),f'=aU g [(0,(zi c3)),(3,(sv c4)),(4,(.bool (decide ((aX:Int)<0))))]/\aJ cs' []/\gH m5 c3 c4=some o1) ⟨_,_,_,aN,aM,hF⟩ ?_)
   rintro m5 _ _ ⟨g6,c3,c4,rfl,hE,hF⟩
   refine bL hE ?_
   rcases m5 with _|m5
   · rw[gH]at hF
     exact absurd hF (by simp)
   rw[gH]at hF
   refine aY ?_
   refine Ci hF (fun nR hF=>?_) (fun nR hF=>?_)
   · refine au ?_
     refine bW (gI (Cm (zi c3) rfl rfl ?_))
     refine ax (DF (i:=c3) (j:=10) (.tmp rfl rfl) (.int _ _) (by decide)) ?_
     refine aZ ?_
     refine Ci hF (fun nS hF=>?_) (fun nS hF=>?_)
     · refine bf ?_
       refine ax (yu (i:=(Int.tmod c3 10)) (.tmp rfl rfl)) ?_
       refine aY ?_
       refine ax (wX (i:=(IntKind.i64.wrap (48+(IntKind.i64.wrap (-(Int.tmod c3 10)))))) uu oF (.tmp rfl rfl)) ?_
       refine eF rfl (d_ (g:=true) qp.h qM.h dh (vs:=[(.int .u8 ((eU (IntKind.i64.wrap (48+(IntKind.i64.wrap (-(Int.tmod c3 10)))))).toNat:Int))]) rfl rfl rfl (by intro v hv; simp at hv; rcases hv with rfl<;>rfl)) (fun k13=>?_)
       refine fq (.cons .h .nil) (eD (Ro:=(bG jy)) (E:=5) (F:=([]++[])) (xs:=([(eU (IntKind.i64.wrap (48+(IntKind.i64.wrap (-(Int.tmod c3 10))))))]:List UInt8)) (ik (jo (fun _=>rfl)) eB dM) rfl rfl) ?_
       refine gQ .h (fun hp=>w9 (u:=(eU (IntKind.i64.wrap (48+(IntKind.i64.wrap (-(Int.tmod c3 10))))))) qp.h oF yH qM.h.sz (.tmp rfl rfl) hp) ?_
       refine au ?_
       refine bnd hF fun l_ lS hF=>?_
       obtain⟨JE,JF⟩:=dD lS
       refine ax (dK (s:=[(eU (IntKind.i64.wrap (48+(IntKind.i64.wrap (-(Int.tmod c3 10))))))]) (t:=c4) (u:=l_) (.tmp rfl rfl) (.tmp rfl rfl) lS) ?_
       refine bn ?_
       refine ax (yc (i:=c3) (j:=10) (.tmp rfl rfl) (.int _ _) (by decide)) ?_
       refine bf ?_
       exact⟨m5,dC _,_,_,_,aN,aM,hF⟩
     refine bn ?_
     refine ax (wX (i:=(IntKind.i64.wrap (48+(Int.tmod c3 10)))) uu oF (.tmp rfl rfl)) ?_
     refine eF rfl (d_ (g:=true) qp.h qM.h dh (vs:=[(.int .u8 ((eU (IntKind.i64.wrap (48+(Int.tmod c3 10)))).toNat:Int))]) rfl rfl rfl (by intro v hv; simp at hv; rcases hv with rfl<;>rfl)) (fun k18=>?_)
     refine fq (.cons .h .nil) (eD (Ro:=(bG jy)) (E:=5) (F:=([]++[])) (xs:=([(eU (IntKind.i64.wrap (48+(Int.tmod c3 10))))]:List UInt8)) (ik (jo (fun _=>rfl)) eB dM) rfl rfl) ?_
     refine gQ .h (fun hp=>w9 (u:=(eU (IntKind.i64.wrap (48+(Int.tmod c3 10))))) qp.h oF yH qM.h.sz (.tmp rfl rfl) hp) ?_
     refine au ?_
     refine bnd hF fun uz jC hF=>?_
     obtain⟨JG,JH⟩:=dD jC
     refine ax (dK (s:=[(eU (IntKind.i64.wrap (48+(Int.tmod c3 10))))]) (t:=c4) (u:=uz) (.tmp rfl rfl) (.tmp rfl rfl) jC) ?_
     refine bn ?_
     refine ax (yc (i:=c3) (j:=10) (.tmp rfl rfl) (.int _ _) (by decide)) ?_
     refine bf ?_
     exact⟨m5,dC _,_,_,_,aN,aM,hF⟩
   exact bI hF
 rintro _ _ ⟨kF,Km,rfl,rfl,hE⟩
 replace hF:=hO2
 try dsimp only at hF
 refine bL hE ?_
 refine bn ?_
 refine Ci hF (fun Gq hF=>?_) (fun Gq hF=>?_)
 · refine bf ?_
   refine bnd hF fun uA hx27 hF=>?_
   obtain⟨JI,JJ⟩:=dD hx27
   refine ax (dK (s:=[45]) (t:=kF) (u:=uA) (.sv _) (.tmp rfl rfl) hx27) ?_
   exact ze hF
 exact ze hF
def jQ(ae:List UInt8)(fuel:Nat):Nat->Int->Int->Int->Option (Int×Bool)
 |0,_,_,_=>none
 |m4+1,c1,c2,c3=>if ((decide ((c3:Int)<(ae.length:Int)))&&(decide ((c3:Int)<11)))then (
     (((ix ae c3).bind fun qN=>
         bif (decide ((48:Int)<=(qN.toNat:Int)))then ((ix ae c3).bind fun u23=>
           some (decide (((u23.toNat:Int):Int)<=57)))
         else (some false)).bind fun o16=>
       match o16 with
       |oH=>if oH then (
           (ix ae c3).bind fun u28=>
           some ((IntKind.i64.wrap ((IntKind.i64.wrap (c1*10))+(IntKind.i64.wrap (IntKind.u8.wrap ((u28.toNat:Int)-48))))),(IntKind.i64.wrap (c2+1))))
         else (
           some (c1,c2))).bind fun kG=>
     match kG with
     |(c34,fw)=>jQ ae fuel m4 c34 fw (IntKind.i64.wrap (c3+1)))
   else (
     (bif (decide ((0:Int)<(ae.length:Int)))then ((ix ae 0).bind fun u40=>
         some (((u40.toNat:Int):Int)==45))
       else (some false)).bind fun uB=>
     match uB with
     |kH=>if kH then (
         (bif (decide ((9:Int)<c2))then (some true)
           else (bif (decide ((10:Int)<(ae.length:Int)))then (some true)
             else ((fA fuel (IntKind.i64.wrap (-c1))).bind fun kI=>
               some (!(kI==ae))))).bind fun uC=>
         match uC with
         |ja=>if ja then (
             some (0,false))
           else (
             some ((IntKind.i64.wrap (-c1)),true)))
       else (
         (bif (decide ((9:Int)<c2))then (some true)
           else (bif (decide ((10:Int)<(ae.length:Int)))then (some true)
             else ((fA fuel c1).bind fun oI=>
               some (!(oI==ae))))).bind fun uD=>
         match uD with
         |kJ=>if kJ then (
             some (0,false))
           else (
             some (c1,true))))
def pG(fuel:Nat)(ae:List UInt8):Option (Int×Bool):=
 jQ ae fuel (((ae.length:Int)-0).toNat+2) 0 0 0
theorem Af{fuel:Nat}{ae:List UInt8}{R:Int×Bool}(hF:pG fuel ae=some R):
   Fw.Spec Tryd.prog 24 [(sv ae)] [] (fun _:Unit=>(.tuple [(zi R.1),(.bool R.2)].toArray)) (fun _=>[]):=by
 refine Se 61 Tryd.func24 [.tmp 2,.tmp 3] ?_
 intro H0 F0
 unfold pG at hF
 refine EX ?_
 refine bW (dE (m:=(((ae.length:Int)-0).toNat+2)) (fun m4 f' cs'=>∃(g:Fr)(c1 c2 c3:Int),f'=aU g [(0,(sv ae)),(4,(zi c1)),(5,(zi c2)),(6,(zi c3))]/\aJ cs' []/\jQ ae fuel m4 c1 c2 c3=some R) ⟨_,_,_,_,aN,aM,hF⟩ ?_)
 rintro m4 _ _ ⟨g5,c1,c2,c3,rfl,hE,hF⟩
 refine bL hE ?_
 rcases m4 with _|m4
 · rw[jQ]at hF
   exact absurd hF (by simp)
 rw[jQ]at hF
 refine bf ?_
 refine dP (fun f' cs'=>∃(g:Fr),f'=aU g [(0,(sv ae)),(4,(zi c1)),(5,(zi c2)),(6,(zi c3)),(14,(.bool ((decide ((c3:Int)<(ae.length:Int)))&&(decide ((c3:Int)<11)))))]/\aJ cs' []) ?_ ?_
 · refine bf ?_
   refine ax (dx (s:=ae) bv (.tmp rfl rfl)) ?_
   refine bf ?_
   rcases cZ (decide ((c3:Int)<(ae.length:Int)))with cO|cO
   · rw[cO]
     try rw[cO]at hF; dsimp only[aW,aV]at hF
     refine bH ?_
     exact⟨_,aN,aM⟩
   rw[cO]
   try rw[cO]at hF; dsimp only[aW,aV]at hF
   refine bn ?_
   exact⟨_,aN,aM⟩
 rintro _ _ ⟨g13,rfl,hE⟩
 refine bL hE ?_
 refine Ci hF (fun tJ hF=>?_) (fun tJ hF=>?_)
 · refine au ?_
   obtain⟨kG,sO,tK⟩:=bind_some hF
   refine j5 (fun f' cs'=>∃(c34 fw:Int)(g:Fr),kG=(c34,fw)/\f'=aU g [(0,(sv ae)),(4,(zi c34)),(5,(zi fw)),(6,(zi c3))]/\aJ cs' []) ?_ ?_
   · replace hF:=sO
     refine bW ?_
     obtain⟨o16,EY,Gr⟩:=bind_some hF
     refine au ?_
     refine dP (fun f' cs'=>∃(oH:Bool)(g:Fr),oH=o16/\f'=aU g [(0,(sv ae)),(4,(zi c1)),(5,(zi c2)),(6,(zi c3)),(26,(.bool oH))]/\aJ cs' []) ?_ ?_
     · replace hF:=EY
       refine bf ?_
       refine zI hF fun qN Gs jD hF=>?_
       refine ax (jm (u:=qN) bv (.tmp rfl rfl) (.tmp rfl rfl) Gs jD) ?_
       refine bf ?_
       rcases cZ (decide ((48:Int)<=(qN.toNat:Int)))with nT|nT
       · rw[nT]
         try rw[nT]at hF; dsimp only[aW,aV]at hF
         refine aY ?_
         refine zI hF fun u23 Gt lT hF=>?_
         refine ax (jm (u:=u23) bv (.tmp rfl rfl) (.tmp rfl rfl) Gt lT) ?_
         exact bI hF
       rw[nT]
       try rw[nT]at hF; dsimp only[aW,aV]at hF
       exact bI hF
     rintro _ _ ⟨oH,Kn,rfl,rfl,hE⟩
     replace hF:=Gr
     try dsimp only at hF
     refine bL hE ?_
     refine Ci hF (fun kv hF=>?_) (fun kv hF=>?_)
     · refine aY ?_
       refine zI hF fun u28 Gu hx31 hF=>?_
       refine ax (jm (u:=u28) bv (.tmp rfl rfl) (.tmp rfl rfl) Gu hx31) ?_
       refine au ?_
       refine ax (wI (i:=(IntKind.u8.wrap ((u28.toNat:Int)-48))) oF uu (.tmp rfl rfl)) ?_
       exact yM hF
     exact yM hF
   rintro _ _ ⟨c34,fw,y8,rfl,rfl,hE⟩
   replace hF:=tK
   try dsimp only at hF
   refine bL hE ?_
   refine aY ?_
   exact⟨m4,dC _,_,_,_,_,aN,aM,hF⟩
 refine aY ?_
 obtain⟨uB,EZ,Gv⟩:=bind_some hF
 refine au ?_
 refine dP (fun f' cs'=>∃(kH:Bool)(g:Fr),kH=uB/\f'=aU g [(0,(sv ae)),(4,(zi c1)),(5,(zi c2)),(44,(.bool kH))]/\aJ cs' []) ?_ ?_
 · replace hF:=EZ
   refine au ?_
   refine ax (dx (s:=ae) bv (.tmp rfl rfl)) ?_
   refine bf ?_
   rcases cZ (decide ((0:Int)<(ae.length:Int)))with nU|nU
   · rw[nU]
     try rw[nU]at hF; dsimp only[aW,aV]at hF
     refine bg ?_
     refine zI hF fun u40 Gw Gx hF=>?_
     refine ax (jm (u:=u40) bv (.tmp rfl rfl) (.int _ _) Gw Gx) ?_
     exact bI hF
   rw[nU]
   try rw[nU]at hF; dsimp only[aW,aV]at hF
   exact bI hF
 rintro _ _ ⟨kH,Ko,rfl,rfl,hE⟩
 replace hF:=Gv
 try dsimp only at hF
 refine bL hE ?_
 refine Ci hF (fun Gy hF=>?_) (fun Gy hF=>?_)
 · refine bf ?_
   refine ax (yu (i:=c1) (.tmp rfl rfl)) ?_
   refine bg ?_
   obtain⟨uC,E5,Gz⟩:=bind_some hF
   refine au ?_
   refine dP (fun f' cs'=>∃(ja:Bool)(g:Fr),ja=uC/\f'=aU g [(4,(zi (IntKind.i64.wrap (-c1)))),(59,(.bool ja))]/\aJ cs' []) ?_ ?_
   · replace hF:=E5
     refine bg ?_
     rcases cZ (decide ((9:Int)<c2))with nV|nV
     · rw[nV]
       try rw[nV]at hF; dsimp only[aW,aV]at hF
       exact bI hF
     rw[nV]
     try rw[nV]at hF; dsimp only[aW,aV]at hF
     refine bg ?_
     refine ax (dx (s:=ae) bv (.tmp rfl rfl)) ?_
     refine bn ?_
     rcases cZ (decide ((10:Int)<(ae.length:Int)))with nW|nW
     · rw[nW]
       try rw[nW]at hF; dsimp only[aW,aV]at hF
       exact bI hF
     rw[nW]
     try rw[nW]at hF; dsimp only[aW,aV]at hF
     refine bg ?_
     refine bnd hF fun kI GA hF=>bN (mq GA) (fun _=>?_)
     refine bg ?_
     refine ax (nz (s:=kI) (t:=ae) (.tmp rfl rfl) (.tmp rfl rfl)) ?_
     exact bI hF
   rintro _ _ ⟨ja,Kq,rfl,rfl,hE⟩
   replace hF:=Gz
   try dsimp only at hF
   refine bL hE ?_
   refine Ci hF (fun GD hF=>?_) (fun GD hF=>?_)
   · exact ze hF
   exact ze hF
 refine bf ?_
 obtain⟨uD,E8,GG⟩:=bind_some hF
 refine au ?_
 refine dP (fun f' cs'=>∃(kJ:Bool)(g:Fr),kJ=uD/\f'=aU g [(4,(zi c1)),(59,(.bool kJ))]/\aJ cs' []) ?_ ?_
 · replace hF:=E8
   refine bg ?_
   rcases cZ (decide ((9:Int)<c2))with nX|nX
   · rw[nX]
     try rw[nX]at hF; dsimp only[aW,aV]at hF
     exact bI hF
   rw[nX]
   try rw[nX]at hF; dsimp only[aW,aV]at hF
   refine bg ?_
   refine ax (dx (s:=ae) bv (.tmp rfl rfl)) ?_
   refine bn ?_
   rcases cZ (decide ((10:Int)<(ae.length:Int)))with nY|nY
   · rw[nY]
     try rw[nY]at hF; dsimp only[aW,aV]at hF
     exact bI hF
   rw[nY]
   try rw[nY]at hF; dsimp only[aW,aV]at hF
   refine bg ?_
   refine bnd hF fun oI qy hF=>bN (mq qy) (fun _=>?_)
   refine bg ?_
   refine ax (nz (s:=oI) (t:=ae) (.tmp rfl rfl) (.tmp rfl rfl)) ?_
   exact bI hF
 rintro _ _ ⟨kJ,Kr,rfl,rfl,hE⟩
 replace hF:=GG
 try dsimp only at hF
 refine bL hE ?_
 refine Ci hF (fun GH hF=>?_) (fun GH hF=>?_)
 · exact ze hF
 exact ze hF
def lv(fuel:Nat)(ae:List UInt8):Option (Int):=
 (pG fuel ae).bind fun r1=>
 if (!r1.2)then (
   some (-100000))
 else (
   some r1.1)
theorem v_{fuel:Nat}{ae:List UInt8}{R:Int}(hF:lv fuel ae=some R):
   Fw.Spec Tryd.prog 17 [(sv ae)] [] (fun _:Unit=>(zi R)) (fun _=>[]):=by
 refine Se 13 Tryd.func17 [.tmp 2] ?_
 intro H0 F0
 unfold lv at hF
 refine aY ?_
 refine bnd hF fun r1 hx2 hF=>bN (Af hx2) (fun _=>?_)
 refine au ?_
 refine zx ?_
 refine zx ?_
 refine iQ ?_
 refine Ci hF (fun hb4 hF=>?_) (fun hb4 hF=>?_)
 · exact ze hF
 exact ze hF
def jP(fuel:Nat)(d9:Int):List (List UInt8)->Nat->(List Int)->Option (Sum (ak) (Unit))
 |[],jb,kK=>some (.inl (⟨d9,kK⟩:ak))
 |y9::iD,jb,kK=>(lv fuel y9).bind fun qz=>
   (app kK ([qz]:List Int)).bind fun z107=>
   jP fuel d9 iD (jb+1) z107
def je(ae:List UInt8)(fuel:Nat):Nat->Int->Option (ak)
 |0,_=>none
 |m3+1,c2=>if (decide ((c2:Int)<(ae.length:Int)))then (
     ((((ix ae c2).bind fun qO=>
         bif (((qO.toNat:Int):Int)==40)then ((ix ae (IntKind.i64.wrap ((ae.length:Int)-1))).bind fun u20=>
           bif (((u20.toNat:Int):Int)==41)then ((ix ae 0).bind fun u25=>
             some (((u25.toNat:Int):Int)==109))
           else (some false))
         else (some false)).bind fun uE=>
       match uE with
       |gD=>if gD then (
           (eZ (decide (0<=(1:Int))&&decide ((1:Int)<=c2)&&decide (c2<=((ae).length:Int)))).bind fun u31=>
           (lv fuel ((ae.take (c2).toNat).drop ((1:Int)).toNat)).bind fun d9=>
           (eZ (decide (0<=(IntKind.i64.wrap (c2+1)))&&decide ((IntKind.i64.wrap (c2+1))<=(IntKind.i64.wrap ((ae.length:Int)-1)))&&decide ((IntKind.i64.wrap ((ae.length:Int)-1))<=((ae).length:Int)))).bind fun u38=>
           if (((ae.take ((IntKind.i64.wrap ((ae.length:Int)-1))).toNat).drop ((IntKind.i64.wrap (c2+1))).toNat)==[])then (
             some (.inl (⟨d9,[]⟩:ak)))
           else (
             (mZ ((ae.take ((IntKind.i64.wrap ((ae.length:Int)-1))).toNat).drop ((IntKind.i64.wrap (c2+1))).toNat) (44:UInt8)).bind fun ma=>
             jP fuel d9 ma 0 ([]:List Int)))
         else (
           some (.inr ()))):Option (Sum (ak) (Unit))).bind fun qP=>
     match qP with
     | .inl r=>some r
     | .inr _=>je ae fuel m3 (IntKind.i64.wrap (c2+1)))
   else (
     some (⟨(-1),[]⟩:ak))
def jg(fuel:Nat)(ae:List UInt8):Option (ak):=
 je ae fuel (((ae.length:Int)-0).toNat+2) 0
theorem Aa{fuel:Nat}{ae:List UInt8}{R:ak}(hF:jg fuel ae=some R):
   Fw.Spec Tryd.prog 10 [(sv ae)] [] (fun p:Sv×List Nat=>(zg [(zi R.Method),p.1.v])) (fun p=>[iZ p.2 p.1 R.Values]):=by
 refine Se 66 Tryd.func10 [.cell 2 32] ?_
 intro H0 F0
 unfold jg at hF
 refine au ?_
 refine l8 (fun k1=>?_)
 refine aY ?_
 refine bW (dE (m:=(((ae.length:Int)-0).toNat+2)) (fun m3 f' cs'=>∃(g:Fr)(c2:Int),f'=aU g [(0,(sv ae)),(2,(pz k1)),(3,(zi c2))]/\aJ cs' [gP k1 32 (zg [(zi 0),(.slice none 0 0)])]/\je ae fuel m3 c2=some R) ⟨_,_,aN,aM,hF⟩ ?_)
 rintro m3 _ _ ⟨g4,c2,rfl,hE,hF⟩
 refine bL hE ?_
 rcases m3 with _|m3
 · rw[je]at hF
   exact absurd hF (by simp)
 rw[je]at hF
 refine bn ?_
 refine ax (dx (s:=ae) bv (.tmp rfl rfl)) ?_
 refine bf ?_
 refine Ci hF (fun E9 hF=>?_) (fun E9 hF=>?_)
 · refine au ?_
   obtain⟨qP,E_,tL⟩:=bind_some hF
   refine j5 (fun f' cs'=>∃(g:Fr),qP= .inr ()/\f'=aU g [(0,(sv ae)),(2,(pz k1)),(3,(zi c2))]/\aJ cs' [gP k1 32 (zg [(zi 0),(.slice none 0 0)])]) ?_ ?_
   · replace hF:=E_
     refine bW ?_
     obtain⟨uE,Fe,GI⟩:=bind_some hF
     refine au ?_
     refine dP (fun f' cs'=>∃(gD:Bool)(g:Fr),gD=uE/\f'=aU g [(0,(sv ae)),(2,(pz k1)),(3,(zi c2)),(30,(.bool gD))]/\aJ cs' [gP k1 32 (zg [(zi 0),(.slice none 0 0)])]) ?_ ?_
     · replace hF:=Fe
       refine bf ?_
       refine zI hF fun qO yN kw hF=>?_
       refine ax (jm (u:=qO) bv (.tmp rfl rfl) (.tmp rfl rfl) yN kw) ?_
       refine bf ?_
       rcases cZ (((qO.toNat:Int):Int)==40)with nZ|nZ
       · rw[nZ]
         try rw[nZ]at hF; dsimp only[aW,aV]at hF
         refine aY ?_
         refine ax (dx (s:=ae) bv (.tmp rfl rfl)) ?_
         refine bg ?_
         refine zI hF fun u20 GJ fU hF=>?_
         refine ax (jm (u:=u20) bv (.tmp rfl rfl) (.tmp rfl rfl) GJ fU) ?_
         refine bn ?_
         rcases cZ (((u20.toNat:Int):Int)==41)with n_|n_
         · rw[n_]
           try rw[n_]at hF; dsimp only[aW,aV]at hF
           refine bg ?_
           refine zI hF fun u25 GK hx28 hF=>?_
           refine ax (jm (u:=u25) bv (.tmp rfl rfl) (.int _ _) GK hx28) ?_
           exact bI hF
         rw[n_]
         try rw[n_]at hF; dsimp only[aW,aV]at hF
         exact bI hF
       rw[nZ]
       try rw[nZ]at hF; dsimp only[aW,aV]at hF
       exact bI hF
     rintro _ _ ⟨gD,JK,rfl,rfl,hE⟩
     replace hF:=GI
     try dsimp only at hF
     refine bL hE ?_
     refine Ci hF (fun Ff hF=>?_) (fun Ff hF=>?_)
     · refine bg ?_
       refine bnd hF fun u31 hx32 hF=>?_
       have qA:=gJ hx32
       simp only[Bool.and_eq_true,decide_eq_true_eq]at qA
       refine ax (rH (s:=ae) (i:=(1:Int)) (j:=c2) bv (.tmp rfl rfl) (.int _ _) (.tmp rfl rfl) qA.1.1 qA.1.2 qA.2) ?_
       refine bnd hF fun d9 hx34 hF=>bN (v_ hx34) (fun _=>?_)
       refine ax (rU dA.h rfl (vs:=[(zi d9)]) dh (cells:=[(zi d9),(.slice none 0 0)]) rfl) ?_
       refine l8 (fun y_=>?_)
       refine As (zg [(zi d9),(.slice none 0 0)]) ?_
       refine bH ?_
       refine ax (dx (s:=ae) bv (.tmp rfl rfl)) ?_
       refine au ?_
       refine bnd hF fun u38 hx39 hF=>?_
       have qB:=gJ hx39
       simp only[Bool.and_eq_true,decide_eq_true_eq]at qB
       refine ax (rH (s:=ae) (i:=(IntKind.i64.wrap (c2+1))) (j:=(IntKind.i64.wrap ((ae.length:Int)-1))) bv (.tmp rfl rfl) (.tmp rfl rfl) (.tmp rfl rfl) qB.1.1 qB.1.2 qB.2) ?_
       refine aY ?_
       refine ax (gN (s:=((ae.take ((IntKind.i64.wrap ((ae.length:Int)-1))).toNat).drop ((IntKind.i64.wrap (c2+1))).toNat)) (t:=[]) (.tmp rfl rfl) (.sv _)) ?_
       refine au ?_
       refine Ci hF (fun Fg hF=>?_) (fun Fg hF=>?_)
       · refine bf ?_
         refine As (zg [(zi d9),(.slice none 0 0)]) ?_
         refine bf ?_
         cases hF
         replace hF:=tL
         try dsimp only at hF
         cases hF
         exact gp (⟨none,0,0⟩,[]) (.cellA rfl rfl .h rfl nP.h dA.h.sz rfl rfl .nil) rfl (.conv .nil (lu (Ro:=(bG cu)) (E:=3)) (.cons .nil) (.sel (.cons .h .nil)))
       refine bg ?_
       refine bnd hF fun ma GL hF=>fJ (vZ GL) (fun p42=>?_)
       refine bH ?_
       refine bW (DX .h gL ?_)
       refine dE (m:=ma.length) (fun za f' cs'=>∃(g:Fr)(jb:Nat)(iD:List (List UInt8))(kK:List Int)(v87:Sv)(uF:List Nat),za=iD.length/\f'=aU g [(2,(pz k1)),(4,(pz y_)),(6,p42.1.v),(7,(zi (jb:Int)))]/\List.drop jb ma=iD/\aJ cs' [gP k1 32 (zg [(zi 0),(.slice none 0 0)]),gP y_ 32 (zg [(zi d9),v87.v]),iZ uF v87 kK,jK p42.1 ma]/\jP fuel d9 iD jb kK=some qP) ⟨_,0,_,_,⟨none,0,0⟩,[],rfl,aN,rfl,(.conv .nil (lu (Ro:=(bG cu)) (E:=3)) (.cons .nil) aM),hF⟩ ?_
       rintro za _ _ ⟨Kt,jb,iD,kK,v87,uF,rfl,rfl,hd95,hE,hF⟩
       refine Kb hE ma (fun I4=>?_)
       rcases iD with _|⟨y9,iD⟩
       · have GM:=dn hd95
         rw[jP]at hF
         refine aZ ?_
         refine fZ ?_
         refine bH ?_
         refine As (zg [(zi d9),v87.v]) ?_
         refine bf ?_
         cases hF
         replace hF:=tL
         try dsimp only at hF
         cases hF
         exact Er (v87,uF)
       obtain⟨GM,GN,hd98⟩:=fM hd95
       rw[jP]at hF
       refine aZ ?_
       refine fV ?_
       refine bf ?_
       refine xw [0,1,2,3,4,5,6,7,8,9,10] [0,1,0,0,12,28,60,124,255,511,1023] [6,8,10] mixed (by decide+kernel) ?_
       refine du ?_
       refine qi rfl .no (.t .h) (fun ha hp=>iq (v:=v87.v) tC.h (EN ha (.tmp rfl rfl) rfl) hp.2 rfl rfl) ?_
       refine gy ?_
       refine Di GN (fun JL JM=>?_)
       refine Dl sM ?_
       refine bnd hF fun qz hx104 hF=>xL rfl rfl .no .nil (.own .q2 (fun _ h=>h) .nil) (fun ha=>eu F6.h (.cons (EN ha (.tmp rfl rfl) rfl) .nil) (v_ hx104)) (fun _=>?_)
       refine Ea rfl .no rfl (fun ha=>d_ (g:=true) (len:=1) (parts:=[(0,.tmp 60)]) lQ.h jJ.h (.cons (EN ha (.tmp rfl rfl) rfl) .nil) (vs:=[(zi qz)]) rfl rfl rfl (by intro v hv; simp at hv; rcases hv with rfl<;>rfl)) (fun JN=>?_)
       refine IG (.cons .h .nil) (eD (Ro:=(bG cu)) (E:=3) (F:=([]++[])) (xs:=([qz]:List Int)) (ik (jo (fun _=>rfl)) eB dM) rfl rfl) ?_
       refine bnd hF fun z107 Fh hF=>lG rfl rfl .no (.cons .q4 (.cons .h .nil)) (.dep rfl (.dep rfl .nil)) (fun ha=>jV (Ro:=(bG cu)) lQ.h yI jJ.h rfl rfl rfl (EN ha (.tmp rfl rfl) rfl) (EN ha (.tmp rfl rfl) rfl) Fh jY) (fun tN=>?_)
       refine du ?_
       refine lG rfl rfl .no (.cons .q3 .nil) (.dep rfl (.dep rfl .nil)) (fun ha=>mV (e':=(zg [(zi d9),tN.1.v])) F8.h.sz (EN ha (.tmp rfl rfl) rfl) (EN ha (.tmp rfl rfl) rfl) rfl rfl rfl rfl rfl) (fun _=>?_)
       refine du ?_
       refine aY ?_
       rw[wk jb]
       exact⟨_,dC _,_,jb+1,iD,_,tN.1,tN.2,rfl,aN,hd98,aM,hF⟩
     refine au ?_
     cases hF
     exact⟨_,rfl,aN,aM⟩
   rintro _ _ ⟨JO,rfl,rfl,hE⟩
   replace hF:=tL
   try dsimp only at hF
   refine bL hE ?_
   refine aY ?_
   exact⟨m3,dC _,_,_,aN,aM,hF⟩
 refine aY ?_
 refine ax (rU dA.h rfl (vs:=[(zi (-1))]) (.cons (.int _ _) .nil) (cells:=[(zi (-1)),(.slice none 0 0)]) rfl) ?_
 refine As (zg [(zi (-1)),(.slice none 0 0)]) ?_
 refine bf ?_
 cases hF
 exact gp (⟨none,0,0⟩,[]) (.cellA rfl rfl .h rfl nP.h dA.h.sz rfl rfl .nil) rfl (.conv .nil (lu (Ro:=(bG cu)) (E:=3)) (.cons .nil) (.sel (.cons .h .nil)))
def nu(jL:Int)(fD:Int)(gq:Int):Option (Bool):=
 some ((decide ((fD:Int)<=jL))&&(decide ((jL:Int)<=gq)))
theorem wL{jL fD gq:Int}{R:Bool}(hF:nu jL fD gq=some R):
   Fw.Spec Tryd.prog 25 [(zi jL),(zi fD),(zi gq)] [] (fun _:Unit=>(.bool R)) (fun _=>[]):=by
 refine Se 15 Tryd.func25 [.tmp 6] ?_
 intro H0 F0
 unfold nu at hF
 refine bn ?_
 refine dP (fun f' cs'=>∃(g:Fr),f'=aU g [(6,(.bool ((decide ((fD:Int)<=jL))&&(decide ((jL:Int)<=gq)))))]/\aJ cs' []) ?_ ?_
 · refine bn ?_
   rcases cZ (decide ((fD:Int)<=jL))with hg1|hg1
   · rw[hg1]
     try rw[hg1]at hF; dsimp only[aW,aV]at hF
     refine gV ?_
     exact⟨_,aN,aM⟩
   rw[hg1]
   try rw[hg1]at hF; dsimp only[aW,aV]at hF
   refine bH ?_
   exact⟨_,aN,aM⟩
 rintro _ _ ⟨g2,rfl,hE⟩
 refine bL hE ?_
 exact ze hF
def ic(fuel:Nat):List Int->Nat->(List UInt8)->Option ((List UInt8))
 |[],k5,c1=>some c1
 |x7::bq,k5,c1=>(if (decide ((0:Int)<(k5:Int)))then (
       (aI c1 [44]).bind fun fK=>
       (fA fuel x7).bind fun eP=>
       (aI fK eP).bind fun x25=>
       some x25)
     else (
       (fA fuel x7).bind fun uG=>
       (aI c1 uG).bind fun x34=>
       some x34)).bind fun kG=>
   match kG with
   |oJ=>ic fuel bq (k5+1) oJ
def mW(fuel:Nat)(cK:List Int):Option ((List UInt8)):=
 ic fuel cK 0 []
theorem AR{fuel:Nat}{cK:List Int}{aD:Sv}{R:(List UInt8)}(hF:mW fuel cK=some R):
   Fw.Spec Tryd.prog 27 [aD.v] [dw aD cK] (fun _:Unit=>(sv R)) (fun _=>[]):=by
 refine Se 23 Tryd.func27 [.tmp 2] ?_
 intro H0 F0
 unfold mW at hF
 refine j6 ?_
 refine bW (dE (m:=cK.length) (fun m3 f' cs'=>∃(g:Fr)(k5:Nat)(bq:List Int)(c1:List UInt8),m3=bq.length/\f'=aU g [(0,aD.v),(3,(sv c1)),(4,(zi (k5:Int)))]/\List.drop k5 cK=bq/\aJ cs' [dw aD cK]/\ic fuel bq k5 c1=some R) ⟨_,0,_,_,rfl,aN,rfl,aM,hF⟩ ?_)
 rintro m3 _ _ ⟨g4,k5,bq,c1,rfl,rfl,gF,hE,hF⟩
 refine Kb hE cK (fun sP=>?_)
 rcases bq with _|⟨x7,bq⟩
 · have kL:=dn gF
   rw[ic]at hF
   refine aZ ?_
   refine fZ ?_
   exact ze hF
 obtain⟨kL,fE,fF⟩:=fM gF
 rw[ic]at hF
 refine aZ ?_
 refine fV ?_
 refine au ?_
 obtain⟨kG,sO,tK⟩:=bind_some hF
 refine j5 (fun f' cs'=>∃(oJ:List UInt8)(g:Fr),oJ=kG/\f'=aU g [(0,aD.v),(3,(sv oJ)),(4,(zi (k5:Int)))]/\aJ cs' [dw aD cK]) ?_ ?_
 · replace hF:=sO
   refine bW (lL (gI (Cm (zi (k5:Int)) rfl rfl ?_)))
   refine bf ?_
   refine Ci hF (fun og hF=>?_) (fun og hF=>?_)
   · refine bf ?_
     refine bnd hF fun fK ky hF=>?_
     obtain⟨GQ,GR⟩:=dD ky
     refine ax (dK (s:=c1) (t:=[44]) (u:=fK) (.tmp rfl rfl) (.sv _) ky) ?_
     refine bH ?_
     refine Ai fE (fun k20 uH=>?_)
     refine Al jr ?_
     refine bnd hF fun eP fU hF=>bN (mq fU) (fun _=>?_)
     refine bnd hF fun x25 lT hF=>?_
     obtain⟨JP,JQ⟩:=dD lT
     refine ax (dK (s:=fK) (t:=eP) (u:=x25) (.tmp rfl rfl) (.tmp rfl rfl) lT) ?_
     exact bI hF
   refine aY ?_
   refine Ai fE (fun IJ Ku=>?_)
   refine Al jr ?_
   refine bnd hF fun uG hx32 hF=>bN (mq hx32) (fun _=>?_)
   refine bnd hF fun x34 lU hF=>?_
   obtain⟨JR,JS⟩:=dD lU
   refine ax (dK (s:=c1) (t:=uG) (u:=x34) (.tmp rfl rfl) (.tmp rfl rfl) lU) ?_
   exact bI hF
 rintro _ _ ⟨oJ,Kv,rfl,rfl,hE⟩
 replace hF:=tK
 try dsimp only at hF
 refine bL hE ?_
 refine aY ?_
 rw[wk k5]
 exact⟨_,dC _,_,k5+1,bq,_,rfl,aN,fF,aM,hF⟩
def jd(aA:ak)(fuel:Nat):List Int->Nat->Option ((List UInt8))
 |[],k12=>(fA fuel aA.Method).bind fun jM=>
   (aI [109] jM).bind fun x24=>
   (aI x24 [40]).bind fun x28=>
   (mW fuel aA.Values).bind fun r32=>
   (aI x28 r32).bind fun qQ=>
   (aI qQ [41]).bind fun x39=>
   some x39
 |l_::iF,k12=>(nu l_ 0 9).bind fun zb=>
   if (!zb)then (
     some [])
   else (
     jd aA fuel iF (k12+1))
def mr(fuel:Nat)(aA:ak):Option ((List UInt8)):=
 ((nu aA.Method 0 4).bind fun r4=>
   bif (!r4)then (some true)
   else (some (decide ((3:Int)<(aA.Values.length:Int))))).bind fun o2=>
 match o2 with
 |c8=>if c8 then (
     some [])
   else (
     jd aA fuel aA.Values 0)
theorem zL{fuel:Nat}{aA:ak}{eX:Sv}{R:(List UInt8)}(hF:mr fuel aA=some R):
   Fw.Spec Tryd.prog 18 [(zg [(zi aA.Method),eX.v])] [dw eX aA.Values] (fun _:Unit=>(sv R)) (fun _=>[]):=by
 refine Se 38 Tryd.func18 [.tmp 2] ?_
 intro H0 F0
 unfold mr at hF
 refine au ?_
 refine qL (fun k1=>?_)
 refine bg ?_
 obtain⟨o2,tO,hO3⟩:=bind_some hF
 refine au ?_
 refine dP (fun f' cs'=>∃(c8:Bool)(g:Fr),c8=o2/\f'=aU g [(1,(pz k1)),(13,(.bool c8))]/\aJ cs' [sS k1 32 (zg [(zi aA.Method),eX.v]),dw eX aA.Values]) ?_ ?_
 · replace hF:=tO
   refine bf ?_
   refine bnd hF fun r4 hx5 hF=>bN (wL hx5) (fun _=>?_)
   refine bf ?_
   rcases cZ (!r4)with gG|gG
   · rw[gG]
     try rw[gG]at hF; dsimp only[aW,aV]at hF
     exact bI hF
   rw[gG]
   try rw[gG]at hF; dsimp only[aW,aV]at hF
   exact bI hF
 rintro _ _ ⟨c8,Kw,rfl,rfl,hE⟩
 replace hF:=hO3
 try dsimp only at hF
 refine bL hE ?_
 refine Ci hF (fun GU hF=>?_) (fun GU hF=>?_)
 · exact ze hF
 refine aY ?_
 refine bW (dE (m:=aA.Values.length) (fun m10 f' cs'=>∃(g:Fr)(k12:Nat)(iF:List Int),m10=iF.length/\f'=aU g [(1,(pz k1)),(3,(zi (k12:Int)))]/\List.drop k12 aA.Values=iF/\aJ cs' [sS k1 32 (zg [(zi aA.Method),eX.v]),dw eX aA.Values]/\jd aA fuel iF k12=some R) ⟨_,0,_,rfl,aN,rfl,aM,hF⟩ ?_)
 rintro m10 _ _ ⟨g11,k12,iF,rfl,rfl,yO,hE,hF⟩
 refine Kb hE aA.Values (fun I6=>?_)
 rcases iF with _|⟨l_,iF⟩
 · have GV:=dn yO
   rw[jd]at hF
   refine iQ ?_
   refine fZ ?_
   refine bn ?_
   refine lF [0,1,5,6,2,3,4,7,8,9,10] [0,1,3,7,15,0,32,103,255,511,1023] [2,7] mixed (by decide+kernel) ?_
   refine tF ?_
   refine bnd hF fun jM tQ hF=>oD (mq tQ) (fun _=>?_)
   refine bnd hF fun x24 hx25 hF=>?_
   obtain⟨JU,JV⟩:=dD hx25
   refine bU rfl .no (fun ha=>dK (s:=[109]) (t:=jM) (u:=x24) (EN ha (.sv _) rfl) (EN ha (.tmp rfl rfl) rfl) hx25) ?_
   refine bnd hF fun x28 hx29 hF=>?_
   obtain⟨Gn,Gp⟩:=dD hx29
   refine bU rfl .no (fun ha=>dK (s:=x24) (t:=[40]) (u:=x28) (EN ha (.tmp rfl rfl) rfl) (EN ha (.sv _) rfl) hx29) ?_
   refine bnd hF fun r32 GX hF=>oD (AR GX) (fun _=>?_)
   refine bnd hF fun qQ yP hF=>?_
   obtain⟨JW,JX⟩:=dD yP
   refine bU rfl .no (fun ha=>dK (s:=x28) (t:=r32) (u:=qQ) (EN ha (.tmp rfl rfl) rfl) (EN ha (.tmp rfl rfl) rfl) yP) ?_
   refine bnd hF fun x39 qx hF=>?_
   obtain⟨JY,JZ⟩:=dD qx
   refine bU rfl .no (fun ha=>dK (s:=qQ) (t:=[41]) (u:=x39) (EN ha (.tmp rfl rfl) rfl) (EN ha (.sv _) rfl) qx) ?_
   refine gy ?_
   exact ze hF
 obtain⟨GV,ky,GY⟩:=fM yO
 rw[jd]at hF
 refine iQ ?_
 refine fV ?_
 refine bH ?_
 refine Ai ky (fun Ky Kz=>?_)
 refine Al jr ?_
 refine bnd hF fun zb GZ hF=>bN (wL GZ) (fun _=>?_)
 refine bf ?_
 refine Ci hF (fun G5 hF=>?_) (fun G5 hF=>?_)
 · exact ze hF
 refine bH ?_
 rw[wk k12]
 exact⟨_,dC _,_,k12+1,iF,rfl,aN,GY,aM,hF⟩
def h_(fuel:Nat):List ak->Nat->(List UInt8)->Option ((List UInt8))
 |[],k5,c1=>if (c1==[])then (
     some [110,111,110,101])
   else (
     some c1)
 |x7::bq,k5,c1=>(((mr fuel x7).bind fun f_=>
     if (f_==[])then (
       some (.inl []))
     else (
       if (decide ((0:Int)<(k5:Int)))then (
         (aI c1 [32]).bind fun qR=>
         (aI qR f_).bind fun x27=>
         some (.inr x27))
       else (
         (aI c1 f_).bind fun x31=>
         some (.inr x31)))):Option (Sum ((List UInt8)) ((List UInt8)))).bind fun kE=>
   match kE with
   | .inl r=>some r
   | .inr c37=>h_ fuel bq (k5+1) c37
def mI(fuel:Nat)(iK:List ak):Option ((List UInt8)):=
 h_ fuel iK 0 []
theorem Ab{fuel:Nat}{iK:List ak}{aD:Sv}{R:(List UInt8)}(hF:mI fuel iK=some R):
   Fw.Spec Tryd.prog 11 [aD.v] [iR aD iK] (fun _:Unit=>(sv R)) (fun _=>[]):=by
 refine Se 29 Tryd.func11 [.tmp 2] ?_
 intro H0 F0
 unfold mI at hF
 refine j6 ?_
 refine bW (dE (m:=iK.length) (fun m3 f' cs'=>∃(g:Fr)(k5:Nat)(bq:List ak)(c1:List UInt8),m3=bq.length/\f'=aU g [(0,aD.v),(3,(sv c1)),(4,(zi (k5:Int)))]/\List.drop k5 iK=bq/\aJ cs' [iR aD iK]/\h_ fuel bq k5 c1=some R) ⟨_,0,_,_,rfl,aN,rfl,aM,hF⟩ ?_)
 rintro m3 _ _ ⟨g4,k5,bq,c1,rfl,rfl,gF,hE,hF⟩
 refine Kb hE iK (fun sP=>?_)
 rcases bq with _|⟨x7,bq⟩
 · have kL:=dn gF
   rw[h_]at hF
   refine aZ ?_
   refine fZ ?_
   refine aZ ?_
   refine ax (gN (s:=c1) (t:=[]) (.tmp rfl rfl) (.sv _)) ?_
   refine au ?_
   refine Ci hF (fun G6 hF=>?_) (fun G6 hF=>?_)
   · exact ze hF
   exact ze hF
 obtain⟨kL,fE,fF⟩:=fM gF
 rw[h_]at hF
 refine aZ ?_
 refine fV ?_
 refine au ?_
 obtain⟨kE,sN,qw⟩:=bind_some hF
 refine j5 (fun f' cs'=>∃(c37:List UInt8)(g:Fr),kE= .inr c37/\f'=aU g [(0,aD.v),(3,(sv c37)),(4,(zi (k5:Int)))]/\aJ cs' [iR aD iK]) ?_ ?_
 · replace hF:=sN
   refine bW (gI (Cm aD.v rfl rfl ?_))
   refine au ?_
   refine Ai fE (fun k17 IL=>?_)
   refine F5 (pO x7) rC (fun KA=>?_)
   refine bnd hF fun f_ jD hF=>bN (zL jD) (fun _=>?_)
   refine aY ?_
   refine ax (gN (s:=f_) (t:=[]) (.tmp rfl rfl) (.sv _)) ?_
   refine au ?_
   refine Ci hF (fun G7 hF=>?_) (fun G7 hF=>?_)
   · refine bn ?_
     cases hF
     replace hF:=qw
     try dsimp only at hF
     exact ze hF
   refine bH ?_
   refine Ci hF (fun oh hF=>?_) (fun oh hF=>?_)
   · refine bf ?_
     refine bnd hF fun qR hx24 hF=>?_
     obtain⟨J2,J3⟩:=dD hx24
     refine ax (dK (s:=c1) (t:=[32]) (u:=qR) (.tmp rfl rfl) (.sv _) hx24) ?_
     refine aY ?_
     refine bnd hF fun x27 hx28 hF=>?_
     obtain⟨G8,G9⟩:=dD hx28
     refine ax (dK (s:=qR) (t:=f_) (u:=x27) (.tmp rfl rfl) (.tmp rfl rfl) hx28) ?_
     exact bI hF
   refine bn ?_
   refine bnd hF fun x31 hx32 hF=>?_
   obtain⟨G_,Ha⟩:=dD hx32
   refine ax (dK (s:=c1) (t:=f_) (u:=x31) (.tmp rfl rfl) (.tmp rfl rfl) hx32) ?_
   exact bI hF
 rintro _ _ ⟨c37,KC,rfl,rfl,hE⟩
 replace hF:=qw
 try dsimp only at hF
 refine bL hE ?_
 refine aY ?_
 rw[wk k5]
 exact⟨_,dC _,_,k5+1,bq,_,rfl,aN,fF,aM,hF⟩
def jR(ae:List UInt8)(r4:(List (List UInt8)))(fuel:Nat):Nat->(List ak)->Int->Option ((List ak)×Bool)
 |0,_,_=>none
 |m11+1,c7,c10=>if (decide ((c10:Int)<(r4.length:Int)))then (
     (ix r4 c10).bind fun uI=>
     (jg fuel uI).bind fun oK=>
     (app c7 ([oK]:List ak)).bind fun z31=>
     jR ae r4 fuel m11 z31 (IntKind.i64.wrap (c10+1)))
   else (
     (mI fuel c7).bind fun uJ=>
     if (!(uJ==ae))then (
       some (([]:List ak),false))
     else (
       some (c7,true)))
def mO(fuel:Nat)(ae:List UInt8):Option ((List ak)×Bool):=
 if ((ae==[110,111,110,101])||(ae==[]))then (
   some (([]:List ak),(!(ae==[]))))
 else (
   (mZ ae (32:UInt8)).bind fun r4=>
   jR ae r4 fuel (((r4.length:Int)-0).toNat+2) ([]:List ak) 0)
theorem Ag{fuel:Nat}{ae:List UInt8}{R:(List ak)×Bool}(hF:mO fuel ae=some R):
   Fw.Spec Tryd.prog 4 [(sv ae)] [] (fun p:Sv×List Nat=>(.tuple [p.1.v,(.bool R.2)].toArray)) (fun p=>[gW p.2 p.1 R.1]):=by
 refine Se 41 Tryd.func4 [.tmp 2,.tmp 3] ?_
 intro H0 F0
 unfold mO at hF
 refine aY ?_
 refine eF rfl (d_ (g:=true) iO.h dA.h .nil (vs:=[]) rfl rfl rfl (by simp)) (fun k1=>?_)
 refine fq (.cons .h .nil) (eD (Ro:=di) (E:=32) (F:=[]) (xs:=([]:List ak)) eB rfl rfl) ?_
 refine bn ?_
 refine dP (fun f' cs'=>∃(g:Fr),f'=aU g [(0,(sv ae)),(4,(.slice (some ⟨k1,0,none⟩) 0 1)),(14,(.bool ((ae==[110,111,110,101])||(ae==[]))))]/\aJ cs' [aG (aK 32 di) (k1::[]) (.slice (some ⟨k1,0,none⟩) 0 1) ([]:List ak)]) ?_ ?_
 · refine au ?_
   refine ax (gN (s:=ae) (t:=[110,111,110,101]) (.tmp rfl rfl) (.sv _)) ?_
   refine au ?_
   rcases cZ (ae==[110,111,110,101])with hg2|hg2
   · rw[hg2]
     try rw[hg2]at hF; dsimp only[aW,aV]at hF
     refine bn ?_
     exact⟨_,aN,aM⟩
   rw[hg2]
   try rw[hg2]at hF; dsimp only[aW,aV]at hF
   refine bg ?_
   refine ax (gN (s:=ae) (t:=[]) (.tmp rfl rfl) (.sv _)) ?_
   refine bf ?_
   exact⟨_,aN,aM⟩
 rintro _ _ ⟨g3,rfl,hE⟩
 refine bL hE ?_
 refine Ci hF (fun Hd hF=>?_) (fun Hd hF=>?_)
 · refine bg ?_
   refine ax (nz (s:=ae) (t:=[]) (.tmp rfl rfl) (.sv _)) ?_
   refine bn ?_
   cases hF
   exact Er (⟨(some ⟨k1,0,none⟩),0,1⟩,(k1::[]))
 refine bg ?_
 refine bnd hF fun r4 hx5 hF=>fJ (vZ hx5) (fun p6=>?_)
 refine bH ?_
 refine bW (dE (m:=(((r4.length:Int)-0).toNat+2)) (fun m11 f' cs'=>∃(g:Fr)(c7:List ak)(c10:Int)(v8:Sv)(F9:List Nat),f'=aU g [(0,(sv ae)),(4,v8.v),(5,p6.1.v),(6,(zi c10))]/\aJ cs' [gW F9 v8 c7,oG p6.2 p6.1 r4]/\jR ae r4 fuel m11 c7 c10=some R) ⟨_,_,_,⟨(some ⟨k1,0,none⟩),0,1⟩,(k1::[]),aN,aM,hF⟩ ?_)
 rintro m11 _ _ ⟨g12,c7,c10,v8,F9,rfl,hE,hF⟩
 refine bL hE ?_
 rcases m11 with _|m11
 · rw[jR]at hF
   exact absurd hF (by simp)
 rw[jR]at hF
 refine aZ ?_
 refine Ci hF (fun ol hF=>?_) (fun ol hF=>?_)
 · refine aY ?_
   refine bnd hF fun uI fU hF=>?_
   have hi21:=sw fU
   obtain⟨J4,hx25⟩:=mY fU
   refine qa iP.h gB.h.sz (.tmp rfl rfl) (.tmp rfl rfl) (.t .h) hi21 (fun k19 He=>?_)
   refine D7 (w:=(sv uI)) II.h (.tmp rfl rfl) (.t .h) He hx25 EU ?_
   refine bnd hF fun oK hx27 hF=>fJ (Aa hx27) (fun p28=>?_)
   refine l8 (fun IJ=>?_)
   refine As (zg [(zi oK.Method),p28.1.v]) ?_
   refine bn ?_
   refine eF rfl (d_ (g:=true) iO.h dA.h dh (vs:=[(zg [(zi oK.Method),p28.1.v])]) rfl rfl rfl (by intro v hv; simp at hv; rcases hv with rfl<;>rfl)) (fun KD=>?_)
   refine fq (.cons .h (.cons (.t .h) .nil)) (eD (Ro:=di) (E:=32) (F:=(p28.2++[])) (xs:=([oK]:List ak)) (ik yJ eB dM) rfl rfl) ?_
   refine bnd hF fun z31 hx32 hF=>eH (.cons .q2 (.cons .h .nil)) (jV (Ro:=di) iO.h yK dA.h rfl rfl rfl (.tmp rfl rfl) (.tmp rfl rfl) hx32 jY) (fun p33=>?_)
   refine aZ ?_
   exact⟨m11,dC _,_,_,_,p33.1,p33.2,aN,aM,hF⟩
 refine aZ ?_
 refine bnd hF fun uJ lU hF=>eH (.cons .h .nil) (lH gL (fun _=>.nil) (eu F_.h dh (Ab lU))) (fun _=>?_)
 refine au ?_
 refine ax (nz (s:=uJ) (t:=ae) (.tmp rfl rfl) (.tmp rfl rfl)) ?_
 refine au ?_
 refine Ci hF (fun og hF=>?_) (fun og hF=>?_)
 · refine au ?_
   refine eF rfl (d_ (g:=true) iO.h dA.h .nil (vs:=[]) rfl rfl rfl (by simp)) (fun zf=>?_)
   refine fq (.cons .h .nil) (eD (Ro:=di) (E:=32) (F:=[]) (xs:=([]:List ak)) eB rfl rfl) ?_
   refine bn ?_
   cases hF
   exact Er (⟨(some ⟨zf,0,none⟩),0,1⟩,(zf::[]))
 refine aZ ?_
 cases hF
 exact Er (v8,F9)
def o6(ae bE:List UInt8)(qC aX:Int):Option (List (List UInt8)):=
 match bE with
 |[c]=>if qC=0/\aX= -1/\ae.length<4294967281/\(Lib.split ae [c]).length<4294967296 then some (Lib.split ae [c])else none
 |_=>none
theorem zH{ae bE:List UInt8}{qC aX:Int}{R:List (List UInt8)}(hF:o6 ae bE qC aX=some R):
   Fw.Spec Tryd.prog 19 [sv ae,sv bE,.int .i64 qC,.int .i64 aX] [] (fun p:Sv=>p.v) (fun p=>[jK p R]):=by
 unfold o6 at hF
 split at hF
 · split at hF
   · rename_i c h
     obtain⟨rfl,rfl,h1,h2⟩:=h
     cases hF
     exact Bc Dr gB.h.sz h2 fun w=>AO CJ hi9 ae c h1 w
   · simp at hF
 · simp at hF
def jO(ae:List UInt8)(bE:List UInt8):Option ((List (List UInt8))):=
 (o6 ae bE 0 (-1)).bind fun r1=>
 some r1
theorem uY{ae bE:List UInt8}{R:(List (List UInt8))}(hF:jO ae bE=some R):
   Fw.Spec Tryd.prog 12 [(sv ae),(sv bE)] [] (fun p:Sv=>p.v) (fun p=>[jK p R]):=by
 refine Se 8 Tryd.func12 [.tmp 4] ?_
 intro H0 F0
 unfold jO at hF
 refine bH ?_
 refine bnd hF fun r1 hx2 hF=>fJ (zH hx2) (fun p3=>?_)
 refine bg ?_
 cases hF
 exact Er p3
def oW(ae bE:List UInt8):Option Int:=
 match bE with
 |[c]=>some (Lib.indexByte ae c)
 |_=>none
theorem zB{ae bE:List UInt8}{R:Int}(hF:oW ae bE=some R):
   Fw.Spec Tryd.prog 43 [sv ae,sv bE] [] (fun _:Unit=>(zi R)) (fun _=>[]):=by
 unfold oW at hF
 split at hF
 · rename_i c
   cases hF
   exact Bb Dq (fun _=>.int _ _) fun w=>AL CK ae c w
 · simp at hF
def oZ(ae:List UInt8)(bE:List UInt8):Option ((List UInt8)×(List UInt8)×Bool):=
 (oW ae bE).bind fun r1=>
 if (decide ((0:Int)<=r1))then (
   (eZ (decide (0<=r1)&&decide (r1<=((ae).length:Int)))).bind fun u5=>
   (eZ (decide (0<=(IntKind.i64.wrap (r1+(bE.length:Int))))&&decide ((IntKind.i64.wrap (r1+(bE.length:Int)))<=((ae).length:Int)))).bind fun u8=>
   some ((ae.take (r1).toNat),(ae.drop ((IntKind.i64.wrap (r1+(bE.length:Int)))).toNat),true))
 else (
   some (ae,[],false))
theorem zC{ae bE:List UInt8}{R:(List UInt8)×(List UInt8)×Bool}(hF:oZ ae bE=some R):
   Fw.Spec Tryd.prog 44 [(sv ae),(sv bE)] [] (fun _:Unit=>(.tuple [(sv R.1),(sv R.2.1),(.bool R.2.2)].toArray)) (fun _=>[]):=by
 refine Se 23 Tryd.func44 [.tmp 4,.tmp 5,.tmp 6] ?_
 intro H0 F0
 unfold oZ at hF
 refine gV ?_
 refine bnd hF fun r1 hx2 hF=>bN (zB hx2) (fun _=>?_)
 refine bH ?_
 refine Ci hF (fun Hf hF=>?_) (fun Hf hF=>?_)
 · refine lF [0,1,2,3,4,5,6,7,8,9,10,11] [0,0,3,0,0,0,32,112,248,7,1023,2047] [] mixed (by decide+kernel) ?_
   refine gy ?_
   refine bnd hF fun u5 hx6 hF=>?_
   have hc4:=gJ hx6
   simp only[Bool.and_eq_true,decide_eq_true_eq]at hc4
   refine bU rfl .no (fun ha=>rA (s:=ae) (j:=r1) bv (EN ha (.tmp rfl rfl) rfl) (EN ha (.tmp rfl rfl) rfl) hc4.1 hc4.2) ?_
   refine yL ?_
   refine bU rfl .no (fun ha=>dx (s:=bE) bv (EN ha (.tmp rfl rfl) rfl)) ?_
   refine du ?_
   refine bnd hF fun u8 kM hF=>?_
   have uK:=gJ kM
   simp only[Bool.and_eq_true,decide_eq_true_eq]at uK
   refine bU rfl .no (fun ha=>rz (s:=ae) (i:=(IntKind.i64.wrap (r1+(bE.length:Int)))) bv (EN ha (.tmp rfl rfl) rfl) (EN ha (.tmp rfl rfl) rfl) uK.1 uK.2) ?_
   refine tF ?_
   exact ze hF
 exact ze hF
def mG(ae:List UInt8)(bE:List UInt8):Option ((List UInt8)×(List UInt8)×Bool):=
 (oZ ae bE).bind fun r1=>
 some (r1.1,r1.2.1,r1.2.2)
theorem zS{ae bE:List UInt8}{R:(List UInt8)×(List UInt8)×Bool}(hF:mG ae bE=some R):
   Fw.Spec Tryd.prog 31 [(sv ae),(sv bE)] [] (fun _:Unit=>(.tuple [(sv R.1),(sv R.2.1),(.bool R.2.2)].toArray)) (fun _=>[]):=by
 refine Se 13 Tryd.func31 [.tmp 4,.tmp 5,.tmp 6] ?_
 intro H0 F0
 unfold mG at hF
 refine iQ ?_
 refine bnd hF fun r1 hx2 hF=>bN (zC hx2) (fun _=>?_)
 refine zx ?_
 refine zx ?_
 refine zx ?_
 exact ze hF
def mi(ae:List UInt8)(bO:List UInt8):Option (Bool):=
 (bif (decide (((bO.length:Int):Int)<=(ae.length:Int)))then ((eZ (decide (0<=(bO.length:Int))&&decide ((bO.length:Int)<=((ae).length:Int)))).bind fun u5=>
     some ((ae.take ((bO.length:Int)).toNat)==bO))
   else (some false)).bind fun o1=>
 match o1 with
 |c7=>some c7
theorem zA{ae bO:List UInt8}{R:Bool}(hF:mi ae bO=some R):
   Fw.Spec Tryd.prog 61 [(sv ae),(sv bO)] [] (fun _:Unit=>(.bool R)) (fun _=>[]):=by
 refine Se 18 Tryd.func61 [.tmp 4] ?_
 intro H0 F0
 unfold mi at hF
 refine bg ?_
 obtain⟨o1,nQ,hO2⟩:=bind_some hF
 refine au ?_
 refine dP (fun f' cs'=>∃(c7:Bool)(g:Fr),c7=o1/\f'=aU g [(4,(.bool c7))]/\aJ cs' []) ?_ ?_
 · replace hF:=nQ
   refine au ?_
   refine ax (dx (s:=ae) bv (.tmp rfl rfl)) ?_
   refine au ?_
   refine ax (dx (s:=bO) bv (.tmp rfl rfl)) ?_
   refine bf ?_
   rcases cZ (decide (((bO.length:Int):Int)<=(ae.length:Int)))with hg3|hg3
   · rw[hg3]
     try rw[hg3]at hF; dsimp only[aW,aV]at hF
     refine aY ?_
     refine ax (dx (s:=bO) bv (.tmp rfl rfl)) ?_
     refine au ?_
     refine bnd hF fun u5 hx6 hF=>?_
     have hc4:0<=(bO.length:Int)/\(bO.length:Int)<=((ae).length:Int):=by (have hq:=gJ hx6; clear hF; simp only[Bool.and_eq_true,decide_eq_true_eq]at*; omega)
     refine ax (rA (s:=ae) (j:=(bO.length:Int)) bv (.tmp rfl rfl) (.tmp rfl rfl) hc4.1 hc4.2) ?_
     refine bg ?_
     refine ax (gN (s:=(ae.take ((bO.length:Int)).toNat)) (t:=bO) (.tmp rfl rfl) (.tmp rfl rfl)) ?_
     exact bI hF
   rw[hg3]
   try rw[hg3]at hF; dsimp only[aW,aV]at hF
   exact bI hF
 rintro _ _ ⟨c7,g8,rfl,rfl,hE⟩
 replace hF:=hO2
 try dsimp only at hF
 refine bL hE ?_
 exact ze hF
def oU(ae:List UInt8)(bO:List UInt8):Option ((List UInt8)):=
 (mi ae bO).bind fun r1=>
 if r1 then (
   (eZ (decide (0<=(bO.length:Int))&&decide ((bO.length:Int)<=((ae).length:Int)))).bind fun u5=>
   some (ae.drop ((bO.length:Int)).toNat))
 else (
   some ae)
theorem zy{ae bO:List UInt8}{R:(List UInt8)}(hF:oU ae bO=some R):
   Fw.Spec Tryd.prog 46 [(sv ae),(sv bO)] [] (fun _:Unit=>(sv R)) (fun _=>[]):=by
 refine Se 13 Tryd.func46 [.tmp 4] ?_
 intro H0 F0
 unfold oU at hF
 refine aZ ?_
 refine bnd hF fun r1 hx2 hF=>bN (zA hx2) (fun _=>?_)
 refine au ?_
 refine Ci hF (fun oL hF=>?_) (fun oL hF=>?_)
 · refine bg ?_
   refine ax (dx (s:=bO) bv (.tmp rfl rfl)) ?_
   refine bnd hF fun u5 hx6 hF=>?_
   have hc4:=gJ hx6
   simp only[Bool.and_eq_true,decide_eq_true_eq]at hc4
   refine ax (rz (s:=ae) (i:=(bO.length:Int)) bv (.tmp rfl rfl) (.tmp rfl rfl) hc4.1 hc4.2) ?_
   exact ze hF
 exact ze hF
def mo(ae:List UInt8)(bO:List UInt8):Option ((List UInt8)):=
 (oU ae bO).bind fun r1=>
 some r1
theorem zD{ae bO:List UInt8}{R:(List UInt8)}(hF:mo ae bO=some R):
   Fw.Spec Tryd.prog 33 [(sv ae),(sv bO)] [] (fun _:Unit=>(sv R)) (fun _=>[]):=by
 refine Se 8 Tryd.func33 [.tmp 4] ?_
 intro H0 F0
 unfold mo at hF
 refine bH ?_
 refine bnd hF fun r1 hx2 hF=>bN (zy hx2) (fun _=>?_)
 exact ze hF
def pg(ae:List UInt8):Option (Int×Bool):=
 if ae.length<=281474976710656 then some (iJ ae)else none
theorem zM{ae:List UInt8}{R:Int×Bool}(hF:pg ae=some R):
   Fw.Spec Tryd.prog 45 [sv ae] [] (fun p:Nat=>(.tuple [(zi R.1),(gU 91 p R.2)].toArray)) (fun _=>[]):=by
 unfold pg at hF
 split at hF
 · rename_i h
   cases hF
   exact Bt fun w hv=>Bd BV ae h w (dR.varE (P:=Tryd.prog) (fun w0 (h:ay.V Tryd.prog w0)=>And.left (And.right h)) hv.choose_spec) (dR.varE (P:=Tryd.prog) (fun w0 (h:ay.V Tryd.prog w0)=>And.right (And.right h)) hv.choose_spec)
 · simp at hF
def jX(aX:Int)(fD:Int)(gq:Int):Option (Bool):=
 some ((decide ((fD:Int)<=aX))&&(decide ((aX:Int)<=gq)))
theorem qZ{aX fD gq:Int}{R:Bool}(hF:jX aX fD gq=some R):
   Fw.Spec Tryd.prog 36 [(zi aX),(zi fD),(zi gq)] [] (fun _:Unit=>(.bool R)) (fun _=>[]):=by
 refine Se 15 Tryd.func36 [.tmp 6] ?_
 intro H0 F0
 unfold jX at hF
 refine bn ?_
 refine dP (fun f' cs'=>∃(g:Fr),f'=aU g [(6,(.bool ((decide ((fD:Int)<=aX))&&(decide ((aX:Int)<=gq)))))]/\aJ cs' []) ?_ ?_
 · refine bn ?_
   rcases cZ (decide ((fD:Int)<=aX))with hg1|hg1
   · rw[hg1]
     try rw[hg1]at hF; dsimp only[aW,aV]at hF
     refine gV ?_
     exact⟨_,aN,aM⟩
   rw[hg1]
   try rw[hg1]at hF; dsimp only[aW,aV]at hF
   refine bH ?_
   exact⟨_,aN,aM⟩
 rintro _ _ ⟨g2,rfl,hE⟩
 refine bL hE ?_
 exact ze hF
def mD(aX:Int):Option (List UInt8):=
 if -9223372036854775808<=aX/\aX<=9223372036854775807 then some (Lib.itoa aX)else none
theorem zN{aX:Int}{R:List UInt8}(hF:mD aX=some R):
   Fw.Spec Tryd.prog 52 [.int .i64 aX] [] (fun _:Unit=>(sv R)) (fun _=>[]):=by
 unfold mD at hF
 split at hF
 · rename_i h
   cases hF
   exact Bq fun w hv=>Go.Proofs.Any.strconv_Itoa BX aX h.1 h.2 w (dR.var (fun w0 (h:ay.V Tryd.prog w0)=>And.left h) hv.choose_spec)
 · simp at hF
def ig(aX:Int):Option ((List UInt8)):=
 (mD aX).bind fun r1=>
 some r1
theorem qV{aX:Int}{R:(List UInt8)}(hF:ig aX=some R):
   Fw.Spec Tryd.prog 38 [(zi aX)] [] (fun _:Unit=>(sv R)) (fun _=>[]):=by
 refine Se 5 Tryd.func38 [.tmp 2] ?_
 intro H0 F0
 unfold ig at hF
 refine aY ?_
 refine bnd hF fun r1 hx2 hF=>bN (zN hx2) (fun _=>?_)
 exact ze hF
def kZ(ae:List UInt8):Option (Int×Bool):=
 (pg ae).bind fun r1=>
 (bif (!r1.2)then (some true)
   else ((jX r1.1 (-999999999) 999999999).bind fun r7=>
     bif (!r7)then (some true)
     else ((ig r1.1).bind fun qU=>
       some (!(qU==ae))))).bind fun o4=>
 match o4 with
 |c14=>if c14 then (
     some (0,false))
   else (
     some (r1.1,true))
theorem vG{ae:List UInt8}{R:Int×Bool}(hF:kZ ae=some R):
   Fw.Spec Tryd.prog 32 [(sv ae)] [] (fun _:Unit=>(.tuple [(.int .i64 R.1),(.bool R.2)].toArray)) (fun _=>[]):=by
 refine vT (n:=25) Tryd.func32 rfl rfl (rs:=[.tmp 2,.tmp 3]) rfl rfl rfl ?_
 intro H0 F0
 unfold kZ at hF
 refine gI (ax (jl (v:=(.int .i64 0)) (.int _ _)) ?_)
 refine ax (jl (v:=(.bool false)) (.bool _)) ?_
 refine jq (gI (Cm (sv ae) rfl rfl ?_))
 obtain⟨r1,hx2,hF⟩:=bind_some hF
 refine nM .nil (eu Ga.h (.cons (.tmp rfl rfl) .nil) (@zM ae _ hx2)) (fun p3=>?_)
 refine Cm (.tuple [(.int .i64 r1.1),(gU 91 p3 r1.2)].toArray) rfl rfl ?_
 refine ax (ry (l:=[(.int .i64 r1.1),(gU 91 p3 r1.2)]) (v:=(.int .i64 r1.1)) (.tmp rfl rfl) rfl) ?_
 refine ax (ry (l:=[(.int .i64 r1.1),(gU 91 p3 r1.2)]) (v:=(gU 91 p3 r1.2)) (.tmp rfl rfl) rfl) ?_
 refine Ca (.int .i64 r1.1) rfl rfl ?_
 refine Ca (gU 91 p3 r1.2) rfl rfl ?_
 refine jq (lL ?_)
 obtain⟨o4,Hg,zh⟩:=bind_some hF
 refine gI (dP (fun f' cs'=>∃(c14:Bool)(g:Fr),c14=o4/\f'=aU g [(4,(.int .i64 r1.1)),(23,(.bool c14))]/\aJ cs' []) ?_ ?_)
 · replace hF:=Hg
   refine Cm (gU 91 p3 r1.2) rfl rfl ?_
   refine ax (CE (k:=p3) (b:=r1.2) EW (.tmp rfl rfl)) ?_
   refine Cm (.bool (!r1.2)) rfl rfl ?_
   rcases Bool.eq_false_or_eq_true (!r1.2)with oM|oM
   · rw[oM]
     try rw[oM]at hF; dsimp only[cond_true,cond_false]at hF
     iterate 3 refine qd (t:=13) rfl rfl rfl ?_
     refine ax (m_ (b:=true) (u:=(.bool true)) (v:=undef) (.tmp rfl rfl) (.bool _) (.tmp rfl rfl)) ?_
     refine Cm (.bool true) rfl rfl ?_
     iterate 4 refine qd (t:=18) rfl rfl rfl ?_
     refine ax (m_ (b:=true) (u:=(.bool true)) (v:=undef) (.tmp rfl rfl) (.bool _) (.tmp rfl rfl)) ?_
     refine jq ?_
     obtain rfl:=Option.some.inj hF
     exact⟨_,_,rfl,(dU.cons rfl (dU.cons rfl (dU.nil))).eq,(.sel .nil)⟩
   rw[oM]
   try rw[oM]at hF; dsimp only[cond_true,cond_false]at hF
   refine jA (t:=13) rfl rfl rfl ?_
   refine Cm (.int .i64 r1.1) rfl rfl ?_
   refine jA (t:=13) rfl rfl rfl ?_
   obtain⟨r7,uL,hF⟩:=bind_some hF
   refine nM .nil (eu Gb.h (.cons (.tmp rfl rfl) (.cons (.int _ _) (.cons (.int _ _) .nil))) (@qZ r1.1 (-999999999) 999999999 _ uL)) (fun _=>?_)
   refine jA (t:=13) rfl rfl rfl ?_
   refine ax (sH (b:=r7) (.tmp rfl rfl)) ?_
   refine ax (m_ (b:=false) (u:=(.bool true)) (v:=(.bool (!r7))) (.tmp rfl rfl) (.bool _) (.tmp rfl rfl)) ?_
   refine Cm (.bool (!r7)) rfl rfl ?_
   rcases Bool.eq_false_or_eq_true (!r7)with om|om
   · rw[om]
     try rw[om]at hF; dsimp only[cond_true,cond_false]at hF
     iterate 4 refine qd (t:=18) rfl rfl rfl ?_
     refine ax (m_ (b:=true) (u:=(.bool true)) (v:=undef) (.tmp rfl rfl) (.bool _) (.tmp rfl rfl)) ?_
     refine jq ?_
     obtain rfl:=Option.some.inj hF
     exact⟨_,_,rfl,(dU.cons rfl (dU.cons rfl (dU.nil))).eq,(.sel .nil)⟩
   rw[om]
   try rw[om]at hF; dsimp only[cond_true,cond_false]at hF
   refine jA (t:=18) rfl rfl rfl ?_
   refine Cm (.int .i64 r1.1) rfl rfl ?_
   refine jA (t:=18) rfl rfl rfl ?_
   obtain⟨qU,Hl,hF⟩:=bind_some hF
   refine nM .nil (eu Gc.h (.cons (.tmp rfl rfl) .nil) (@qV r1.1 _ Hl)) (fun _=>?_)
   refine jA (t:=18) rfl rfl rfl ?_
   refine Cm (sv ae) rfl rfl ?_
   refine jA (t:=18) rfl rfl rfl ?_
   refine ax (nz (s:=qU) (t:=ae) (.tmp rfl rfl) (.tmp rfl rfl)) ?_
   refine ax (m_ (b:=false) (u:=(.bool true)) (v:=(.bool (!(qU==ae)))) (.tmp rfl rfl) (.bool _) (.tmp rfl rfl)) ?_
   refine jq ?_
   obtain rfl:=Option.some.inj hF
   exact⟨_,_,rfl,(dU.cons rfl (dU.cons rfl (dU.nil))).eq,(.sel .nil)⟩
 rintro _ _ ⟨c14,g16,rfl,rfl,hE⟩
 replace hF:=zh
 clear zh
 try dsimp only at hF
 refine bL hE ?_
 refine p8 (b:=c14) (.tmp rfl rfl) (fun tT=>?_) (fun tT=>?_)
 · rw[if_pos tT]at hF
   refine gI (ax (jl (v:=(.int .i64 0)) (.int _ _)) ?_)
   refine ax (jl (v:=(.bool false)) (.bool _)) ?_
   refine jq (sj ?_)
   obtain rfl:=Option.some.inj hF
   exact gp () (.tmp rfl rfl (.tmp rfl rfl .nil)) rfl (.sel .nil)
 rw[if_neg (by rw[tT]; exact Bool.false_ne_true)]at hF
 refine xn (gI (Cm (.int .i64 r1.1) rfl rfl ?_))
 refine Ca (.int .i64 r1.1) rfl rfl ?_
 refine ax (jl (v:=(.bool true)) (.bool _)) ?_
 refine jq (sj ?_)
 obtain rfl:=Option.some.inj hF
 exact gp () (.tmp rfl rfl (.tmp rfl rfl .nil)) rfl (.sel .nil)
def kS(ae:List UInt8)(bz:List UInt8):Option (Bool):=
 (bif (decide (((bz.length:Int):Int)<=(ae.length:Int)))then ((eZ (decide (0<=(IntKind.i64.wrap ((ae.length:Int)-(bz.length:Int))))&&decide ((IntKind.i64.wrap ((ae.length:Int)-(bz.length:Int)))<=((ae).length:Int)))).bind fun u5=>
     some ((ae.drop ((IntKind.i64.wrap ((ae.length:Int)-(bz.length:Int)))).toNat)==bz))
   else (some false)).bind fun o1=>
 match o1 with
 |c7=>some c7
theorem uW{ae bz:List UInt8}{R:Bool}(hF:kS ae bz=some R):
   Fw.Spec Tryd.prog 47 [(sv ae),(sv bz)] [] (fun _:Unit=>(.bool R)) (fun _=>[]):=by
 refine Se 21 Tryd.func47 [.tmp 4] ?_
 intro H0 F0
 unfold kS at hF
 refine bg ?_
 obtain⟨o1,nQ,hO2⟩:=bind_some hF
 refine au ?_
 refine dP (fun f' cs'=>∃(c7:Bool)(g:Fr),c7=o1/\f'=aU g [(4,(.bool c7))]/\aJ cs' []) ?_ ?_
 · replace hF:=nQ
   refine au ?_
   refine ax (dx (s:=ae) bv (.tmp rfl rfl)) ?_
   refine au ?_
   refine ax (dx (s:=bz) bv (.tmp rfl rfl)) ?_
   refine bf ?_
   rcases cZ (decide (((bz.length:Int):Int)<=(ae.length:Int)))with hg3|hg3
   · rw[hg3]
     try rw[hg3]at hF; dsimp only[aW,aV]at hF
     refine aY ?_
     refine ax (dx (s:=ae) bv (.tmp rfl rfl)) ?_
     refine bg ?_
     refine ax (dx (s:=bz) bv (.tmp rfl rfl)) ?_
     refine bg ?_
     refine bnd hF fun u5 hx6 hF=>?_
     have hc4:0<=(IntKind.i64.wrap ((ae.length:Int)-(bz.length:Int)))/\(IntKind.i64.wrap ((ae.length:Int)-(bz.length:Int)))<=((ae).length:Int):=by (have hq:=gJ hx6; clear hF; simp only[Bool.and_eq_true,decide_eq_true_eq]at*; omega)
     refine ax (rz (s:=ae) (i:=(IntKind.i64.wrap ((ae.length:Int)-(bz.length:Int)))) bv (.tmp rfl rfl) (.tmp rfl rfl) hc4.1 hc4.2) ?_
     refine bg ?_
     refine ax (gN (s:=(ae.drop ((IntKind.i64.wrap ((ae.length:Int)-(bz.length:Int)))).toNat)) (t:=bz) (.tmp rfl rfl) (.tmp rfl rfl)) ?_
     exact bI hF
   rw[hg3]
   try rw[hg3]at hF; dsimp only[aW,aV]at hF
   exact bI hF
 rintro _ _ ⟨c7,g8,rfl,rfl,hE⟩
 replace hF:=hO2
 try dsimp only at hF
 refine bL hE ?_
 exact ze hF
def o5(ae:List UInt8)(bz:List UInt8):Option (Bool):=
 (kS ae bz).bind fun r1=>
 some r1
theorem zG{ae bz:List UInt8}{R:Bool}(hF:o5 ae bz=some R):
   Fw.Spec Tryd.prog 34 [(sv ae),(sv bz)] [] (fun _:Unit=>(.bool R)) (fun _=>[]):=by
 refine Se 8 Tryd.func34 [.tmp 4] ?_
 intro H0 F0
 unfold o5 at hF
 refine bH ?_
 refine bnd hF fun r1 hx2 hF=>bN (uW hx2) (fun _=>?_)
 exact ze hF
def oV(ae:List UInt8)(bz:List UInt8):Option ((List UInt8)):=
 (kS ae bz).bind fun r1=>
 if r1 then (
   (eZ (decide (0<=(IntKind.i64.wrap ((ae.length:Int)-(bz.length:Int))))&&decide ((IntKind.i64.wrap ((ae.length:Int)-(bz.length:Int)))<=((ae).length:Int)))).bind fun u5=>
   some (ae.take ((IntKind.i64.wrap ((ae.length:Int)-(bz.length:Int)))).toNat))
 else (
   some ae)
theorem zz{ae bz:List UInt8}{R:(List UInt8)}(hF:oV ae bz=some R):
   Fw.Spec Tryd.prog 48 [(sv ae),(sv bz)] [] (fun _:Unit=>(sv R)) (fun _=>[]):=by
 refine Se 16 Tryd.func48 [.tmp 4] ?_
 intro H0 F0
 unfold oV at hF
 refine aZ ?_
 refine bnd hF fun r1 hx2 hF=>bN (uW hx2) (fun _=>?_)
 refine au ?_
 refine Ci hF (fun oL hF=>?_) (fun oL hF=>?_)
 · refine bg ?_
   refine ax (dx (s:=ae) bv (.tmp rfl rfl)) ?_
   refine au ?_
   refine ax (dx (s:=bz) bv (.tmp rfl rfl)) ?_
   refine au ?_
   refine bnd hF fun u5 hx6 hF=>?_
   have hc4:=gJ hx6
   simp only[Bool.and_eq_true,decide_eq_true_eq]at hc4
   refine ax (rA (s:=ae) (j:=(IntKind.i64.wrap ((ae.length:Int)-(bz.length:Int)))) bv (.tmp rfl rfl) (.tmp rfl rfl) hc4.1 hc4.2) ?_
   exact ze hF
 exact ze hF
def kT(ae:List UInt8)(bz:List UInt8):Option ((List UInt8)):=
 (oV ae bz).bind fun r1=>
 some r1
theorem zF{ae bz:List UInt8}{R:(List UInt8)}(hF:kT ae bz=some R):
   Fw.Spec Tryd.prog 35 [(sv ae),(sv bz)] [] (fun _:Unit=>(sv R)) (fun _=>[]):=by
 refine Se 8 Tryd.func35 [.tmp 4] ?_
 intro H0 F0
 unfold kT at hF
 refine bH ?_
 refine bnd hF fun r1 hx2 hF=>bN (zz hx2) (fun _=>?_)
 exact ze hF
def mP(pU:List UInt8)(gu:List UInt8):Option (Int×(List (List UInt8))×Bool):=
 (mG gu [40]).bind fun r1=>
 (mo r1.1 pU).bind fun r4=>
 (kZ r4).bind fun r7=>
 (bif (!r1.2.2)then (some true)
   else (bif (!r7.2)then (some true)
     else ((o5 r1.2.1 [41]).bind fun gZ=>
       some (!gZ)))).bind fun uM=>
 match uM with
 |c17=>if c17 then (
     some (0,[],false))
   else (
     (kT r1.2.1 [41]).bind fun kN=>
     if (kN==[])then (
       some (r7.1,[],true))
     else (
       (jO kN [44]).bind fun jM=>
       some (r7.1,jM,true)))
theorem Ah{pU gu:List UInt8}{R:Int×(List (List UInt8))×Bool}(hF:mP pU gu=some R):
   Fw.Spec Tryd.prog 20 [(sv pU),(sv gu)] [] (fun p:Sv=>(.tuple [(zi R.1),p.v,(.bool R.2.2)].toArray)) (fun p=>[jK p R.2.1]):=by
 refine Se 45 Tryd.func20 [.tmp 4,.tmp 5,.tmp 6] ?_
 intro H0 F0
 unfold mP at hF
 refine aZ ?_
 refine bnd hF fun r1 hx2 hF=>bN (zS hx2) (fun _=>?_)
 refine au ?_
 refine zx ?_
 refine zx ?_
 refine zx ?_
 refine aZ ?_
 refine bnd hF fun r4 hx5 hF=>bN (zD hx5) (fun _=>?_)
 refine bnd hF fun r7 uL hF=>bN (vG uL) (fun _=>?_)
 refine au ?_
 refine zx ?_
 refine zx ?_
 refine bn ?_
 obtain⟨uM,Fp,Hm⟩:=bind_some hF
 refine au ?_
 refine dP (fun f' cs'=>∃(c17:Bool)(g:Fr),c17=uM/\f'=aU g [(8,(sv r1.2.1)),(10,(zi r7.1)),(36,(.bool c17))]/\aJ cs' []) ?_ ?_
 · replace hF:=Fp
   refine bg ?_
   rcases cZ (!r1.2.2)with cO|cO
   · rw[cO]
     try rw[cO]at hF; dsimp only[aW,aV]at hF
     exact bI hF
   rw[cO]
   try rw[cO]at hF; dsimp only[aW,aV]at hF
   refine bH ?_
   rcases cZ (!r7.2)with oo|oo
   · rw[oo]
     try rw[oo]at hF; dsimp only[aW,aV]at hF
     exact bI hF
   rw[oo]
   try rw[oo]at hF; dsimp only[aW,aV]at hF
   refine bg ?_
   refine bnd hF fun gZ lS hF=>bN (zG lS) (fun _=>?_)
   exact bI hF
 rintro _ _ ⟨c17,KE,rfl,rfl,hE⟩
 replace hF:=Hm
 try dsimp only at hF
 refine bL hE ?_
 refine Ci hF (fun Ho hF=>?_) (fun Ho hF=>?_)
 · refine bH ?_
   cases hF
   exact gp (⟨none,0,0⟩) (.tmp rfl rfl (.tmp rfl rfl (.tmp rfl rfl .nil))) rfl (.conv .nil (xK (R:=rdStr) (E:=9)) (.cons .nil) (.sel (.rd .h rfl .nil)))
 refine bg ?_
 refine bnd hF fun kN tV hF=>bN (zF tV) (fun _=>?_)
 refine aY ?_
 refine ax (gN (s:=kN) (t:=[]) (.tmp rfl rfl) (.sv _)) ?_
 refine au ?_
 refine Ci hF (fun nR hF=>?_) (fun nR hF=>?_)
 · refine aZ ?_
   cases hF
   exact gp (⟨none,0,0⟩) (.tmp rfl rfl (.tmp rfl rfl (.tmp rfl rfl .nil))) rfl (.conv .nil (xK (R:=rdStr) (E:=9)) (.cons .nil) (.sel (.rd .h rfl .nil)))
 refine bn ?_
 refine bnd hF fun jM tQ hF=>fJ (uY tQ) (fun IM=>?_)
 refine aY ?_
 cases hF
 exact Er IM
def jS:List (List UInt8)->Nat->(List Int)->Option ((List Int)×Bool)
 |[],k8,c2=>some (c2,true)
 |oN::dF,k8,c2=>(kZ oN).bind fun jc=>
   if (!jc.2)then (
     some ([],false))
   else (
     (app c2 ([jc.1]:List Int)).bind fun z23=>
     jS dF (k8+1) z23)
def pI(il:List (List UInt8)):Option ((List Int)×Bool):=
 jS il 0 ([]:List Int)
theorem Aj{il:List (List UInt8)}{aD:Sv}{R:(List Int)×Bool}(hF:pI il=some R):
   Fw.Spec Tryd.prog 21 [aD.v] [jK aD il] (fun p:Sv×List Nat=>(.tuple [p.1.v,(.bool R.2)].toArray)) (fun p=>[iZ p.2 p.1 R.1]):=by
 refine Se 29 Tryd.func21 [.tmp 2,.tmp 3] ?_
 intro H0 F0
 unfold pI at hF
 refine aY ?_
 refine eF rfl (d_ (g:=true) lQ.h jJ.h .nil (vs:=[]) rfl rfl rfl (by simp)) (fun k1=>?_)
 refine fq (.cons .h .nil) (eD (Ro:=(bG cu)) (E:=3) (F:=[]) (xs:=([]:List Int)) eB rfl rfl) ?_
 refine iQ ?_
 refine bW (dE (m:=il.length) (fun m6 f' cs'=>∃(g:Fr)(k8:Nat)(dF:List (List UInt8))(c2:List Int)(v3:Sv)(F4:List Nat),m6=dF.length/\f'=aU g [(4,v3.v),(10,aD.v),(11,(zi (il.length:Int))),(12,(zi (k8:Int)))]/\List.drop k8 il=dF/\aJ cs' [iZ F4 v3 c2,jK aD il]/\jS dF k8 c2=some R) ⟨_,0,_,_,⟨(some ⟨k1,0,none⟩),0,1⟩,(k1::[]),rfl,aN,rfl,aM,hF⟩ ?_)
 rintro m6 _ _ ⟨g7,k8,dF,c2,v3,F4,rfl,rfl,fF,hE,hF⟩
 refine Kb hE il (fun Fq=>?_)
 rcases dF with _|⟨oN,dF⟩
 · have tX:=dn fF
   rw[jS]at hF
   refine bn ?_
   refine fZ ?_
   refine j6 ?_
   cases hF
   exact Er (v3,F4)
 obtain⟨tX,tY,lV⟩:=fM fF
 rw[jS]at hF
 refine bn ?_
 refine fV ?_
 refine bg ?_
 refine Ai tY (fun k17 IL=>?_)
 refine Al sM ?_
 refine bn ?_
 refine bnd hF fun jc jC hF=>bN (vG jC) (fun _=>?_)
 refine au ?_
 refine zx ?_
 refine zx ?_
 refine iQ ?_
 refine Ci hF (fun tZ hF=>?_) (fun tZ hF=>?_)
 · refine aY ?_
   cases hF
   exact gp (⟨none,0,0⟩,[]) (.tmp rfl rfl (.tmp rfl rfl .nil)) rfl (.conv .nil (lu (Ro:=(bG cu)) (E:=3)) (.cons .nil) (.sel (.cons .h .nil)))
 refine bn ?_
 refine eF rfl (d_ (g:=true) lQ.h jJ.h dh (vs:=[(zi jc.1)]) rfl rfl rfl (by intro v hv; simp at hv; rcases hv with rfl<;>rfl)) (fun k22=>?_)
 refine fq (.cons .h .nil) (eD (Ro:=(bG cu)) (E:=3) (F:=([]++[])) (xs:=([jc.1]:List Int)) (ik (jo (fun _=>rfl)) eB dM) rfl rfl) ?_
 refine bnd hF fun z23 hx24 hF=>eH (.cons .q2 (.cons .h .nil)) (jV (Ro:=(bG cu)) lQ.h yI jJ.h rfl rfl rfl (.tmp rfl rfl) (.tmp rfl rfl) hx24 jY) (fun p25=>?_)
 refine bH ?_
 rw[wk k8]
 exact⟨_,dC _,_,k8+1,dF,_,p25.1,p25.2,rfl,aN,lV,aM,hF⟩
def rD(aX:Int):Option (Bool):=
 (jX aX 0 9).bind fun r1=>
 some r1
theorem AA{aX:Int}{R:Bool}(hF:rD aX=some R):
   Fw.Spec Tryd.prog 51 [(zi aX)] [] (fun _:Unit=>(.bool R)) (fun _=>[]):=by
 refine Se 5 Tryd.func51 [.tmp 2] ?_
 intro H0 F0
 unfold rD at hF
 refine aY ?_
 refine bnd hF fun r1 hx2 hF=>bN (qZ hx2) (fun _=>?_)
 exact ze hF
def pu(aX:Int):Option (Bool):=
 (rD aX).bind fun r1=>
 some (!r1)
theorem zT{aX:Int}{R:Bool}(hF:pu aX=some R):
   Fw.Spec Tryd.prog 50 [(zi aX)] [] (fun _:Unit=>(.bool R)) (fun _=>[]):=by
 refine Se 6 Tryd.func50 [.tmp 2] ?_
 intro H0 F0
 unfold pu at hF
 refine aY ?_
 refine bnd hF fun r1 hx2 hF=>bN (AA hx2) (fun _=>?_)
 exact ze hF
def kR:List Int->Nat->Option (Int)
 |[],k4=>some (-1)
 |x6::bP,k4=>(pu x6).bind fun zk=>
   if zk then (
     some (k4:Int))
   else (
     kR bP (k4+1))
def oQ(ae:List Int):Option (Int):=
 kR ae 0
theorem zw{ae:List Int}{aD:Sv}{R:Int}(hF:oQ ae=some R):
   Fw.Spec Tryd.prog 62 [aD.v,(.func (.func 50) [].toArray [].toArray)] [dw aD ae] (fun _:Unit=>(zi R)) (fun _=>[]):=by
 refine Se 19 Tryd.func62 [.tmp 4] ?_
 intro H0 F0
 unfold oQ at hF
 refine gV ?_
 refine bW (dE (m:=ae.length) (fun m2 f' cs'=>∃(g:Fr)(k4:Nat)(bP:List Int),m2=bP.length/\f'=aU g [(0,aD.v),(1,(.func (.func 50) [].toArray [].toArray)),(7,(zi (ae.length:Int))),(8,(zi (k4:Int)))]/\List.drop k4 ae=bP/\aJ cs' [dw aD ae]/\kR bP k4=some R) ⟨_,0,_,rfl,aN,rfl,aM,hF⟩ ?_)
 rintro m2 _ _ ⟨g3,k4,bP,rfl,rfl,hd7,hE,hF⟩
 refine Kb hE ae (fun yx=>?_)
 rcases bP with _|⟨x6,bP⟩
 · have oO:=dn hd7
   rw[kR]at hF
   refine bn ?_
   refine fZ ?_
   exact ze hF
 obtain⟨oO,kM,oq⟩:=fM hd7
 rw[kR]at hF
 refine bn ?_
 refine fV ?_
 refine j6 ?_
 refine Ai kM (fun k13 zl=>?_)
 refine Al jr ?_
 refine bnd hF fun zk hx16 hF=>nM .nil (BK Gf.h (.tmp rfl rfl) dh (zT hx16)) (fun _=>?_)
 refine au ?_
 refine Ci hF (fun Hq hF=>?_) (fun Hq hF=>?_)
 · exact ze hF
 refine aY ?_
 rw[wk k4]
 exact⟨_,dC _,_,k4+1,bP,rfl,aN,oq,aM,hF⟩
def mh(ae:List Int):Option (Bool):=
 (oQ ae).bind fun r1=>
 some (decide ((0:Int)<=r1))
theorem zt{ae:List Int}{aD:Sv}{R:Bool}(hF:mh ae=some R):
   Fw.Spec Tryd.prog 49 [aD.v,(.func (.func 50) [].toArray [].toArray)] [dw aD ae] (fun _:Unit=>(.bool R)) (fun _=>[]):=by
 refine Se 9 Tryd.func49 [.tmp 4] ?_
 intro H0 F0
 unfold mh at hF
 refine bH ?_
 refine bnd hF fun r1 hx2 hF=>bN (zw hx2) (fun _=>?_)
 exact ze hF
def mJ(cK:List Int):Option (Bool):=
 (mh cK).bind fun r1=>
 some (!r1)
theorem Ac{cK:List Int}{aD:Sv}{R:Bool}(hF:mJ cK=some R):
   Fw.Spec Tryd.prog 37 [aD.v] [dw aD cK] (fun _:Unit=>(.bool R)) (fun _=>[]):=by
 refine Se 6 Tryd.func37 [.tmp 2] ?_
 intro H0 F0
 unfold mJ at hF
 refine aY ?_
 refine bnd hF fun r1 hx2 hF=>bN (zt hx2) (fun _=>?_)
 exact ze hF
def pq(mf:List (List UInt8))(bE:List UInt8):Option (List UInt8):=
 if mf.length<4294967296/\(Lib.join mf bE).length<4294967296 then some (Lib.join mf bE)else none
theorem zO{mf:List (List UInt8)}{aD:Sv}{bE R:List UInt8}(hF:pq mf bE=some R):
   Fw.Spec Tryd.prog 53 [aD.v,sv bE] [jK aD mf] (fun _:Unit=>(sv R)) (fun _=>[]):=by
 unfold pq at hF
 split at hF
 · rename_i h
   cases hF
   exact Br gB.h.sz (Go.Proofs.Any.strings_Join_none xE extra) (Go.Proofs.Any.strings_Join xE extra) h.1 h.2
 · simp at hF
def jh(dB:List UInt8):List Int->Nat->(List (List UInt8))->Option ((List UInt8))
 |[],k8,c2=>(pq c2 dB).bind fun mg=>
   some mg
 |oN::dF,k8,c2=>(ig oN).bind fun eP=>
   (app c2 ([eP]:List (List UInt8))).bind fun z26=>
   jh dB dF (k8+1) z26
def mX(cK:List Int)(dB:List UInt8):Option ((List UInt8)):=
 jh dB cK 0 ([]:List (List UInt8))
theorem AU{cK:List Int}{aD:Sv}{dB:List UInt8}{R:(List UInt8)}(hF:mX cK dB=some R):
   Fw.Spec Tryd.prog 39 [aD.v,(sv dB)] [dw aD cK] (fun _:Unit=>(sv R)) (fun _=>[]):=by
 refine Se 24 Tryd.func39 [.tmp 4] ?_
 intro H0 F0
 unfold mX at hF
 refine bn ?_
 refine eF rfl (d_ (g:=true) iP.h gB.h .nil (vs:=[]) rfl rfl rfl (by simp)) (fun k1=>?_)
 refine fq (.cons .h .nil) (eD (Ro:=(bG rdStr)) (E:=9) (F:=[]) (xs:=([]:List (List UInt8))) eB rfl rfl) ?_
 refine iQ ?_
 refine bW (dE (m:=cK.length) (fun m6 f' cs'=>∃(g:Fr)(k8:Nat)(dF:List Int)(c2:List (List UInt8))(v3:Sv)(F4:List Nat),m6=dF.length/\f'=aU g [(1,(sv dB)),(5,v3.v),(9,aD.v),(10,(zi (cK.length:Int))),(11,(zi (k8:Int)))]/\List.drop k8 cK=dF/\aJ cs' [oG F4 v3 c2,dw aD cK]/\jh dB dF k8 c2=some R) ⟨_,0,_,_,⟨(some ⟨k1,0,none⟩),0,1⟩,(k1::[]),rfl,aN,rfl,aM,hF⟩ ?_)
 rintro m6 _ _ ⟨g7,k8,dF,c2,v3,F4,rfl,rfl,fF,hE,hF⟩
 refine Kb hE cK (fun Fq=>?_)
 rcases dF with _|⟨oN,dF⟩
 · have tX:=dn fF
   rw[jh]at hF
   refine bn ?_
   refine fZ ?_
   refine aZ ?_
   refine bnd hF fun mg kw hF=>eH (.cons .h .nil) (lH gL (fun _=>.nil) (eu Gg.h dh (zO kw))) (fun _=>?_)
   exact ze hF
 obtain⟨tX,tY,lV⟩:=fM fF
 rw[jh]at hF
 refine bn ?_
 refine fV ?_
 refine bg ?_
 refine Ai tY (fun k20 uH=>?_)
 refine Al jr ?_
 refine aY ?_
 refine bnd hF fun eP fU hF=>bN (qV fU) (fun _=>?_)
 refine eF rfl (d_ (g:=true) iP.h gB.h dh (vs:=[(sv eP)]) rfl rfl rfl (by intro v hv; simp at hv; rcases hv with rfl<;>rfl)) (fun k25=>?_)
 refine fq (.cons .h .nil) (eD (Ro:=(bG rdStr)) (E:=9) (F:=([]++[])) (xs:=([eP]:List (List UInt8))) (ik (jo (fun _=>rfl)) eB dM) rfl rfl) ?_
 refine bnd hF fun z26 hx27 hF=>eH (.cons .q2 (.cons .h .nil)) (jV (Ro:=(bG rdStr)) iP.h tu gB.h rfl rfl rfl (.tmp rfl rfl) (.tmp rfl rfl) hx27 jY) (fun p28=>?_)
 refine bH ?_
 rw[wk k8]
 exact⟨_,dC _,_,k8+1,dF,_,p28.1,p28.2,rfl,aN,lV,aM,hF⟩
def mE(aA:ak):Option ((List UInt8)):=
 ((jX aA.Method 0 4).bind fun r4=>
   bif (!r4)then (some true)
   else (bif (decide ((3:Int)<(aA.Values.length:Int)))then (some true)
     else ((mJ aA.Values).bind fun r9=>
       some (!r9)))).bind fun o2=>
 match o2 with
 |c12=>if c12 then (
     some [])
   else (
     (ig aA.Method).bind fun kP=>
     (aI [109] kP).bind fun fK=>
     (aI fK [40]).bind fun x20=>
     (mX aA.Values [44]).bind fun uN=>
     (aI x20 uN).bind fun x27=>
     (aI x27 [41]).bind fun x31=>
     some x31)
theorem zP{aA:ak}{eX:Sv}{R:(List UInt8)}(hF:mE aA=some R):
   Fw.Spec Tryd.prog 22 [(zg [(zi aA.Method),eX.v])] [dw eX aA.Values] (fun _:Unit=>(sv R)) (fun _=>[]):=by
 refine Se 29 Tryd.func22 [.tmp 2] ?_
 intro H0 F0
 unfold mE at hF
 refine au ?_
 refine qL (fun k1=>?_)
 refine bg ?_
 obtain⟨o2,tO,hO3⟩:=bind_some hF
 refine au ?_
 refine dP (fun f' cs'=>∃(c12:Bool)(g:Fr),c12=o2/\f'=aU g [(1,(pz k1)),(18,(.bool c12))]/\aJ cs' [sS k1 32 (zg [(zi aA.Method),eX.v]),dw eX aA.Values]) ?_ ?_
 · replace hF:=tO
   refine bf ?_
   refine bnd hF fun r4 hx5 hF=>bN (qZ hx5) (fun _=>?_)
   refine bf ?_
   rcases cZ (!r4)with gG|gG
   · rw[gG]
     try rw[gG]at hF; dsimp only[aW,aV]at hF
     exact bI hF
   rw[gG]
   try rw[gG]at hF; dsimp only[aW,aV]at hF
   refine j6 ?_
   rcases cZ (decide ((3:Int)<(aA.Values.length:Int)))with oP|oP
   · rw[oP]
     try rw[oP]at hF; dsimp only[aW,aV]at hF
     exact bI hF
   rw[oP]
   try rw[oP]at hF; dsimp only[aW,aV]at hF
   refine aY ?_
   refine bnd hF fun r9 fE hF=>bN (Ac fE) (fun _=>?_)
   exact bI hF
 rintro _ _ ⟨c12,y8,rfl,rfl,hE⟩
 replace hF:=hO3
 try dsimp only at hF
 refine bL hE ?_
 refine Ci hF (fun oh hF=>?_) (fun oh hF=>?_)
 · exact ze hF
 refine au ?_
 refine lF [0,1,5,6,2,3,4,7,8,9,10] [0,1,3,7,15,0,32,103,255,511,1023] [2,7] mixed (by decide+kernel) ?_
 refine tF ?_
 refine bnd hF fun kP t_ hF=>oD (qV t_) (fun _=>?_)
 refine bnd hF fun fK ky hF=>?_
 obtain⟨GQ,GR⟩:=dD ky
 refine bU rfl .no (fun ha=>dK (s:=[109]) (t:=kP) (u:=fK) (EN ha (.sv _) rfl) (EN ha (.tmp rfl rfl) rfl) ky) ?_
 refine bnd hF fun x20 jD hF=>?_
 obtain⟨J5,J6⟩:=dD jD
 refine bU rfl .no (fun ha=>dK (s:=fK) (t:=[40]) (u:=x20) (EN ha (.tmp rfl rfl) rfl) (EN ha (.sv _) rfl) jD) ?_
 refine bnd hF fun uN hx25 hF=>oD (AU hx25) (fun _=>?_)
 refine bnd hF fun x27 hx28 hF=>?_
 obtain⟨G8,G9⟩:=dD hx28
 refine bU rfl .no (fun ha=>dK (s:=x20) (t:=uN) (u:=x27) (EN ha (.tmp rfl rfl) rfl) (EN ha (.tmp rfl rfl) rfl) hx28) ?_
 refine bnd hF fun x31 hx32 hF=>?_
 obtain⟨G_,Ha⟩:=dD hx32
 refine bU rfl .no (fun ha=>dK (s:=x27) (t:=[41]) (u:=x31) (EN ha (.tmp rfl rfl) rfl) (EN ha (.sv _) rfl) hx32) ?_
 refine gy ?_
 exact ze hF
def ib(gu:List UInt8):Option (ak×Bool):=
 (mP [109] gu).bind fun r2=>
 (pI r2.2.1).bind fun r5=>
 (bif r2.2.2 then (bif r5.2 then ((mE (⟨r2.1,r5.1⟩:ak)).bind fun kP=>
       some (kP==gu))
     else (some false))
   else (some false)).bind fun o9=>
 match o9 with
 |c16=>some ((⟨r2.1,r5.1⟩:ak),c16)
theorem zV{gu:List UInt8}{R:ak×Bool}(hF:ib gu=some R):
   Fw.Spec Tryd.prog 13 [(sv gu)] [] (fun p:Sv×List Nat=>(.tuple [(zg [(zi R.1.Method),p.1.v]),(.bool R.2)].toArray)) (fun p=>[iZ p.2 p.1 R.1.Values]):=by
 refine Se 35 Tryd.func13 [.cell 2 32,.tmp 3] ?_
 intro H0 F0
 unfold ib at hF
 refine au ?_
 refine l8 (fun k1=>?_)
 refine bn ?_
 refine bnd hF fun r2 hx3 hF=>fJ (Ah hx3) (fun p4=>?_)
 refine au ?_
 refine zx ?_
 refine zx ?_
 refine zx ?_
 refine bH ?_
 refine bnd hF fun r5 hx6 hF=>fJ (Aj hx6) (fun p7=>?_)
 refine au ?_
 refine zx ?_
 refine zx ?_
 refine bH ?_
 refine ax (rU dA.h rfl (vs:=[(zi r2.1),p7.1.v]) dh (cells:=[(zi r2.1),p7.1.v]) rfl) ?_
 refine l8 (fun k8=>?_)
 refine As (zg [(zi r2.1),p7.1.v]) ?_
 refine au ?_
 obtain⟨o9,Hr,Ht⟩:=bind_some hF
 refine lF [0,1,2,3,4,5,6,8,7,9,10,11,12] [0,0,2,6,14,30,62,126,62,510,1022,255,4095] [7,11] mixed (by decide+kernel) ?_
 refine Ee (fun f' cs'=>∃(c16:Bool)(g:Fr),c16=o9/\f'=aU g [(2,(pz k1)),(3,(.bool c16))]/\aJ cs' [gP k1 32 (zg [(zi r2.1),p7.1.v]),iZ p7.2 p7.1 r5.1]) ?_ ?_
 · replace hF:=Hr
   refine qi rfl .no .h (fun ha hp=>mR nP.h dA.h.sz rfl (EN ha (.tmp rfl rfl) rfl) hp.2 rfl) ?_
   refine gy ?_
   rcases cZ r2.2.2 with ou|ou
   · rw[ou]
     try rw[ou]at hF; dsimp only[aW,aV]at hF
     refine yL ?_
     rcases cZ r5.2 with cO|cO
     · rw[cO]
       try rw[cO]at hF; dsimp only[aW,aV]at hF
       refine qi rfl (.on 29 rfl rfl rfl) .h (fun ha hp=>mR nP.h dA.h.sz rfl (EN ha (.tmp rfl rfl) rfl) hp.2 rfl) ?_
       refine du ?_
       refine bnd hF fun kP t_ hF=>lG rfl rfl (.on 29 rfl rfl rfl) (.cons (.t .h) .nil) (.dep rfl (.own .h (fun _ h=>h) .nil)) (fun ha=>lH gL (fun _=>.nil) (eu Gd.h (.cons (EN ha (.tmp rfl rfl) rfl) .nil) (zP t_))) (fun _=>?_)
       refine bU rfl (.on 29 rfl rfl rfl) (fun ha=>gN (s:=kP) (t:=gu) (EN ha (.tmp rfl rfl) rfl) (EN ha (.tmp rfl rfl) rfl)) ?_
       refine du ?_
       refine lG rfl rfl .no (.cons .q3 .nil) (.dep rfl (.dep rfl .nil)) (fun ha=>mV (e':=(zg [(zi r2.1),p7.1.v])) (v:=(zg [(zi r2.1),p7.1.v])) dA.h.sz (EN ha (.tmp rfl rfl) rfl) (EN ha (.tmp rfl rfl) rfl) rfl rfl rfl rfl rfl) (fun _=>?_)
       exact tH hF
     rw[cO]
     try rw[cO]at hF; dsimp only[aW,aV]at hF
     refine Gi ?_
     refine lG rfl rfl .no (.cons .q3 .nil) (.dep rfl .nil) (fun ha=>mV (e':=(zg [(zi r2.1),p7.1.v])) (v:=(zg [(zi r2.1),p7.1.v])) dA.h.sz (EN ha (.tmp rfl rfl) rfl) (EN ha (.tmp rfl rfl) rfl) rfl rfl rfl rfl rfl) (fun _=>?_)
     exact tH hF
   rw[ou]
   try rw[ou]at hF; dsimp only[aW,aV]at hF
   refine Gj ?_
   refine lG rfl rfl .no (.cons .q3 .nil) (.dep rfl .nil) (fun ha=>mV (e':=(zg [(zi r2.1),p7.1.v])) (v:=(zg [(zi r2.1),p7.1.v])) dA.h.sz (EN ha (.tmp rfl rfl) rfl) (EN ha (.tmp rfl rfl) rfl) rfl rfl rfl rfl rfl) (fun _=>?_)
   exact tH hF
 rintro _ _ ⟨c16,g17,rfl,rfl,hE⟩
 replace hF:=Ht
 try dsimp only at hF
 refine bL hE ?_
 refine au ?_
 cases hF
 exact gp (p7.1,p7.2) (.cellA rfl rfl .h rfl nP.h dA.h.sz rfl rfl (.tmp rfl rfl .nil)) rfl (.sel (.cons (.t .h) .nil))
def jf:List (List UInt8)->Nat->(List ak)->Option ((List ak)×Bool)
 |[],k11,c5=>some (c5,true)
 |zm::iG,k11,c5=>(ib zm).bind fun eP=>
   if (!eP.2)then (
     some ([],false))
   else (
     (app c5 ([eP.1]:List ak)).bind fun z27=>
     jf iG (k11+1) z27)
def lc(ae:List UInt8):Option ((List ak)×Bool):=
 if (ae==[110,111,110,101])then (
   some ([],true))
 else (
   (jO ae [32]).bind fun r2=>
   jf r2 0 ([]:List ak))
theorem vH{ae:List UInt8}{R:(List ak)×Bool}(hF:lc ae=some R):
   Fw.Spec Tryd.prog 5 [(sv ae)] [] (fun p:Sv×List Nat=>(.tuple [p.1.v,(.bool R.2)].toArray)) (fun p=>[gW p.2 p.1 R.1]):=by
 refine Se 32 Tryd.func5 [.tmp 2,.tmp 3] ?_
 intro H0 F0
 unfold lc at hF
 refine aZ ?_
 refine ax (gN (s:=ae) (t:=[110,111,110,101]) (.tmp rfl rfl) (.sv _)) ?_
 refine au ?_
 refine Ci hF (fun kv hF=>?_) (fun kv hF=>?_)
 · refine aY ?_
   cases hF
   exact gp (⟨none,0,0⟩,[]) (.tmp rfl rfl (.tmp rfl rfl .nil)) rfl (.conv .nil (lu (Ro:=di) (E:=32)) (.cons .nil) (.sel (.cons .h .nil)))
 refine bf ?_
 refine eF rfl (d_ (g:=true) iO.h dA.h .nil (vs:=[]) rfl rfl rfl (by simp)) (fun k1=>?_)
 refine fq (.cons .h .nil) (eD (Ro:=di) (E:=32) (F:=[]) (xs:=([]:List ak)) eB rfl rfl) ?_
 refine aY ?_
 refine bnd hF fun r2 hx3 hF=>fJ (uY hx3) (fun p4=>?_)
 refine bg ?_
 refine bW (dE (m:=r2.length) (fun m9 f' cs'=>∃(g:Fr)(k11:Nat)(iG:List (List UInt8))(c5:List ak)(v6:Sv)(F7:List Nat),m9=iG.length/\f'=aU g [(4,v6.v),(13,p4.v),(14,(zi (r2.length:Int))),(15,(zi (k11:Int)))]/\List.drop k11 r2=iG/\aJ cs' [gW F7 v6 c5,jK p4 r2]/\jf iG k11 c5=some R) ⟨_,0,_,_,⟨(some ⟨k1,0,none⟩),0,1⟩,(k1::[]),rfl,aN,rfl,aM,hF⟩ ?_)
 rintro m9 _ _ ⟨g10,k11,iG,c5,v6,F7,rfl,rfl,lV,hE,hF⟩
 refine Kb hE r2 (fun I7=>?_)
 rcases iG with _|⟨zm,iG⟩
 · have Hu:=dn lV
   rw[jf]at hF
   refine bn ?_
   refine fZ ?_
   refine j6 ?_
   cases hF
   exact Er (v6,F7)
 obtain⟨Hu,hx16,Hw⟩:=fM lV
 rw[jf]at hF
 refine bn ?_
 refine fV ?_
 refine bg ?_
 refine Ai hx16 (fun k20 uH=>?_)
 refine Al sM ?_
 refine bn ?_
 refine bnd hF fun eP fU hF=>fJ (zV fU) (fun l9=>?_)
 refine au ?_
 refine zx ?_
 refine zx ?_
 refine l8 (fun k25=>?_)
 refine As (zg [(zi eP.1.Method),l9.1.v]) ?_
 refine aZ ?_
 refine Ci hF (fun Hy hF=>?_) (fun Hy hF=>?_)
 · refine aY ?_
   cases hF
   exact gp (⟨none,0,0⟩,[]) (.tmp rfl rfl (.tmp rfl rfl .nil)) rfl (.conv .nil (lu (Ro:=di) (E:=32)) (.cons .nil) (.sel (.cons .h .nil)))
 refine bn ?_
 refine eF rfl (d_ (g:=true) iO.h dA.h dh (vs:=[(zg [(zi eP.1.Method),l9.1.v])]) rfl rfl rfl (by intro v hv; simp at hv; rcases hv with rfl<;>rfl)) (fun k26=>?_)
 refine fq (.cons .h (.cons (.t .h) .nil)) (eD (Ro:=di) (E:=32) (F:=(l9.2++[])) (xs:=([eP.1]:List ak)) (ik yJ eB dM) rfl rfl) ?_
 refine bnd hF fun z27 hx28 hF=>eH (.cons .q3 (.cons .h .nil)) (jV (Ro:=di) iO.h yK dA.h rfl rfl rfl (.tmp rfl rfl) (.tmp rfl rfl) hx28 jY) (fun p29=>?_)
 refine bH ?_
 rw[wk k11]
 exact⟨_,dC _,_,k11+1,iG,_,p29.1,p29.2,rfl,aN,Hw,aM,hF⟩
def kY(bS:List Int):List Int->Nat->Option (Bool)
 |[],k4=>some true
 |x6::bP,k4=>(ix bS (k4:Int)).bind fun zn=>
   if ((x6:Int)!=zn)then (
     some false)
   else (
     kY bS bP (k4+1))
def pV(aA:List Int)(bS:List Int):Option (Bool):=
 if (((aA.length:Int):Int)!=(bS.length:Int))then (
   some false)
 else (
   kY bS aA 0)
theorem AV{aA:List Int}{aD:Sv}{bS:List Int}{iT:Sv}{R:Bool}(hF:pV aA bS=some R):
   Fw.Spec Tryd.prog 23 [aD.v,iT.v] [dw aD aA,dw iT bS] (fun _:Unit=>(.bool R)) (fun _=>[]):=by
 refine Se 26 Tryd.func23 [.tmp 4] ?_
 intro H0 F0
 unfold pV at hF
 refine qj ?_
 refine Ci hF (fun nS hF=>?_) (fun nS hF=>?_)
 · exact ze hF
 refine aY ?_
 refine bW (dE (m:=aA.length) (fun m2 f' cs'=>∃(g:Fr)(k4:Nat)(bP:List Int),m2=bP.length/\f'=aU g [(0,aD.v),(1,iT.v),(5,(zi (k4:Int)))]/\List.drop k4 aA=bP/\aJ cs' [dw aD aA,dw iT bS]/\kY bS bP k4=some R) ⟨_,0,_,rfl,aN,rfl,aM,hF⟩ ?_)
 rintro m2 _ _ ⟨g3,k4,bP,rfl,rfl,hd7,hE,hF⟩
 refine Kb hE aA (fun yx=>?_)
 rcases bP with _|⟨x6,bP⟩
 · have oO:=dn hd7
   rw[kY]at hF
   refine aZ ?_
   refine fZ ?_
   exact ze hF
 obtain⟨oO,kM,oq⟩:=fM hd7
 rw[kY]at hF
 refine aZ ?_
 refine fV ?_
 refine bf ?_
 refine lF [0,1,2,3,4,5,6,7,8] [0,0,3,7,0,0,48,112,255] [] mixed (by decide+kernel) ?_
 refine gy ?_
 refine Di kM (fun k13 zl=>?_)
 refine Dl jr ?_
 refine gy ?_
 refine zI hF fun zn yN kw hF=>?_
 refine Di kw (fun k19 KF=>?_)
 refine Dl jr ?_
 refine gy ?_
 refine Ci hF (fun Hz hF=>?_) (fun Hz hF=>?_)
 · exact ze hF
 refine bH ?_
 rw[wk k4]
 exact⟨_,dC _,_,k4+1,bP,rfl,aN,oq,aM,hF⟩
def mQ(aA:ak)(bS:ak):Option (Bool):=
 if ((aA.Method:Int)!=bS.Method)then (
   some false)
 else (
   (pV aA.Values bS.Values).bind fun r3=>
   if (!r3)then (
     some false)
   else (
     some true))
theorem Ak{aA:ak}{eX:Sv}{bS:ak}{yQ:Sv}{R:Bool}(hF:mQ aA bS=some R):
   Fw.Spec Tryd.prog 14 [(zg [(zi aA.Method),eX.v]),(zg [(zi bS.Method),yQ.v])] [dw eX aA.Values,dw yQ bS.Values] (fun _:Unit=>(.bool R)) (fun _=>[]):=by
 refine Se 16 Tryd.func14 [.tmp 4] ?_
 intro H0 F0
 unfold mQ at hF
 refine au ?_
 refine qL (fun k1=>?_)
 refine qL (fun k2=>?_)
 refine j6 ?_
 refine Ci hF (fun oL hF=>?_) (fun oL hF=>?_)
 · exact ze hF
 refine aZ ?_
 refine bnd hF fun r3 hx4 hF=>bN (AV hx4) (fun _=>?_)
 refine bf ?_
 refine Ci hF (fun hb6 hF=>?_) (fun hb6 hF=>?_)
 · exact ze hF
 exact ze hF
def kV(bS:List ak):List ak->Nat->Option (Bool)
 |[],k4=>some true
 |x6::bP,k4=>(ix bS (k4:Int)).bind fun fK=>
   (mQ x6 fK).bind fun zo=>
   if (!zo)then (
     some false)
   else (
     kV bS bP (k4+1))
def mK(aA:List ak)(bS:List ak):Option (Bool):=
 if (((aA.length:Int):Int)!=(bS.length:Int))then (
   some false)
 else (
   kV bS aA 0)
theorem vz{aA:List ak}{aD:Sv}{bS:List ak}{iT:Sv}{R:Bool}(hF:mK aA bS=some R):
   Fw.Spec Tryd.prog 6 [aD.v,iT.v] [iR aD aA,iR iT bS] (fun _:Unit=>(.bool R)) (fun _=>[]):=by
 refine Se 27 Tryd.func6 [.tmp 4] ?_
 intro H0 F0
 unfold mK at hF
 refine qj ?_
 refine Ci hF (fun HV hF=>?_) (fun HV hF=>?_)
 · exact ze hF
 refine aY ?_
 refine bW (dE (m:=aA.length) (fun m2 f' cs'=>∃(g:Fr)(k4:Nat)(bP:List ak),m2=bP.length/\f'=aU g [(0,aD.v),(1,iT.v),(5,(zi (k4:Int)))]/\List.drop k4 aA=bP/\aJ cs' [iR aD aA,iR iT bS]/\kV bS bP k4=some R) ⟨_,0,_,rfl,aN,rfl,aM,hF⟩ ?_)
 rintro m2 _ _ ⟨g3,k4,bP,rfl,rfl,hd7,hE,hF⟩
 refine Kb hE aA (fun yx=>?_)
 rcases bP with _|⟨x6,bP⟩
 · have oO:=dn hd7
   rw[kV]at hF
   refine aZ ?_
   refine fZ ?_
   exact ze hF
 obtain⟨oO,kM,oq⟩:=fM hd7
 rw[kV]at hF
 refine aZ ?_
 refine fV ?_
 refine bf ?_
 refine lF [0,1,2,3,4,5,6,7,8,9] [0,0,3,7,0,0,48,112,255,511] [8] mixed (by decide+kernel) ?_
 refine gy ?_
 refine Di kM (fun k13 zl=>?_)
 refine yF (pO x6) rC (fun KG=>?_)
 refine gy ?_
 refine zI hF fun fK J7 tV hF=>?_
 refine Di tV (fun k20 uH=>?_)
 refine yF (pO fK) rC (fun IP=>?_)
 refine bnd hF fun zo hx24 hF=>oD (Ak hx24) (fun _=>?_)
 refine gy ?_
 refine Ci hF (fun tZ hF=>?_) (fun tZ hF=>?_)
 · exact ze hF
 refine bH ?_
 rw[wk k4]
 exact⟨_,dC _,_,k4+1,bP,rfl,aN,oq,aM,hF⟩
def jT:Nat->(List Int)->Int->Int->Option (Int×(List Int))
 |0,_,_,_=>none
 |m23+1,c19,c21,g_=>if (decide ((g_:Int)<(c19.length:Int)))then (
     (eZ (decide (0<=g_)&&decide (g_<(c19.length:Int)))).bind fun u34=>
     (some (c19.set (g_).toNat c21)).bind fun z36=>
     jT m23 z36 (IntKind.i64.wrap (c21+1)) (IntKind.i64.wrap (g_+1)))
   else (
     some (c21,c19))
def pJ(aA:List Int)(dJ:Int):Option (Int×(List Int)):=
 jT (((aA.length:Int)-0).toNat+2) aA dJ 0
theorem Am{aA:List Int}{aD:Sv}{oz:List Nat}{dJ:Int}{R:Int×(List Int)}(hF:pJ aA dJ=some R):
   Fw.Spec Tryd.prog 15 [aD.v,(zi dJ)] [iZ oz aD aA] (fun _:List Nat=>(zi R.1)) (fun p=>[iZ p aD R.2]):=by
 refine Se 19 Tryd.func15 [.tmp 4] ?_
 intro H0 F0
 unfold pJ at hF
 refine aZ ?_
 refine bW (dE (m:=(((aA.length:Int)-0).toNat+2)) (fun m23 f' cs'=>∃(g:Fr)(c19:List Int)(c21 g_:Int)(F20:List Nat),f'=aU g [(0,aD.v),(1,(zi c21)),(5,(zi g_))]/\aJ cs' [iZ F20 aD c19]/\jT m23 c19 c21 g_=some R) ⟨_,_,_,_,oz,aN,aM,hF⟩ ?_)
 rintro m23 _ _ ⟨g24,c19,c21,g_,F20,rfl,hE,hF⟩
 refine bL hE ?_
 rcases m23 with _|m23
 · rw[jT]at hF
   exact absurd hF (by simp)
 rw[jT]at hF
 refine aZ ?_
 refine Ci hF (fun ol hF=>?_) (fun ol hF=>?_)
 · refine bH ?_
   refine bnd hF fun u34 lU hF=>?_
   have yR:=gJ lU
   refine qa lQ.h jJ.h.sz (.tmp rfl rfl) (.tmp rfl rfl) .h yR (fun KH HY=>?_)
   refine bnd hF fun z36 uf hF=>?_
   replace uf:=Option.some.inj uf
   refine eH (.cons .h .nil) (BN (Ro:=(bG cu)) (a:=c21) (i:=g_) jJ.h.sz rfl (.tmp rfl rfl) (.tmp rfl rfl) HY yR (jo (fun _=>rfl)) (fun _ _ _ _ h=>by obtain⟨-,h⟩:=h; cases h; rfl)) (fun IQ=>?_)
   rw[uf]
   refine qj ?_
   exact⟨m23,dC _,_,_,_,_,IQ,aN,aM,hF⟩
 refine gV ?_
 cases hF
 exact Er F20
def jN:Nat->(List ak)->Int->Int->Option (Int×(List ak))
 |0,_,_,_=>none
 |kQ+1,fu,fw,dV=>if (decide ((dV:Int)<(fu.length:Int)))then (
     (ix fu dV).bind fun zq=>
     (some (fu.set (dV).toNat {zq with Method:=fw})).bind fun z52=>
     (ix z52 dV).bind fun uO=>
     (pJ uO.Values (IntKind.i64.wrap (fw+1))).bind fun uP=>
     (some (z52.set (dV).toNat {uO with Values:=uP.2})).bind fun z65=>
     jN kQ z65 uP.1 (IntKind.i64.wrap (dV+1)))
   else (
     some (fw,fu))
def pE(aA:List ak)(dJ:Int):Option (Int×(List ak)):=
 jN (((aA.length:Int)-0).toNat+2) aA dJ 0
theorem zU{aA:List ak}{aD:Sv}{oz:List Nat}{dJ:Int}{R:Int×(List ak)}(hF:pE aA dJ=some R):
   Fw.Spec Tryd.prog 7 [aD.v,(zi dJ)] [gW oz aD aA] (fun _:List Nat=>(zi R.1)) (fun p=>[gW p aD R.2]):=by
 refine Se 27 Tryd.func7 [.tmp 4] ?_
 intro H0 F0
 unfold pE at hF
 refine aZ ?_
 refine bW (dE (m:=(((aA.length:Int)-0).toNat+2)) (fun kQ f' cs'=>∃(g:Fr)(fu:List ak)(fw dV:Int)(uQ:List Nat),f'=aU g [(0,aD.v),(1,(zi fw)),(5,(zi dV))]/\aJ cs' [gW uQ aD fu]/\jN kQ fu fw dV=some R) ⟨_,_,_,_,oz,aN,aM,hF⟩ ?_)
 rintro kQ _ _ ⟨KI,fu,fw,dV,uQ,rfl,hE,hF⟩
 refine bL hE ?_
 rcases kQ with _|kQ
 · rw[jN]at hF
   exact absurd hF (by simp)
 rw[jN]at hF
 refine aZ ?_
 refine Ci hF (fun tJ hF=>?_) (fun tJ hF=>?_)
 · refine bH ?_
   refine bnd hF fun zq yS hF=>?_
   have HZ:=sw yS
   obtain⟨J8,H5⟩:=mY yS
   refine qa iO.h dA.h.sz (.tmp rfl rfl) (.tmp rfl rfl) .h HZ (fun KJ H6=>?_)
   refine au ?_
   refine bnd hF fun z52 ug hF=>?_
   replace ug:=Option.some.inj ug
   refine eH (.cons .h .nil) (BR (Ro:=di) (i:=dV) jJ.h.sz rfl (.tmp rfl rfl) (.tmp rfl rfl) H6 H5 rfl rfl CL (Du (d:=fw))) (fun _=>?_)
   rw[ug]
   refine gV ?_
   refine bnd hF fun uO yT hF=>?_
   have H7:=sw yT
   obtain⟨J9,qy⟩:=mY yT
   refine qa iO.h dA.h.sz (.tmp rfl rfl) (.tmp rfl rfl) .h H7 (fun KL H8=>?_)
   refine au ?_
   refine Dm tC.h (.tmp rfl rfl) .h H8 qy xP (fun KM=>?_)
   refine au ?_
   refine bnd hF fun uP H9 hF=>?_
   refine bnd hF fun z65 uh hF=>?_
   replace uh:=Option.some.inj uh
   refine eH (.cons .h .nil) (Dn qy xP (fun Fw=>eu Gh.h dh (Am H9)) rfl) (fun p64=>?_)
   rw[uh]
   refine aZ ?_
   exact⟨kQ,dC _,_,_,_,_,p64.2,aN,aM,hF⟩
 refine gV ?_
 cases hF
 exact Er uQ
def kW:List Int->Nat->Int->Option (Int)
 |[],k5,c1=>some c1
 |x7::bq,k5,c1=>if ((x7:Int)!=c1)then (
     some (-1))
   else (
     kW bq (k5+1) (IntKind.i64.wrap (c1+1)))
def pK(aA:List Int)(dJ:Int):Option (Int):=
 kW aA 0 dJ
theorem Ao{aA:List Int}{aD:Sv}{dJ R:Int}(hF:pK aA dJ=some R):
   Fw.Spec Tryd.prog 16 [aD.v,(zi dJ)] [dw aD aA] (fun _:Unit=>(zi R)) (fun _=>[]):=by
 refine Se 21 Tryd.func16 [.tmp 4] ?_
 intro H0 F0
 unfold pK at hF
 refine aZ ?_
 refine bW (dE (m:=aA.length) (fun m3 f' cs'=>∃(g:Fr)(k5:Nat)(bq:List Int)(c1:Int),m3=bq.length/\f'=aU g [(0,aD.v),(1,(zi c1)),(5,(zi (k5:Int)))]/\List.drop k5 aA=bq/\aJ cs' [dw aD aA]/\kW bq k5 c1=some R) ⟨_,0,_,_,rfl,aN,rfl,aM,hF⟩ ?_)
 rintro m3 _ _ ⟨g4,k5,bq,c1,rfl,rfl,gF,hE,hF⟩
 refine Kb hE aA (fun sP=>?_)
 rcases bq with _|⟨x7,bq⟩
 · have kL:=dn gF
   rw[kW]at hF
   refine aZ ?_
   refine fZ ?_
   exact ze hF
 obtain⟨kL,fE,fF⟩:=fM gF
 rw[kW]at hF
 refine aZ ?_
 refine fV ?_
 refine bH ?_
 refine Ai fE (fun k14 IR=>?_)
 refine Al jr ?_
 refine bg ?_
 refine Ci hF (fun H_ hF=>?_) (fun H_ hF=>?_)
 · exact ze hF
 refine qj ?_
 rw[wk k5]
 exact⟨_,dC _,_,k5+1,bq,_,rfl,aN,fF,aM,hF⟩
def kU:List ak->Nat->Int->Option (Int)
 |[],k5,c1=>some c1
 |x7::bq,k5,c1=>if ((x7.Method:Int)!=c1)then (
     some (-1))
   else (
     (pK x7.Values (IntKind.i64.wrap (c1+1))).bind fun jc=>
     if (decide ((jc:Int)<0))then (
       some (-1))
     else (
       kU bq (k5+1) jc))
def mH(aA:List ak)(dJ:Int):Option (Int):=
 kU aA 0 dJ
theorem vg{aA:List ak}{aD:Sv}{dJ R:Int}(hF:mH aA dJ=some R):
   Fw.Spec Tryd.prog 8 [aD.v,(zi dJ)] [iR aD aA] (fun _:Unit=>(zi R)) (fun _=>[]):=by
 refine Se 31 Tryd.func8 [.tmp 4] ?_
 intro H0 F0
 unfold mH at hF
 refine aZ ?_
 refine bW (dE (m:=aA.length) (fun m3 f' cs'=>∃(g:Fr)(k5:Nat)(bq:List ak)(c1:Int),m3=bq.length/\f'=aU g [(0,aD.v),(1,(zi c1)),(5,(zi (k5:Int)))]/\List.drop k5 aA=bq/\aJ cs' [iR aD aA]/\kU bq k5 c1=some R) ⟨_,0,_,_,rfl,aN,rfl,aM,hF⟩ ?_)
 rintro m3 _ _ ⟨g4,k5,bq,c1,rfl,rfl,gF,hE,hF⟩
 refine Kb hE aA (fun sP=>?_)
 rcases bq with _|⟨x7,bq⟩
 · have kL:=dn gF
   rw[kU]at hF
   refine aZ ?_
   refine fZ ?_
   exact ze hF
 obtain⟨kL,fE,fF⟩:=fM gF
 rw[kU]at hF
 refine aZ ?_
 refine fV ?_
 refine bH ?_
 refine Ai fE (fun k14 IR=>?_)
 refine au ?_
 refine Al Dv ?_
 refine bg ?_
 refine Ci hF (fun nR hF=>?_) (fun nR hF=>?_)
 · exact ze hF
 refine gV ?_
 refine Ai fE (fun k16 KN=>?_)
 refine au ?_
 refine D5 (R':=(bD 3 cu)) tC.h (.tmp rfl rfl) .h Dw (fun KO=>?_)
 refine au ?_
 refine bnd hF fun jc jC hF=>bN (Ao jC) (fun _=>?_)
 refine bH ?_
 refine Ci hF (fun nS hF=>?_) (fun nS hF=>?_)
 · exact ze hF
 refine bH ?_
 rw[wk k5]
 exact⟨_,dC _,_,k5+1,bq,_,rfl,aN,fF,aM,hF⟩
def o8(fuel:Nat)(iU:List UInt8):Option (Bool):=
 if (decide ((1048576:Int)<(iU.length:Int)))then (
   some true)
 else (
   (mO fuel iU).bind fun r1=>
   (lc iU).bind fun r4=>
   ((mK r4.1 r1.1).bind fun r9=>
     bif (!r9)then (some true)
     else (some (!(r4.2==r1.2)))).bind fun o7=>
   match o7 with
   |c13=>if c13 then (
       some false)
     else (
       (pE r4.1 1).bind fun gZ=>
       (mH gZ.2 1).bind fun mg=>
       if (decide ((mg:Int)<0))then (
         some false)
       else (
         if ((mg:Int)!=gZ.1)then (
           some false)
         else (
           (lc iU).bind fun f_=>
           ((mK f_.1 r1.1).bind fun uR=>
             bif (!uR)then (some true)
             else (some (!(f_.2==r1.2)))).bind fun uS=>
           match uS with
           |gD=>if gD then (
               some false)
             else (
               (mH gZ.2 1).bind fun uT=>
               if (decide ((uT:Int)<0))then (
                 some false)
               else (
                 if ((uT:Int)!=gZ.1)then (
                   some false)
                 else (
                   some true)))))))
theorem zJ{fuel:Nat}{iU:List UInt8}{R:Bool}(hF:o8 fuel iU=some R):
   Fw.Spec Tryd.prog 3 [(sv iU)] [] (fun _:Unit=>(.bool R)) (fun _=>[]):=by
 refine Se 66 Tryd.func3 [.tmp 2] ?_
 intro H0 F0
 unfold o8 at hF
 refine bH ?_
 refine ax (dx (s:=iU) bv (.tmp rfl rfl)) ?_
 refine bf ?_
 refine Ci hF (fun Ia hF=>?_) (fun Ia hF=>?_)
 · exact ze hF
 refine bg ?_
 refine bnd hF fun r1 hx2 hF=>fJ (Ag hx2) (fun p3=>?_)
 refine au ?_
 refine zx ?_
 refine zx ?_
 refine aY ?_
 refine bnd hF fun r4 hx5 hF=>fJ (vH hx5) (fun p6=>?_)
 refine au ?_
 refine zx ?_
 refine zx ?_
 refine bn ?_
 obtain⟨o7,Ib,IU⟩:=bind_some hF
 refine au ?_
 refine dP (fun f' cs'=>∃(c13:Bool)(g:Fr),c13=o7/\f'=aU g [(0,(sv iU)),(3,p3.1.v),(4,(.bool r1.2)),(5,p6.1.v),(32,(.bool c13))]/\aJ cs' [gW p3.2 p3.1 r1.1,gW p6.2 p6.1 r4.1]) ?_ ?_
 · replace hF:=Ib
   refine bf ?_
   refine bnd hF fun r9 fE hF=>yE (.cons (.t .h) (.cons .h .nil)) (xx (pre:=[]) (.cons gL (.cons gL .nil)) (fun _=>.nil) (eu y5.h dh (vz fE))) (fun _=>?_)
   refine bf ?_
   rcases cZ (!r9)with cO|cO
   · rw[cO]
     try rw[cO]at hF; dsimp only[aW,aV]at hF
     exact bI hF
   rw[cO]
   try rw[cO]at hF; dsimp only[aW,aV]at hF
   refine aY ?_
   refine ax (yt (a:=r4.2) (b:=r1.2) Tryd.underlying4 (.tmp rfl rfl) (.tmp rfl rfl)) ?_
   exact bI hF
 rintro _ _ ⟨c13,KP,rfl,rfl,hE⟩
 replace hF:=IU
 try dsimp only at hF
 refine bL hE ?_
 refine Ci hF (fun ol hF=>?_) (fun ol hF=>?_)
 · exact ze hF
 refine aZ ?_
 refine bnd hF fun gZ lS hF=>fJ (zU lS) (fun p16=>?_)
 refine iQ ?_
 refine bnd hF fun mg kw hF=>eH (.cons .h .nil) (lH gL (fun _=>.nil) (eu y7.h dh (vg kw))) (fun _=>?_)
 refine aZ ?_
 refine Ci hF (fun og hF=>?_) (fun og hF=>?_)
 · exact ze hF
 refine aZ ?_
 refine Ci hF (fun Ic hF=>?_) (fun Ic hF=>?_)
 · exact ze hF
 refine bg ?_
 refine bnd hF fun f_ jD hF=>fJ (vH jD) (fun IP=>?_)
 refine au ?_
 refine zx ?_
 refine zx ?_
 refine bn ?_
 obtain⟨uS,Fs,Ie⟩:=bind_some hF
 refine au ?_
 refine dP (fun f' cs'=>∃(gD:Bool)(g:Fr),gD=uS/\f'=aU g [(5,p6.1.v),(7,(zi gZ.1)),(57,(.bool gD))]/\aJ cs' [gW p16 p6.1 gZ.2]) ?_ ?_
 · replace hF:=Fs
   refine bf ?_
   refine bnd hF fun uR lT hF=>yE (.cons .q2 (.cons .h .nil)) (xx (pre:=[]) (.cons gL (.cons gL .nil)) (fun _=>.nil) (eu y5.h dh (vz lT))) (fun _=>?_)
   refine bf ?_
   rcases cZ (!uR)with oC|oC
   · rw[oC]
     try rw[oC]at hF; dsimp only[aW,aV]at hF
     exact bI hF
   rw[oC]
   try rw[oC]at hF; dsimp only[aW,aV]at hF
   refine aY ?_
   refine ax (yt (a:=f_.2) (b:=r1.2) Tryd.underlying4 (.tmp rfl rfl) (.tmp rfl rfl)) ?_
   exact bI hF
 rintro _ _ ⟨gD,y8,rfl,rfl,hE⟩
 replace hF:=Ie
 try dsimp only at hF
 refine bL hE ?_
 refine Ci hF (fun oh hF=>?_) (fun oh hF=>?_)
 · exact ze hF
 refine aZ ?_
 refine bnd hF fun uT hx31 hF=>eH (.cons .h .nil) (lH gL (fun _=>.nil) (eu y7.h dh (vg hx31))) (fun _=>?_)
 refine aZ ?_
 refine Ci hF (fun Ig hF=>?_) (fun Ig hF=>?_)
 · exact ze hF
 refine aZ ?_
 refine Ci hF (fun Ih hF=>?_) (fun Ih hF=>?_)
 · exact ze hF
 exact ze hF
end Go.Proofs.YtmmlepaliceaiaaDoor
