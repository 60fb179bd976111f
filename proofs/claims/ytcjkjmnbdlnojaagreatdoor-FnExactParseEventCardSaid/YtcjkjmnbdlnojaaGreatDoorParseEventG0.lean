/-
  Functions of the program as Lean functions, and that the calls return what these say: part 1. No conditions.
-/
import Derived.Test.YtcjkjmnbdlnojaaGreatDoorFc
import Derived.Shelf.Strconv.Itoa3
import Derived.Shelf.Strings.OnBuilder
import Derived.Shelf.Sort.Plain
import Derived.Shelf.Slices.In.SortNone
import Derived.Shelf.Slices.CompactI
import Derived.Test.YtcjkjmnbdlnojaaGreatDoorProg
import Derived.KernelRfl
set_option maxRecDepth 100000
set_option maxHeartbeats 1000000
set_option linter.unusedVariables false
namespace Go.Proofs.YtcjkjmnbdlnojaaGreatDoor
open Go Go.Fw

theorem kP{G:Prop}(h:G:=by (unfold FD; kernel_rfl)):G:=h
theorem nZ{G:Prop}(h:G:=by (unfold AG; kernel_rfl)):G:=h
theorem Bz{G:Prop}(h:G:=by (unfold SL; kernel_rfl)):G:=h
theorem mV{G:Prop}(h:G:=by (unfold TY; kernel_rfl)):G:=h
instance:aV Tryz.prog:=⟨fun w=>Lib.TabIs Tryz.prog w "internal/strconv.uint64pow10" .u64 Lib.pow10Tab/\(∃tp p,w.var? Tryz.prog "strconv.ErrSyntax" =some #[.iface tp p])/\(∃tp p,w.var? Tryz.prog "strconv.ErrRange" =some #[.iface tp p])/\ ∃m,w.cell? ⟨0,0,none⟩=some (.int .i64 m)⟩
instance eP:qa Tryz.prog 22 3:=⟨Bz⟩
theorem dz:Fw.ST Tryz.prog 9:=by unfold Fw.ST; kernel_rfl
instance cf8:aQ Tryz.prog 8:=⟨Tryz.call8⟩
instance dX:iV Tryz.prog 3 1 8 (.int .i64 0):=⟨mV⟩
theorem dw{a:Int}:∀H e,aX H e a->e.cells.toList[0]?=some (.int .i64 a):=by
 intro H e h
 subst h
 rfl
instance J9:iU Tryz.prog 3 false:=⟨nZ⟩
instance ZL:aQ Tryz.prog 12:=⟨Tryz.call12⟩
structure Event where
 Kind:Int
 Text:List UInt8
instance uO:iV Tryz.prog 28 2 24 (.agg [(.int .i64 0),(.string ⟨[].toArray⟩)].toArray):=⟨mV⟩
instance adc:aQ Tryz.prog 28:=⟨Tryz.call28⟩
instance ade:aQ Tryz.prog 25:=⟨Tryz.call25⟩
instance gD:qa Tryz.prog 68 9:=⟨Bz⟩
instance gY:iV Tryz.prog 9 1 16 (.string ⟨[].toArray⟩):=⟨mV⟩
instance wX:iU Tryz.prog 9 false:=⟨nZ⟩
theorem EI{a:List UInt8}:∀F H e,(aR rdStr) F H e a->e.cells.toList[0]?=some (sv a):=by
 intro F H e h
 obtain⟨-,h⟩:=h
 subst h
 rfl
instance ES:iU Tryz.prog 28 true:=⟨nZ⟩
instance cf7:aQ Tryz.prog 7:=⟨Tryz.call7⟩
instance abJ:jT Tryz.prog 28 0 0:=⟨kP⟩
instance abK:jT Tryz.prog 28 1 1:=⟨kP⟩
instance adf:aQ Tryz.prog 21:=⟨Tryz.call21⟩
structure Method where
 Rel:Int
 Inputs:List Int
 Limit:Int
 Cost:Int
 Quota:Int
instance iT:iV Tryz.prog 43 5 56 (.agg [(.int .i64 0),(.slice none 0 0),(.int .i64 0),(.int .i64 0),(.int .i64 0)].toArray):=⟨mV⟩
instance PL:aQ Tryz.prog 33:=⟨Tryz.call33⟩
theorem BA:yx Tryz.prog 68:=.inr ⟨9,by kernel_rfl⟩
instance n_:iU Tryz.prog 43 true:=⟨nZ⟩
theorem mixed:Tryz.prog.follows .mixedOrders=true:=by kernel_rfl
theorem fB{a:List UInt8}:∀H e,rdStr H e a->e.cells.toList[0]?=some (sv a):=by
 intro H e h
 subst h
 rfl
instance IG:aQ Tryz.prog 36:=⟨Tryz.call36⟩
instance yN:aQ Tryz.prog 37:=⟨Tryz.call37⟩
instance adg:aQ Tryz.prog 24:=⟨Tryz.call24⟩
theorem CR:IK Tryz.prog 5 .u8:=by unfold IK; kernel_rfl
theorem J_:IK Tryz.prog 3 .i64:=by unfold IK; kernel_rfl
instance adh:aQ Tryz.prog 45:=⟨Tryz.call45⟩
instance EJ:qa Tryz.prog 108 5:=⟨Bz⟩
instance FX:iV Tryz.prog 5 1 1 (.int .u8 0):=⟨mV⟩
theorem PM:Tryz.prog.underlying 9=some .string:=by kernel_rfl
instance abL:jT Tryz.prog 43 1 1:=⟨kP⟩
instance uP:iU Tryz.prog 22 false:=⟨nZ⟩
theorem mh:yx Tryz.prog 22:=.inr ⟨3,by kernel_rfl⟩
instance BB:iV Tryz.prog 22 1 24 (.slice none 0 0):=⟨mV⟩
instance ZM:aQ Tryz.prog 38:=⟨Tryz.call38⟩
instance adi:aQ Tryz.prog 69:=⟨Tryz.call69⟩
instance abM:jT Tryz.prog 43 0 0:=⟨kP⟩
instance abN:jT Tryz.prog 43 2 2:=⟨kP⟩
instance abO:jT Tryz.prog 43 3 3:=⟨kP⟩
instance abP:jT Tryz.prog 43 4 4:=⟨kP⟩
instance ZN:aQ Tryz.prog 39:=⟨Tryz.call39⟩
instance adj:aQ Tryz.prog 70:=⟨Tryz.call70⟩
instance adk:aQ Tryz.prog 22:=⟨Tryz.call22⟩
structure eZ where
 From:Int
 To:Int
 Map:List Int
instance lQ:iV Tryz.prog 47 3 40 (.agg [(.int .i64 0),(.int .i64 0),(.slice none 0 0)].toArray):=⟨mV⟩
instance yO:iU Tryz.prog 47 true:=⟨nZ⟩
instance abQ:jT Tryz.prog 47 2 2:=⟨kP⟩
instance ZO:aQ Tryz.prog 40:=⟨Tryz.call40⟩
instance abR:jT Tryz.prog 47 0 0:=⟨kP⟩
instance abS:jT Tryz.prog 47 1 1:=⟨kP⟩
instance ZP:aQ Tryz.prog 41:=⟨Tryz.call41⟩
instance adl:aQ Tryz.prog 23:=⟨Tryz.call23⟩
structure Fact where
 Rel:Int
 Values:List Int
instance uQ:iV Tryz.prog 51 2 32 (.agg [(.int .i64 0),(.slice none 0 0)].toArray):=⟨mV⟩
instance adm:aQ Tryz.prog 42:=⟨Tryz.call42⟩
instance abT:jT Tryz.prog 51 1 1:=⟨kP⟩
instance ET:iU Tryz.prog 51 true:=⟨nZ⟩
instance ZQ:aQ Tryz.prog 43:=⟨Tryz.call43⟩
instance abU:jT Tryz.prog 51 0 0:=⟨kP⟩
instance ZR:aQ Tryz.prog 44:=⟨Tryz.call44⟩
instance adn:aQ Tryz.prog 26:=⟨Tryz.call26⟩
structure aW where
 Rel:Int
 Terms:List Int
structure bG where
 Head:List Int
 Atoms:List aW
instance eO:iV Tryz.prog 59 2 48 (.agg [(.slice none 0 0),(.slice none 0 0)].toArray):=⟨mV⟩
instance OY:jT Tryz.prog 59 0 0:=⟨kP⟩
instance PN:aQ Tryz.prog 46:=⟨Tryz.call46⟩
instance wz:jT Tryz.prog 59 1 1:=⟨kP⟩
instance PO:iU Tryz.prog 57 false:=⟨nZ⟩
instance PP:aQ Tryz.prog 47:=⟨Tryz.call47⟩
instance mW:iV Tryz.prog 83 2 32 (.agg [(.int .i64 0),(.slice none 0 0)].toArray):=⟨mV⟩
instance abV:jT Tryz.prog 83 1 1:=⟨kP⟩
instance ZT:iU Tryz.prog 83 true:=⟨nZ⟩
instance rV:qa Tryz.prog 57 83:=⟨Bz⟩
def yP(H:ag)(v:Value)(a:aW):Prop:=∃v0:Sv,v= .agg [(.int .i64 a.Rel),v0.v].toArray/\(cZ 3 aX) H v0.v a.Terms
instance:dG yP:=⟨fun h hi=>by
 obtain⟨v0,h,h0⟩:=h
 exact⟨v0,h,dG.up h0 hi⟩⟩
instance:Cells yP 2:=⟨fun h=>by
 obtain⟨v0,rfl,h0⟩:=h
 exact⟨rfl,rfl⟩⟩
def fQ:ek aW:=fun F H v a=>∃(v0:Sv)(F0:List Nat),v= .agg [(.int .i64 a.Rel),v0.v].toArray/\F0=F/\(bM 3 (aR aX)) F0 H v0.v a.Terms
instance:gQ fQ:=⟨fun h hi hg=>by
 obtain⟨v0,F0,rfl,rfl,h0⟩:=h
 exact⟨v0,F0,rfl,rfl,gQ.keep h0 hi (fun k hk=>hg k (by simp[hk]))⟩⟩
instance:Local fQ:=⟨fun h hg=>by
 obtain⟨v0,F0,rfl,rfl,h0⟩:=h
 exact⟨v0,F0,rfl,rfl,Local.keep h0 (fun k hk=>hg k (by simp[hk]))⟩⟩
instance:rT fQ:=⟨fun h k hk=>by
 obtain⟨v0,F0,rfl,rfl,h0⟩:=h
 exact rT.owns h0 k hk
⟩
instance:qW fQ 2:=⟨fun h=>by
 obtain⟨v0,F0,rfl,rfl,h0⟩:=h
 exact⟨rfl,rfl⟩⟩
instance:sH fQ yP:=⟨fun h hg=>by
 obtain⟨v0,F0,rfl,rfl,h0⟩:=h
 exact⟨v0,rfl,sH.frz h0 (fun k hk=>hg k (by simp[hk]))⟩⟩
theorem EU{a:aW}{v0:Sv}{F0:List Nat}:Mk fQ F0 (.agg [(.int .i64 a.Rel),v0.v].toArray) a [bS (bM 3 (aR aX)) F0 v0.v a.Terms]:=
 ⟨fun H h=>⟨v0,F0,rfl,rfl,h (bS (bM 3 (aR aX)) F0 v0.v a.Terms) (by simp)⟩,by simp[bS]⟩
theorem EW:yx Tryz.prog 57:=.inr ⟨83,by kernel_rfl⟩
instance PQ:iV Tryz.prog 57 1 24 (.slice none 0 0):=⟨mV⟩
instance jm:iU Tryz.prog 59 true:=⟨nZ⟩
instance PR:aQ Tryz.prog 48:=⟨Tryz.call48⟩
instance ado:aQ Tryz.prog 72:=⟨Tryz.call72⟩
theorem H6{a:aW}:∀H e,yP H e a-> ∃w:Sv,e.cells.toList[1]?=some w.v/\(cZ 3 aX) H w.v a.Terms:=by
 intro H e h
 obtain⟨v0,rfl,h0⟩:=h
 exact⟨v0,rfl,h0⟩
instance ab3:aQ Tryz.prog 102:=⟨Tryz.call102⟩
instance ab4:aQ Tryz.prog 103:=⟨Tryz.call103⟩
instance EX:aQ Tryz.prog 73:=⟨Tryz.call73⟩
theorem Ie{a:Int}:∀F H e,(aR aX) F H e a->e.cells.toList[0]?=some (.int .i64 a):=by
 intro F H e h
 obtain⟨-,h⟩:=h
 subst h
 rfl
def vT(a:aW)(p:Sv):List Value:=[(.int .i64 a.Rel),p.v]
theorem xW{a:aW}:∀H e,yP H e a-> ∃i:Sv,0+2<=e.cells.size/\(e.cells.toList.drop 0).take 2=vT a i/\ ∀c∈([eQ (cZ 3 aX) i.v a.Terms]:List ah),c.P H/\c.F=[]:=by
 intro H e h
 obtain⟨v0,rfl,h0⟩:=h
 refine⟨v0,Nat.le_of_ble_eq_true rfl,rfl,fun c hc=>by
   simp only[List.mem_cons,List.not_mem_nil,or_false]at hc
   rcases hc with rfl
   · exact⟨h0,rfl⟩
⟩
instance adp:aQ Tryz.prog 71:=⟨Tryz.call71⟩
instance abW:jT Tryz.prog 83 0 0:=⟨kP⟩
instance ab5:aQ Tryz.prog 101:=⟨Tryz.call101⟩
instance PS:aQ Tryz.prog 49:=⟨Tryz.call49⟩
instance adq:aQ Tryz.prog 74:=⟨Tryz.call74⟩
instance ab6:aQ Tryz.prog 104:=⟨Tryz.call104⟩
instance adr:aQ Tryz.prog 75:=⟨Tryz.call75⟩
instance ZU:aQ Tryz.prog 13:=⟨Tryz.call13⟩
instance ads:aQ Tryz.prog 29:=⟨Tryz.call29⟩
instance adt:aQ Tryz.prog 66:=⟨Tryz.call66⟩
instance adu:aQ Tryz.prog 97:=⟨Tryz.call97⟩
def Ub:Go.Shelf.Ren:=⟨fun|219=>97|217=>155|225=>156|224=>157|267=>158|266=>225|314=>226|n=>n,fun|9=>9|3=>3|4=>4|5=>5|46=>195|146=>243|51=>242|n=>n,fun|1=>0|n=>n⟩
theorem VL:Go.Proofs.Lays.n219 Tryz.prog Ub:={
 mixed:=by kernel_rfl
 f217:=Tryz.func155.trans (congrArg some (by kernel_rfl))
 f219:=Tryz.func97.trans (congrArg some (by kernel_rfl))
 f224:=Tryz.func157.trans (congrArg some (by kernel_rfl))
 f225:=Tryz.func156.trans (congrArg some (by kernel_rfl))
 f266:=Tryz.func225.trans (congrArg some (by kernel_rfl))
 f267:=Tryz.func158.trans (congrArg some (by kernel_rfl))
 f314:=Tryz.func226.trans (congrArg some (by kernel_rfl))
 t3:=Tryz.underlying3
 a3:=Tryz.isAgg3
 z3:=Tryz.sizeOf3
 v3:=Tryz.zeroValue3
 t4:=Tryz.underlying4
 a4:=Tryz.isAgg4
 z4:=Tryz.sizeOf4
 v4:=Tryz.zeroValue4
 t5:=Tryz.underlying5
 a5:=Tryz.isAgg5
 z5:=Tryz.sizeOf5
 v5:=Tryz.zeroValue5
 t9:=Tryz.underlying9
 a9:=Tryz.isAgg9
 z9:=Tryz.sizeOf9
 v9:=Tryz.zeroValue9
 t46:=Tryz.underlying195
 a46:=Tryz.isAgg195
 z46:=Tryz.sizeOf195
 v46:=Tryz.zeroValue195
 t51:=Tryz.underlying242
 a51:=Tryz.isAgg242
 z51:=Tryz.sizeOf242
 v51:=Tryz.zeroValue242
 t146:=Tryz.underlying243
 a146:=Tryz.isAgg243
 z146:=Tryz.sizeOf243
 v146:=Tryz.zeroValue243
 g1:=by kernel_rfl}
instance adv:aQ Tryz.prog 31:=⟨Tryz.call31⟩
instance ZV:aQ Tryz.prog 30:=⟨Tryz.call30⟩
instance adw:aQ Tryz.prog 10:=⟨Tryz.call10⟩
instance adx:aQ Tryz.prog 27:=⟨Tryz.call27⟩
instance ady:aQ Tryz.prog 50:=⟨Tryz.call50⟩
instance adz:aQ Tryz.prog 34:=⟨Tryz.call34⟩
instance adA:aQ Tryz.prog 68:=⟨Tryz.call68⟩
def Uc:Go.Shelf.Ren:=⟨fun|221=>68|268=>98|138=>99|143=>100|195=>159|197=>160|218=>161|219=>97|260=>227|217=>155|225=>156|224=>157|267=>158|266=>225|314=>226|n=>n,fun|9=>9|3=>3|31=>68|4=>4|0=>0|105=>196|21=>21|5=>5|46=>195|119=>279|139=>282|138=>281|146=>243|51=>242|n=>n,fun|1=>0|3=>3|4=>4|n=>n⟩
theorem VM:Go.Proofs.Lays.n221 Tryz.prog Uc:={
 mixed:=by kernel_rfl
 f138:=Tryz.func99.trans (congrArg some (by kernel_rfl))
 f143:=Tryz.func100.trans (congrArg some (by kernel_rfl))
 f195:=Tryz.func159.trans (congrArg some (by kernel_rfl))
 f197:=Tryz.func160.trans (congrArg some (by kernel_rfl))
 f217:=Tryz.func155.trans (congrArg some (by kernel_rfl))
 f218:=Tryz.func161.trans (congrArg some (by kernel_rfl))
 f219:=Tryz.func97.trans (congrArg some (by kernel_rfl))
 f221:=Tryz.func68.trans (congrArg some (by kernel_rfl))
 f224:=Tryz.func157.trans (congrArg some (by kernel_rfl))
 f225:=Tryz.func156.trans (congrArg some (by kernel_rfl))
 f260:=Tryz.func227.trans (congrArg some (by kernel_rfl))
 f266:=Tryz.func225.trans (congrArg some (by kernel_rfl))
 f267:=Tryz.func158.trans (congrArg some (by kernel_rfl))
 f268:=Tryz.func98.trans (congrArg some (by kernel_rfl))
 f314:=Tryz.func226.trans (congrArg some (by kernel_rfl))
 t0:=Tryz.underlying0
 a0:=Tryz.isAgg0
 z0:=Tryz.sizeOf0
 v0:=Tryz.zeroValue0
 t3:=Tryz.underlying3
 a3:=Tryz.isAgg3
 z3:=Tryz.sizeOf3
 v3:=Tryz.zeroValue3
 t4:=Tryz.underlying4
 a4:=Tryz.isAgg4
 z4:=Tryz.sizeOf4
 v4:=Tryz.zeroValue4
 t5:=Tryz.underlying5
 a5:=Tryz.isAgg5
 z5:=Tryz.sizeOf5
 v5:=Tryz.zeroValue5
 t9:=Tryz.underlying9
 a9:=Tryz.isAgg9
 z9:=Tryz.sizeOf9
 v9:=Tryz.zeroValue9
 t21:=Tryz.underlying21
 a21:=Tryz.isAgg21
 z21:=Tryz.sizeOf21
 v21:=Tryz.zeroValue21
 t31:=Tryz.underlying68
 a31:=Tryz.isAgg68
 z31:=Tryz.sizeOf68
 v31:=Tryz.zeroValue68
 t46:=Tryz.underlying195
 a46:=Tryz.isAgg195
 z46:=Tryz.sizeOf195
 v46:=Tryz.zeroValue195
 t51:=Tryz.underlying242
 a51:=Tryz.isAgg242
 z51:=Tryz.sizeOf242
 v51:=Tryz.zeroValue242
 t105:=Tryz.underlying196
 a105:=Tryz.isAgg196
 z105:=Tryz.sizeOf196
 v105:=Tryz.zeroValue196
 t119:=Tryz.underlying279
 a119:=Tryz.isAgg279
 z119:=Tryz.sizeOf279
 t138:=Tryz.underlying281
 a138:=Tryz.isAgg281
 z138:=Tryz.sizeOf281
 v138:=Tryz.zeroValue281
 t139:=Tryz.underlying282
 a139:=Tryz.isAgg282
 z139:=Tryz.sizeOf282
 v139:=Tryz.zeroValue282
 t146:=Tryz.underlying243
 a146:=Tryz.isAgg243
 z146:=Tryz.sizeOf243
 v146:=Tryz.zeroValue243
 g1:=by kernel_rfl
 g3:=by kernel_rfl
 g4:=by kernel_rfl}
theorem hi9:(Tryz.prog.info? 9).map (fun i=>(i.zero,i.size,i.bytes))=some (some (.string ByteArray.empty),1,16):=by kernel_rfl
instance adB:aQ Tryz.prog 76:=⟨Tryz.call76⟩
instance adC:aQ Tryz.prog 59:=⟨Tryz.call59⟩
instance ZW:aQ Tryz.prog 90:=⟨Tryz.call90⟩
def TL:Go.Shelf.Ren:=⟨fun|172=>90|244=>133|245=>134|247=>194|279=>195|280=>196|281=>197|282=>198|287=>238|316=>239|171=>135|205=>240|321=>269|322=>270|243=>199|246=>241|283=>271|284=>272|285=>273|286=>274|129=>293|317=>292|318=>294|319=>295|320=>296|337=>308|338=>309|n=>n,fun|9=>9|3=>3|75=>128|76=>129|4=>4|5=>5|167=>216|37=>108|0=>0|85=>217|2=>2|168=>219|53=>256|175=>257|46=>195|210=>261|127=>283|145=>288|143=>286|21=>21|171=>289|173=>292|212=>311|51=>242|20=>20|213=>312|232=>333|233=>334|80=>250|n=>n,fun|15=>1|16=>2|17=>5|18=>6|19=>7|n=>n⟩
theorem Vj:Go.Proofs.LaysC.n172 Tryz.prog TL:={
 mixed:=by kernel_rfl
 f129:=Tryz.func293.trans (congrArg some (by kernel_rfl))
 f171:=Tryz.func135.trans (congrArg some (by kernel_rfl))
 f172:=Tryz.func90.trans (congrArg some (by kernel_rfl))
 f205:=Tryz.func240.trans (congrArg some (by kernel_rfl))
 f243:=Tryz.func199.trans (congrArg some (by kernel_rfl))
 f244:=Tryz.func133.trans (congrArg some (by kernel_rfl))
 f245:=Tryz.func134.trans (congrArg some (by kernel_rfl))
 f246:=Tryz.func241.trans (congrArg some (by kernel_rfl))
 f247:=Tryz.func194.trans (congrArg some (by kernel_rfl))
 f279:=Tryz.func195.trans (congrArg some (by kernel_rfl))
 f280:=Tryz.func196.trans (congrArg some (by kernel_rfl))
 f281:=Tryz.func197.trans (congrArg some (by kernel_rfl))
 f282:=Tryz.func198.trans (congrArg some (by kernel_rfl))
 f283:=Tryz.func271.trans (congrArg some (by kernel_rfl))
 f284:=Tryz.func272.trans (congrArg some (by kernel_rfl))
 f285:=Tryz.func273.trans (congrArg some (by kernel_rfl))
 f286:=Tryz.func274.trans (congrArg some (by kernel_rfl))
 f287:=Tryz.func238.trans (congrArg some (by kernel_rfl))
 f316:=Tryz.func239.trans (congrArg some (by kernel_rfl))
 f317:=Tryz.func292.trans (congrArg some (by kernel_rfl))
 f318:=Tryz.func294.trans (congrArg some (by kernel_rfl))
 f319:=Tryz.func295.trans (congrArg some (by kernel_rfl))
 f320:=Tryz.func296.trans (congrArg some (by kernel_rfl))
 f321:=Tryz.func269.trans (congrArg some (by kernel_rfl))
 f322:=Tryz.func270.trans (congrArg some (by kernel_rfl))
 f337:=Tryz.func308.trans (congrArg some (by kernel_rfl))
 f338:=Tryz.func309.trans (congrArg some (by kernel_rfl))
 t0:=Tryz.underlying0
 a0:=Tryz.isAgg0
 z0:=Tryz.sizeOf0
 v0:=Tryz.zeroValue0
 t2:=Tryz.underlying2
 a2:=Tryz.isAgg2
 z2:=Tryz.sizeOf2
 v2:=Tryz.zeroValue2
 t3:=Tryz.underlying3
 a3:=Tryz.isAgg3
 z3:=Tryz.sizeOf3
 v3:=Tryz.zeroValue3
 t4:=Tryz.underlying4
 a4:=Tryz.isAgg4
 z4:=Tryz.sizeOf4
 v4:=Tryz.zeroValue4
 t5:=Tryz.underlying5
 a5:=Tryz.isAgg5
 z5:=Tryz.sizeOf5
 v5:=Tryz.zeroValue5
 t9:=Tryz.underlying9
 a9:=Tryz.isAgg9
 z9:=Tryz.sizeOf9
 v9:=Tryz.zeroValue9
 t20:=Tryz.underlying20
 a20:=Tryz.isAgg20
 z20:=Tryz.sizeOf20
 v20:=Tryz.zeroValue20
 t21:=Tryz.underlying21
 a21:=Tryz.isAgg21
 z21:=Tryz.sizeOf21
 v21:=Tryz.zeroValue21
 t37:=Tryz.underlying108
 a37:=Tryz.isAgg108
 z37:=Tryz.sizeOf108
 v37:=Tryz.zeroValue108
 t46:=Tryz.underlying195
 a46:=Tryz.isAgg195
 z46:=Tryz.sizeOf195
 v46:=Tryz.zeroValue195
 t51:=Tryz.underlying242
 a51:=Tryz.isAgg242
 z51:=Tryz.sizeOf242
 v51:=Tryz.zeroValue242
 t53:=Tryz.underlying256
 a53:=Tryz.isAgg256
 z53:=Tryz.sizeOf256
 v53:=Tryz.zeroValue256
 t75:=Tryz.underlying128
 a75:=Tryz.isAgg128
 z75:=Tryz.sizeOf128
 v75:=Tryz.zeroValue128
 t76:=Tryz.underlying129
 a76:=Tryz.isAgg129
 z76:=Tryz.sizeOf129
 v76:=Tryz.zeroValue129
 t85:=Tryz.underlying217
 a85:=Tryz.isAgg217
 z85:=Tryz.sizeOf217
 v85:=Tryz.zeroValue217
 t127:=Tryz.underlying283
 a127:=Tryz.isAgg283
 z127:=Tryz.sizeOf283
 v127:=Tryz.zeroValue283
 t143:=Tryz.underlying286
 a143:=Tryz.isAgg286
 z143:=Tryz.sizeOf286
 v143:=Tryz.zeroValue286
 t145:=Tryz.underlying288
 a145:=Tryz.isAgg288
 z145:=Tryz.sizeOf288
 v145:=Tryz.zeroValue288
 t167:=Tryz.underlying216
 a167:=Tryz.isAgg216
 z167:=Tryz.sizeOf216
 v167:=Tryz.zeroValue216
 t168:=Tryz.underlying219
 a168:=Tryz.isAgg219
 z168:=Tryz.sizeOf219
 v168:=Tryz.zeroValue219
 t171:=Tryz.underlying289
 a171:=Tryz.isAgg289
 z171:=Tryz.sizeOf289
 v171:=Tryz.zeroValue289
 t173:=Tryz.underlying292
 a173:=Tryz.isAgg292
 z173:=Tryz.sizeOf292
 v173:=Tryz.zeroValue292
 t175:=Tryz.underlying257
 a175:=Tryz.isAgg257
 z175:=Tryz.sizeOf257
 v175:=Tryz.zeroValue257
 t210:=Tryz.underlying261
 a210:=Tryz.isAgg261
 z210:=Tryz.sizeOf261
 v210:=Tryz.zeroValue261
 t212:=Tryz.underlying311
 a212:=Tryz.isAgg311
 z212:=Tryz.sizeOf311
 v212:=Tryz.zeroValue311
 t213:=Tryz.underlying312
 a213:=Tryz.isAgg312
 z213:=Tryz.sizeOf312
 t232:=Tryz.underlying333
 a232:=Tryz.isAgg333
 z232:=Tryz.sizeOf333
 v232:=Tryz.zeroValue333
 t233:=Tryz.underlying334
 a233:=Tryz.isAgg334
 z233:=Tryz.sizeOf334
 v233:=Tryz.zeroValue334
 g15:=by kernel_rfl
 g16:=by kernel_rfl
 g17:=by kernel_rfl
 g18:=by kernel_rfl
 g19:=by kernel_rfl
 t80:=Tryz.underlying250
 a80:=Tryz.isAgg250
 z80:=Tryz.sizeOf250
 v80:=Tryz.zeroValue250
 i0:=by kernel_rfl
 i2:=by kernel_rfl
 i3:=by kernel_rfl
 i4:=by kernel_rfl
 i5:=by kernel_rfl
 i9:=by kernel_rfl
 i20:=by kernel_rfl
 i21:=by kernel_rfl
 i37:=by kernel_rfl
 i46:=by kernel_rfl
 i51:=by kernel_rfl
 i53:=by kernel_rfl
 i75:=by kernel_rfl
 i76:=by kernel_rfl
 i80:=by kernel_rfl
 i85:=by kernel_rfl
 i127:=by kernel_rfl
 i143:=by kernel_rfl
 i145:=by kernel_rfl
 i167:=by kernel_rfl
 i168:=by kernel_rfl
 i171:=by kernel_rfl
 i173:=by kernel_rfl
 i175:=by kernel_rfl
 i210:=by kernel_rfl
 i212:=by kernel_rfl
 i232:=by kernel_rfl
 i233:=by kernel_rfl
 m15:=by kernel_rfl
 m16:=by kernel_rfl
 m17:=by kernel_rfl
 m18:=by kernel_rfl
 m19:=by kernel_rfl
 c0:=by kernel_rfl
 c2:=by kernel_rfl
 c3:=by kernel_rfl
 c4:=by kernel_rfl
 c5:=by kernel_rfl
 c9:=by kernel_rfl
 c20:=by kernel_rfl
 c21:=by kernel_rfl
 c37:=by kernel_rfl
 c46:=by kernel_rfl
 c51:=by kernel_rfl
 c53:=by kernel_rfl
 c75:=by kernel_rfl
 c76:=by kernel_rfl
 c80:=by kernel_rfl
 c85:=by kernel_rfl
 c127:=by kernel_rfl
 c143:=by kernel_rfl
 c145:=by kernel_rfl
 c167:=by kernel_rfl
 c168:=by kernel_rfl
 c171:=by kernel_rfl
 c173:=by kernel_rfl
 c175:=by kernel_rfl
 c210:=by kernel_rfl
 c212:=by kernel_rfl
 c213:=by kernel_rfl
 c232:=by kernel_rfl
 c233:=by kernel_rfl}
theorem Wq:Tryz.prog.underlying 128=some (.interface (Tryz.prog.methodsAt 128)):=by kernel_rfl
instance ZX:aQ Tryz.prog 60:=⟨Tryz.call60⟩
instance ZY:aQ Tryz.prog 91:=⟨Tryz.call91⟩
instance ab7:aQ Tryz.prog 135:=⟨Tryz.call135⟩
def TM:Go.Shelf.Ren:=⟨fun|171=>135|243=>199|246=>241|283=>271|284=>272|285=>273|286=>274|129=>293|317=>292|318=>294|319=>295|320=>296|337=>308|338=>309|n=>n,fun|3=>3|9=>9|2=>2|4=>4|171=>289|0=>0|53=>256|37=>108|5=>5|173=>292|212=>311|51=>242|20=>20|213=>312|46=>195|232=>333|233=>334|n=>n,fun|17=>5|18=>6|19=>7|n=>n⟩
theorem Vk:Go.Proofs.LaysM.n171 Tryz.prog TM:={
 mixed:=by kernel_rfl
 f129:=Tryz.func293.trans (congrArg some (by kernel_rfl))
 f171:=Tryz.func135.trans (congrArg some (by kernel_rfl))
 f243:=Tryz.func199.trans (congrArg some (by kernel_rfl))
 f246:=Tryz.func241.trans (congrArg some (by kernel_rfl))
 f283:=Tryz.func271.trans (congrArg some (by kernel_rfl))
 f284:=Tryz.func272.trans (congrArg some (by kernel_rfl))
 f285:=Tryz.func273.trans (congrArg some (by kernel_rfl))
 f286:=Tryz.func274.trans (congrArg some (by kernel_rfl))
 f317:=Tryz.func292.trans (congrArg some (by kernel_rfl))
 f318:=Tryz.func294.trans (congrArg some (by kernel_rfl))
 f319:=Tryz.func295.trans (congrArg some (by kernel_rfl))
 f320:=Tryz.func296.trans (congrArg some (by kernel_rfl))
 f337:=Tryz.func308.trans (congrArg some (by kernel_rfl))
 f338:=Tryz.func309.trans (congrArg some (by kernel_rfl))
 t0:=Tryz.underlying0
 a0:=Tryz.isAgg0
 z0:=Tryz.sizeOf0
 v0:=Tryz.zeroValue0
 t2:=Tryz.underlying2
 a2:=Tryz.isAgg2
 z2:=Tryz.sizeOf2
 v2:=Tryz.zeroValue2
 t3:=Tryz.underlying3
 a3:=Tryz.isAgg3
 z3:=Tryz.sizeOf3
 v3:=Tryz.zeroValue3
 t4:=Tryz.underlying4
 a4:=Tryz.isAgg4
 z4:=Tryz.sizeOf4
 v4:=Tryz.zeroValue4
 t5:=Tryz.underlying5
 a5:=Tryz.isAgg5
 z5:=Tryz.sizeOf5
 v5:=Tryz.zeroValue5
 t9:=Tryz.underlying9
 a9:=Tryz.isAgg9
 z9:=Tryz.sizeOf9
 v9:=Tryz.zeroValue9
 t20:=Tryz.underlying20
 a20:=Tryz.isAgg20
 z20:=Tryz.sizeOf20
 v20:=Tryz.zeroValue20
 t37:=Tryz.underlying108
 a37:=Tryz.isAgg108
 z37:=Tryz.sizeOf108
 v37:=Tryz.zeroValue108
 t46:=Tryz.underlying195
 a46:=Tryz.isAgg195
 z46:=Tryz.sizeOf195
 v46:=Tryz.zeroValue195
 t51:=Tryz.underlying242
 a51:=Tryz.isAgg242
 z51:=Tryz.sizeOf242
 v51:=Tryz.zeroValue242
 t53:=Tryz.underlying256
 a53:=Tryz.isAgg256
 z53:=Tryz.sizeOf256
 v53:=Tryz.zeroValue256
 t171:=Tryz.underlying289
 a171:=Tryz.isAgg289
 z171:=Tryz.sizeOf289
 v171:=Tryz.zeroValue289
 t173:=Tryz.underlying292
 a173:=Tryz.isAgg292
 z173:=Tryz.sizeOf292
 v173:=Tryz.zeroValue292
 t212:=Tryz.underlying311
 a212:=Tryz.isAgg311
 z212:=Tryz.sizeOf311
 v212:=Tryz.zeroValue311
 t213:=Tryz.underlying312
 a213:=Tryz.isAgg312
 z213:=Tryz.sizeOf312
 t232:=Tryz.underlying333
 a232:=Tryz.isAgg333
 z232:=Tryz.sizeOf333
 v232:=Tryz.zeroValue333
 t233:=Tryz.underlying334
 a233:=Tryz.isAgg334
 z233:=Tryz.sizeOf334
 v233:=Tryz.zeroValue334
 g17:=by kernel_rfl
 g18:=by kernel_rfl
 g19:=by kernel_rfl
 i0:=by kernel_rfl
 i2:=by kernel_rfl
 i3:=by kernel_rfl
 i4:=by kernel_rfl
 i5:=by kernel_rfl
 i9:=by kernel_rfl
 i20:=by kernel_rfl
 i37:=by kernel_rfl
 i46:=by kernel_rfl
 i51:=by kernel_rfl
 i53:=by kernel_rfl
 i171:=by kernel_rfl
 i173:=by kernel_rfl
 i212:=by kernel_rfl
 i232:=by kernel_rfl
 i233:=by kernel_rfl
 m17:=by kernel_rfl
 m18:=by kernel_rfl
 m19:=by kernel_rfl}
instance adD:aQ Tryz.prog 77:=⟨Tryz.call77⟩
instance ab8:aQ Tryz.prog 105:=⟨Tryz.call105⟩
instance ab9:aQ Tryz.prog 162:=⟨Tryz.call162⟩
instance pI:qa Tryz.prog 119 118:=⟨Bz⟩
instance uK:iV Tryz.prog 118 1 8 (.pointer none):=⟨mV⟩
instance ab_:iU Tryz.prog 118 false:=⟨nZ⟩
instance ZZ:aQ Tryz.prog 78:=⟨Tryz.call78⟩
instance ab':aQ Tryz.prog 106:=⟨Tryz.call106⟩
instance aca:aQ Tryz.prog 142:=⟨Tryz.call142⟩
instance acb:aQ Tryz.prog 164:=⟨Tryz.call164⟩
instance acd:aQ Tryz.prog 228:=⟨Tryz.call228⟩
instance XE:aQ Tryz.prog 204:=⟨Tryz.call204⟩
instance ace:aQ Tryz.prog 107:=⟨Tryz.call107⟩
instance acf:aQ Tryz.prog 163:=⟨Tryz.call163⟩
instance XF:aQ Tryz.prog 165:=⟨Tryz.call165⟩
instance acg:aQ Tryz.prog 166:=⟨Tryz.call166⟩
instance Z0:aQ Tryz.prog 79:=⟨Tryz.call79⟩
instance ach:aQ Tryz.prog 108:=⟨Tryz.call108⟩
instance aci:aQ Tryz.prog 109:=⟨Tryz.call109⟩
instance EK:aQ Tryz.prog 167:=⟨Tryz.call167⟩
def MX:Go.Shelf.Ren:=⟨fun|156=>167|165=>229|166=>230|169=>231|240=>266|241=>267|276=>289|277=>290|n=>n,fun|31=>68|9=>9|3=>3|4=>4|0=>0|20=>20|72=>248|76=>129|70=>246|37=>108|75=>128|127=>283|164=>306|5=>5|80=>250|n=>n,fun|n=>n⟩
theorem Oz:Go.Proofs.Lays.n156 Tryz.prog MX:={
 mixed:=by kernel_rfl
 f156:=Tryz.func167.trans (congrArg some (by kernel_rfl))
 f165:=Tryz.func229.trans (congrArg some (by kernel_rfl))
 f166:=Tryz.func230.trans (congrArg some (by kernel_rfl))
 f169:=Tryz.func231.trans (congrArg some (by kernel_rfl))
 f240:=Tryz.func266.trans (congrArg some (by kernel_rfl))
 f241:=Tryz.func267.trans (congrArg some (by kernel_rfl))
 f276:=Tryz.func289.trans (congrArg some (by kernel_rfl))
 f277:=Tryz.func290.trans (congrArg some (by kernel_rfl))
 t0:=Tryz.underlying0
 a0:=Tryz.isAgg0
 z0:=Tryz.sizeOf0
 v0:=Tryz.zeroValue0
 t3:=Tryz.underlying3
 a3:=Tryz.isAgg3
 z3:=Tryz.sizeOf3
 v3:=Tryz.zeroValue3
 t4:=Tryz.underlying4
 a4:=Tryz.isAgg4
 z4:=Tryz.sizeOf4
 v4:=Tryz.zeroValue4
 t9:=Tryz.underlying9
 a9:=Tryz.isAgg9
 z9:=Tryz.sizeOf9
 v9:=Tryz.zeroValue9
 t20:=Tryz.underlying20
 a20:=Tryz.isAgg20
 z20:=Tryz.sizeOf20
 v20:=Tryz.zeroValue20
 t31:=Tryz.underlying68
 a31:=Tryz.isAgg68
 z31:=Tryz.sizeOf68
 v31:=Tryz.zeroValue68
 t37:=Tryz.underlying108
 a37:=Tryz.isAgg108
 z37:=Tryz.sizeOf108
 v37:=Tryz.zeroValue108
 t70:=Tryz.underlying246
 a70:=Tryz.isAgg246
 z70:=Tryz.sizeOf246
 v70:=Tryz.zeroValue246
 t72:=Tryz.underlying248
 a72:=Tryz.isAgg248
 z72:=Tryz.sizeOf248
 v72:=Tryz.zeroValue248
 t75:=Tryz.underlying128
 a75:=Tryz.isAgg128
 z75:=Tryz.sizeOf128
 v75:=Tryz.zeroValue128
 t76:=Tryz.underlying129
 a76:=Tryz.isAgg129
 z76:=Tryz.sizeOf129
 v76:=Tryz.zeroValue129
 t127:=Tryz.underlying283
 a127:=Tryz.isAgg283
 z127:=Tryz.sizeOf283
 v127:=Tryz.zeroValue283
 t164:=Tryz.underlying306
 a164:=Tryz.isAgg306
 z164:=Tryz.sizeOf306
 v164:=Tryz.zeroValue306}
theorem extra:Go.Proofs.Builder.Extra Tryz.prog MX:={
 sizeBuilder:=by kernel_rfl
 liesBuilder:=by kernel_rfl
 t5:=Tryz.underlying5
 a5:=Tryz.isAgg5
 z5:=Tryz.sizeOf5
 v5:=Tryz.zeroValue5
 infoByte:=by kernel_rfl
 cellsByte:=by kernel_rfl
 sizeByte:=by kernel_rfl
 neB5:=by decide}
instance adE:aQ Tryz.prog 53:=⟨Tryz.call53⟩
instance Z4:aQ Tryz.prog 83:=⟨Tryz.call83⟩
instance acj:aQ Tryz.prog 124:=⟨Tryz.call124⟩
instance XG:aQ Tryz.prog 180:=⟨Tryz.call180⟩
instance Z5:aQ Tryz.prog 84:=⟨Tryz.call84⟩
instance adF:aQ Tryz.prog 56:=⟨Tryz.call56⟩
instance adG:aQ Tryz.prog 86:=⟨Tryz.call86⟩
instance ack:aQ Tryz.prog 125:=⟨Tryz.call125⟩
instance acl:aQ Tryz.prog 181:=⟨Tryz.call181⟩
instance acm:aQ Tryz.prog 126:=⟨Tryz.call126⟩
instance acn:aQ Tryz.prog 182:=⟨Tryz.call182⟩
instance Z6:aQ Tryz.prog 87:=⟨Tryz.call87⟩
instance aco:aQ Tryz.prog 127:=⟨Tryz.call127⟩
instance XH:aQ Tryz.prog 183:=⟨Tryz.call183⟩
instance acp:aQ Tryz.prog 184:=⟨Tryz.call184⟩
instance Z7:aQ Tryz.prog 88:=⟨Tryz.call88⟩
instance adH:aQ Tryz.prog 63:=⟨Tryz.call63⟩
instance adI:aQ Tryz.prog 93:=⟨Tryz.call93⟩
instance acr:aQ Tryz.prog 139:=⟨Tryz.call139⟩
instance Pq:aQ Tryz.prog 141:=⟨Tryz.call141⟩
instance XI:aQ Tryz.prog 202:=⟨Tryz.call202⟩
instance acu:aQ Tryz.prog 146:=⟨Tryz.call146⟩
instance acv:aQ Tryz.prog 207:=⟨Tryz.call207⟩
instance acw:aQ Tryz.prog 245:=⟨Tryz.call245⟩
instance acx:aQ Tryz.prog 275:=⟨Tryz.call275⟩
def Ud:Go.Shelf.Ren:=⟨fun|189=>275|125=>298|257=>297|128=>318|129=>293|294=>310|295=>311|296=>312|297=>313|298=>314|299=>315|216=>234|300=>316|301=>317|328=>324|329=>325|330=>326|331=>327|332=>328|215=>237|343=>330|n=>n,fun|28=>22|3=>3|46=>195|0=>0|51=>242|53=>256|4=>4|183=>324|182=>323|131=>54|5=>5|9=>9|218=>335|222=>118|228=>340|229=>341|n=>n,fun|n=>n⟩
theorem OA:Go.Proofs.Lays.n189 Tryz.prog Ud:={
 mixed:=by kernel_rfl
 f125:=Tryz.func298.trans (congrArg some (by kernel_rfl))
 f128:=Tryz.func318.trans (congrArg some (by kernel_rfl))
 f129:=Tryz.func293.trans (congrArg some (by kernel_rfl))
 f189:=Tryz.func275.trans (congrArg some (by kernel_rfl))
 f215:=Tryz.func237.trans (congrArg some (by kernel_rfl))
 f216:=Tryz.func234.trans (congrArg some (by kernel_rfl))
 f257:=Tryz.func297.trans (congrArg some (by kernel_rfl))
 f294:=Tryz.func310.trans (congrArg some (by kernel_rfl))
 f295:=Tryz.func311.trans (congrArg some (by kernel_rfl))
 f296:=Tryz.func312.trans (congrArg some (by kernel_rfl))
 f297:=Tryz.func313.trans (congrArg some (by kernel_rfl))
 f298:=Tryz.func314.trans (congrArg some (by kernel_rfl))
 f299:=Tryz.func315.trans (congrArg some (by kernel_rfl))
 f300:=Tryz.func316.trans (congrArg some (by kernel_rfl))
 f301:=Tryz.func317.trans (congrArg some (by kernel_rfl))
 f328:=Tryz.func324.trans (congrArg some (by kernel_rfl))
 f329:=Tryz.func325.trans (congrArg some (by kernel_rfl))
 f330:=Tryz.func326.trans (congrArg some (by kernel_rfl))
 f331:=Tryz.func327.trans (congrArg some (by kernel_rfl))
 f332:=Tryz.func328.trans (congrArg some (by kernel_rfl))
 f343:=Tryz.func330.trans (congrArg some (by kernel_rfl))
 t0:=Tryz.underlying0
 a0:=Tryz.isAgg0
 z0:=Tryz.sizeOf0
 v0:=Tryz.zeroValue0
 t3:=Tryz.underlying3
 a3:=Tryz.isAgg3
 z3:=Tryz.sizeOf3
 v3:=Tryz.zeroValue3
 t4:=Tryz.underlying4
 a4:=Tryz.isAgg4
 z4:=Tryz.sizeOf4
 v4:=Tryz.zeroValue4
 t5:=Tryz.underlying5
 a5:=Tryz.isAgg5
 z5:=Tryz.sizeOf5
 v5:=Tryz.zeroValue5
 t9:=Tryz.underlying9
 a9:=Tryz.isAgg9
 z9:=Tryz.sizeOf9
 v9:=Tryz.zeroValue9
 t28:=Tryz.underlying22
 a28:=Tryz.isAgg22
 z28:=Tryz.sizeOf22
 v28:=Tryz.zeroValue22
 t46:=Tryz.underlying195
 a46:=Tryz.isAgg195
 z46:=Tryz.sizeOf195
 v46:=Tryz.zeroValue195
 t51:=Tryz.underlying242
 a51:=Tryz.isAgg242
 z51:=Tryz.sizeOf242
 v51:=Tryz.zeroValue242
 t53:=Tryz.underlying256
 a53:=Tryz.isAgg256
 z53:=Tryz.sizeOf256
 v53:=Tryz.zeroValue256
 t131:=Tryz.underlying54
 a131:=Tryz.isAgg54
 z131:=Tryz.sizeOf54
 v131:=Tryz.zeroValue54
 t182:=Tryz.underlying323
 a182:=Tryz.isAgg323
 z182:=Tryz.sizeOf323
 v182:=Tryz.zeroValue323
 t183:=Tryz.underlying324
 a183:=Tryz.isAgg324
 z183:=Tryz.sizeOf324
 v183:=Tryz.zeroValue324
 t218:=Tryz.underlying335
 a218:=Tryz.isAgg335
 z218:=Tryz.sizeOf335
 v218:=Tryz.zeroValue335
 t222:=Tryz.underlying118
 a222:=Tryz.isAgg118
 z222:=Tryz.sizeOf118
 v222:=Tryz.zeroValue118
 t228:=Tryz.underlying340
 a228:=Tryz.isAgg340
 z228:=Tryz.sizeOf340
 v228:=Tryz.zeroValue340
 t229:=Tryz.underlying341
 a229:=Tryz.isAgg341
 z229:=Tryz.sizeOf341
 v229:=Tryz.zeroValue341}
instance acy:aQ Tryz.prog 276:=⟨Tryz.call276⟩
def TN:Go.Shelf.Ren:=⟨fun|20=>276|n=>n,fun|22=>22|3=>3|4=>4|0=>0|n=>n,fun|n=>n⟩
theorem NV:Go.Proofs.Lays2.n20 Tryz.prog TN:={
 mixed:=by kernel_rfl
 f20:=Tryz.func276.trans (congrArg some (by kernel_rfl))
 t0:=Tryz.underlying0
 a0:=Tryz.isAgg0
 z0:=Tryz.sizeOf0
 v0:=Tryz.zeroValue0
 t3:=Tryz.underlying3
 a3:=Tryz.isAgg3
 z3:=Tryz.sizeOf3
 v3:=Tryz.zeroValue3
 t4:=Tryz.underlying4
 a4:=Tryz.isAgg4
 z4:=Tryz.sizeOf4
 v4:=Tryz.zeroValue4
 t22:=Tryz.underlying22
 a22:=Tryz.isAgg22
 z22:=Tryz.sizeOf22
 v22:=Tryz.zeroValue22
 i3:=by kernel_rfl}
instance XJ:aQ Tryz.prog 246:=⟨Tryz.call246⟩
instance XK:aQ Tryz.prog 208:=⟨Tryz.call208⟩
instance acz:aQ Tryz.prog 209:=⟨Tryz.call209⟩
instance acA:aQ Tryz.prog 247:=⟨Tryz.call247⟩
instance acB:aQ Tryz.prog 203:=⟨Tryz.call203⟩
instance acC:aQ Tryz.prog 242:=⟨Tryz.call242⟩
instance acD:aQ Tryz.prog 201:=⟨Tryz.call201⟩
instance acE:aQ Tryz.prog 206:=⟨Tryz.call206⟩
instance XL:aQ Tryz.prog 243:=⟨Tryz.call243⟩
instance acF:aQ Tryz.prog 244:=⟨Tryz.call244⟩
instance acG:aQ Tryz.prog 140:=⟨Tryz.call140⟩
instance Z8:aQ Tryz.prog 94:=⟨Tryz.call94⟩
instance acH:aQ Tryz.prog 143:=⟨Tryz.call143⟩
instance acI:aQ Tryz.prog 205:=⟨Tryz.call205⟩
instance XM:aQ Tryz.prog 144:=⟨Tryz.call144⟩
instance acJ:aQ Tryz.prog 145:=⟨Tryz.call145⟩
theorem XN:Tryz.prog.underlying 62=some (.func #[98] #[98,4] false):=by kernel_rfl
instance adJ:aQ Tryz.prog 32:=⟨Tryz.call32⟩
instance adK:aQ Tryz.prog 67:=⟨Tryz.call67⟩
instance adL:aQ Tryz.prog 14:=⟨Tryz.call14⟩
instance Z9:aQ Tryz.prog 11:=⟨Tryz.call11⟩
theorem zI{α β:Type}{l:List α}{i:Int}{f:α->Option β}{R:β}{G:Prop}(hF:(ix l i).bind f=some R)(k:∀x,0<=i->l[i.toNat]?=some x->f x=some R->G):G:=by
 obtain⟨x,h,e⟩:=Option.bind_eq_some_iff.1 hF
 obtain⟨h1,h2⟩:=nK h
 exact k x h1 h2 e
theorem j6{G N:Prop}(k:N)(h:N->G:=by (intro k; (iterate 10 refine au ?_); exact k)):G:=h k
theorem Bc{G N:Prop}(k:N)(h:N->G:=by (intro k; (iterate 11 refine au ?_); exact k)):G:=h k
theorem Ps{G N:Prop}(k:N)(h:N->G:=by (intro k; (iterate 14 refine au ?_); exact k)):G:=h k
theorem aG{G N:Prop}(k:N)(h:N->G:=by (intro k; (iterate 2 refine au ?_); exact k)):G:=h k
theorem ax{G N:Prop}(k:N)(h:N->G:=by (intro k; (iterate 3 refine au ?_); exact k)):G:=h k
theorem aB{G N:Prop}(k:N)(h:N->G:=by (intro k; (iterate 4 refine au ?_); exact k)):G:=h k
theorem aD{G N:Prop}(k:N)(h:N->G:=by (intro k; (iterate 5 refine au ?_); exact k)):G:=h k
theorem bB{G N:Prop}(k:N)(h:N->G:=by (intro k; (iterate 6 refine au ?_); exact k)):G:=h k
theorem bZ{G N:Prop}(k:N)(h:N->G:=by (intro k; (iterate 7 refine au ?_); exact k)):G:=h k
theorem dB{G N:Prop}(k:N)(h:N->G:=by (intro k; (iterate 8 refine au ?_); exact k)):G:=h k
theorem f_{G N:Prop}(k:N)(h:N->G:=by (intro k; (iterate 9 refine au ?_); exact k)):G:=h k
theorem bf(b:Bool):b=true\/b=false:=Bool.eq_false_or_eq_true b
theorem aj{α:Sort _}{a b:α}:cond false a b=b:=rfl
theorem ak{α:Sort _}{a b:α}:cond true a b=a:=rfl
theorem fT{G N:Prop}(k:N)(h:N->G:=by (intro k; (iterate 2 refine du ?_); exact k)):G:=h k
theorem iy{G N:Prop}(k:N)(h:N->G:=by (intro k; (iterate 3 refine du ?_); exact k)):G:=h k
theorem rW{G N:Prop}(k:N)(h:N->G:=by (intro k; (iterate 4 refine du ?_); exact k)):G:=h k
theorem BC{G N:Prop}(k:N)(h:N->G:=by (intro k; (iterate 5 refine du ?_); exact k)):G:=h k
theorem uR{G N:Prop}(k:N)(h:N->G:=by (intro k; (iterate 6 refine du ?_); exact k)):G:=h k
theorem EY{G N:Prop}(k:N)(h:N->G:=by (intro k; (iterate 9 refine du ?_); exact k)):G:=h k
theorem ze{G P:Prop}(hF:P)(h:P->G:=by (intro hF; (repeat refine au ?_); cases hF; exact Er ())):G:=h hF
theorem aO{G P:Prop}(hF:P)(h:P->G:=by (intro hF; (repeat refine au ?_); cases hF; exact⟨_,_,rfl,aK,aJ⟩)):G:=h hF
theorem EZ{G P:Prop}(hF:P)(h:P->G:=by (intro hF; (repeat refine au ?_); cases hF; exact⟨_,_,_,rfl,aK,aJ⟩)):G:=h hF
theorem gm{G P:Prop}(hF:P)(h:P->G:=by (intro hF; (repeat refine du ?_); cases hF; exact⟨_,_,rfl,aK,aJ⟩)):G:=h hF
abbrev zg(l:List Value):Value:=.agg l.toArray
abbrev zi(n:Int):Value:=.int .i64 n
theorem cO(n:Nat):n<n.succ:=Nat.lt_succ_self n
abbrev wH(F:List Nat)(v:Sv):=bS (bM 83 fQ) F v.v
abbrev bT(F:List Nat)(v:Sv):=bS (bM 3 (aR aX)) F v.v
abbrev sJ(F:List Nat)(v:Sv):=bS (bM 9 (aR rdStr)) F v.v
abbrev aC(v:Sv):=eQ (cZ 3 aX) v.v
abbrev gq(v:Sv):=eQ (cZ 83 yP) v.v
abbrev jd(v:Sv):=eQ (cZ 9 rdStr) v.v
theorem zx{G N:Prop}(k:N)(h:N->G:=by (intro k; exact ai (Ha (.tmp rfl rfl) rfl) k)):G:=h k
theorem _root_.Go.Fw.Mem.q2{c d0 d1:ah}{l:List ah}:Fw.Mem c (d0::d1::c::l):=.t (.t .h)
theorem _root_.Go.Fw.Mem.q3{c d0 d1 d2:ah}{l:List ah}:Fw.Mem c (d0::d1::d2::c::l):=.t (.t (.t .h))
theorem _root_.Go.Fw.Mem.q4{c d0 d1 d2 d3:ah}{l:List ah}:Fw.Mem c (d0::d1::d2::d3::c::l):=.t (.t (.t (.t .h)))
theorem _root_.Go.Fw.Mem.q5{c d0 d1 d2 d3 d4:ah}{l:List ah}:Fw.Mem c (d0::d1::d2::d3::d4::c::l):=.t (.t (.t (.t (.t .h))))
theorem _root_.Go.Fw.Mem.q6{c d0 d1 d2 d3 d4 d5:ah}{l:List ah}:Fw.Mem c (d0::d1::d2::d3::d4::d5::c::l):=.t (.t (.t (.t (.t (.t .h)))))
theorem _root_.Go.Fw.Mem.q7{c d0 d1 d2 d3 d4 d5 d6:ah}{l:List ah}:Fw.Mem c (d0::d1::d2::d3::d4::d5::d6::c::l):=.t (.t (.t (.t (.t (.t (.t .h))))))
theorem _root_.Go.Fw.Mem.q9{c d0 d1 d2 d3 d4 d5 d6 d7 d8:ah}{l:List ah}:Fw.Mem c (d0::d1::d2::d3::d4::d5::d6::d7::d8::c::l):=.t (.t (.t (.t (.t (.t (.t (.t (.t .h))))))))
theorem _root_.Go.Fw.Mem.q11{c d0 d1 d2 d3 d4 d5 d6 d7 d8 d9 FY:ah}{l:List ah}:Fw.Mem c (d0::d1::d2::d3::d4::d5::d6::d7::d8::d9::FY::c::l):=.t (.t (.t (.t (.t (.t (.t (.t (.t (.t (.t .h))))))))))
theorem _root_.Go.Fw.Sel.q2{c d0 d1:ah}{l:List ah}:Fw.Sel (d0::d1::c::l) c (d0::d1::l):=.t (.t .h)
theorem _root_.Go.Fw.Sel.q3{c d0 d1 d2:ah}{l:List ah}:Fw.Sel (d0::d1::d2::c::l) c (d0::d1::d2::l):=.t (.t (.t .h))
theorem _root_.Go.Fw.Sel.q4{c d0 d1 d2 d3:ah}{l:List ah}:Fw.Sel (d0::d1::d2::d3::c::l) c (d0::d1::d2::d3::l):=.t (.t (.t (.t .h)))
theorem _root_.Go.Fw.Sel.q5{c d0 d1 d2 d3 d4:ah}{l:List ah}:Fw.Sel (d0::d1::d2::d3::d4::c::l) c (d0::d1::d2::d3::d4::l):=.t (.t (.t (.t (.t .h))))
theorem _root_.Go.Fw.Sel.q6{c d0 d1 d2 d3 d4 d5:ah}{l:List ah}:Fw.Sel (d0::d1::d2::d3::d4::d5::c::l) c (d0::d1::d2::d3::d4::d5::l):=.t (.t (.t (.t (.t (.t .h)))))
theorem _root_.Go.Fw.Sel.q7{c d0 d1 d2 d3 d4 d5 d6:ah}{l:List ah}:Fw.Sel (d0::d1::d2::d3::d4::d5::d6::c::l) c (d0::d1::d2::d3::d4::d5::d6::l):=.t (.t (.t (.t (.t (.t (.t .h))))))
theorem _root_.Go.Fw.Sel.q9{c d0 d1 d2 d3 d4 d5 d6 d7 d8:ah}{l:List ah}:Fw.Sel (d0::d1::d2::d3::d4::d5::d6::d7::d8::c::l) c (d0::d1::d2::d3::d4::d5::d6::d7::d8::l):=.t (.t (.t (.t (.t (.t (.t (.t (.t .h))))))))
theorem _root_.Go.Fw.Sel.q11{c d0 d1 d2 d3 d4 d5 d6 d7 d8 d9 FY:ah}{l:List ah}:Fw.Sel (d0::d1::d2::d3::d4::d5::d6::d7::d8::d9::FY::c::l) c (d0::d1::d2::d3::d4::d5::d6::d7::d8::d9::FY::l):=.t (.t (.t (.t (.t (.t (.t (.t (.t (.t (.t .h))))))))))
def xK:List Int->Nat->(List Int)->Option ((List Int))
 |[],lX,jy=>some jy
 |x34::qZ,lX,jy=>(jI (decide (0<=(lX:Int))&&decide ((lX:Int)<(jy.length:Int)))).bind fun u46=>
   (some (jy.set ((lX:Int)).toNat x34)).bind fun z48=>
   xK qZ (lX+1) z48
def yg(bg:List Int):Option ((List Int)):=
 (wU (bg.length:Int) (0:Int)).bind fun z1=>
 xK bg 0 z1
theorem GM{bg:List Int}{ae:Sv}{R:(List Int)}(hF:yg bg=some R):
   Fw.Spec Tryz.prog 8 [ae.v] [aC ae bg] (fun p:Sv×List Nat=>p.1.v) (fun p=>[bT p.2 p.1 R]):=by
 refine Se 22 Tryz.func8 [.tmp 2] ?_
 intro H0 F0
 unfold yg at hF
 refine bB ?_
 refine bnd hF fun z1 hx2 hF=>?_
 have QO:=NL hx2
 refine fF rfl (T9 (g:=true) (c:=(bg.length:Int)) eP.h dX.h rfl rfl (by decide) (.tmp rfl rfl) QO.2.1 QO.2.2) (fun k4=>?_)
 refine fK (.cons .h .nil) (Va (Ro:=(aR aX)) (E:=3) (a:=(0:Int)) hx2 (fun _=>⟨rfl,rfl⟩)) ?_
 refine bB ?_
 refine bH (bX (m:=bg.length) (fun QP f' cs'=>∃(g:Fr)(lX:Nat)(qZ jy:List Int)(Ka:List Nat),QP=qZ.length/\f'=aH g [(0,ae.v),(3,(.slice (some ⟨k4,0,none⟩) (bg.length:Int).toNat 1)),(4,(zi (lX:Int)))]/\List.drop lX bg=qZ/\aF cs' [aC ae bg,bS (bM 3 (aR aX)) Ka (.slice (some ⟨k4,0,none⟩) (bg.length:Int).toNat 1) jy]/\xK qZ lX jy=some R) ⟨_,0,_,_,[k4],rfl,aK,rfl,aJ,hF⟩ ?_)
 rintro QP _ _ ⟨g31,lX,qZ,jy,Ka,rfl,rfl,PT,hE,hF⟩
 refine Kb hE bg (fun acK=>?_)
 rcases qZ with _|⟨x34,qZ⟩
 · have II:=dn PT
   rw[xK]at hF
   refine bZ ?_
   refine dL ?_
   refine f_ ?_
   cases hF
   exact Er (⟨(some ⟨k4,0,none⟩),(bg.length:Int).toNat,1⟩,Ka)
 obtain⟨II,BD,hd38⟩:=dE PT
 rw[xK]at hF
 refine bZ ?_
 refine dK ?_
 refine bZ ?_
 refine Ai BD (fun sK QQ=>?_)
 refine Al dw ?_
 refine bnd hF fun u46 kQ hF=>?_
 have PU:=lH kQ
 refine uH eP.h dX.h.sz (.tmp rfl rfl) (.tmp rfl rfl) .q2 PU (fun k43 Z_=>?_)
 refine bnd hF fun z48 lS hF=>?_
 replace lS:=Option.some.inj lS
 refine cB (.cons .q2 .nil) (U9 (Ro:=(aR aX)) (a:=x34) (i:=(lX:Int)) dX.h.sz rfl (.tmp rfl rfl) (.tmp rfl rfl) Z_ PU (fq (fun _=>rfl)) (fun _ _ _ _ h=>by obtain⟨-,h⟩:=h; cases h; rfl)) (fun F50=>?_)
 rw[lS]
 refine bB ?_
 rw[wk lX]
 exact⟨_,cO _,_,lX+1,qZ,_,F50,rfl,aK,hd38,aJ,hF⟩
def dN(dC:Int)(mg:Int)(nP:Int):Option (Bool):=
 some ((decide ((mg:Int)<=dC))&&(decide ((dC:Int)<=nP)))
theorem eU{dC mg nP:Int}{R:Bool}(hF:dN dC mg nP=some R):
   Fw.Spec Tryz.prog 25 [(zi dC),(zi mg),(zi nP)] [] (fun _:Unit=>(.bool R)) (fun _=>[]):=by
 refine Se 15 Tryz.func25 [.tmp 6] ?_
 intro H0 F0
 unfold dN at hF
 refine aB ?_
 refine bW (fun f' cs'=>∃(g:Fr),f'=aH g [(6,(.bool ((decide ((mg:Int)<=dC))&&(decide ((dC:Int)<=nP)))))]/\aF cs' []) ?_ ?_
 · refine aB ?_
   rcases bf (decide ((mg:Int)<=dC))with hg1|hg1
   · rw[hg1]
     try rw[hg1]at hF; dsimp only[ak,aj]at hF
     refine f_ ?_
     exact⟨_,aK,aJ⟩
   rw[hg1]
   try rw[hg1]at hF; dsimp only[ak,aj]at hF
   refine bB ?_
   exact⟨_,aK,aJ⟩
 rintro _ _ ⟨g2,rfl,hE⟩
 refine bn hE ?_
 exact ze hF
def zW(nQ:Int):Option ((List UInt8)):=
 (dN nQ 1 6).bind fun r1=>
 if (!r1)then (
   some [])
 else (
   (ix ([[109,101,116,104,111,100],[114,117,108,101],[97,100,100],[100,114,111,112],[119,97,105,116],[97,115,107]]:List (List UInt8)) (IntKind.i64.wrap (nQ-1))).bind fun x8=>
   some x8)
theorem Tg{nQ:Int}{R:(List UInt8)}(hF:zW nQ=some R):
   Fw.Spec Tryz.prog 28 [(zi nQ)] [] (fun _:Unit=>(sv R)) (fun _=>[]):=by
 refine Se 11 Tryz.func28 [.tmp 2] ?_
 intro H0 F0
 unfold zW at hF
 refine bB ?_
 refine bnd hF fun r1 hx2 hF=>az (eU hx2) (fun _=>?_)
 refine aG ?_
 refine Ci hF (fun aaa hF=>?_) (fun aaa hF=>?_)
 · exact ze hF
 refine aG ?_
 refine fF rfl (eD (g:=true) gD.h gY.h (.cons (.sv _) (.cons (.sv _) (.cons (.sv _) (.cons (.sv _) (.cons (.sv _) (.cons (.sv _) .nil)))))) (vs:=[(sv [109,101,116,104,111,100]),(sv [114,117,108,101]),(sv [97,100,100]),(sv [100,114,111,112]),(sv [119,97,105,116]),(sv [97,115,107])]) rfl rfl rfl (by intro v hv; simp at hv; rcases hv with rfl|rfl|rfl|rfl|rfl|rfl<;>rfl)) (fun k4=>?_)
 refine fK (.cons .h .nil) (eH (Ro:=(aR rdStr)) (E:=9) (F:=([]++([]++([]++([]++([]++([]++[]))))))) (xs:=([[109,101,116,104,111,100],[114,117,108,101],[97,100,100],[100,114,111,112],[119,97,105,116],[97,115,107]]:List (List UInt8))) (dM (fq (fun _=>rfl)) (dM (fq (fun _=>rfl)) (dM (fq (fun _=>rfl)) (dM (fq (fun _=>rfl)) (dM (fq (fun _=>rfl)) (dM (fq (fun _=>rfl)) eG bU) bU) bU) bU) bU) bU) rfl rfl) ?_
 refine aG ?_
 refine bnd hF fun x8 bO hF=>?_
 have hi7:=ww bO
 obtain⟨IJ,lT⟩:=nK bO
 refine uH gD.h gY.h.sz (.tmp rfl rfl) (.tmp rfl rfl) .h hi7 (fun k5 hk6=>?_)
 refine wC (w:=(sv x8)) wX.h (.tmp rfl rfl) .h hk6 lT EI ?_
 exact ze hF
def um(aa:List UInt8)(jo:UInt8):Nat->(List (List UInt8))->(List UInt8)->Int->Option ((List (List UInt8)))
 |0,_,_,_=>none
 |m7+1,c2,c5,c6=>if (decide ((c6:Int)<(aa.length:Int)))then (
     ((ix aa c6).bind fun wY=>
       if (((wY.toNat:Int):Int)==(jo.toNat:Int))then (
         (app c2 ([c5]:List (List UInt8))).bind fun z22=>
         some (z22,[]))
       else (
         (jI (decide (0<=c6)&&decide (c6<=(IntKind.i64.wrap (c6+1)))&&decide ((IntKind.i64.wrap (c6+1))<=((aa).length:Int)))).bind fun u26=>
         (aP c5 ((aa.take ((IntKind.i64.wrap (c6+1))).toNat).drop (c6).toNat)).bind fun x28=>
         some (c2,x28))).bind fun wZ=>
     match wZ with
     |(CS,CU)=>um aa jo m7 CS CU (IntKind.i64.wrap (c6+1)))
   else (
     (app c2 ([c5]:List (List UInt8))).bind fun z39=>
     some z39)
def pg(aa:List UInt8)(jo:UInt8):Option ((List (List UInt8))):=
 um aa jo (((aa.length:Int)-0).toNat+2) ([]:List (List UInt8)) [] 0
theorem vQ{aa:List UInt8}{jo:UInt8}{R:(List (List UInt8))}(hF:pg aa jo=some R):
   Fw.Spec Tryz.prog 33 [(sv aa),(.int .u8 (jo.toNat:Int))] [] (fun p:Sv×List Nat=>p.1.v) (fun p=>[sJ p.2 p.1 R]):=by
 refine Se 35 Tryz.func33 [.tmp 4] ?_
 intro H0 F0
 unfold pg at hF
 refine aB ?_
 refine fF rfl (eD (g:=true) gD.h gY.h .nil (vs:=[]) rfl rfl rfl (by simp)) (fun k1=>?_)
 refine fK (.cons .h .nil) (eH (Ro:=(aR rdStr)) (E:=9) (F:=[]) (xs:=([]:List (List UInt8))) eG rfl rfl) ?_
 refine f_ ?_
 refine bH (bX (m:=(((aa.length:Int)-0).toNat+2)) (fun m7 f' cs'=>∃(g:Fr)(c2:List (List UInt8))(c5:List UInt8)(c6:Int)(v3:Sv)(F4:List Nat),f'=aH g [(0,(sv aa)),(1,(.int .u8 (jo.toNat:Int))),(5,v3.v),(6,(sv c5)),(7,(zi c6))]/\aF cs' [sJ F4 v3 c2]/\um aa jo m7 c2 c5 c6=some R) ⟨_,_,_,_,⟨(some ⟨k1,0,none⟩),0,1⟩,(k1::[]),aK,aJ,hF⟩ ?_)
 rintro m7 _ _ ⟨g8,c2,c5,c6,v3,F4,rfl,hE,hF⟩
 refine bn hE ?_
 rcases m7 with _|m7
 · rw[um]at hF
   exact absurd hF (by simp)
 rw[um]at hF
 refine aB ?_
 refine ai (g_ (s:=aa) dz (.tmp rfl rfl)) ?_
 refine aG ?_
 refine Ci hF (fun IL hF=>?_) (fun IL hF=>?_)
 · refine au ?_
   obtain⟨wZ,Ig,IM⟩:=bind_some hF
   refine ll (fun f' cs'=>∃(CS:List (List UInt8))(CU:List UInt8)(v34:Sv)(Kc:List Nat)(g:Fr),wZ=(CS,CU)/\f'=aH g [(0,(sv aa)),(1,(.int .u8 (jo.toNat:Int))),(5,v34.v),(6,(sv CU)),(7,(zi c6))]/\aF cs' [sJ Kc v34 CS]) ?_ ?_
   · replace hF:=Ig
     refine bH (eF (Cm (sv aa) rfl rfl ?_))
     refine au ?_
     refine zI hF fun wY BF iF hF=>?_
     refine ai (qI (u:=wY) dz (.tmp rfl rfl) (.tmp rfl rfl) BF iF) ?_
     refine ax ?_
     refine Ci hF (fun wI hF=>?_) (fun wI hF=>?_)
     · refine ax ?_
       refine fF rfl (eD (g:=true) gD.h gY.h bI (vs:=[(sv c5)]) rfl rfl rfl (by intro v hv; simp at hv; rcases hv with rfl<;>rfl)) (fun k21=>?_)
       refine fK (.cons .h .nil) (eH (Ro:=(aR rdStr)) (E:=9) (F:=([]++[])) (xs:=([c5]:List (List UInt8))) (dM (fq (fun _=>rfl)) eG bU) rfl rfl) ?_
       refine bnd hF fun z22 jq hF=>cB (.cons (.t .h) (.cons .h .nil)) (iP (Ro:=(aR rdStr)) gD.h BA gY.h rfl rfl rfl (.tmp rfl rfl) (.tmp rfl rfl) jq iQ) (fun FZ=>?_)
       refine aD ?_
       cases hF
       exact⟨_,_,FZ.1,FZ.2,_,rfl,aK,aJ⟩
     refine bB ?_
     refine bnd hF fun u26 hx27 hF=>?_
     have hc25:=lH hx27
     simp only[Bool.and_eq_true,decide_eq_true_eq]at hc25
     refine ai (NE (s:=aa) (i:=c6) (j:=(IntKind.i64.wrap (c6+1))) dz (.tmp rfl rfl) (.tmp rfl rfl) (.tmp rfl rfl) hc25.1.1 hc25.1.2 hc25.2) ?_
     refine bnd hF fun x28 hx29 hF=>?_
     obtain⟨adM,adN⟩:=bq hx29
     refine ai (bu (s:=c5) (t:=((aa.take ((IntKind.i64.wrap (c6+1))).toNat).drop (c6).toNat)) (u:=x28) (.tmp rfl rfl) (.tmp rfl rfl) hx29) ?_
     refine aG ?_
     cases hF
     exact⟨_,_,v3,F4,_,rfl,aK,aJ⟩
   rintro _ _ ⟨CS,CU,v34,Kc,g37,rfl,rfl,hE⟩
   replace hF:=IM
   try dsimp only at hF
   refine bn hE ?_
   refine aD ?_
   exact⟨m7,cO _,_,_,_,_,v34,Kc,aK,aJ,hF⟩
 refine bZ ?_
 refine fF rfl (eD (g:=true) gD.h gY.h bI (vs:=[(sv c5)]) rfl rfl rfl (by intro v hv; simp at hv; rcases hv with rfl<;>rfl)) (fun k38=>?_)
 refine fK (.cons .h .nil) (eH (Ro:=(aR rdStr)) (E:=9) (F:=([]++[])) (xs:=([c5]:List (List UInt8))) (dM (fq (fun _=>rfl)) eG bU) rfl rfl) ?_
 refine bnd hF fun z39 lu hF=>cB (.cons (.t .h) (.cons .h .nil)) (iP (Ro:=(aR rdStr)) gD.h BA gY.h rfl rfl rfl (.tmp rfl rfl) (.tmp rfl rfl) lu iQ) (fun p41=>?_)
 refine ax ?_
 cases hF
 exact Er (p41.1,p41.2)
def oQ:Nat->Int->(List UInt8)->Option ((List UInt8))
 |0,_,_=>none
 |m5+1,c3,c4=>if ((c3:Int)!=0)then (
     if (decide (((Int.tmod c3 10):Int)<0))then (
       (aP [(lN (IntKind.i64.wrap (48+(IntKind.i64.wrap (-(Int.tmod c3 10))))))] c4).bind fun Ke=>
       oQ m5 (IntKind.i64.wrap (Int.tdiv c3 10)) Ke)
     else (
       (aP [(lN (IntKind.i64.wrap (48+(Int.tmod c3 10))))] c4).bind fun kU=>
       oQ m5 (IntKind.i64.wrap (Int.tdiv c3 10)) kU))
   else (
     some c4)
def fM(fuel:Nat)(cu:Int):Option ((List UInt8)):=
 if ((cu:Int)==0)then (
   some [48])
 else (
   (oQ fuel cu []).bind fun o1=>
   match o1 with
   |w9=>if (decide ((cu:Int)<0))then (
       (aP [45] w9).bind fun lY=>
       some lY)
     else (
       some w9))
theorem jM{fuel:Nat}{cu:Int}{R:(List UInt8)}(hF:fM fuel cu=some R):
   Fw.Spec Tryz.prog 45 [(zi cu)] [] (fun _:Unit=>(sv R)) (fun _=>[]):=by
 refine Se 31 Tryz.func45 [.tmp 2] ?_
 intro H0 F0
 unfold fM at hF
 refine dB ?_
 refine Ci hF (fun wI hF=>?_) (fun wI hF=>?_)
 · exact ze hF
 refine f_ ?_
 obtain⟨o1,kg,hO2⟩:=bind_some hF
 refine ll (fun f' cs'=>∃(w9:List UInt8)(g:Fr),w9=o1/\f'=aH g [(3,(sv w9)),(4,(.bool (decide ((cu:Int)<0))))]/\aF cs' []) ?_ ?_
 · replace hF:=kg
   refine bH (bX (m:=fuel) (fun m5 f' cs'=>∃(g:Fr)(c3:Int)(c4:List UInt8),f'=aH g [(0,(zi c3)),(3,(sv c4)),(4,(.bool (decide ((cu:Int)<0))))]/\aF cs' []/\oQ m5 c3 c4=some o1) ⟨_,_,_,aK,aJ,hF⟩ ?_)
   rintro m5 _ _ ⟨g6,c3,c4,rfl,hE,hF⟩
   refine bn hE ?_
   rcases m5 with _|m5
   · rw[oQ]at hF
     exact absurd hF (by simp)
   rw[oQ]at hF
   refine aD ?_
   refine Ci hF (fun IP hF=>?_) (fun IP hF=>?_)
   · refine au ?_
     refine bH (eF (Cm (zi c3) rfl rfl ?_))
     refine ai (WE (i:=c3) (j:=10) (.tmp rfl rfl) (.int _ _) (by decide)) ?_
     refine bZ ?_
     refine Ci hF (fun IQ hF=>?_) (fun IQ hF=>?_)
     · refine aG ?_
       refine ai (Po (i:=(Int.tmod c3 10)) (.tmp rfl rfl)) ?_
       refine aD ?_
       refine ai (NN (i:=(IntKind.i64.wrap (48+(IntKind.i64.wrap (-(Int.tmod c3 10)))))) J_ CR (.tmp rfl rfl)) ?_
       refine fF rfl (eD (g:=true) EJ.h FX.h bI (vs:=[(.int .u8 ((lN (IntKind.i64.wrap (48+(IntKind.i64.wrap (-(Int.tmod c3 10)))))).toNat:Int))]) rfl rfl rfl (by intro v hv; simp at hv; rcases hv with rfl<;>rfl)) (fun k13=>?_)
       refine fK (.cons .h .nil) (eH (Ro:=(aR uM)) (E:=5) (F:=([]++[])) (xs:=([(lN (IntKind.i64.wrap (48+(IntKind.i64.wrap (-(Int.tmod c3 10))))))]:List UInt8)) (dM (fq (fun _=>rfl)) eG bU) rfl rfl) ?_
       refine jl .h (fun hp=>NS (u:=(lN (IntKind.i64.wrap (48+(IntKind.i64.wrap (-(Int.tmod c3 10))))))) EJ.h CR PM FX.h.sz (.tmp rfl rfl) hp) ?_
       refine au ?_
       refine bnd hF fun Ke jO hF=>?_
       obtain⟨adO,adP⟩:=bq jO
       refine ai (bu (s:=[(lN (IntKind.i64.wrap (48+(IntKind.i64.wrap (-(Int.tmod c3 10))))))]) (t:=c4) (u:=Ke) (.tmp rfl rfl) (.tmp rfl rfl) jO) ?_
       refine aB ?_
       refine ai (Pf (i:=c3) (j:=10) (.tmp rfl rfl) (.int _ _) (by decide)) ?_
       refine aG ?_
       exact⟨m5,cO _,_,_,_,aK,aJ,hF⟩
     refine aB ?_
     refine ai (NN (i:=(IntKind.i64.wrap (48+(Int.tmod c3 10)))) J_ CR (.tmp rfl rfl)) ?_
     refine fF rfl (eD (g:=true) EJ.h FX.h bI (vs:=[(.int .u8 ((lN (IntKind.i64.wrap (48+(Int.tmod c3 10)))).toNat:Int))]) rfl rfl rfl (by intro v hv; simp at hv; rcases hv with rfl<;>rfl)) (fun k18=>?_)
     refine fK (.cons .h .nil) (eH (Ro:=(aR uM)) (E:=5) (F:=([]++[])) (xs:=([(lN (IntKind.i64.wrap (48+(Int.tmod c3 10))))]:List UInt8)) (dM (fq (fun _=>rfl)) eG bU) rfl rfl) ?_
     refine jl .h (fun hp=>NS (u:=(lN (IntKind.i64.wrap (48+(Int.tmod c3 10))))) EJ.h CR PM FX.h.sz (.tmp rfl rfl) hp) ?_
     refine au ?_
     refine bnd hF fun kU iF hF=>?_
     obtain⟨PV,PW⟩:=bq iF
     refine ai (bu (s:=[(lN (IntKind.i64.wrap (48+(Int.tmod c3 10))))]) (t:=c4) (u:=kU) (.tmp rfl rfl) (.tmp rfl rfl) iF) ?_
     refine aB ?_
     refine ai (Pf (i:=c3) (j:=10) (.tmp rfl rfl) (.int _ _) (by decide)) ?_
     refine aG ?_
     exact⟨m5,cO _,_,_,_,aK,aJ,hF⟩
   exact aO hF
 rintro _ _ ⟨w9,g31,rfl,rfl,hE⟩
 replace hF:=hO2
 try dsimp only at hF
 refine bn hE ?_
 refine aB ?_
 refine Ci hF (fun aab hF=>?_) (fun aab hF=>?_)
 · refine aG ?_
   refine bnd hF fun lY hx27 hF=>?_
   obtain⟨aac,aad⟩:=bq hx27
   refine ai (bu (s:=[45]) (t:=w9) (u:=lY) (.sv _) (.tmp rfl rfl) hx27) ?_
   exact ze hF
 exact ze hF
def oU(aa:List UInt8)(fuel:Nat):Nat->Int->Int->Int->Option (Int×Bool)
 |0,_,_,_=>none
 |m4+1,c1,c2,c3=>if ((decide ((c3:Int)<(aa.length:Int)))&&(decide ((c3:Int)<11)))then (
     (((ix aa c3).bind fun F3=>
         bif (decide ((48:Int)<=(F3.toNat:Int)))then ((ix aa c3).bind fun u23=>
           some (decide (((u23.toNat:Int):Int)<=57)))
         else (some false)).bind fun o16=>
       match o16 with
       |jy=>if jy then (
           (ix aa c3).bind fun u28=>
           some ((IntKind.i64.wrap ((IntKind.i64.wrap (c1*10))+(IntKind.i64.wrap (IntKind.u8.wrap ((u28.toNat:Int)-48))))),(IntKind.i64.wrap (c2+1))))
         else (
           some (c1,c2))).bind fun ky=>
     match ky with
     |(c34,CV)=>oU aa fuel m4 c34 CV (IntKind.i64.wrap (c3+1)))
   else (
     (bif (decide ((0:Int)<(aa.length:Int)))then ((ix aa 0).bind fun u40=>
         some (((u40.toNat:Int):Int)==45))
       else (some false)).bind fun Kg=>
     match Kg with
     |uZ=>if uZ then (
         (bif (decide ((9:Int)<c2))then (some true)
           else (bif (decide ((10:Int)<(aa.length:Int)))then (some true)
             else ((fM fuel (IntKind.i64.wrap (-c1))).bind fun kz=>
               some (!(kz==aa))))).bind fun Kh=>
         match Kh with
         |kC=>if kC then (
             some (0,false))
           else (
             some ((IntKind.i64.wrap (-c1)),true)))
       else (
         (bif (decide ((9:Int)<c2))then (some true)
           else (bif (decide ((10:Int)<(aa.length:Int)))then (some true)
             else ((fM fuel c1).bind fun u6=>
               some (!(u6==aa))))).bind fun Ki=>
         match Ki with
         |jK=>if jK then (
             some (0,false))
           else (
             some (c1,true))))
def o7(fuel:Nat)(aa:List UInt8):Option (Int×Bool):=
 oU aa fuel (((aa.length:Int)-0).toNat+2) 0 0 0
theorem GH{fuel:Nat}{aa:List UInt8}{R:Int×Bool}(hF:o7 fuel aa=some R):
   Fw.Spec Tryz.prog 24 [(sv aa)] [] (fun _:Unit=>(.tuple [(zi R.1),(.bool R.2)].toArray)) (fun _=>[]):=by
 refine Se 61 Tryz.func24 [.tmp 2,.tmp 3] ?_
 intro H0 F0
 unfold o7 at hF
 refine Ps ?_
 refine bH (bX (m:=(((aa.length:Int)-0).toNat+2)) (fun m4 f' cs'=>∃(g:Fr)(c1 c2 c3:Int),f'=aH g [(0,(sv aa)),(4,(zi c1)),(5,(zi c2)),(6,(zi c3))]/\aF cs' []/\oU aa fuel m4 c1 c2 c3=some R) ⟨_,_,_,_,aK,aJ,hF⟩ ?_)
 rintro m4 _ _ ⟨g5,c1,c2,c3,rfl,hE,hF⟩
 refine bn hE ?_
 rcases m4 with _|m4
 · rw[oU]at hF
   exact absurd hF (by simp)
 rw[oU]at hF
 refine aG ?_
 refine bW (fun f' cs'=>∃(g:Fr),f'=aH g [(0,(sv aa)),(4,(zi c1)),(5,(zi c2)),(6,(zi c3)),(14,(.bool ((decide ((c3:Int)<(aa.length:Int)))&&(decide ((c3:Int)<11)))))]/\aF cs' []) ?_ ?_
 · refine aG ?_
   refine ai (g_ (s:=aa) dz (.tmp rfl rfl)) ?_
   refine aG ?_
   rcases bf (decide ((c3:Int)<(aa.length:Int)))with gF|gF
   · rw[gF]
     try rw[gF]at hF; dsimp only[ak,aj]at hF
     refine bB ?_
     exact⟨_,aK,aJ⟩
   rw[gF]
   try rw[gF]at hF; dsimp only[ak,aj]at hF
   refine aB ?_
   exact⟨_,aK,aJ⟩
 rintro _ _ ⟨g13,rfl,hE⟩
 refine bn hE ?_
 refine Ci hF (fun aae hF=>?_) (fun aae hF=>?_)
 · refine au ?_
   obtain⟨ky,wD,wJ⟩:=bind_some hF
   refine ll (fun f' cs'=>∃(c34 CV:Int)(g:Fr),ky=(c34,CV)/\f'=aH g [(0,(sv aa)),(4,(zi c34)),(5,(zi CV)),(6,(zi c3))]/\aF cs' []) ?_ ?_
   · replace hF:=wD
     refine bH ?_
     obtain⟨o16,XO,aaf⟩:=bind_some hF
     refine au ?_
     refine bW (fun f' cs'=>∃(jy:Bool)(g:Fr),jy=o16/\f'=aH g [(0,(sv aa)),(4,(zi c1)),(5,(zi c2)),(6,(zi c3)),(26,(.bool jy))]/\aF cs' []) ?_ ?_
     · replace hF:=XO
       refine aG ?_
       refine zI hF fun F3 IR lw hF=>?_
       refine ai (qI (u:=F3) dz (.tmp rfl rfl) (.tmp rfl rfl) IR lw) ?_
       refine aG ?_
       rcases bf (decide ((48:Int)<=(F3.toNat:Int)))with ko|ko
       · rw[ko]
         try rw[ko]at hF; dsimp only[ak,aj]at hF
         refine aD ?_
         refine zI hF fun u23 PX mi hF=>?_
         refine ai (qI (u:=u23) dz (.tmp rfl rfl) (.tmp rfl rfl) PX mi) ?_
         exact aO hF
       rw[ko]
       try rw[ko]at hF; dsimp only[ak,aj]at hF
       exact aO hF
     rintro _ _ ⟨jy,g33,rfl,rfl,hE⟩
     replace hF:=aaf
     try dsimp only at hF
     refine bn hE ?_
     refine Ci hF (fun wI hF=>?_) (fun wI hF=>?_)
     · refine aD ?_
       refine zI hF fun u28 aag hx31 hF=>?_
       refine ai (qI (u:=u28) dz (.tmp rfl rfl) (.tmp rfl rfl) aag hx31) ?_
       refine au ?_
       refine ai (Nw (i:=(IntKind.u8.wrap ((u28.toNat:Int)-48))) CR J_ (.tmp rfl rfl)) ?_
       exact EZ hF
     exact EZ hF
   rintro _ _ ⟨c34,CV,g36,rfl,rfl,hE⟩
   replace hF:=wJ
   try dsimp only at hF
   refine bn hE ?_
   refine aD ?_
   exact⟨m4,cO _,_,_,_,_,aK,aJ,hF⟩
 refine aD ?_
 obtain⟨Kg,XP,aah⟩:=bind_some hF
 refine au ?_
 refine bW (fun f' cs'=>∃(uZ:Bool)(g:Fr),uZ=Kg/\f'=aH g [(0,(sv aa)),(4,(zi c1)),(5,(zi c2)),(44,(.bool uZ))]/\aF cs' []) ?_ ?_
 · replace hF:=XP
   refine au ?_
   refine ai (g_ (s:=aa) dz (.tmp rfl rfl)) ?_
   refine aG ?_
   rcases bf (decide ((0:Int)<(aa.length:Int)))with BG|BG
   · rw[BG]
     try rw[BG]at hF; dsimp only[ak,aj]at hF
     refine ax ?_
     refine zI hF fun u40 IU iG hF=>?_
     refine ai (qI (u:=u40) dz (.tmp rfl rfl) (.int _ _) IU iG) ?_
     exact aO hF
   rw[BG]
   try rw[BG]at hF; dsimp only[ak,aj]at hF
   exact aO hF
 rintro _ _ ⟨uZ,g66,rfl,rfl,hE⟩
 replace hF:=aah
 try dsimp only at hF
 refine bn hE ?_
 refine Ci hF (fun BH hF=>?_) (fun BH hF=>?_)
 · refine aG ?_
   refine ai (Po (i:=c1) (.tmp rfl rfl)) ?_
   refine ax ?_
   obtain⟨Kh,XQ,aai⟩:=bind_some hF
   refine au ?_
   refine bW (fun f' cs'=>∃(kC:Bool)(g:Fr),kC=Kh/\f'=aH g [(4,(zi (IntKind.i64.wrap (-c1)))),(59,(.bool kC))]/\aF cs' []) ?_ ?_
   · replace hF:=XQ
     refine ax ?_
     rcases bf (decide ((9:Int)<c2))with og|og
     · rw[og]
       try rw[og]at hF; dsimp only[ak,aj]at hF
       exact aO hF
     rw[og]
     try rw[og]at hF; dsimp only[ak,aj]at hF
     refine ax ?_
     refine ai (g_ (s:=aa) dz (.tmp rfl rfl)) ?_
     refine aB ?_
     rcases bf (decide ((10:Int)<(aa.length:Int)))with BI|BI
     · rw[BI]
       try rw[BI]at hF; dsimp only[ak,aj]at hF
       exact aO hF
     rw[BI]
     try rw[BI]at hF; dsimp only[ak,aj]at hF
     refine ax ?_
     refine bnd hF fun kz yQ hF=>az (jM yQ) (fun _=>?_)
     refine ax ?_
     refine ai (ji (s:=kz) (t:=aa) (.tmp rfl rfl) (.tmp rfl rfl)) ?_
     exact aO hF
   rintro _ _ ⟨kC,QR,rfl,rfl,hE⟩
   replace hF:=aai
   try dsimp only at hF
   refine bn hE ?_
   refine Ci hF (fun BJ hF=>?_) (fun BJ hF=>?_)
   · exact ze hF
   exact ze hF
 refine aG ?_
 obtain⟨Ki,XR,aaj⟩:=bind_some hF
 refine au ?_
 refine bW (fun f' cs'=>∃(jK:Bool)(g:Fr),jK=Ki/\f'=aH g [(4,(zi c1)),(59,(.bool jK))]/\aF cs' []) ?_ ?_
 · replace hF:=XR
   refine ax ?_
   rcases bf (decide ((9:Int)<c2))with BK|BK
   · rw[BK]
     try rw[BK]at hF; dsimp only[ak,aj]at hF
     exact aO hF
   rw[BK]
   try rw[BK]at hF; dsimp only[ak,aj]at hF
   refine ax ?_
   refine ai (g_ (s:=aa) dz (.tmp rfl rfl)) ?_
   refine aB ?_
   rcases bf (decide ((10:Int)<(aa.length:Int)))with BL|BL
   · rw[BL]
     try rw[BL]at hF; dsimp only[ak,aj]at hF
     exact aO hF
   rw[BL]
   try rw[BL]at hF; dsimp only[ak,aj]at hF
   refine ax ?_
   refine bnd hF fun u6 yR hF=>az (jM yR) (fun _=>?_)
   refine ax ?_
   refine ai (ji (s:=u6) (t:=aa) (.tmp rfl rfl) (.tmp rfl rfl)) ?_
   exact aO hF
 rintro _ _ ⟨jK,g64,rfl,rfl,hE⟩
 replace hF:=aaj
 try dsimp only at hF
 refine bn hE ?_
 refine Ci hF (fun wK hF=>?_) (fun wK hF=>?_)
 · exact ze hF
 exact ze hF
def j4(fuel:Nat)(aa:List UInt8):Option (Int):=
 (o7 fuel aa).bind fun r1=>
 if (!r1.2)then (
   some (-100000))
 else (
   some r1.1)
theorem qF{fuel:Nat}{aa:List UInt8}{R:Int}(hF:j4 fuel aa=some R):
   Fw.Spec Tryz.prog 37 [(sv aa)] [] (fun _:Unit=>(zi R)) (fun _=>[]):=by
 refine Se 13 Tryz.func37 [.tmp 2] ?_
 intro H0 F0
 unfold j4 at hF
 refine aD ?_
 refine bnd hF fun r1 hx2 hF=>az (GH hx2) (fun _=>?_)
 refine au ?_
 refine zx ?_
 refine zx ?_
 refine dB ?_
 refine Ci hF (fun hb4 hF=>?_) (fun hb4 hF=>?_)
 · exact ze hF
 exact ze hF
def nM(fuel:Nat)(nR:List UInt8):Option (Int):=
 (bif (decide (((nR.length:Int):Int)<2))then (some true)
   else ((ix nR 0).bind fun u4=>
     some (((u4.toNat:Int):Int)!=114))).bind fun o1=>
 match o1 with
 |c8=>if c8 then (
     some (-1))
   else (
     (jI (decide (0<=(1:Int))&&decide ((1:Int)<=((nR).length:Int)))).bind fun Kk=>
     (j4 fuel (nR.drop ((1:Int)).toNat)).bind fun bR=>
     some bR)
theorem Ac{fuel:Nat}{nR:List UInt8}{R:Int}(hF:nM fuel nR=some R):
   Fw.Spec Tryz.prog 36 [(sv nR)] [] (fun _:Unit=>(zi R)) (fun _=>[]):=by
 refine Se 14 Tryz.func36 [.tmp 2] ?_
 intro H0 F0
 unfold nM at hF
 refine aB ?_
 obtain⟨o1,kg,hO2⟩:=bind_some hF
 refine au ?_
 refine bW (fun f' cs'=>∃(c8:Bool)(g:Fr),c8=o1/\f'=aH g [(0,(sv nR)),(10,(.bool c8))]/\aF cs' []) ?_ ?_
 · replace hF:=kg
   refine au ?_
   refine ai (g_ (s:=nR) dz (.tmp rfl rfl)) ?_
   refine aG ?_
   rcases bf (decide (((nR.length:Int):Int)<2))with hg3|hg3
   · rw[hg3]
     try rw[hg3]at hF; dsimp only[ak,aj]at hF
     exact aO hF
   rw[hg3]
   try rw[hg3]at hF; dsimp only[ak,aj]at hF
   refine ax ?_
   refine zI hF fun u4 Kl hx7 hF=>?_
   refine ai (qI (u:=u4) dz (.tmp rfl rfl) (.int _ _) Kl hx7) ?_
   exact aO hF
 rintro _ _ ⟨c8,g16,rfl,rfl,hE⟩
 replace hF:=hO2
 try dsimp only at hF
 refine bn hE ?_
 refine Ci hF (fun wL hF=>?_) (fun wL hF=>?_)
 · exact ze hF
 refine ax ?_
 refine bnd hF fun Kk lT hF=>?_
 have w_:=lH lT
 simp only[Bool.and_eq_true,decide_eq_true_eq]at w_
 refine ai (xV (s:=nR) (i:=(1:Int)) dz (.tmp rfl rfl) (.int _ _) w_.1 w_.2) ?_
 refine bnd hF fun bR eB hF=>az (qF eB) (fun _=>?_)
 exact ze hF
def vI(aa:List Int):List Int->Nat->Option (Bool)
 |[],k4=>(dN (aa.length:Int) 1 3).bind fun jU=>
   some jU
 |x6::aM,k4=>(dN x6 1 3).bind fun fU=>
   if (!fU)then (
     some false)
   else (
     vI aa aM (k4+1))
def qG(aa:List Int):Option (Bool):=
 vI aa aa 0
theorem zJ{aa:List Int}{ae:Sv}{R:Bool}(hF:qG aa=some R):
   Fw.Spec Tryz.prog 69 [ae.v] [aC ae aa] (fun _:Unit=>(.bool R)) (fun _=>[]):=by
 refine Se 19 Tryz.func69 [.tmp 2] ?_
 intro H0 F0
 unfold qG at hF
 refine bZ ?_
 refine bH (bX (m:=aa.length) (fun m2 f' cs'=>∃(g:Fr)(k4:Nat)(aM:List Int),m2=aM.length/\f'=aH g [(0,ae.v),(3,(zi (k4:Int)))]/\List.drop k4 aa=aM/\aF cs' [aC ae aa]/\vI aa aM k4=some R) ⟨_,0,_,rfl,aK,rfl,aJ,hF⟩ ?_)
 rintro m2 _ _ ⟨g3,k4,aM,rfl,rfl,hd7,hE,hF⟩
 refine Kb hE aa (fun mQ=>?_)
 rcases aM with _|⟨x6,aM⟩
 · have gZ:=dn hd7
   rw[vI]at hF
   refine bZ ?_
   refine dL ?_
   refine bZ ?_
   refine bnd hF fun jU jG hF=>az (eU jG) (fun _=>?_)
   exact ze hF
 obtain⟨gZ,bO,iA⟩:=dE hd7
 rw[vI]at hF
 refine bZ ?_
 refine dK ?_
 refine aD ?_
 refine Ai bO (fun k16 F6=>?_)
 refine Al dw ?_
 refine bnd hF fun fU lU hF=>az (eU lU) (fun _=>?_)
 refine aG ?_
 refine Ci hF (fun BM hF=>?_) (fun BM hF=>?_)
 · exact ze hF
 refine bB ?_
 rw[wk k4]
 exact⟨_,cO _,_,k4+1,aM,rfl,aK,iA,aJ,hF⟩
def qA(aa:List Int)(aL:Method):List Int->Nat->Option (Bool)
 |[],k27=>some true
 |x29::q8,k27=>((ix aa aL.Rel).bind fun x40=>
     (dN x29 0 (IntKind.i64.wrap (x40-1))).bind fun y9=>
     bif (!y9)then (some true)
     else (bif (decide ((0:Int)<(k27:Int)))then ((ix aL.Inputs (IntKind.i64.wrap ((k27:Int)-1))).bind fun qb=>
         some (decide ((x29:Int)<=qb)))
       else (some false))).bind fun Km=>
   match Km with
   |c59=>if c59 then (
       some false)
     else (
       qA aa aL q8 (k27+1))
def xQ(aa:List Int)(aL:Method):Option (Bool):=
 ((qG aa).bind fun r4=>
   bif (!r4)then (some true)
   else ((dN aL.Rel 0 (IntKind.i64.wrap ((aa.length:Int)-1))).bind fun r8=>
     bif (!r8)then (some true)
     else ((dN aL.Limit 0 9).bind fun bR=>
       bif (!bR)then (some true)
       else ((dN aL.Cost 0 99).bind fun r16=>
         bif (!r16)then (some true)
         else ((dN aL.Quota 1 99).bind fun gU=>
           some (!gU)))))).bind fun o2=>
 match o2 with
 |c23=>if c23 then (
     some false)
   else (
     qA aa aL aL.Inputs 0)
theorem Mt{aa:List Int}{ae:Sv}{aL:Method}{dS:Sv}{R:Bool}(hF:xQ aa aL=some R):
   Fw.Spec Tryz.prog 38 [ae.v,(zg [(zi aL.Rel),dS.v,(zi aL.Limit),(zi aL.Cost),(zi aL.Quota)])] [aC ae aa,aC dS aL.Inputs] (fun _:Unit=>(.bool R)) (fun _=>[]):=by
 refine Se 74 Tryz.func38 [.tmp 4] ?_
 intro H0 F0
 unfold xQ at hF
 refine au ?_
 refine fC (fun k1=>?_)
 refine ax ?_
 obtain⟨o2,fH,hO3⟩:=bind_some hF
 refine au ?_
 refine bW (fun f' cs'=>∃(c23:Bool)(g:Fr),c23=o2/\f'=aH g [(0,ae.v),(3,(pz k1)),(35,(.bool c23))]/\aF cs' [aC ae aa,cz k1 43 (zg [(zi aL.Rel),dS.v,(zi aL.Limit),(zi aL.Cost),(zi aL.Quota)]),aC dS aL.Inputs]) ?_ ?_
 · replace hF:=fH
   refine au ?_
   refine bnd hF fun r4 hx5 hF=>az (zJ hx5) (fun _=>?_)
   refine aG ?_
   rcases bf (!r4)with aZ|aZ
   · rw[aZ]
     try rw[aZ]at hF; dsimp only[ak,aj]at hF
     exact aO hF
   rw[aZ]
   try rw[aZ]at hF; dsimp only[ak,aj]at hF
   refine Bc ?_
   refine bnd hF fun r8 bO hF=>az (eU bO) (fun _=>?_)
   refine aB ?_
   rcases bf (!r8)with bN|bN
   · rw[bN]
     try rw[bN]at hF; dsimp only[ak,aj]at hF
     exact aO hF
   rw[bN]
   try rw[bN]at hF; dsimp only[ak,aj]at hF
   refine aD ?_
   refine bnd hF fun bR eB hF=>az (eU eB) (fun _=>?_)
   refine aB ?_
   rcases bf (!bR)with gG|gG
   · rw[gG]
     try rw[gG]at hF; dsimp only[ak,aj]at hF
     exact aO hF
   rw[gG]
   try rw[gG]at hF; dsimp only[ak,aj]at hF
   refine aD ?_
   refine bnd hF fun r16 iJ hF=>az (eU iJ) (fun _=>?_)
   refine aB ?_
   rcases bf (!r16)with BN|BN
   · rw[BN]
     try rw[BN]at hF; dsimp only[ak,aj]at hF
     exact aO hF
   rw[BN]
   try rw[BN]at hF; dsimp only[ak,aj]at hF
   refine aD ?_
   refine bnd hF fun gU lw hF=>az (eU lw) (fun _=>?_)
   exact aO hF
 rintro _ _ ⟨c23,g64,rfl,rfl,hE⟩
 replace hF:=hO3
 try dsimp only at hF
 refine bn hE ?_
 refine Ci hF (fun wK hF=>?_) (fun wK hF=>?_)
 · exact ze hF
 refine aD ?_
 refine bH (bX (m:=aL.Inputs.length) (fun QS f' cs'=>∃(g:Fr)(k27:Nat)(q8:List Int),QS=q8.length/\f'=aH g [(0,ae.v),(3,(pz k1)),(5,(zi (k27:Int)))]/\List.drop k27 aL.Inputs=q8/\aF cs' [aC ae aa,cz k1 43 (zg [(zi aL.Rel),dS.v,(zi aL.Limit),(zi aL.Cost),(zi aL.Quota)]),aC dS aL.Inputs]/\qA aa aL q8 k27=some R) ⟨_,0,_,rfl,aK,rfl,aJ,hF⟩ ?_)
 rintro QS _ _ ⟨g26,k27,q8,rfl,rfl,PY,hE,hF⟩
 refine Kb hE aL.Inputs (fun acL=>?_)
 rcases q8 with _|⟨x29,q8⟩
 · have hk31:=dn PY
   rw[qA]at hF
   refine dB ?_
   refine dL ?_
   exact ze hF
 obtain⟨hk31,hx32,aak⟩:=dE PY
 rw[qA]at hF
 refine dB ?_
 refine dK ?_
 refine aG ?_
 obtain⟨Km,XT,aal⟩:=bind_some hF
 refine gN [0,1,2,3,4,5,6,7,8,9,10,11,12,13,14,15,16,17,18,19,20,21,22,23,24,25,26,27,28,29,30] [0,1,0,7,15,0,0,64,224,480,992,2047,4095,8191,16383,32767,65535,131071,262143,131071,1048575,2097151,131071,4325375,131071,16908287,63045631,130154495,268435455,536870911,1073741823] [11] mixed (by decide+kernel) ?_
 refine pG (fun f' cs'=>∃(c59:Bool)(g:Fr),c59=Km/\f'=aH g [(0,ae.v),(3,(pz k1)),(5,(zi (k27:Int))),(73,(.bool c59))]/\aF cs' [aC ae aa,cz k1 43 (zg [(zi aL.Rel),dS.v,(zi aL.Limit),(zi aL.Cost),(zi aL.Quota)]),aC dS aL.Inputs]) ?_ ?_
 · replace hF:=XT
   refine iy ?_
   refine Di hx32 (fun k38 j39=>?_)
   refine Dl dw ?_
   refine iy ?_
   refine zI hF fun x40 IU iG hF=>?_
   refine Di iG (fun k44 j45=>?_)
   refine Dl dw ?_
   refine du ?_
   refine bnd hF fun y9 kQ hF=>di (eU kQ) (fun _=>?_)
   refine fT ?_
   rcases bf (!y9)with oh|oh
   · rw[oh]
     try rw[oh]at hF; dsimp only[ak,aj]at hF
     exact gm hF
   rw[oh]
   try rw[oh]at hF; dsimp only[ak,aj]at hF
   refine iy ?_
   rcases bf (decide ((0:Int)<(k27:Int)))with BO|BO
   · rw[BO]
     try rw[BO]at hF; dsimp only[ak,aj]at hF
     refine iy ?_
     refine Di hx32 (fun k51 j52=>?_)
     refine Dl dw ?_
     refine rW ?_
     refine zI hF fun qb adQ aam hF=>?_
     refine Di aam (fun k57 j58=>?_)
     refine Dl dw ?_
     exact gm hF
   rw[BO]
   try rw[BO]at hF; dsimp only[ak,aj]at hF
   exact gm hF
 rintro _ _ ⟨c59,g62,rfl,rfl,hE⟩
 replace hF:=aal
 try dsimp only at hF
 refine bn hE ?_
 refine Ci hF (fun BP hF=>?_) (fun BP hF=>?_)
 · exact ze hF
 refine bB ?_
 rw[wk k27]
 exact⟨_,cO _,_,k27+1,q8,rfl,aK,aak,aJ,hF⟩
def qD(fuel:Nat):List Int->Nat->(List UInt8)->Option ((List UInt8))
 |[],k5,c1=>some c1
 |x7::gy,k5,c1=>(if (decide ((0:Int)<(k5:Int)))then (
       (aP c1 [44]).bind fun dQ=>
       (fM fuel x7).bind fun gV=>
       (aP dQ gV).bind fun x25=>
       some x25)
     else (
       (fM fuel x7).bind fun iM=>
       (aP c1 iM).bind fun x34=>
       some x34)).bind fun ky=>
   match ky with
   |kD=>qD fuel gy (k5+1) kD
def vV(fuel:Nat)(a_:List Int):Option ((List UInt8)):=
 qD fuel a_ 0 []
theorem GN{fuel:Nat}{a_:List Int}{ae:Sv}{R:(List UInt8)}(hF:vV fuel a_=some R):
   Fw.Spec Tryz.prog 70 [ae.v] [aC ae a_] (fun _:Unit=>(sv R)) (fun _=>[]):=by
 refine Se 23 Tryz.func70 [.tmp 2] ?_
 intro H0 F0
 unfold vV at hF
 refine j6 ?_
 refine bH (bX (m:=a_.length) (fun m3 f' cs'=>∃(g:Fr)(k5:Nat)(gy:List Int)(c1:List UInt8),m3=gy.length/\f'=aH g [(0,ae.v),(3,(sv c1)),(4,(zi (k5:Int)))]/\List.drop k5 a_=gy/\aF cs' [aC ae a_]/\qD fuel gy k5 c1=some R) ⟨_,0,_,_,rfl,aK,rfl,aJ,hF⟩ ?_)
 rintro m3 _ _ ⟨g4,k5,gy,c1,rfl,rfl,u7,hE,hF⟩
 refine Kb hE a_ (fun Pt=>?_)
 rcases gy with _|⟨x7,gy⟩
 · have CX:=dn u7
   rw[qD]at hF
   refine bZ ?_
   refine dL ?_
   exact ze hF
 obtain⟨CX,jr,jv⟩:=dE u7
 rw[qD]at hF
 refine bZ ?_
 refine dK ?_
 refine au ?_
 obtain⟨ky,wD,wJ⟩:=bind_some hF
 refine ll (fun f' cs'=>∃(kD:List UInt8)(g:Fr),kD=ky/\f'=aH g [(0,ae.v),(3,(sv kD)),(4,(zi (k5:Int)))]/\aF cs' [aC ae a_]) ?_ ?_
 · replace hF:=wD
   refine bH (j_ (eF (Cm (zi (k5:Int)) rfl rfl ?_)))
   refine aG ?_
   refine Ci hF (fun mo hF=>?_) (fun mo hF=>?_)
   · refine aG ?_
     refine bnd hF fun dQ iJ hF=>?_
     obtain⟨PZ,P5⟩:=bq iJ
     refine ai (bu (s:=c1) (t:=[44]) (u:=dQ) (.tmp rfl rfl) (.sv _) iJ) ?_
     refine bB ?_
     refine Ai jr (fun k20 F8=>?_)
     refine Al dw ?_
     refine bnd hF fun gV jq hF=>az (jM jq) (fun _=>?_)
     refine bnd hF fun x25 mi hF=>?_
     obtain⟨aan,aao⟩:=bq mi
     refine ai (bu (s:=dQ) (t:=gV) (u:=x25) (.tmp rfl rfl) (.tmp rfl rfl) mi) ?_
     exact aO hF
   refine aD ?_
   refine Ai jr (fun u_ j30=>?_)
   refine Al dw ?_
   refine bnd hF fun iM hx32 hF=>az (jM hx32) (fun _=>?_)
   refine bnd hF fun x34 kR hF=>?_
   obtain⟨E5,E8⟩:=bq kR
   refine ai (bu (s:=c1) (t:=iM) (u:=x34) (.tmp rfl rfl) (.tmp rfl rfl) kR) ?_
   exact aO hF
 rintro _ _ ⟨kD,Kn,rfl,rfl,hE⟩
 replace hF:=wJ
 try dsimp only at hF
 refine bn hE ?_
 refine aD ?_
 rw[wk k5]
 exact⟨_,cO _,_,k5+1,gy,_,rfl,aK,jv,aJ,hF⟩
def qw(aL:Method)(fuel:Nat):List Int->Nat->Option ((List UInt8))
 |[],k23=>if (decide ((0:Int)<(aL.Inputs.length:Int)))then (
     (vV fuel aL.Inputs).bind fun r32=>
     (fM fuel aL.Rel).bind fun jV=>
     (aP [114] jV).bind fun x38=>
     (aP x38 [32,105,110,32]).bind fun iB=>
     (aP iB r32).bind fun lZ=>
     (aP lZ [32,108,105,109,105,116,32]).bind fun xc=>
     (fM fuel aL.Limit).bind fun qc=>
     (aP xc qc).bind fun F9=>
     (aP F9 [32,99,111,115,116,32]).bind fun F_=>
     (fM fuel aL.Cost).bind fun Ko=>
     (aP F_ Ko).bind fun Ga=>
     (aP Ga [32,113,117,111,116,97,32]).bind fun xe=>
     (fM fuel aL.Quota).bind fun oH=>
     (aP xe oH).bind fun Kq=>
     some Kq)
   else (
     (fM fuel aL.Rel).bind fun Kr=>
     (aP [114] Kr).bind fun x86=>
     (aP x86 [32,105,110,32]).bind fun x90=>
     (aP x90 [102,114,101,101]).bind fun Gb=>
     (aP Gb [32,108,105,109,105,116,32]).bind fun x98=>
     (fM fuel aL.Limit).bind fun IV=>
     (aP x98 IV).bind fun x105=>
     (aP x105 [32,99,111,115,116,32]).bind fun E9=>
     (fM fuel aL.Cost).bind fun ol=>
     (aP E9 ol).bind fun rX=>
     (aP rX [32,113,117,111,116,97,32]).bind fun mX=>
     (fM fuel aL.Quota).bind fun IW=>
     (aP mX IW).bind fun IX=>
     some IX)
 |x25::ru,k23=>((dN x25 0 2).bind fun IY=>
     bif (!IY)then (some true)
     else (bif (decide ((0:Int)<(k23:Int)))then ((ix aL.Inputs (IntKind.i64.wrap ((k23:Int)-1))).bind fun P6=>
         some (decide ((x25:Int)<=P6)))
       else (some false))).bind fun IZ=>
   match IZ with
   |BQ=>if BQ then (
       some [])
     else (
       qw aL fuel ru (k23+1))
def xA(fuel:Nat)(aL:Method):Option ((List UInt8)):=
 ((dN aL.Rel 0 2).bind fun r4=>
   bif (!r4)then (some true)
   else ((dN aL.Limit 0 9).bind fun r8=>
     bif (!r8)then (some true)
     else ((dN aL.Cost 0 99).bind fun bR=>
       bif (!bR)then (some true)
       else ((dN aL.Quota 1 99).bind fun r16=>
         some (!r16))))).bind fun o2=>
 match o2 with
 |c19=>if c19 then (
     some [])
   else (
     qw aL fuel aL.Inputs 0)
theorem Lt{fuel:Nat}{aL:Method}{bA:Sv}{R:(List UInt8)}(hF:xA fuel aL=some R):
   Fw.Spec Tryz.prog 39 [(zg [(zi aL.Rel),bA.v,(zi aL.Limit),(zi aL.Cost),(zi aL.Quota)])] [aC bA aL.Inputs] (fun _:Unit=>(sv R)) (fun _=>[]):=by
 refine Se 88 Tryz.func39 [.tmp 2] ?_
 intro H0 F0
 unfold xA at hF
 refine au ?_
 refine fC (fun k1=>?_)
 refine ax ?_
 obtain⟨o2,fH,hO3⟩:=bind_some hF
 refine au ?_
 refine bW (fun f' cs'=>∃(c19:Bool)(g:Fr),c19=o2/\f'=aH g [(1,(pz k1)),(26,(.bool c19))]/\aF cs' [cz k1 43 (zg [(zi aL.Rel),bA.v,(zi aL.Limit),(zi aL.Cost),(zi aL.Quota)]),aC bA aL.Inputs]) ?_ ?_
 · replace hF:=fH
   refine aG ?_
   refine bnd hF fun r4 hx5 hF=>az (eU hx5) (fun _=>?_)
   refine aG ?_
   rcases bf (!r4)with aZ|aZ
   · rw[aZ]
     try rw[aZ]at hF; dsimp only[ak,aj]at hF
     exact aO hF
   rw[aZ]
   try rw[aZ]at hF; dsimp only[ak,aj]at hF
   refine aD ?_
   refine bnd hF fun r8 bO hF=>az (eU bO) (fun _=>?_)
   refine aB ?_
   rcases bf (!r8)with bN|bN
   · rw[bN]
     try rw[bN]at hF; dsimp only[ak,aj]at hF
     exact aO hF
   rw[bN]
   try rw[bN]at hF; dsimp only[ak,aj]at hF
   refine aD ?_
   refine bnd hF fun bR eB hF=>az (eU eB) (fun _=>?_)
   refine aB ?_
   rcases bf (!bR)with gG|gG
   · rw[gG]
     try rw[gG]at hF; dsimp only[ak,aj]at hF
     exact aO hF
   rw[gG]
   try rw[gG]at hF; dsimp only[ak,aj]at hF
   refine aD ?_
   refine bnd hF fun r16 iJ hF=>az (eU iJ) (fun _=>?_)
   exact aO hF
 rintro _ _ ⟨c19,adR,rfl,rfl,hE⟩
 replace hF:=hO3
 try dsimp only at hF
 refine bn hE ?_
 refine Ci hF (fun XU hF=>?_) (fun XU hF=>?_)
 · exact ze hF
 refine aD ?_
 refine bH (bX (m:=aL.Inputs.length) (fun m21 f' cs'=>∃(g:Fr)(k23:Nat)(ru:List Int),m21=ru.length/\f'=aH g [(1,(pz k1)),(3,(zi (k23:Int)))]/\List.drop k23 aL.Inputs=ru/\aF cs' [cz k1 43 (zg [(zi aL.Rel),bA.v,(zi aL.Limit),(zi aL.Cost),(zi aL.Quota)]),aC bA aL.Inputs]/\qw aL fuel ru k23=some R) ⟨_,0,_,rfl,aK,rfl,aJ,hF⟩ ?_)
 rintro m21 _ _ ⟨g22,k23,ru,rfl,rfl,E_,hE,hF⟩
 refine Kb hE aL.Inputs (fun acM=>?_)
 rcases ru with _|⟨x25,ru⟩
 · have aap:=dn E_
   rw[qw]at hF
   refine dB ?_
   refine dL ?_
   refine Ps ?_
   refine Ci hF (fun XV hF=>?_) (fun XV hF=>?_)
   · refine ax ?_
     refine bnd hF fun r32 rY hF=>az (GN rY) (fun _=>?_)
     refine aG ?_
     refine gN [0,1,5,8,9,13,14,18,19,2,3,4,6,7,10,11,12,15,16,17,20,21,22] [0,1,3,7,15,0,63,127,0,256,775,2047,4095,0,8192,26375,65535,131071,0,262144,845575,2097151,4194303] [2,10,15,20] mixed (by decide+kernel) ?_
     refine EY ?_
     refine bnd hF fun jV lC hF=>di (jM lC) (fun _=>?_)
     refine bnd hF fun x38 hx39 hF=>?_
     obtain⟨I1,I4⟩:=bq hx39
     refine bi rfl .no (fun ha=>bu (s:=[114]) (t:=jV) (u:=x38) (EN ha (.sv _) rfl) (EN ha (.tmp rfl rfl) rfl) hx39) ?_
     refine bnd hF fun iB iG hF=>?_
     obtain⟨Fe,Ff⟩:=bq iG
     refine bi rfl .no (fun ha=>bu (s:=x38) (t:=[32,105,110,32]) (u:=iB) (EN ha (.tmp rfl rfl) rfl) (EN ha (.sv _) rfl) iG) ?_
     refine bnd hF fun lZ kQ hF=>?_
     obtain⟨P7,P8⟩:=bq kQ
     refine bi rfl .no (fun ha=>bu (s:=iB) (t:=r32) (u:=lZ) (EN ha (.tmp rfl rfl) rfl) (EN ha (.tmp rfl rfl) rfl) kQ) ?_
     refine bnd hF fun xc mY hF=>?_
     obtain⟨adS,adT⟩:=bq mY
     refine bi rfl .no (fun ha=>bu (s:=lZ) (t:=[32,108,105,109,105,116,32]) (u:=xc) (EN ha (.tmp rfl rfl) rfl) (EN ha (.sv _) rfl) mY) ?_
     refine bnd hF fun qc wM hF=>di (jM wM) (fun _=>?_)
     refine bnd hF fun F9 yS hF=>?_
     obtain⟨adU,adV⟩:=bq yS
     refine bi rfl .no (fun ha=>bu (s:=xc) (t:=qc) (u:=F9) (EN ha (.tmp rfl rfl) rfl) (EN ha (.tmp rfl rfl) rfl) yS) ?_
     refine bnd hF fun F_ Fg hF=>?_
     obtain⟨adW,adX⟩:=bq Fg
     refine bi rfl .no (fun ha=>bu (s:=F9) (t:=[32,99,111,115,116,32]) (u:=F_) (EN ha (.tmp rfl rfl) rfl) (EN ha (.sv _) rfl) Fg) ?_
     refine bnd hF fun Ko I5 hF=>di (jM I5) (fun _=>?_)
     refine bnd hF fun Ga yT hF=>?_
     obtain⟨adY,adZ⟩:=bq yT
     refine bi rfl .no (fun ha=>bu (s:=F_) (t:=Ko) (u:=Ga) (EN ha (.tmp rfl rfl) rfl) (EN ha (.tmp rfl rfl) rfl) yT) ?_
     refine bnd hF fun xe Fh hF=>?_
     obtain⟨ad1,ad2⟩:=bq Fh
     refine bi rfl .no (fun ha=>bu (s:=Ga) (t:=[32,113,117,111,116,97,32]) (u:=xe) (EN ha (.tmp rfl rfl) rfl) (EN ha (.sv _) rfl) Fh) ?_
     refine bnd hF fun oH I6 hF=>di (jM I6) (fun _=>?_)
     refine bnd hF fun Kq P9 hF=>?_
     obtain⟨ad3,ad4⟩:=bq P9
     refine bi rfl .no (fun ha=>bu (s:=xe) (t:=oH) (u:=Kq) (EN ha (.tmp rfl rfl) rfl) (EN ha (.tmp rfl rfl) rfl) P9) ?_
     refine fT ?_
     exact ze hF
   refine au ?_
   refine gN [0,1,5,8,9,13,14,18,19,2,3,4,6,7,10,11,12,15,16,17,20,21,22] [0,1,3,7,15,0,63,127,0,256,775,2047,4095,0,8192,26375,65535,131071,0,262144,845575,2097151,4194303] [2,10,15,20] mixed (by decide+kernel) ?_
   refine EY ?_
   refine bnd hF fun Kr aaq hF=>di (jM aaq) (fun _=>?_)
   refine bnd hF fun x86 Fp hF=>?_
   obtain⟨ad5,ad6⟩:=bq Fp
   refine bi rfl .no (fun ha=>bu (s:=[114]) (t:=Kr) (u:=x86) (EN ha (.sv _) rfl) (EN ha (.tmp rfl rfl) rfl) Fp) ?_
   refine bnd hF fun x90 hx91 hF=>?_
   obtain⟨ad7,hz92⟩:=bq hx91
   refine bi rfl .no (fun ha=>bu (s:=x86) (t:=[32,105,110,32]) (u:=x90) (EN ha (.tmp rfl rfl) rfl) (EN ha (.sv _) rfl) hx91) ?_
   refine bnd hF fun Gb hx95 hF=>?_
   obtain⟨ad8,ad9⟩:=bq hx95
   refine bi rfl .no (fun ha=>bu (s:=x90) (t:=[102,114,101,101]) (u:=Gb) (EN ha (.tmp rfl rfl) rfl) (EN ha (.tmp rfl rfl) rfl) hx95) ?_
   refine bnd hF fun x98 hx99 hF=>?_
   obtain⟨acN,acO⟩:=bq hx99
   refine bi rfl .no (fun ha=>bu (s:=Gb) (t:=[32,108,105,109,105,116,32]) (u:=x98) (EN ha (.tmp rfl rfl) rfl) (EN ha (.sv _) rfl) hx99) ?_
   refine bnd hF fun IV XW hF=>di (jM XW) (fun _=>?_)
   refine bnd hF fun x105 EL hF=>?_
   obtain⟨acP,acQ⟩:=bq EL
   refine bi rfl .no (fun ha=>bu (s:=x98) (t:=IV) (u:=x105) (EN ha (.tmp rfl rfl) rfl) (EN ha (.tmp rfl rfl) rfl) EL) ?_
   refine bnd hF fun E9 EM hF=>?_
   obtain⟨acR,acS⟩:=bq EM
   refine bi rfl .no (fun ha=>bu (s:=x105) (t:=[32,99,111,115,116,32]) (u:=E9) (EN ha (.tmp rfl rfl) rfl) (EN ha (.sv _) rfl) EM) ?_
   refine bnd hF fun ol hx114 hF=>di (jM hx114) (fun _=>?_)
   refine bnd hF fun rX Bd hF=>?_
   obtain⟨XX,XY⟩:=bq Bd
   refine bi rfl .no (fun ha=>bu (s:=E9) (t:=ol) (u:=rX) (EN ha (.tmp rfl rfl) rfl) (EN ha (.tmp rfl rfl) rfl) Bd) ?_
   refine bnd hF fun mX wE hF=>?_
   obtain⟨XZ,X0⟩:=bq wE
   refine bi rfl .no (fun ha=>bu (s:=rX) (t:=[32,113,117,111,116,97,32]) (u:=mX) (EN ha (.tmp rfl rfl) rfl) (EN ha (.sv _) rfl) wE) ?_
   refine bnd hF fun IW EO hF=>di (jM EO) (fun _=>?_)
   refine bnd hF fun IX hx128 hF=>?_
   obtain⟨acT,acU⟩:=bq hx128
   refine bi rfl .no (fun ha=>bu (s:=mX) (t:=IW) (u:=IX) (EN ha (.tmp rfl rfl) rfl) (EN ha (.tmp rfl rfl) rfl) hx128) ?_
   refine fT ?_
   exact ze hF
 obtain⟨aap,hx28,hd29⟩:=dE E_
 rw[qw]at hF
 refine dB ?_
 refine dK ?_
 refine aG ?_
 obtain⟨IZ,Ws,X3⟩:=bind_some hF
 refine gN [0,1,2,3,4,5,6,7,8,9,10,11,12,13,14,15,16,17,18,19,20,21,22,23,24] [0,1,0,7,15,31,63,127,255,511,1023,2047,4095,2047,16383,32767,2047,67583,2047,264191,985087,2033663,4194303,8388607,16777215] [5] mixed (by decide+kernel) ?_
 refine pG (fun f' cs'=>∃(BQ:Bool)(g:Fr),BQ=IZ/\f'=aH g [(1,(pz k1)),(3,(zi (k23:Int))),(58,(.bool BQ))]/\aF cs' [cz k1 43 (zg [(zi aL.Rel),bA.v,(zi aL.Limit),(zi aL.Cost),(zi aL.Quota)]),aC bA aL.Inputs]) ?_ ?_
 · replace hF:=Ws
   refine iy ?_
   refine Di hx28 (fun ad_ ad'=>?_)
   refine Dl dw ?_
   refine bnd hF fun IY X4 hF=>di (eU X4) (fun _=>?_)
   refine fT ?_
   rcases bf (!IY)with Be|Be
   · rw[Be]
     try rw[Be]at hF; dsimp only[ak,aj]at hF
     exact gm hF
   rw[Be]
   try rw[Be]at hF; dsimp only[ak,aj]at hF
   refine iy ?_
   rcases bf (decide ((0:Int)<(k23:Int)))with Bf|Bf
   · rw[Bf]
     try rw[Bf]at hF; dsimp only[ak,aj]at hF
     refine iy ?_
     refine Di hx28 (fun aea aeb=>?_)
     refine Dl dw ?_
     refine rW ?_
     refine zI hF fun P6 acV Ih hF=>?_
     refine Di Ih (fun aec aed=>?_)
     refine Dl dw ?_
     exact gm hF
   rw[Bf]
   try rw[Bf]at hF; dsimp only[ak,aj]at hF
   exact gm hF
 rintro _ _ ⟨BQ,aee,rfl,rfl,hE⟩
 replace hF:=X3
 try dsimp only at hF
 refine bn hE ?_
 refine Ci hF (fun X5 hF=>?_) (fun X5 hF=>?_)
 · exact ze hF
 refine bB ?_
 rw[wk k23]
 exact⟨_,cO _,_,k23+1,ru,rfl,aK,hd29,aJ,hF⟩
def qx(aa:List Int)(aN:List UInt8)(fuel:Nat)(fI:Int)(gI:Int)(ic:Int)(eT:Int):List (List UInt8)->Nat->(List Int)->Option (Method×Bool)
 |[],rZ,jP=>((xQ aa (⟨fI,jP,gI,ic,eT⟩:Method)).bind fun I7=>
     bif (!I7)then (some true)
     else ((xA fuel (⟨fI,jP,gI,ic,eT⟩:Method)).bind fun I8=>
       some (!(I8==aN)))).bind fun I9=>
   match I9 with
   |BR=>if BR then (
       some ((⟨0,[],0,0,0⟩:Method),false))
     else (
       some ((⟨fI,jP,gI,ic,eT⟩:Method),true))
 |mX::qM,rZ,jP=>(j4 fuel mX).bind fun Fq=>
   (app jP ([Fq]:List Int)).bind fun z145=>
   qx aa aN fuel fI gI ic eT qM (rZ+1) z145
def zK(fuel:Nat)(aa:List Int)(aN:List UInt8):Option (Method×Bool):=
 (pg aN (32:UInt8)).bind fun r2=>
 if (((r2.length:Int):Int)!=9)then (
   some ((⟨0,[],0,0,0⟩:Method),false))
 else (
   (ix r2 0).bind fun x5=>
   (ix r2 4).bind fun ig=>
   (ix r2 6).bind fun mZ=>
   (ix r2 8).bind fun jW=>
   (nM fuel x5).bind fun fI=>
   (j4 fuel ig).bind fun gI=>
   (j4 fuel mZ).bind fun ic=>
   (j4 fuel jW).bind fun eT=>
   (ix r2 2).bind fun iB=>
   if (!(iB==[102,114,101,101]))then (
     (ix r2 2).bind fun sM=>
     (pg sM (44:UInt8)).bind fun qc=>
     qx aa aN fuel fI gI ic eT qc 0 ([]:List Int))
   else (
     ((xQ aa (⟨fI,[],gI,ic,eT⟩:Method)).bind fun I_=>
       bif (!I_)then (some true)
       else ((xA fuel (⟨fI,[],gI,ic,eT⟩:Method)).bind fun Ja=>
         some (!(Ja==aN)))).bind fun Jb=>
     match Jb with
     |BS=>if BS then (
         some ((⟨0,[],0,0,0⟩:Method),false))
       else (
         some ((⟨fI,[],gI,ic,eT⟩:Method),true))))
theorem Si{fuel:Nat}{aa:List Int}{ae:Sv}{aN:List UInt8}{R:Method×Bool}(hF:zK fuel aa aN=some R):
   Fw.Spec Tryz.prog 21 [ae.v,(sv aN)] [aC ae aa] (fun p:Sv×List Nat=>(.tuple [(zg [(zi R.1.Rel),p.1.v,(zi R.1.Limit),(zi R.1.Cost),(zi R.1.Quota)]),(.bool R.2)].toArray)) (fun p=>[bT p.2 p.1 R.1.Inputs]):=by
 refine Se 69 Tryz.func21 [.cell 4 43,.tmp 5] ?_
 intro H0 F0
 unfold zK at hF
 refine au ?_
 refine fe (fun k1=>?_)
 refine aB ?_
 refine bnd hF fun r2 hx3 hF=>dI (vQ hx3) (fun p4=>?_)
 refine dB ?_
 refine Ci hF (fun X6 hF=>?_) (fun X6 hF=>?_)
 · refine au ?_
   refine ai (fA iT.h rfl (vs:=[]) .nil (cells:=[(zi 0),(.slice none 0 0),(zi 0),(zi 0),(zi 0)]) rfl) ?_
   refine As (zg [(zi 0),(.slice none 0 0),(zi 0),(zi 0),(zi 0)]) ?_
   refine ax ?_
   cases hF
   exact dF (⟨none,0,0⟩,[]) (.cellA rfl rfl .h rfl n_.h iT.h.sz rfl rfl (.tmp rfl rfl .nil)) rfl (.conv .nil (dP (Ro:=(aR aX)) (E:=3)) (.cons .nil) (.sel (.cons .h .nil)))
 refine au ?_
 refine nU .h df ?_
 refine gN [0,1,2,4,5,6,8,9,10,12,13,14,17,3,7,11,15,16,18] [0,1,3,7,0,16,48,127,0,256,768,2047,0,4096,12288,32767,65535,0,262143] [3,7,11,15,18] mixed (by decide+kernel) ?_
 refine du ?_
 refine zI hF fun x5 hp7 ik hF=>?_
 refine Di ik (fun k9 j10=>?_)
 refine Dl fB ?_
 refine du ?_
 refine zI hF fun ig aar jG hF=>?_
 refine Di jG (fun k15 j16=>?_)
 refine Dl fB ?_
 refine du ?_
 refine zI hF fun mZ BF iF hF=>?_
 refine Di iF (fun k21 j22=>?_)
 refine Dl fB ?_
 refine du ?_
 refine zI hF fun jW PX mi hF=>?_
 refine Di mi (fun k27 j28=>?_)
 refine Dl fB ?_
 refine rM rfl .no rfl (fun ha=>Aq (g:=true) iT.h rfl rfl) (fun u_=>?_)
 refine bnd hF fun fI hx31 hF=>mO rfl rfl .no .nil (.own .h (fun _ h=>h) .nil) (fun ha=>bY IG.h (.cons (EN ha (.tmp rfl rfl) rfl) .nil) (@Ac fuel x5 _ hx31)) (fun _=>?_)
 refine bnd hF fun gI hx34 hF=>mO rfl rfl .no .nil (.own .h (fun _ h=>h) .nil) (fun ha=>bY yN.h (.cons (EN ha (.tmp rfl rfl) rfl) .nil) (@qF fuel ig _ hx34)) (fun _=>?_)
 refine bnd hF fun ic BD hF=>mO rfl rfl .no .nil (.own .h (fun _ h=>h) .nil) (fun ha=>bY yN.h (.cons (EN ha (.tmp rfl rfl) rfl) .nil) (@qF fuel mZ _ BD)) (fun _=>?_)
 refine bnd hF fun eT lu hF=>mO rfl rfl .no .nil (.own .h (fun _ h=>h) .nil) (fun ha=>bY yN.h (.cons (EN ha (.tmp rfl rfl) rfl) .nil) (@qF fuel jW _ lu)) (fun _=>?_)
 refine bi rfl .no (fun ha=>fA iT.h rfl (vs:=[(zi fI),(zi gI),(zi ic),(zi eT)]) (.cons (EN ha (.tmp rfl rfl) rfl) (.cons (EN ha (.tmp rfl rfl) rfl) (.cons (EN ha (.tmp rfl rfl) rfl) (.cons (EN ha (.tmp rfl rfl) rfl) .nil)))) (cells:=[(zi fI),(.slice none 0 0),(zi gI),(zi ic),(zi eT)]) rfl) ?_
 refine iR rfl rfl .no (.cons .h .nil) (.dep rfl .nil) (fun ha=>j3 (e':=(zg [(zi fI),(.slice none 0 0),(zi gI),(zi ic),(zi eT)])) (v:=(zg [(zi fI),(.slice none 0 0),(zi gI),(zi ic),(zi eT)])) iT.h.sz (EN ha (.tmp rfl rfl) rfl) (EN ha (.tmp rfl rfl) rfl) rfl rfl rfl rfl rfl) (fun _=>?_)
 refine du ?_
 refine ax ?_
 refine zI hF fun iB aef Jc hF=>?_
 refine Ai Jc (fun qd Gc=>?_)
 refine Al fB ?_
 refine ai (ji (s:=iB) (t:=[102,114,101,101]) (.tmp rfl rfl) (.sv _)) ?_
 refine au ?_
 refine Ci hF (fun X7 hF=>?_) (fun X7 hF=>?_)
 · refine aG ?_
   refine zI hF fun sM aeg mY hF=>?_
   refine Ai mY (fun k52 j53=>?_)
   refine Al fB ?_
   refine bnd hF fun qc wM hF=>dI (vQ wM) (fun p56=>?_)
   refine aD ?_
   refine bH (nU .h df ?_)
   refine bX (m:=qc.length) (fun P_ f' cs'=>∃(g:Fr)(rZ:Nat)(qM:List (List UInt8))(jP:List Int)(pQ:Sv)(Fs:List Nat),P_=qM.length/\f'=aH g [(0,ae.v),(1,(sv aN)),(4,(pz k1)),(7,(pz u_)),(8,p56.1.v),(9,(zi (rZ:Int)))]/\List.drop rZ qc=qM/\aF cs' [aC ae aa,bQ k1 43 (zg [(zi 0),(.slice none 0 0),(zi 0),(zi 0),(zi 0)]),bQ u_ 43 (zg [(zi fI),pQ.v,(zi gI),(zi ic),(zi eT)]),bT Fs pQ jP,jd p56.1 qc]/\qx aa aN fuel fI gI ic eT qM rZ jP=some R) ⟨_,0,_,_,⟨none,0,0⟩,[],rfl,aK,rfl,(.conv .nil (dP (Ro:=(aR aX)) (E:=3)) (.cons .nil) aJ),hF⟩ ?_
   rintro P_ _ _ ⟨aeh,rZ,qM,jP,pQ,Fs,rfl,rfl,Pv,hE,hF⟩
   refine Kb hE qc (fun abX=>?_)
   rcases qM with _|⟨mX,qM⟩
   · have X8:=dn Pv
     rw[qx]at hF
     refine bZ ?_
     refine dL ?_
     refine aD ?_
     obtain⟨I9,Wu,X9⟩:=bind_some hF
     refine au ?_
     refine bW (fun f' cs'=>∃(BR:Bool)(g:Fr),BR=I9/\f'=aH g [(4,(pz k1)),(7,(pz u_)),(66,(.bool BR))]/\aF cs' [bQ k1 43 (zg [(zi 0),(.slice none 0 0),(zi 0),(zi 0),(zi 0)]),bQ u_ 43 (zg [(zi fI),pQ.v,(zi gI),(zi ic),(zi eT)]),bT Fs pQ jP]) ?_ ?_
     · replace hF:=Wu
       refine aG ?_
       refine bnd hF fun I7 X_ hF=>cB (.cons .q3 (.rd .h rfl .nil)) (gP df (fun _=>.nil) (nO (.rd (.t .h) rfl (.rd .h rfl .nil)) (bY ZM.h bI (@Mt aa ae (⟨fI,jP,gI,ic,eT⟩:Method) pQ _ X_)))) (fun _=>?_)
       refine aG ?_
       rcases bf (!I7)with Bg|Bg
       · rw[Bg]
         try rw[Bg]at hF; dsimp only[ak,aj]at hF
         exact aO hF
       rw[Bg]
       try rw[Bg]at hF; dsimp only[ak,aj]at hF
       refine ax ?_
       refine bnd hF fun I8 Ya hF=>cB (.cons .h .nil) (gP df (fun _=>.nil) (bY ZN.h bI (@Lt fuel (⟨fI,jP,gI,ic,eT⟩:Method) pQ _ Ya))) (fun _=>?_)
       refine ax ?_
       refine ai (ji (s:=I8) (t:=aN) (.tmp rfl rfl) (.tmp rfl rfl)) ?_
       exact aO hF
     rintro _ _ ⟨BR,aei,rfl,rfl,hE⟩
     replace hF:=X9
     try dsimp only at hF
     refine bn hE ?_
     refine Ci hF (fun Ii hF=>?_) (fun Ii hF=>?_)
     · refine au ?_
       refine ai (fA iT.h rfl (vs:=[]) .nil (cells:=[(zi 0),(.slice none 0 0),(zi 0),(zi 0),(zi 0)]) rfl) ?_
       refine As (zg [(zi 0),(.slice none 0 0),(zi 0),(zi 0),(zi 0)]) ?_
       refine ax ?_
       cases hF
       exact dF (⟨none,0,0⟩,[]) (.cellA rfl rfl .h rfl n_.h iT.h.sz rfl rfl (.tmp rfl rfl .nil)) rfl (.conv .nil (dP (Ro:=(aR aX)) (E:=3)) (.cons .nil) (.sel (.cons .h .nil)))
     refine ax ?_
     refine As (zg [(zi fI),pQ.v,(zi gI),(zi ic),(zi eT)]) ?_
     refine ax ?_
     cases hF
     exact dF (pQ,Fs) (.cellA rfl rfl .h rfl n_.h iT.h.sz rfl rfl (.tmp rfl rfl .nil)) rfl (.sel (.cons .q2 .nil))
   obtain⟨X8,Yb,Yc⟩:=dE Pv
   rw[qx]at hF
   refine bZ ?_
   refine dK ?_
   refine aG ?_
   refine uD [0,1,2,3,4,5,6,7,8,9,10] [0,1,0,0,12,28,60,124,255,511,1023] [6,8,10] mixed (by decide+kernel) ?_
   refine du ?_
   refine pF rfl .no .q2 (fun ha hp=>lI (v:=pQ.v) uP.h (EN ha (.tmp rfl rfl) rfl) hp.2 rfl rfl) ?_
   refine fT ?_
   refine Di Yb (fun aej aek=>?_)
   refine Dl fB ?_
   refine bnd hF fun Fq Yd hF=>mO rfl rfl .no .nil (.own .q3 (fun _ h=>h) .nil) (fun ha=>bY yN.h (.cons (EN ha (.tmp rfl rfl) rfl) .nil) (@qF fuel mX _ Yd)) (fun _=>?_)
   refine rM rfl .no rfl (fun ha=>eD (g:=true) (len:=1) (parts:=[(0,.tmp 53)]) eP.h dX.h (.cons (EN ha (.tmp rfl rfl) rfl) .nil) (vs:=[(zi Fq)]) rfl rfl rfl (by intro v hv; simp at hv; rcases hv with rfl<;>rfl)) (fun ael=>?_)
   refine CQ (.cons .h .nil) (eH (Ro:=(aR aX)) (E:=3) (F:=([]++[])) (xs:=([Fq]:List Int)) (dM (fq (fun _=>rfl)) eG bU) rfl rfl) ?_
   refine bnd hF fun z145 Ih hF=>iR rfl rfl .no (.cons .q5 (.cons .h .nil)) (.dep rfl (.dep rfl .nil)) (fun ha=>iP (Ro:=(aR aX)) eP.h mh dX.h rfl rfl rfl (EN ha (.tmp rfl rfl) rfl) (EN ha (.tmp rfl rfl) rfl) Ih iQ) (fun Jd=>?_)
   refine du ?_
   refine iR rfl rfl .no (.cons .q4 .nil) (.dep rfl (.dep rfl .nil)) (fun ha=>j3 (e':=(zg [(zi fI),Jd.1.v,(zi gI),(zi ic),(zi eT)])) BB.h.sz (EN ha (.tmp rfl rfl) rfl) (EN ha (.tmp rfl rfl) rfl) rfl rfl rfl rfl rfl) (fun _=>?_)
   refine du ?_
   refine aD ?_
   rw[wk rZ]
   exact⟨_,cO _,_,rZ+1,qM,_,Jd.1,Jd.2,rfl,aK,Yc,aJ,hF⟩
 refine aG ?_
 obtain⟨Jb,Wv,Ye⟩:=bind_some hF
 refine au ?_
 refine bW (fun f' cs'=>∃(BS:Bool)(g:Fr),BS=Jb/\f'=aH g [(4,(pz k1)),(7,(pz u_)),(66,(.bool BS))]/\aF cs' [bQ k1 43 (zg [(zi 0),(.slice none 0 0),(zi 0),(zi 0),(zi 0)]),bQ u_ 43 (zg [(zi fI),(.slice none 0 0),(zi gI),(zi ic),(zi eT)])]) ?_ ?_
 · replace hF:=Wv
   refine aG ?_
   refine fK .nil (yA (R:=aX) (E:=3)) ?_
   refine bnd hF fun I_ hx152 hF=>az (@Mt _ _ _ (⟨none,0,0⟩) _ hx152) (fun _=>?_)
   refine aG ?_
   rcases bf (!I_)with Bh|Bh
   · rw[Bh]
     try rw[Bh]at hF; dsimp only[ak,aj]at hF
     exact aO hF
   rw[Bh]
   try rw[Bh]at hF; dsimp only[ak,aj]at hF
   refine ax ?_
   refine bnd hF fun Ja Yf hF=>az (@Lt _ _ (⟨none,0,0⟩) _ Yf) (fun _=>?_)
   refine ax ?_
   refine ai (ji (s:=Ja) (t:=aN) (.tmp rfl rfl) (.tmp rfl rfl)) ?_
   exact aO hF
 rintro _ _ ⟨BS,aem,rfl,rfl,hE⟩
 replace hF:=Ye
 try dsimp only at hF
 refine bn hE ?_
 refine Ci hF (fun Yg hF=>?_) (fun Yg hF=>?_)
 · refine au ?_
   refine ai (fA iT.h rfl (vs:=[]) .nil (cells:=[(zi 0),(.slice none 0 0),(zi 0),(zi 0),(zi 0)]) rfl) ?_
   refine As (zg [(zi 0),(.slice none 0 0),(zi 0),(zi 0),(zi 0)]) ?_
   refine ax ?_
   cases hF
   exact dF (⟨none,0,0⟩,[]) (.cellA rfl rfl .h rfl n_.h iT.h.sz rfl rfl (.tmp rfl rfl .nil)) rfl (.conv .nil (dP (Ro:=(aR aX)) (E:=3)) (.cons .nil) (.sel (.cons .h .nil)))
 refine ax ?_
 refine As (zg [(zi fI),(.slice none 0 0),(zi gI),(zi ic),(zi eT)]) ?_
 refine ax ?_
 cases hF
 exact dF (⟨none,0,0⟩,[]) (.cellA rfl rfl .h rfl n_.h iT.h.sz rfl rfl (.tmp rfl rfl .nil)) rfl (.conv .nil (dP (Ro:=(aR aX)) (E:=3)) (.cons .nil) (.sel (.cons .h .nil)))
def ug(aa:List Int)(bE:eZ):List Int->Nat->Option (Bool)
 |[],k26=>some true
 |x28::ry,k26=>(ix aa bE.From).bind fun jA=>
   (dN x28 0 (IntKind.i64.wrap (jA-1))).bind fun m_=>
   if (!m_)then (
     some false)
   else (
     ug aa bE ry (k26+1))
def Au(aa:List Int)(bE:eZ):Option (Bool):=
 ((qG aa).bind fun r4=>
   bif (!r4)then (some true)
   else ((dN bE.From 0 (IntKind.i64.wrap ((aa.length:Int)-1))).bind fun r8=>
     bif (!r8)then (some true)
     else ((dN bE.To 0 (IntKind.i64.wrap ((aa.length:Int)-1))).bind fun bR=>
       bif (!bR)then (some true)
       else ((ix aa bE.To).bind fun dQ=>
         some (((bE.Map.length:Int):Int)!=dQ))))).bind fun o2=>
 match o2 with
 |CY=>if CY then (
     some false)
   else (
     ug aa bE bE.Map 0)
theorem Ue{aa:List Int}{ae:Sv}{bE:eZ}{r_:Sv}{R:Bool}(hF:Au aa bE=some R):
   Fw.Spec Tryz.prog 40 [ae.v,(zg [(zi bE.From),(zi bE.To),r_.v])] [aC ae aa,aC r_ bE.Map] (fun _:Unit=>(.bool R)) (fun _=>[]):=by
 refine Se 58 Tryz.func40 [.tmp 4] ?_
 intro H0 F0
 unfold Au at hF
 refine au ?_
 refine fC (fun k1=>?_)
 refine ax ?_
 obtain⟨o2,fH,hO3⟩:=bind_some hF
 refine gN [0,1,2,3,4,5,6,7,8,9,10,11,12,13,14,15,16,17,18,19,20,21,22,23,24,25,26,27,28,29,30,31] [0,1,3,7,15,31,15,79,207,511,1023,2047,4095,8191,16383,8191,40959,106495,262143,524287,1048575,2097151,4194303,8388607,16777215,4194303,4194303,71303167,239075327,507510783,1073741823,2147483647] [1,9,18] mixed (by decide+kernel) ?_
 refine pG (fun f' cs'=>∃(CY:Bool)(g:Fr),CY=o2/\f'=aH g [(0,ae.v),(3,(pz k1)),(37,(.bool CY))]/\aF cs' [aC ae aa,cz k1 47 (zg [(zi bE.From),(zi bE.To),r_.v]),aC r_ bE.Map]) ?_ ?_
 · replace hF:=fH
   refine du ?_
   refine bnd hF fun r4 hx5 hF=>di (zJ hx5) (fun _=>?_)
   refine fT ?_
   rcases bf (!r4)with aZ|aZ
   · rw[aZ]
     try rw[aZ]at hF; dsimp only[ak,aj]at hF
     exact gm hF
   rw[aZ]
   try rw[aZ]at hF; dsimp only[ak,aj]at hF
   refine BC ?_
   refine bnd hF fun r8 bO hF=>di (eU bO) (fun _=>?_)
   refine iy ?_
   rcases bf (!r8)with bN|bN
   · rw[bN]
     try rw[bN]at hF; dsimp only[ak,aj]at hF
     exact gm hF
   rw[bN]
   try rw[bN]at hF; dsimp only[ak,aj]at hF
   refine BC ?_
   refine bnd hF fun bR eB hF=>di (eU eB) (fun _=>?_)
   refine iy ?_
   rcases bf (!bR)with gG|gG
   · rw[gG]
     try rw[gG]at hF; dsimp only[ak,aj]at hF
     exact gm hF
   rw[gG]
   try rw[gG]at hF; dsimp only[ak,aj]at hF
   refine uR ?_
   refine zI hF fun dQ aas lU hF=>?_
   refine Di lU (fun k20 F8=>?_)
   refine Dl dw ?_
   exact gm hF
 rintro _ _ ⟨CY,g49,rfl,rfl,hE⟩
 replace hF:=hO3
 try dsimp only at hF
 refine bn hE ?_
 refine Ci hF (fun hb48 hF=>?_) (fun hb48 hF=>?_)
 · exact ze hF
 refine aD ?_
 refine bH (bX (m:=bE.Map.length) (fun m24 f' cs'=>∃(g:Fr)(k26:Nat)(ry:List Int),m24=ry.length/\f'=aH g [(0,ae.v),(3,(pz k1)),(5,(zi (k26:Int)))]/\List.drop k26 bE.Map=ry/\aF cs' [aC ae aa,cz k1 47 (zg [(zi bE.From),(zi bE.To),r_.v]),aC r_ bE.Map]/\ug aa bE ry k26=some R) ⟨_,0,_,rfl,aK,rfl,aJ,hF⟩ ?_)
 rintro m24 _ _ ⟨QT,k26,ry,rfl,rfl,hd29,hE,hF⟩
 refine Kb hE bE.Map (fun acW=>?_)
 rcases ry with _|⟨x28,ry⟩
 · have aat:=dn hd29
   rw[ug]at hF
   refine dB ?_
   refine dL ?_
   exact ze hF
 obtain⟨aat,hx31,hd32⟩:=dE hd29
 rw[ug]at hF
 refine dB ?_
 refine dK ?_
 refine aG ?_
 refine gN [0,1,2,3,4,5,6,7,8,9,10,11,12] [0,1,0,7,15,0,0,64,224,480,992,2047,4095] [11] mixed (by decide+kernel) ?_
 refine iy ?_
 refine Di hx31 (fun iC j36=>?_)
 refine Dl dw ?_
 refine iy ?_
 refine zI hF fun jA aen lu hF=>?_
 refine Di lu (fun sK QQ=>?_)
 refine Dl dw ?_
 refine du ?_
 refine bnd hF fun m_ wN hF=>di (eU wN) (fun _=>?_)
 refine fT ?_
 refine Ci hF (fun BU hF=>?_) (fun BU hF=>?_)
 · exact ze hF
 refine bB ?_
 rw[wk k26]
 exact⟨_,cO _,_,k26+1,ry,rfl,aK,hd32,aJ,hF⟩
def tN(bE:eZ)(fuel:Nat):List Int->Nat->Option ((List UInt8))
 |[],k19=>(fM fuel bE.From).bind fun ng=>
   (aP [114] ng).bind fun x31=>
   (aP x31 [32,103,105,118,101,115,32,114]).bind fun sN=>
   (fM fuel bE.To).bind fun eT=>
   (aP sN eT).bind fun iB=>
   (aP iB [32]).bind fun lZ=>
   (vV fuel bE.Map).bind fun iH=>
   (aP lZ iH).bind fun qb=>
   some qb
 |QU::rz,k19=>(dN QU 0 2).bind fun u6=>
   if (!u6)then (
     some [])
   else (
     tN bE fuel rz (k19+1))
def zP(fuel:Nat)(bE:eZ):Option ((List UInt8)):=
 ((dN bE.From 0 2).bind fun r4=>
   bif (!r4)then (some true)
   else ((dN bE.To 0 2).bind fun r8=>
     bif (!r8)then (some true)
     else ((dN (bE.Map.length:Int) 1 3).bind fun bR=>
       some (!bR)))).bind fun o2=>
 match o2 with
 |c15=>if c15 then (
     some [])
   else (
     tN bE fuel bE.Map 0)
theorem Sw{fuel:Nat}{bE:eZ}{om:Sv}{R:(List UInt8)}(hF:zP fuel bE=some R):
   Fw.Spec Tryz.prog 41 [(zg [(zi bE.From),(zi bE.To),om.v])] [aC om bE.Map] (fun _:Unit=>(sv R)) (fun _=>[]):=by
 refine Se 49 Tryz.func41 [.tmp 2] ?_
 intro H0 F0
 unfold zP at hF
 refine au ?_
 refine fC (fun k1=>?_)
 refine ax ?_
 obtain⟨o2,fH,hO3⟩:=bind_some hF
 refine au ?_
 refine bW (fun f' cs'=>∃(c15:Bool)(g:Fr),c15=o2/\f'=aH g [(1,(pz k1)),(20,(.bool c15))]/\aF cs' [cz k1 47 (zg [(zi bE.From),(zi bE.To),om.v]),aC om bE.Map]) ?_ ?_
 · replace hF:=fH
   refine aG ?_
   refine bnd hF fun r4 hx5 hF=>az (eU hx5) (fun _=>?_)
   refine aG ?_
   rcases bf (!r4)with aZ|aZ
   · rw[aZ]
     try rw[aZ]at hF; dsimp only[ak,aj]at hF
     exact aO hF
   rw[aZ]
   try rw[aZ]at hF; dsimp only[ak,aj]at hF
   refine aD ?_
   refine bnd hF fun r8 bO hF=>az (eU bO) (fun _=>?_)
   refine aB ?_
   rcases bf (!r8)with bN|bN
   · rw[bN]
     try rw[bN]at hF; dsimp only[ak,aj]at hF
     exact aO hF
   rw[bN]
   try rw[bN]at hF; dsimp only[ak,aj]at hF
   refine bZ ?_
   refine bnd hF fun bR eB hF=>az (eU eB) (fun _=>?_)
   exact aO hF
 rintro _ _ ⟨c15,QV,rfl,rfl,hE⟩
 replace hF:=hO3
 try dsimp only at hF
 refine bn hE ?_
 refine Ci hF (fun BV hF=>?_) (fun BV hF=>?_)
 · exact ze hF
 refine aD ?_
 refine bH (bX (m:=bE.Map.length) (fun m17 f' cs'=>∃(g:Fr)(k19:Nat)(rz:List Int),m17=rz.length/\f'=aH g [(1,(pz k1)),(3,(zi (k19:Int)))]/\List.drop k19 bE.Map=rz/\aF cs' [cz k1 47 (zg [(zi bE.From),(zi bE.To),om.v]),aC om bE.Map]/\tN bE fuel rz k19=some R) ⟨_,0,_,rfl,aK,rfl,aJ,hF⟩ ?_)
 rintro m17 _ _ ⟨g18,k19,rz,rfl,rfl,Qa,hE,hF⟩
 refine Kb hE bE.Map (fun acX=>?_)
 rcases rz with _|⟨QU,rz⟩
 · have aau:=dn Qa
   rw[tN]at hF
   refine dB ?_
   refine dL ?_
   refine aB ?_
   refine gN [0,1,5,6,10,11,2,3,4,7,8,9,12,13,14] [0,1,3,7,15,0,32,103,255,511,0,1024,3303,8191,16383] [2,7,12] mixed (by decide+kernel) ?_
   refine uR ?_
   refine bnd hF fun ng hx29 hF=>di (jM hx29) (fun _=>?_)
   refine bnd hF fun x31 hx32 hF=>?_
   obtain⟨Qb,Qd⟩:=bq hx32
   refine bi rfl .no (fun ha=>bu (s:=[114]) (t:=ng) (u:=x31) (EN ha (.sv _) rfl) (EN ha (.tmp rfl rfl) rfl) hx32) ?_
   refine bnd hF fun sN lC hF=>?_
   obtain⟨aav,aaw⟩:=bq lC
   refine bi rfl .no (fun ha=>bu (s:=x31) (t:=[32,103,105,118,101,115,32,114]) (u:=sN) (EN ha (.tmp rfl rfl) rfl) (EN ha (.sv _) rfl) lC) ?_
   refine bnd hF fun eT lu hF=>di (jM lu) (fun _=>?_)
   refine bnd hF fun iB iG hF=>?_
   obtain⟨Fe,Ff⟩:=bq iG
   refine bi rfl .no (fun ha=>bu (s:=sN) (t:=eT) (u:=iB) (EN ha (.tmp rfl rfl) rfl) (EN ha (.tmp rfl rfl) rfl) iG) ?_
   refine bnd hF fun lZ kQ hF=>?_
   obtain⟨P7,P8⟩:=bq kQ
   refine bi rfl .no (fun ha=>bu (s:=iB) (t:=[32]) (u:=lZ) (EN ha (.tmp rfl rfl) rfl) (EN ha (.sv _) rfl) kQ) ?_
   refine bnd hF fun iH mY hF=>di (GN mY) (fun _=>?_)
   refine bnd hF fun qb BX hF=>?_
   obtain⟨aax,aay⟩:=bq BX
   refine bi rfl .no (fun ha=>bu (s:=lZ) (t:=iH) (u:=qb) (EN ha (.tmp rfl rfl) rfl) (EN ha (.tmp rfl rfl) rfl) BX) ?_
   refine fT ?_
   exact ze hF
 obtain⟨aau,hx24,hd25⟩:=dE Qa
 rw[tN]at hF
 refine dB ?_
 refine dK ?_
 refine bB ?_
 refine Ai hx24 (fun k57 j58=>?_)
 refine Al dw ?_
 refine bnd hF fun u6 yR hF=>az (eU yR) (fun _=>?_)
 refine aG ?_
 refine Ci hF (fun wK hF=>?_) (fun wK hF=>?_)
 · exact ze hF
 refine bB ?_
 rw[wk k19]
 exact⟨_,cO _,_,k19+1,rz,rfl,aK,hd25,aJ,hF⟩
def tX(aa:List Int)(aN:List UInt8)(fuel:Nat)(fU:Int)(gJ:Int):List (List UInt8)->Nat->(List Int)->Option (eZ×Bool)
 |[],sO,kV=>((Au aa (⟨fU,gJ,kV⟩:eZ)).bind fun Je=>
     bif (!Je)then (some true)
     else ((zP fuel (⟨fU,gJ,kV⟩:eZ)).bind fun Jf=>
       some (!(Jf==aN)))).bind fun Jg=>
   match Jg with
   |jP=>if jP then (
       some ((⟨0,0,[]⟩:eZ),false))
     else (
       some ((⟨fU,gJ,kV⟩:eZ),true))
 |x96::rA,sO,kV=>(j4 fuel x96).bind fun Fu=>
   (app kV ([Fu]:List Int)).bind fun Qe=>
   tX aa aN fuel fU gJ rA (sO+1) Qe
def zX(fuel:Nat)(aa:List Int)(aN:List UInt8):Option (eZ×Bool):=
 (pg aN (32:UInt8)).bind fun r2=>
 if (((r2.length:Int):Int)!=4)then (
   some ((⟨0,0,[]⟩:eZ),false))
 else (
   (ix r2 0).bind fun x5=>
   (ix r2 2).bind fun ig=>
   (nM fuel x5).bind fun fU=>
   (nM fuel ig).bind fun gJ=>
   (ix r2 3).bind fun x24=>
   (pg x24 (44:UInt8)).bind fun fI=>
   tX aa aN fuel fU gJ fI 0 ([]:List Int))
theorem Ti{fuel:Nat}{aa:List Int}{ae:Sv}{aN:List UInt8}{R:eZ×Bool}(hF:zX fuel aa aN=some R):
   Fw.Spec Tryz.prog 22 [ae.v,(sv aN)] [aC ae aa] (fun p:Sv×List Nat=>(.tuple [(zg [(zi R.1.From),(zi R.1.To),p.1.v]),(.bool R.2)].toArray)) (fun p=>[bT p.2 p.1 R.1.Map]):=by
 refine Se 57 Tryz.func22 [.cell 4 47,.tmp 5] ?_
 intro H0 F0
 unfold zX at hF
 refine au ?_
 refine fe (fun k1=>?_)
 refine aB ?_
 refine bnd hF fun r2 hx3 hF=>dI (vQ hx3) (fun p4=>?_)
 refine dB ?_
 refine Ci hF (fun Yh hF=>?_) (fun Yh hF=>?_)
 · refine au ?_
   refine ai (fA lQ.h rfl (vs:=[]) .nil (cells:=[(zi 0),(zi 0),(.slice none 0 0)]) rfl) ?_
   refine As (zg [(zi 0),(zi 0),(.slice none 0 0)]) ?_
   refine ax ?_
   cases hF
   exact dF (⟨none,0,0⟩,[]) (.cellA rfl rfl .h rfl yO.h lQ.h.sz rfl rfl (.tmp rfl rfl .nil)) rfl (.conv .nil (dP (Ro:=(aR aX)) (E:=3)) (.cons .nil) (.sel (.cons .h .nil)))
 refine au ?_
 refine nU .h df ?_
 refine gN [0,1,2,4,5,6,9,3,7,8,10] [0,1,3,7,0,16,48,127,255,0,1023] [3,7,10] mixed (by decide+kernel) ?_
 refine du ?_
 refine zI hF fun x5 hp7 ik hF=>?_
 refine Di ik (fun k9 j10=>?_)
 refine Dl fB ?_
 refine du ?_
 refine zI hF fun ig aar jG hF=>?_
 refine Di jG (fun k15 j16=>?_)
 refine Dl fB ?_
 refine rM rfl .no rfl (fun ha=>Aq (g:=true) lQ.h rfl rfl) (fun k17=>?_)
 refine bnd hF fun fU lU hF=>mO rfl rfl .no .nil (.own .h (fun _ h=>h) .nil) (fun ha=>bY IG.h (.cons (EN ha (.tmp rfl rfl) rfl) .nil) (Ac lU)) (fun _=>?_)
 refine bnd hF fun gJ si hF=>mO rfl rfl .no .nil (.own .h (fun _ h=>h) .nil) (fun ha=>bY IG.h (.cons (EN ha (.tmp rfl rfl) rfl) .nil) (Ac si)) (fun _=>?_)
 refine bi rfl .no (fun ha=>fA lQ.h rfl (vs:=[(zi fU),(zi gJ)]) (.cons (EN ha (.tmp rfl rfl) rfl) (.cons (EN ha (.tmp rfl rfl) rfl) .nil)) (cells:=[(zi fU),(zi gJ),(.slice none 0 0)]) rfl) ?_
 refine iR rfl rfl .no (.cons .h .nil) (.dep rfl .nil) (fun ha=>j3 (e':=(zg [(zi fU),(zi gJ),(.slice none 0 0)])) (v:=(zg [(zi fU),(zi gJ),(.slice none 0 0)])) lQ.h.sz (EN ha (.tmp rfl rfl) rfl) (EN ha (.tmp rfl rfl) rfl) rfl rfl rfl rfl rfl) (fun _=>?_)
 refine du ?_
 refine aG ?_
 refine zI hF fun x24 aeo hx27 hF=>?_
 refine Ai hx27 (fun k28 j29=>?_)
 refine Al fB ?_
 refine bnd hF fun fI hx31 hF=>dI (vQ hx31) (fun p32=>?_)
 refine bB ?_
 refine bH (nU .h df ?_)
 refine bX (m:=fI.length) (fun QW f' cs'=>∃(g:Fr)(sO:Nat)(rA:List (List UInt8))(kV:List Int)(v89:Sv)(Gd:List Nat),QW=rA.length/\f'=aH g [(0,ae.v),(1,(sv aN)),(4,(pz k1)),(7,(pz k17)),(8,p32.1.v),(9,(zi (sO:Int)))]/\List.drop sO fI=rA/\aF cs' [aC ae aa,bQ k1 47 (zg [(zi 0),(zi 0),(.slice none 0 0)]),bQ k17 47 (zg [(zi fU),(zi gJ),v89.v]),bT Gd v89 kV,jd p32.1 fI]/\tX aa aN fuel fU gJ rA sO kV=some R) ⟨_,0,_,_,⟨none,0,0⟩,[],rfl,aK,rfl,(.conv .nil (dP (Ro:=(aR aX)) (E:=3)) (.cons .nil) aJ),hF⟩ ?_
 rintro QW _ _ ⟨g93,sO,rA,kV,v89,Gd,rfl,rfl,Qf,hE,hF⟩
 refine Kb hE fI (fun abY=>?_)
 rcases rA with _|⟨x96,rA⟩
 · have aaz:=dn Qf
   rw[tX]at hF
   refine bZ ?_
   refine dL ?_
   refine aD ?_
   obtain⟨Jg,Ww,Yi⟩:=bind_some hF
   refine au ?_
   refine bW (fun f' cs'=>∃(jP:Bool)(g:Fr),jP=Jg/\f'=aH g [(4,(pz k1)),(7,(pz k17)),(54,(.bool jP))]/\aF cs' [bQ k1 47 (zg [(zi 0),(zi 0),(.slice none 0 0)]),bQ k17 47 (zg [(zi fU),(zi gJ),v89.v]),bT Gd v89 kV]) ?_ ?_
   · replace hF:=Ww
     refine aG ?_
     refine bnd hF fun Je EL hF=>cB (.cons .q3 (.rd .h rfl .nil)) (gP df (fun _=>.nil) (nO (.rd (.t .h) rfl (.rd .h rfl .nil)) (bY ZO.h bI (Ue EL)))) (fun _=>?_)
     refine aG ?_
     rcases bf (!Je)with Bi|Bi
     · rw[Bi]
       try rw[Bi]at hF; dsimp only[ak,aj]at hF
       exact aO hF
     rw[Bi]
     try rw[Bi]at hF; dsimp only[ak,aj]at hF
     refine ax ?_
     refine bnd hF fun Jf EM hF=>cB (.cons .h .nil) (gP df (fun _=>.nil) (bY ZP.h bI (Sw EM))) (fun _=>?_)
     refine ax ?_
     refine ai (ji (s:=Jf) (t:=aN) (.tmp rfl rfl) (.tmp rfl rfl)) ?_
     exact aO hF
   rintro _ _ ⟨jP,aep,rfl,rfl,hE⟩
   replace hF:=Yi
   try dsimp only at hF
   refine bn hE ?_
   refine Ci hF (fun Yj hF=>?_) (fun Yj hF=>?_)
   · refine au ?_
     refine ai (fA lQ.h rfl (vs:=[]) .nil (cells:=[(zi 0),(zi 0),(.slice none 0 0)]) rfl) ?_
     refine As (zg [(zi 0),(zi 0),(.slice none 0 0)]) ?_
     refine ax ?_
     cases hF
     exact dF (⟨none,0,0⟩,[]) (.cellA rfl rfl .h rfl yO.h lQ.h.sz rfl rfl (.tmp rfl rfl .nil)) rfl (.conv .nil (dP (Ro:=(aR aX)) (E:=3)) (.cons .nil) (.sel (.cons .h .nil)))
   refine ax ?_
   refine As (zg [(zi fU),(zi gJ),v89.v]) ?_
   refine ax ?_
   cases hF
   exact dF (v89,Gd) (.cellA rfl rfl .h rfl yO.h lQ.h.sz rfl rfl (.tmp rfl rfl .nil)) rfl (.sel (.cons .q2 .nil))
 obtain⟨aaz,hx99,Yk⟩:=dE Qf
 rw[tX]at hF
 refine bZ ?_
 refine dK ?_
 refine aG ?_
 refine uD [0,1,2,3,4,5,6,7,8,9,10] [0,1,0,0,12,28,60,124,255,511,1023] [6,8,10] mixed (by decide+kernel) ?_
 refine du ?_
 refine pF rfl .no .q2 (fun ha hp=>lI (v:=v89.v) uP.h (EN ha (.tmp rfl rfl) rfl) hp.2 rfl rfl) ?_
 refine fT ?_
 refine Di hx99 (fun aeq aer=>?_)
 refine Dl fB ?_
 refine bnd hF fun Fu Ij hF=>mO rfl rfl .no .nil (.own .q3 (fun _ h=>h) .nil) (fun ha=>bY yN.h (.cons (EN ha (.tmp rfl rfl) rfl) .nil) (qF Ij)) (fun _=>?_)
 refine rM rfl .no rfl (fun ha=>eD (g:=true) (len:=1) (parts:=[(0,.tmp 41)]) eP.h dX.h (.cons (EN ha (.tmp rfl rfl) rfl) .nil) (vs:=[(zi Fu)]) rfl rfl rfl (by intro v hv; simp at hv; rcases hv with rfl<;>rfl)) (fun aes=>?_)
 refine CQ (.cons .h .nil) (eH (Ro:=(aR aX)) (E:=3) (F:=([]++[])) (xs:=([Fu]:List Int)) (dM (fq (fun _=>rfl)) eG bU) rfl rfl) ?_
 refine bnd hF fun Qe Ik hF=>iR rfl rfl .no (.cons .q5 (.cons .h .nil)) (.dep rfl (.dep rfl .nil)) (fun ha=>iP (Ro:=(aR aX)) eP.h mh dX.h rfl rfl rfl (EN ha (.tmp rfl rfl) rfl) (EN ha (.tmp rfl rfl) rfl) Ik iQ) (fun Jh=>?_)
 refine du ?_
 refine iR rfl rfl .no (.cons .q4 .nil) (.dep rfl (.dep rfl .nil)) (fun ha=>j3 (e':=(zg [(zi fU),(zi gJ),Jh.1.v])) BB.h.sz (EN ha (.tmp rfl rfl) rfl) (EN ha (.tmp rfl rfl) rfl) rfl rfl rfl rfl rfl) (fun _=>?_)
 refine du ?_
 refine aD ?_
 rw[wk sO]
 exact⟨_,cO _,_,sO+1,rA,_,Jh.1,Jh.2,rfl,aK,Yk,aJ,hF⟩
def oZ(aa:List UInt8):Nat->Int->Option ((List UInt8)×(List (List UInt8)))
 |0,_=>none
 |m2+1,c1=>if (decide ((c1:Int)<(aa.length:Int)))then (
     ((ix aa c1).bind fun Gf=>
       bif (((Gf.toNat:Int):Int)==40)then ((ix aa (IntKind.i64.wrap ((aa.length:Int)-1))).bind fun wY=>
         some (((wY.toNat:Int):Int)==41))
       else (some false)).bind fun xg=>
     match xg with
     |c21=>if c21 then (
         (jI (decide (0<=c1)&&decide (c1<=((aa).length:Int)))).bind fun u23=>
         (jI (decide (0<=(IntKind.i64.wrap (c1+1)))&&decide ((IntKind.i64.wrap (c1+1))<=(IntKind.i64.wrap ((aa.length:Int)-1)))&&decide ((IntKind.i64.wrap ((aa.length:Int)-1))<=((aa).length:Int)))).bind fun u26=>
         (pg ((aa.take ((IntKind.i64.wrap ((aa.length:Int)-1))).toNat).drop ((IntKind.i64.wrap (c1+1))).toNat) (44:UInt8)).bind fun ng=>
         some ((aa.take (c1).toNat),ng))
       else (
         oZ aa m2 (IntKind.i64.wrap (c1+1))))
   else (
     some ([],([]:List (List UInt8))))
def yh(aa:List UInt8):Option ((List UInt8)×(List (List UInt8))):=
 oZ aa (((aa.length:Int)-0).toNat+2) 0
theorem MZ{aa:List UInt8}{R:(List UInt8)×(List (List UInt8))}(hF:yh aa=some R):
   Fw.Spec Tryz.prog 42 [(sv aa)] [] (fun p:Sv×List Nat=>(.tuple [(sv R.1),p.1.v].toArray)) (fun p=>[sJ p.2 p.1 R.2]):=by
 refine Se 35 Tryz.func42 [.tmp 2,.tmp 3] ?_
 intro H0 F0
 unfold yh at hF
 refine dB ?_
 refine bH (bX (m:=(((aa.length:Int)-0).toNat+2)) (fun m2 f' cs'=>∃(g:Fr)(c1:Int),f'=aH g [(0,(sv aa)),(4,(zi c1))]/\aF cs' []/\oZ aa m2 c1=some R) ⟨_,_,aK,aJ,hF⟩ ?_)
 rintro m2 _ _ ⟨g3,c1,rfl,hE,hF⟩
 refine bn hE ?_
 rcases m2 with _|m2
 · rw[oZ]at hF
   exact absurd hF (by simp)
 rw[oZ]at hF
 refine aB ?_
 refine ai (g_ (s:=aa) dz (.tmp rfl rfl)) ?_
 refine aG ?_
 refine Ci hF (fun BZ hF=>?_) (fun BZ hF=>?_)
 · refine aG ?_
   obtain⟨xg,Il,Ji⟩:=bind_some hF
   refine au ?_
   refine bW (fun f' cs'=>∃(c21:Bool)(g:Fr),c21=xg/\f'=aH g [(0,(sv aa)),(4,(zi c1)),(22,(.bool c21))]/\aF cs' []) ?_ ?_
   · replace hF:=Il
     refine aG ?_
     refine zI hF fun Gf Fv jO hF=>?_
     refine ai (qI (u:=Gf) dz (.tmp rfl rfl) (.tmp rfl rfl) Fv jO) ?_
     refine aG ?_
     rcases bf (((Gf.toNat:Int):Int)==40)with gH|gH
     · rw[gH]
       try rw[gH]at hF; dsimp only[ak,aj]at hF
       refine aD ?_
       refine ai (g_ (s:=aa) dz (.tmp rfl rfl)) ?_
       refine ax ?_
       refine zI hF fun wY BF iF hF=>?_
       refine ai (qI (u:=wY) dz (.tmp rfl rfl) (.tmp rfl rfl) BF iF) ?_
       exact aO hF
     rw[gH]
     try rw[gH]at hF; dsimp only[ak,aj]at hF
     exact aO hF
   rintro _ _ ⟨c21,g32,rfl,rfl,hE⟩
   replace hF:=Ji
   try dsimp only at hF
   refine bn hE ?_
   refine Ci hF (fun Jj hF=>?_) (fun Jj hF=>?_)
   · refine gN [0,1,2,3,4,5,6,7,8,9,10,11,12] [0,0,3,0,0,16,0,64,192,504,1016,2047,4095] [10] mixed (by decide+kernel) ?_
     refine fT ?_
     refine bnd hF fun u23 hx24 hF=>?_
     have hc22:=lH hx24
     simp only[Bool.and_eq_true,decide_eq_true_eq]at hc22
     refine bi rfl .no (fun ha=>Ah (s:=aa) (j:=c1) dz (EN ha (.tmp rfl rfl) rfl) (EN ha (.tmp rfl rfl) rfl) hc22.1 hc22.2) ?_
     refine rW ?_
     refine bi rfl .no (fun ha=>g_ (s:=aa) dz (EN ha (.tmp rfl rfl) rfl)) ?_
     refine du ?_
     refine bnd hF fun u26 hx27 hF=>?_
     have hc25:=lH hx27
     simp only[Bool.and_eq_true,decide_eq_true_eq]at hc25
     refine bi rfl .no (fun ha=>NE (s:=aa) (i:=(IntKind.i64.wrap (c1+1))) (j:=(IntKind.i64.wrap ((aa.length:Int)-1))) dz (EN ha (.tmp rfl rfl) rfl) (EN ha (.tmp rfl rfl) rfl) (EN ha (.tmp rfl rfl) rfl) hc25.1.1 hc25.1.2 hc25.2) ?_
     refine bnd hF fun ng hx29 hF=>Dx1 (vQ hx29) (fun p30=>?_)
     refine iy ?_
     refine au ?_
     cases hF
     exact Er (p30.1,p30.2)
   refine bB ?_
   exact⟨m2,cO _,_,_,aK,aJ,hF⟩
 refine aD ?_
 refine fF rfl (eD (g:=true) gD.h gY.h .nil (vs:=[]) rfl rfl rfl (by simp)) (fun y_=>?_)
 refine fK (.cons .h .nil) (eH (Ro:=(aR rdStr)) (E:=9) (F:=[]) (xs:=([]:List (List UInt8))) eG rfl rfl) ?_
 refine aB ?_
 cases hF
 exact Er (⟨(some ⟨y_,0,none⟩),0,1⟩,(y_::[]))
def vL:List Int->Nat->Option (Bool)
 |[],k22=>some true
 |x24::jB,k22=>(dN x24 0 9).bind fun gI=>
   if (!gI)then (
     some false)
   else (
     vL jB (k22+1))
def Av(aa:List Int)(bV:Fact):Option (Bool):=
 ((qG aa).bind fun r4=>
   bif (!r4)then (some true)
   else ((dN bV.Rel 0 (IntKind.i64.wrap ((aa.length:Int)-1))).bind fun r8=>
     bif (!r8)then (some true)
     else ((ix aa bV.Rel).bind fun sP=>
       some (((bV.Values.length:Int):Int)!=sP)))).bind fun o2=>
 match o2 with
 |c18=>if c18 then (
     some false)
   else (
     vL bV.Values 0)
theorem Uf{aa:List Int}{ae:Sv}{bV:Fact}{dS:Sv}{R:Bool}(hF:Av aa bV=some R):
   Fw.Spec Tryz.prog 43 [ae.v,(zg [(zi bV.Rel),dS.v])] [aC ae aa,aC dS bV.Values] (fun _:Unit=>(.bool R)) (fun _=>[]):=by
 refine Se 43 Tryz.func43 [.tmp 4] ?_
 intro H0 F0
 unfold Av at hF
 refine au ?_
 refine fC (fun k1=>?_)
 refine ax ?_
 obtain⟨o2,fH,hO3⟩:=bind_some hF
 refine gN [0,1,2,3,4,5,6,7,8,9,10,11,12,13,14,15,16,17,18,19,20,21,22] [0,1,3,7,15,31,15,79,207,511,1023,2047,4095,8191,16383,32767,8191,8191,139263,466943,991231,2097151,4194303] [1,9] mixed (by decide+kernel) ?_
 refine pG (fun f' cs'=>∃(c18:Bool)(g:Fr),c18=o2/\f'=aH g [(3,(pz k1)),(28,(.bool c18))]/\aF cs' [cz k1 51 (zg [(zi bV.Rel),dS.v]),aC dS bV.Values]) ?_ ?_
 · replace hF:=fH
   refine du ?_
   refine bnd hF fun r4 hx5 hF=>di (zJ hx5) (fun _=>?_)
   refine fT ?_
   rcases bf (!r4)with aZ|aZ
   · rw[aZ]
     try rw[aZ]at hF; dsimp only[ak,aj]at hF
     exact gm hF
   rw[aZ]
   try rw[aZ]at hF; dsimp only[ak,aj]at hF
   refine BC ?_
   refine bnd hF fun r8 bO hF=>di (eU bO) (fun _=>?_)
   refine iy ?_
   rcases bf (!r8)with bN|bN
   · rw[bN]
     try rw[bN]at hF; dsimp only[ak,aj]at hF
     exact gm hF
   rw[bN]
   try rw[bN]at hF; dsimp only[ak,aj]at hF
   refine uR ?_
   refine zI hF fun sP Fv jO hF=>?_
   refine Di jO (fun k16 F6=>?_)
   refine Dl dw ?_
   exact gm hF
 rintro _ _ ⟨c18,Kt,rfl,rfl,hE⟩
 replace hF:=hO3
 try dsimp only at hF
 refine bn hE ?_
 refine Ci hF (fun mo hF=>?_) (fun mo hF=>?_)
 · exact ze hF
 refine aD ?_
 refine bH (bX (m:=bV.Values.length) (fun m20 f' cs'=>∃(g:Fr)(k22:Nat)(jB:List Int),m20=jB.length/\f'=aH g [(3,(pz k1)),(5,(zi (k22:Int)))]/\List.drop k22 bV.Values=jB/\aF cs' [cz k1 51 (zg [(zi bV.Rel),dS.v]),aC dS bV.Values]/\vL jB k22=some R) ⟨_,0,_,rfl,aK,rfl,aJ,hF⟩ ?_)
 rintro m20 _ _ ⟨g21,k22,jB,rfl,rfl,hd25,hE,hF⟩
 refine Kb hE bV.Values (fun Yl=>?_)
 rcases jB with _|⟨x24,jB⟩
 · have Jk:=dn hd25
   rw[vL]at hF
   refine dB ?_
   refine dL ?_
   exact ze hF
 obtain⟨Jk,hx27,hd28⟩:=dE hd25
 rw[vL]at hF
 refine dB ?_
 refine dK ?_
 refine bB ?_
 refine Ai hx27 (fun Ku j32=>?_)
 refine Al dw ?_
 refine bnd hF fun gI hx34 hF=>az (eU hx34) (fun _=>?_)
 refine aG ?_
 refine Ci hF (fun B_ hF=>?_) (fun B_ hF=>?_)
 · exact ze hF
 refine bB ?_
 rw[wk k22]
 exact⟨_,cO _,_,k22+1,jB,rfl,aK,hd28,aJ,hF⟩
def tO(bV:Fact)(fuel:Nat):List Int->Nat->Option ((List UInt8))
 |[],k15=>(fM fuel bV.Rel).bind fun il=>
   (aP [114] il).bind fun x27=>
   (aP x27 [40]).bind fun x31=>
   (vV fuel bV.Values).bind fun jV=>
   (aP x31 jV).bind fun x38=>
   (aP x38 [41]).bind fun iB=>
   some iB
 |mZ::jC,k15=>(dN mZ 0 9).bind fun ni=>
   if (!ni)then (
     some [])
   else (
     tO bV fuel jC (k15+1))
def zQ(fuel:Nat)(bV:Fact):Option ((List UInt8)):=
 ((dN bV.Rel 0 2).bind fun r4=>
   bif (!r4)then (some true)
   else ((dN (bV.Values.length:Int) 1 3).bind fun r8=>
     some (!r8))).bind fun o2=>
 match o2 with
 |c11=>if c11 then (
     some [])
   else (
     tO bV fuel bV.Values 0)
theorem Sy{fuel:Nat}{bV:Fact}{bA:Sv}{R:(List UInt8)}(hF:zQ fuel bV=some R):
   Fw.Spec Tryz.prog 44 [(zg [(zi bV.Rel),bA.v])] [aC bA bV.Values] (fun _:Unit=>(sv R)) (fun _=>[]):=by
 refine Se 39 Tryz.func44 [.tmp 2] ?_
 intro H0 F0
 unfold zQ at hF
 refine au ?_
 refine fC (fun k1=>?_)
 refine ax ?_
 obtain⟨o2,fH,hO3⟩:=bind_some hF
 refine au ?_
 refine bW (fun f' cs'=>∃(c11:Bool)(g:Fr),c11=o2/\f'=aH g [(1,(pz k1)),(14,(.bool c11))]/\aF cs' [cz k1 51 (zg [(zi bV.Rel),bA.v]),aC bA bV.Values]) ?_ ?_
 · replace hF:=fH
   refine aG ?_
   refine bnd hF fun r4 hx5 hF=>az (eU hx5) (fun _=>?_)
   refine aG ?_
   rcases bf (!r4)with aZ|aZ
   · rw[aZ]
     try rw[aZ]at hF; dsimp only[ak,aj]at hF
     exact aO hF
   rw[aZ]
   try rw[aZ]at hF; dsimp only[ak,aj]at hF
   refine bZ ?_
   refine bnd hF fun r8 bO hF=>az (eU bO) (fun _=>?_)
   exact aO hF
 rintro _ _ ⟨c11,QR,rfl,rfl,hE⟩
 replace hF:=hO3
 try dsimp only at hF
 refine bn hE ?_
 refine Ci hF (fun BJ hF=>?_) (fun BJ hF=>?_)
 · exact ze hF
 refine aD ?_
 refine bH (bX (m:=bV.Values.length) (fun m13 f' cs'=>∃(g:Fr)(k15:Nat)(jC:List Int),m13=jC.length/\f'=aH g [(1,(pz k1)),(3,(zi (k15:Int)))]/\List.drop k15 bV.Values=jC/\aF cs' [cz k1 51 (zg [(zi bV.Rel),bA.v]),aC bA bV.Values]/\tO bV fuel jC k15=some R) ⟨_,0,_,rfl,aK,rfl,aJ,hF⟩ ?_)
 rintro m13 _ _ ⟨g14,k15,jC,rfl,rfl,Cb,hE,hF⟩
 refine Kb hE bV.Values (fun Ym=>?_)
 rcases jC with _|⟨mZ,jC⟩
 · have Jl:=dn Cb
   rw[tO]at hF
   refine dB ?_
   refine dL ?_
   refine aB ?_
   refine gN [0,1,5,6,2,3,4,7,8,9,10] [0,1,3,7,15,0,32,103,255,511,1023] [2,7] mixed (by decide+kernel) ?_
   refine rW ?_
   refine bnd hF fun il hx25 hF=>di (jM hx25) (fun _=>?_)
   refine bnd hF fun x27 hx28 hF=>?_
   obtain⟨Jm,Jn⟩:=bq hx28
   refine bi rfl .no (fun ha=>bu (s:=[114]) (t:=il) (u:=x27) (EN ha (.sv _) rfl) (EN ha (.tmp rfl rfl) rfl) hx28) ?_
   refine bnd hF fun x31 hx32 hF=>?_
   obtain⟨Qb,Qd⟩:=bq hx32
   refine bi rfl .no (fun ha=>bu (s:=x27) (t:=[40]) (u:=x31) (EN ha (.tmp rfl rfl) rfl) (EN ha (.sv _) rfl) hx32) ?_
   refine bnd hF fun jV lC hF=>di (GN lC) (fun _=>?_)
   refine bnd hF fun x38 hx39 hF=>?_
   obtain⟨I1,I4⟩:=bq hx39
   refine bi rfl .no (fun ha=>bu (s:=x31) (t:=jV) (u:=x38) (EN ha (.tmp rfl rfl) rfl) (EN ha (.tmp rfl rfl) rfl) hx39) ?_
   refine bnd hF fun iB iG hF=>?_
   obtain⟨Fe,Ff⟩:=bq iG
   refine bi rfl .no (fun ha=>bu (s:=x38) (t:=[41]) (u:=iB) (EN ha (.tmp rfl rfl) rfl) (EN ha (.sv _) rfl) iG) ?_
   refine fT ?_
   exact ze hF
 obtain⟨Jl,iF,yU⟩:=dE Cb
 rw[tO]at hF
 refine dB ?_
 refine dK ?_
 refine bB ?_
 refine Ai iF (fun qd Gc=>?_)
 refine Al dw ?_
 refine bnd hF fun ni lS hF=>az (eU lS) (fun _=>?_)
 refine aG ?_
 refine Ci hF (fun Ce hF=>?_) (fun Ce hF=>?_)
 · exact ze hF
 refine bB ?_
 rw[wk k15]
 exact⟨_,cO _,_,k15+1,jC,rfl,aK,yU,aJ,hF⟩
def tY(aa:List Int)(aN:List UInt8)(fuel:Nat)(r5:Int):List (List UInt8)->Nat->(List Int)->Option (Fact×Bool)
 |[],qf,c64=>((Av aa (⟨r5,c64⟩:Fact)).bind fun Kv=>
     bif (!Kv)then (some true)
     else ((zQ fuel (⟨r5,c64⟩:Fact)).bind fun Kw=>
       some (!(Kw==aN)))).bind fun Ky=>
   match Ky with
   |kV=>if kV then (
       some ((⟨0,[]⟩:Fact),false))
     else (
       some ((⟨r5,c64⟩:Fact),true))
 |xe::rC,qf,c64=>(j4 fuel xe).bind fun ve=>
   (app c64 ([ve]:List Int)).bind fun QX=>
   tY aa aN fuel r5 rC (qf+1) QX
def xL(fuel:Nat)(aa:List Int)(aN:List UInt8):Option (Fact×Bool):=
 (yh aN).bind fun r2=>
 (nM fuel r2.1).bind fun r5=>
 tY aa aN fuel r5 r2.2 0 ([]:List Int)
theorem L8{fuel:Nat}{aa:List Int}{ae:Sv}{aN:List UInt8}{R:Fact×Bool}(hF:xL fuel aa aN=some R):
   Fw.Spec Tryz.prog 23 [ae.v,(sv aN)] [aC ae aa] (fun p:Sv×List Nat=>(.tuple [(zg [(zi R.1.Rel),p.1.v]),(.bool R.2)].toArray)) (fun p=>[bT p.2 p.1 R.1.Values]):=by
 refine Se 46 Tryz.func23 [.cell 4 51,.tmp 5] ?_
 intro H0 F0
 unfold xL at hF
 refine au ?_
 refine fe (fun k1=>?_)
 refine aB ?_
 refine bnd hF fun r2 hx3 hF=>dI (MZ hx3) (fun p4=>?_)
 refine au ?_
 refine zx ?_
 refine zx ?_
 refine aD ?_
 refine bnd hF fun r5 hx6 hF=>az (Ac hx6) (fun _=>?_)
 refine ai (fA uQ.h rfl (vs:=[(zi r5)]) bI (cells:=[(zi r5),(.slice none 0 0)]) rfl) ?_
 refine fe (fun k8=>?_)
 refine As (zg [(zi r5),(.slice none 0 0)]) ?_
 refine aD ?_
 refine bH (nU (.t .h) df ?_)
 refine bX (m:=r2.2.length) (fun QY f' cs'=>∃(g:Fr)(qf:Nat)(rC:List (List UInt8))(c64:List Int)(v65:Sv)(Gg:List Nat),QY=rC.length/\f'=aH g [(0,ae.v),(1,(sv aN)),(4,(pz k1)),(7,p4.1.v),(8,(pz k8)),(9,(zi (qf:Int)))]/\List.drop qf r2.2=rC/\aF cs' [aC ae aa,bQ k1 51 (zg [(zi 0),(.slice none 0 0)]),jd p4.1 r2.2,bQ k8 51 (zg [(zi r5),v65.v]),bT Gg v65 c64]/\tY aa aN fuel r5 rC qf c64=some R) ⟨_,0,_,_,⟨none,0,0⟩,[],rfl,aK,rfl,(.conv .nil (dP (Ro:=(aR aX)) (E:=3)) (.cons .nil) aJ),hF⟩ ?_
 rintro QY _ _ ⟨g69,qf,rC,c64,v65,Gg,rfl,rfl,Qg,hE,hF⟩
 refine Kb hE r2.2 (fun acY=>?_)
 rcases rC with _|⟨xe,rC⟩
 · have aaA:=dn Qg
   rw[tY]at hF
   refine bZ ?_
   refine dL ?_
   refine aD ?_
   obtain⟨Ky,Yn,aaB⟩:=bind_some hF
   refine au ?_
   refine bW (fun f' cs'=>∃(kV:Bool)(g:Fr),kV=Ky/\f'=aH g [(4,(pz k1)),(8,(pz k8)),(43,(.bool kV))]/\aF cs' [bQ k1 51 (zg [(zi 0),(.slice none 0 0)]),bQ k8 51 (zg [(zi r5),v65.v]),bT Gg v65 c64]) ?_ ?_
   · replace hF:=Yn
     refine aG ?_
     refine bnd hF fun Kv aaC hF=>cB (.cons .q4 (.rd .h rfl .nil)) (gP df (fun _=>.nil) (nO (.rd (.t .h) rfl (.rd .h rfl .nil)) (bY ZQ.h bI (Uf aaC)))) (fun _=>?_)
     refine aG ?_
     rcases bf (!Kv)with Cf|Cf
     · rw[Cf]
       try rw[Cf]at hF; dsimp only[ak,aj]at hF
       exact aO hF
     rw[Cf]
     try rw[Cf]at hF; dsimp only[ak,aj]at hF
     refine ax ?_
     refine bnd hF fun Kw Fx hF=>cB (.cons .h .nil) (gP df (fun _=>.nil) (bY ZR.h bI (Sy Fx))) (fun _=>?_)
     refine ax ?_
     refine ai (ji (s:=Kw) (t:=aN) (.tmp rfl rfl) (.tmp rfl rfl)) ?_
     exact aO hF
   rintro _ _ ⟨kV,g90,rfl,rfl,hE⟩
   replace hF:=aaB
   try dsimp only at hF
   refine bn hE ?_
   refine Ci hF (fun aaD hF=>?_) (fun aaD hF=>?_)
   · refine au ?_
     refine ai (fA uQ.h rfl (vs:=[]) .nil (cells:=[(zi 0),(.slice none 0 0)]) rfl) ?_
     refine As (zg [(zi 0),(.slice none 0 0)]) ?_
     refine ax ?_
     cases hF
     exact dF (⟨none,0,0⟩,[]) (.cellA rfl rfl .h rfl ET.h uQ.h.sz rfl rfl (.tmp rfl rfl .nil)) rfl (.conv .nil (dP (Ro:=(aR aX)) (E:=3)) (.cons .nil) (.sel (.cons .h .nil)))
   refine ax ?_
   refine As (zg [(zi r5),v65.v]) ?_
   refine ax ?_
   cases hF
   exact dF (v65,Gg) (.cellA rfl rfl .h rfl ET.h uQ.h.sz rfl rfl (.tmp rfl rfl .nil)) rfl (.sel (.cons .q2 .nil))
 obtain⟨aaA,Fy,aaE⟩:=dE Qg
 rw[tY]at hF
 refine bZ ?_
 refine dK ?_
 refine aG ?_
 refine uD [0,1,2,3,4,5,6,7,8,9,10] [0,1,0,0,12,28,60,124,255,511,1023] [6,8,10] mixed (by decide+kernel) ?_
 refine du ?_
 refine pF rfl .no .q3 (fun ha hp=>lI (v:=v65.v) uP.h (EN ha (.tmp rfl rfl) rfl) hp.2 rfl rfl) ?_
 refine fT ?_
 refine Di Fy (fun k91 j92=>?_)
 refine Dl fB ?_
 refine bnd hF fun ve Jo hF=>mO rfl rfl .no .nil (.own .q4 (fun _ h=>h) .nil) (fun ha=>bY yN.h (.cons (EN ha (.tmp rfl rfl) rfl) .nil) (qF Jo)) (fun _=>?_)
 refine rM rfl .no rfl (fun ha=>eD (g:=true) (len:=1) (parts:=[(0,.tmp 30)]) eP.h dX.h (.cons (EN ha (.tmp rfl rfl) rfl) .nil) (vs:=[(zi ve)]) rfl rfl rfl (by intro v hv; simp at hv; rcases hv with rfl<;>rfl)) (fun k96=>?_)
 refine CQ (.cons .h .nil) (eH (Ro:=(aR aX)) (E:=3) (F:=([]++[])) (xs:=([ve]:List Int)) (dM (fq (fun _=>rfl)) eG bU) rfl rfl) ?_
 refine bnd hF fun QX hx98 hF=>iR rfl rfl .no (.cons .q6 (.cons .h .nil)) (.dep rfl (.dep rfl .nil)) (fun ha=>iP (Ro:=(aR aX)) eP.h mh dX.h rfl rfl rfl (EN ha (.tmp rfl rfl) rfl) (EN ha (.tmp rfl rfl) rfl) hx98 iQ) (fun Kz=>?_)
 refine du ?_
 refine iR rfl rfl .no (.cons .q5 .nil) (.dep rfl (.dep rfl .nil)) (fun ha=>j3 (e':=(zg [(zi r5),Kz.1.v])) BB.h.sz (EN ha (.tmp rfl rfl) rfl) (EN ha (.tmp rfl rfl) rfl) rfl rfl rfl rfl rfl) (fun _=>?_)
 refine du ?_
 refine aD ?_
 rw[wk qf]
 exact⟨_,cO _,_,qf+1,rC,_,Kz.1,Kz.2,rfl,aK,aaE,aJ,hF⟩
def oV(fuel:Nat)(aa:List UInt8):Option (Int):=
 (bif (decide ((1:Int)<(aa.length:Int)))then ((ix aa 0).bind fun u4=>
     some (((u4.toNat:Int):Int)==120))
   else (some false)).bind fun o1=>
 match o1 with
 |c8=>if c8 then (
     (jI (decide (0<=(1:Int))&&decide ((1:Int)<=((aa).length:Int)))).bind fun Kk=>
     (j4 fuel (aa.drop ((1:Int)).toNat)).bind fun bR=>
     (dN bR 0 7).bind fun dY=>
     if dY then (
       some (IntKind.i64.wrap (10+bR)))
     else (
       some (-1)))
   else (
     (j4 fuel aa).bind fun nk=>
     (dN nk 0 9).bind fun gV=>
     if (!gV)then (
       some (-1))
     else (
       some nk))
theorem LG{fuel:Nat}{aa:List UInt8}{R:Int}(hF:oV fuel aa=some R):
   Fw.Spec Tryz.prog 46 [(sv aa)] [] (fun _:Unit=>(zi R)) (fun _=>[]):=by
 refine Se 26 Tryz.func46 [.tmp 2] ?_
 intro H0 F0
 unfold oV at hF
 refine aB ?_
 obtain⟨o1,kg,hO2⟩:=bind_some hF
 refine au ?_
 refine bW (fun f' cs'=>∃(c8:Bool)(g:Fr),c8=o1/\f'=aH g [(0,(sv aa)),(12,(.bool c8))]/\aF cs' []) ?_ ?_
 · replace hF:=kg
   refine au ?_
   refine ai (g_ (s:=aa) dz (.tmp rfl rfl)) ?_
   refine aG ?_
   rcases bf (decide ((1:Int)<(aa.length:Int)))with hg3|hg3
   · rw[hg3]
     try rw[hg3]at hF; dsimp only[ak,aj]at hF
     refine ax ?_
     refine zI hF fun u4 Kl hx7 hF=>?_
     refine ai (qI (u:=u4) dz (.tmp rfl rfl) (.int _ _) Kl hx7) ?_
     exact aO hF
   rw[hg3]
   try rw[hg3]at hF; dsimp only[ak,aj]at hF
   exact aO hF
 rintro _ _ ⟨c8,g27,rfl,rfl,hE⟩
 replace hF:=hO2
 try dsimp only at hF
 refine bn hE ?_
 refine Ci hF (fun Cg hF=>?_) (fun Cg hF=>?_)
 · refine aG ?_
   refine bnd hF fun Kk lT hF=>?_
   have w_:=lH lT
   simp only[Bool.and_eq_true,decide_eq_true_eq]at w_
   refine ai (xV (s:=aa) (i:=(1:Int)) dz (.tmp rfl rfl) (.int _ _) w_.1 w_.2) ?_
   refine bnd hF fun bR eB hF=>az (qF eB) (fun _=>?_)
   refine aD ?_
   refine bnd hF fun dY hx16 hF=>az (eU hx16) (fun _=>?_)
   refine au ?_
   refine Ci hF (fun aaF hF=>?_) (fun aaF hF=>?_)
   · exact ze hF
   exact ze hF
 refine ax ?_
 refine bnd hF fun nk iF hF=>az (qF iF) (fun _=>?_)
 refine aD ?_
 refine bnd hF fun gV jq hF=>az (eU jq) (fun _=>?_)
 refine aG ?_
 refine Ci hF (fun Ch hF=>?_) (fun Ch hF=>?_)
 · exact ze hF
 exact ze hF
def tK(fuel:Nat)(r5:Int):List (List UInt8)->Nat->(List Int)->Option (aW)
 |[],sQ,kC=>some (⟨r5,kC⟩:aW)
 |za::rD,sQ,kC=>(oV fuel za).bind fun Gh=>
   (app kC ([Gh]:List Int)).bind fun z73=>
   tK fuel r5 rD (sQ+1) z73
def oW(fuel:Nat)(aa:List UInt8):Option (aW):=
 (yh aa).bind fun r2=>
 (nM fuel r2.1).bind fun r5=>
 tK fuel r5 r2.2 0 ([]:List Int)
theorem LH{fuel:Nat}{aa:List UInt8}{R:aW}(hF:oW fuel aa=some R):
   Fw.Spec Tryz.prog 47 [(sv aa)] [] (fun p:Sv×List Nat=>(zg [(zi R.Rel),p.1.v])) (fun p=>[bT p.2 p.1 R.Terms]):=by
 refine Se 32 Tryz.func47 [.cell 2 83] ?_
 intro H0 F0
 unfold oW at hF
 refine au ?_
 refine fe (fun k1=>?_)
 refine ax ?_
 refine bnd hF fun r2 hx3 hF=>dI (MZ hx3) (fun p4=>?_)
 refine au ?_
 refine zx ?_
 refine zx ?_
 refine aD ?_
 refine bnd hF fun r5 hx6 hF=>az (Ac hx6) (fun _=>?_)
 refine ai (fA mW.h rfl (vs:=[(zi r5)]) bI (cells:=[(zi r5),(.slice none 0 0)]) rfl) ?_
 refine fe (fun k8=>?_)
 refine As (zg [(zi r5),(.slice none 0 0)]) ?_
 refine aD ?_
 refine bH (nU (.t .h) df ?_)
 refine bX (m:=r2.2.length) (fun QZ f' cs'=>∃(g:Fr)(sQ:Nat)(rD:List (List UInt8))(kC:List Int)(v53:Sv)(KA:List Nat),QZ=rD.length/\f'=aH g [(2,(pz k1)),(4,p4.1.v),(5,(pz k8)),(6,(zi (sQ:Int)))]/\List.drop sQ r2.2=rD/\aF cs' [bQ k1 83 (zg [(zi 0),(.slice none 0 0)]),jd p4.1 r2.2,bQ k8 83 (zg [(zi r5),v53.v]),bT KA v53 kC]/\tK fuel r5 rD sQ kC=some R) ⟨_,0,_,_,⟨none,0,0⟩,[],rfl,aK,rfl,(.conv .nil (dP (Ro:=(aR aX)) (E:=3)) (.cons .nil) aJ),hF⟩ ?_
 rintro QZ _ _ ⟨g57,sQ,rD,kC,v53,KA,rfl,rfl,Qh,hE,hF⟩
 refine Kb hE r2.2 (fun acZ=>?_)
 rcases rD with _|⟨za,rD⟩
 · have aaG:=dn Qh
   rw[tK]at hF
   refine bZ ?_
   refine dL ?_
   refine bB ?_
   refine As (zg [(zi r5),v53.v]) ?_
   refine aG ?_
   cases hF
   exact Er (v53,KA)
 obtain⟨aaG,Jp,aaH⟩:=dE Qh
 rw[tK]at hF
 refine bZ ?_
 refine dK ?_
 refine aG ?_
 refine uD [0,1,2,3,4,5,6,7,8,9,10] [0,1,0,0,12,28,60,124,255,511,1023] [6,8,10] mixed (by decide+kernel) ?_
 refine du ?_
 refine pF rfl .no .q2 (fun ha hp=>lI (v:=v53.v) uP.h (EN ha (.tmp rfl rfl) rfl) hp.2 rfl rfl) ?_
 refine fT ?_
 refine Di Jp (fun k67 j68=>?_)
 refine Dl fB ?_
 refine bnd hF fun Gh Jq hF=>mO rfl rfl .no .nil (.own .q3 (fun _ h=>h) .nil) (fun ha=>bY PN.h (.cons (EN ha (.tmp rfl rfl) rfl) .nil) (LG Jq)) (fun _=>?_)
 refine rM rfl .no rfl (fun ha=>eD (g:=true) (len:=1) (parts:=[(0,.tmp 27)]) eP.h dX.h (.cons (EN ha (.tmp rfl rfl) rfl) .nil) (vs:=[(zi Gh)]) rfl rfl rfl (by intro v hv; simp at hv; rcases hv with rfl<;>rfl)) (fun k72=>?_)
 refine CQ (.cons .h .nil) (eH (Ro:=(aR aX)) (E:=3) (F:=([]++[])) (xs:=([Gh]:List Int)) (dM (fq (fun _=>rfl)) eG bU) rfl rfl) ?_
 refine bnd hF fun z73 aaI hF=>iR rfl rfl .no (.cons .q5 (.cons .h .nil)) (.dep rfl (.dep rfl .nil)) (fun ha=>iP (Ro:=(aR aX)) eP.h mh dX.h rfl rfl rfl (EN ha (.tmp rfl rfl) rfl) (EN ha (.tmp rfl rfl) rfl) aaI iQ) (fun p75=>?_)
 refine du ?_
 refine iR rfl rfl .no (.cons .q4 .nil) (.dep rfl (.dep rfl .nil)) (fun ha=>j3 (e':=(zg [(zi r5),p75.1.v])) BB.h.sz (EN ha (.tmp rfl rfl) rfl) (EN ha (.tmp rfl rfl) rfl) rfl rfl rfl rfl rfl) (fun _=>?_)
 refine du ?_
 refine aD ?_
 rw[wk sQ]
 exact⟨_,cO _,_,sQ+1,rD,_,p75.1,p75.2,rfl,aK,aaH,aJ,hF⟩
def yt(dJ:Int):Option (Bool):=
 (dN dJ 10 17).bind fun r1=>
 some r1
theorem G8{dJ:Int}{R:Bool}(hF:yt dJ=some R):
   Fw.Spec Tryz.prog 102 [(zi dJ)] [] (fun _:Unit=>(.bool R)) (fun _=>[]):=by
 refine Se 5 Tryz.func102 [.tmp 2] ?_
 intro H0 F0
 unfold yt at hF
 refine aD ?_
 refine bnd hF fun r1 hx2 hF=>az (eU hx2) (fun _=>?_)
 exact ze hF
def xR(dC:Int):List Int->Nat->Option (Bool)
 |[],k4=>some false
 |x6::aM,k4=>if ((x6:Int)==dC)then (
     some true)
   else (
     xR dC aM (k4+1))
def uE(a_:List Int)(dC:Int):Option (Bool):=
 xR dC a_ 0
theorem D5{a_:List Int}{ae:Sv}{dC:Int}{R:Bool}(hF:uE a_ dC=some R):
   Fw.Spec Tryz.prog 73 [ae.v,(zi dC)] [aC ae a_] (fun _:Unit=>(.bool R)) (fun _=>[]):=by
 refine Se 18 Tryz.func73 [.tmp 4] ?_
 intro H0 F0
 unfold uE at hF
 refine bZ ?_
 refine bH (bX (m:=a_.length) (fun m2 f' cs'=>∃(g:Fr)(k4:Nat)(aM:List Int),m2=aM.length/\f'=aH g [(0,ae.v),(1,(zi dC)),(5,(zi (k4:Int)))]/\List.drop k4 a_=aM/\aF cs' [aC ae a_]/\xR dC aM k4=some R) ⟨_,0,_,rfl,aK,rfl,aJ,hF⟩ ?_)
 rintro m2 _ _ ⟨g3,k4,aM,rfl,rfl,hd7,hE,hF⟩
 refine Kb hE a_ (fun mQ=>?_)
 rcases aM with _|⟨x6,aM⟩
 · have gZ:=dn hd7
   rw[xR]at hF
   refine bZ ?_
   refine dL ?_
   exact ze hF
 obtain⟨gZ,bO,iA⟩:=dE hd7
 rw[xR]at hF
 refine bZ ?_
 refine dK ?_
 refine aD ?_
 refine Ai bO (fun k13 oI=>?_)
 refine Al dw ?_
 refine ax ?_
 refine Ci hF (fun wO hF=>?_) (fun wO hF=>?_)
 · exact ze hF
 refine bB ?_
 rw[wk k4]
 exact⟨_,cO _,_,k4+1,aM,rfl,aK,iA,aJ,hF⟩
def vR(a_:List Int)(dC:Int):Nat->(List Int)->Bool->Int->Option ((List Int))
 |0,_,_,_=>none
 |m10+1,c5,c8,c9=>if (decide ((c9:Int)<(a_.length:Int)))then (
     ((bif (!c8)then ((ix a_ c9).bind fun lY=>
           some (decide ((dC:Int)<lY)))
         else (some false)).bind fun xh=>
       match xh with
       |CZ=>if CZ then (
           (app c5 ([dC]:List Int)).bind fun z32=>
           (ix a_ c9).bind fun x38=>
           (app z32 ([x38]:List Int)).bind fun z43=>
           some (z43,true))
         else (
           (ix a_ c9).bind fun C8=>
           (app c5 ([C8]:List Int)).bind fun z54=>
           some (z54,c8))).bind fun nu=>
     match nu with
     |(c59,jK)=>vR a_ dC m10 c59 jK (IntKind.i64.wrap (c9+1)))
   else (
     if (!c8)then (
       (app c5 ([dC]:List Int)).bind fun z65=>
       some z65)
     else (
       some c5))
def AP(a_:List Int)(dC:Int):Option ((List Int)):=
 (uE a_ dC).bind fun r1=>
 if r1 then (
   some a_)
 else (
   vR a_ dC (((a_.length:Int)-0).toNat+2) ([]:List Int) false 0)
theorem UE{a_:List Int}{ae:Sv}{sj:List Nat}{dC:Int}{R:(List Int)}(hF:AP a_ dC=some R):
   Fw.Spec Tryz.prog 103 [ae.v,(zi dC)] [bT sj ae a_] (fun p:Sv×List Nat=>p.1.v) (fun p=>[bT p.2 p.1 R]):=by
 refine Se 47 Tryz.func103 [.tmp 4] ?_
 intro H0 F0
 unfold AP at hF
 refine bZ ?_
 refine bnd hF fun r1 hx2 hF=>cB (.cons .h .nil) (gP df (fun _=>.nil) (bY EX.h bI (D5 hx2))) (fun _=>?_)
 refine au ?_
 refine Ci hF (fun aaJ hF=>?_) (fun aaJ hF=>?_)
 · refine aD ?_
   cases hF
   exact Er (ae,sj)
 refine aG ?_
 refine fF rfl (eD (g:=true) eP.h dX.h .nil (vs:=[]) rfl rfl rfl (by simp)) (fun k4=>?_)
 refine fK (.cons .h .nil) (eH (Ro:=(aR aX)) (E:=3) (F:=[]) (xs:=([]:List Int)) eG rfl rfl) ?_
 refine f_ ?_
 refine bH (bX (m:=(((a_.length:Int)-0).toNat+2)) (fun m10 f' cs'=>∃(g:Fr)(c5:List Int)(c8:Bool)(c9:Int)(v6:Sv)(F7:List Nat),f'=aH g [(0,ae.v),(1,(zi dC)),(5,v6.v),(6,(.bool c8)),(7,(zi c9))]/\aF cs' [bT sj ae a_,bT F7 v6 c5]/\vR a_ dC m10 c5 c8 c9=some R) ⟨_,_,_,_,⟨(some ⟨k4,0,none⟩),0,1⟩,(k4::[]),aK,aJ,hF⟩ ?_)
 rintro m10 _ _ ⟨g11,c5,c8,c9,v6,F7,rfl,hE,hF⟩
 refine bn hE ?_
 rcases m10 with _|m10
 · rw[vR]at hF
   exact absurd hF (by simp)
 rw[vR]at hF
 refine bZ ?_
 refine Ci hF (fun aaK hF=>?_) (fun aaK hF=>?_)
 · refine au ?_
   obtain⟨nu,Bj,Cj⟩:=bind_some hF
   refine ll (fun f' cs'=>∃(c59:List Int)(jK:Bool)(v60:Sv)(KC:List Nat)(g:Fr),nu=(c59,jK)/\f'=aH g [(0,ae.v),(1,(zi dC)),(5,v60.v),(6,(.bool jK)),(7,(zi c9))]/\aF cs' [bT sj ae a_,bT KC v60 c59]) ?_ ?_
   · replace hF:=Bj
     refine bH (j_ ?_)
     obtain⟨xh,Im,Jr⟩:=bind_some hF
     refine au ?_
     refine bW (fun f' cs'=>∃(CZ:Bool)(g:Fr),CZ=xh/\f'=aH g [(0,ae.v),(1,(zi dC)),(5,v6.v),(6,(.bool c8)),(7,(zi c9)),(28,(.bool CZ))]/\aF cs' [bT sj ae a_,bT F7 v6 c5]) ?_ ?_
     · replace hF:=Im
       refine ax ?_
       rcases bf (!c8)with ko|ko
       · rw[ko]
         try rw[ko]at hF; dsimp only[ak,aj]at hF
         refine aD ?_
         refine bnd hF fun lY hx27 hF=>?_
         have aaL:=ww hx27
         obtain⟨aet,hx29⟩:=nK hx27
         refine uH eP.h dX.h.sz (.tmp rfl rfl) (.tmp rfl rfl) .h aaL (fun k23 Js=>?_)
         refine au ?_
         refine wC (w:=(zi lY)) J9.h (.tmp rfl rfl) .h Js hx29 Ie ?_
         exact aO hF
       rw[ko]
       try rw[ko]at hF; dsimp only[ak,aj]at hF
       exact aO hF
     rintro _ _ ⟨CZ,g58,rfl,rfl,hE⟩
     replace hF:=Jr
     try dsimp only at hF
     refine bn hE ?_
     refine Ci hF (fun Jt hF=>?_) (fun Jt hF=>?_)
     · refine ax ?_
       refine fF rfl (eD (g:=true) eP.h dX.h bI (vs:=[(zi dC)]) rfl rfl rfl (by intro v hv; simp at hv; rcases hv with rfl<;>rfl)) (fun Ku=>?_)
       refine fK (.cons .h .nil) (eH (Ro:=(aR aX)) (E:=3) (F:=([]++[])) (xs:=([dC]:List Int)) (dM (fq (fun _=>rfl)) eG bU) rfl rfl) ?_
       refine bnd hF fun z32 rY hF=>cB (.cons .q2 (.cons .h .nil)) (iP (Ro:=(aR aX)) eP.h mh dX.h rfl rfl rfl (.tmp rfl rfl) (.tmp rfl rfl) rY iQ) (fun p34=>?_)
       refine f_ ?_
       refine bnd hF fun x38 hx39 hF=>?_
       have aaM:=ww hx39
       obtain⟨aeu,aaN⟩:=nK hx39
       refine uH eP.h dX.h.sz (.tmp rfl rfl) (.tmp rfl rfl) (.t .h) aaM (fun iC II=>?_)
       refine wC (w:=(zi x38)) J9.h (.tmp rfl rfl) (.t .h) II aaN Ie ?_
       refine fF rfl (eD (g:=true) eP.h dX.h bI (vs:=[(zi x38)]) rfl rfl rfl (by intro v hv; simp at hv; rcases hv with rfl<;>rfl)) (fun k42=>?_)
       refine fK (.cons .h .nil) (eH (Ro:=(aR aX)) (E:=3) (F:=([]++[])) (xs:=([x38]:List Int)) (dM (fq (fun _=>rfl)) eG bU) rfl rfl) ?_
       refine bnd hF fun z43 wN hF=>cB (.cons (.t .h) (.cons .h .nil)) (iP (Ro:=(aR aX)) eP.h mh dX.h rfl rfl rfl (.tmp rfl rfl) (.tmp rfl rfl) wN iQ) (fun p45=>?_)
       refine aG ?_
       cases hF
       exact⟨_,_,p45.1,p45.2,_,rfl,aK,aJ⟩
     refine aD ?_
     refine bnd hF fun C8 yQ hF=>?_
     have aaO:=ww yQ
     obtain⟨aev,Ju⟩:=nK yQ
     refine uH eP.h dX.h.sz (.tmp rfl rfl) (.tmp rfl rfl) .h aaO (fun qd aaP=>?_)
     refine wC (w:=(zi C8)) J9.h (.tmp rfl rfl) .h aaP Ju Ie ?_
     refine fF rfl (eD (g:=true) eP.h dX.h bI (vs:=[(zi C8)]) rfl rfl rfl (by intro v hv; simp at hv; rcases hv with rfl<;>rfl)) (fun k53=>?_)
     refine fK (.cons .h .nil) (eH (Ro:=(aR aX)) (E:=3) (F:=([]++[])) (xs:=([C8]:List Int)) (dM (fq (fun _=>rfl)) eG bU) rfl rfl) ?_
     refine bnd hF fun z54 wM hF=>cB (.cons .q2 (.cons .h .nil)) (iP (Ro:=(aR aX)) eP.h mh dX.h rfl rfl rfl (.tmp rfl rfl) (.tmp rfl rfl) wM iQ) (fun p56=>?_)
     refine aG ?_
     cases hF
     exact⟨_,_,p56.1,p56.2,_,rfl,aK,aJ⟩
   rintro _ _ ⟨c59,jK,v60,KC,g63,rfl,rfl,hE⟩
   replace hF:=Cj
   try dsimp only at hF
   refine bn hE ?_
   refine aD ?_
   exact⟨m10,cO _,_,_,_,_,v60,KC,aK,aJ,hF⟩
 refine f_ ?_
 refine Ci hF (fun aaQ hF=>?_) (fun aaQ hF=>?_)
 · refine ax ?_
   refine fF rfl (eD (g:=true) eP.h dX.h bI (vs:=[(zi dC)]) rfl rfl rfl (by intro v hv; simp at hv; rcases hv with rfl<;>rfl)) (fun k64=>?_)
   refine fK (.cons .h .nil) (eH (Ro:=(aR aX)) (E:=3) (F:=([]++[])) (xs:=([dC]:List Int)) (dM (fq (fun _=>rfl)) eG bU) rfl rfl) ?_
   refine bnd hF fun z65 I5 hF=>cB (.cons .q2 (.cons .h .nil)) (iP (Ro:=(aR aX)) eP.h mh dX.h rfl rfl rfl (.tmp rfl rfl) (.tmp rfl rfl) I5 iQ) (fun p67=>?_)
   refine bZ ?_
   cases hF
   exact Er (p67.1,p67.2)
 refine bB ?_
 cases hF
 exact Er (v6,F7)
def uh(ig:aW):Nat->(List Int)->Int->Option ((List Int))
 |0,_,_=>none
 |m24+1,c20,c23=>if (decide ((c23:Int)<(ig.Terms.length:Int)))then (
     ((ix ig.Terms c23).bind fun x40=>
       (yt x40).bind fun y9=>
       if y9 then (
         (ix ig.Terms c23).bind fun l8=>
         (AP c20 l8).bind fun Q0=>
         some Q0)
       else (
         some c20)).bind fun KD=>
     match KD with
     |jK=>uh ig m24 jK (IntKind.i64.wrap (c23+1)))
   else (
     some c20)
def vM:List aW->Nat->(List Int)->Option ((List Int))
 |[],k9,c3=>some c3
 |ig::jD,k9,c3=>(uh ig (((ig.Terms.length:Int)-0).toNat+2) c3 0).bind fun nu=>
   match nu with
   |C9=>vM jD (k9+1) C9
def vW(aI:bG):Option ((List Int)):=
 vM aI.Atoms 0 ([]:List Int)
theorem GQ{aI:bG}{ae bA:Sv}{R:(List Int)}(hF:vW aI=some R):
   Fw.Spec Tryz.prog 72 [(zg [ae.v,bA.v])] [aC ae aI.Head,gq bA aI.Atoms] (fun p:Sv×List Nat=>p.1.v) (fun p=>[bT p.2 p.1 R]):=by
 refine Se 47 Tryz.func72 [.tmp 2] ?_
 intro H0 F0
 unfold vW at hF
 refine au ?_
 refine fC (fun k1=>?_)
 refine ax ?_
 refine fF rfl (eD (g:=true) eP.h dX.h .nil (vs:=[]) rfl rfl rfl (by simp)) (fun k2=>?_)
 refine fK (.cons .h .nil) (eH (Ro:=(aR aX)) (E:=3) (F:=[]) (xs:=([]:List Int)) eG rfl rfl) ?_
 refine bB ?_
 refine bH (bX (m:=aI.Atoms.length) (fun m7 f' cs'=>∃(g:Fr)(k9:Nat)(jD:List aW)(c3:List Int)(v4:Sv)(F5:List Nat),m7=jD.length/\f'=aH g [(1,(pz k1)),(3,v4.v),(4,(zi (k9:Int)))]/\List.drop k9 aI.Atoms=jD/\aF cs' [cz k1 59 (zg [ae.v,bA.v]),aC ae aI.Head,gq bA aI.Atoms,bT F5 v4 c3]/\vM jD k9 c3=some R) ⟨_,0,_,_,⟨(some ⟨k2,0,none⟩),0,1⟩,(k2::[]),rfl,aK,rfl,aJ,hF⟩ ?_)
 rintro m7 _ _ ⟨g8,k9,jD,c3,v4,F5,rfl,rfl,Ck,hE,hF⟩
 refine Kb hE aI.Atoms (fun Yo=>?_)
 rcases jD with _|⟨ig,jD⟩
 · have Jv:=dn Ck
   rw[vM]at hF
   refine dB ?_
   refine dL ?_
   refine f_ ?_
   cases hF
   exact Er (v4,F5)
 obtain⟨Jv,jG,Jw⟩:=dE Ck
 rw[vM]at hF
 refine dB ?_
 refine dK ?_
 refine au ?_
 obtain⟨nu,Bj,Cj⟩:=bind_some hF
 refine ll (fun f' cs'=>∃(C9:List Int)(v68:Sv)(KE:List Nat)(g:Fr),C9=nu/\f'=aH g [(1,(pz k1)),(3,v68.v),(4,(zi (k9:Int)))]/\aF cs' [cz k1 59 (zg [ae.v,bA.v]),aC ae aI.Head,gq bA aI.Atoms,bT KE v68 C9]) ?_ ?_
 · replace hF:=Bj
   refine bH (eF (ai (jZ (v:=(zi 0)) (.int _ _)) ?_))
   refine au ?_
   refine bH (bX (m:=(((ig.Terms.length:Int)-0).toNat+2)) (fun m24 f' cs'=>∃(g:Fr)(c20:List Int)(c23:Int)(v21:Sv)(Gi:List Nat),f'=aH g [(1,(pz k1)),(3,v21.v),(4,(zi (k9:Int))),(5,(zi c23))]/\aF cs' [cz k1 59 (zg [ae.v,bA.v]),aC ae aI.Head,gq bA aI.Atoms,bT Gi v21 c20]/\uh ig m24 c20 c23=some nu) ⟨_,_,_,v4,F5,aK,aJ,hF⟩ ?_)
   rintro m24 _ _ ⟨QT,c20,c23,v21,Gi,rfl,hE,hF⟩
   refine bn hE ?_
   rcases m24 with _|m24
   · rw[uh]at hF
     exact absurd hF (by simp)
   rw[uh]at hF
   refine bB ?_
   refine Ai jG (fun lX j33=>?_)
   refine au ?_
   refine Ia (R':=(cZ 3 aX)) uP.h (.tmp rfl rfl) .h H6 (fun w34=>?_)
   refine ax ?_
   refine Ci hF (fun Jy hF=>?_) (fun Jy hF=>?_)
   · refine au ?_
     obtain⟨KD,Yp,aaR⟩:=bind_some hF
     refine ll (fun f' cs'=>∃(jK:List Int)(v63:Sv)(KF:List Nat)(g:Fr),jK=KD/\f'=aH g [(1,(pz k1)),(3,v63.v),(4,(zi (k9:Int))),(5,(zi c23))]/\aF cs' [cz k1 59 (zg [ae.v,bA.v]),aC ae aI.Head,gq bA aI.Atoms,bT KF v63 jK]) ?_ ?_
     · replace hF:=Yp
       refine bH (eF (ai (nE (off:=1) wz.h (.tmp rfl rfl)) ?_))
       refine aG ?_
       refine Ai jG (fun k37 j38=>?_)
       refine au ?_
       refine Ia (R':=(cZ 3 aX)) uP.h (.tmp rfl rfl) .h H6 (fun w39=>?_)
       refine au ?_
       refine zI hF fun x40 IU iG hF=>?_
       refine Ai iG (fun k44 j45=>?_)
       refine Al dw ?_
       refine bnd hF fun y9 kQ hF=>az (G8 kQ) (fun _=>?_)
       refine au ?_
       refine Ci hF (fun BP hF=>?_) (fun BP hF=>?_)
       · refine aD ?_
         refine Ai jG (fun k49 j50=>?_)
         refine au ?_
         refine Ia (R':=(cZ 3 aX)) uP.h (.tmp rfl rfl) .h H6 (fun w51=>?_)
         refine au ?_
         refine zI hF fun l8 aew wM hF=>?_
         refine Ai wM (fun k56 j57=>?_)
         refine Al dw ?_
         refine bnd hF fun Q0 aaS hF=>dI (UE aaS) (fun p60=>?_)
         refine aG ?_
         cases hF
         exact⟨_,p60.1,p60.2,_,rfl,aK,aJ⟩
       refine au ?_
       cases hF
       exact⟨_,v21,Gi,_,rfl,aK,aJ⟩
     rintro _ _ ⟨jK,v63,KF,QV,rfl,rfl,hE⟩
     replace hF:=aaR
     try dsimp only at hF
     refine bn hE ?_
     refine aD ?_
     exact⟨m24,cO _,_,_,_,v63,KF,aK,aJ,hF⟩
   refine aB ?_
   cases hF
   exact⟨_,v21,Gi,_,rfl,aK,aJ⟩
 rintro _ _ ⟨C9,v68,KE,g71,rfl,rfl,hE⟩
 replace hF:=Cj
 try dsimp only at hF
 refine bn hE ?_
 refine aD ?_
 rw[wk k9]
 exact⟨_,cO _,_,k9+1,jD,_,v68,KE,rfl,aK,Jw,aJ,hF⟩
def vX(dJ:Int):Option (Bool):=
 ((dN dJ 0 9).bind fun r3=>
   bif r3 then (some true)
   else ((yt dJ).bind fun r7=>
     some r7)).bind fun o1=>
 match o1 with
 |c10=>some c10
theorem M0{dJ:Int}{R:Bool}(hF:vX dJ=some R):
   Fw.Spec Tryz.prog 101 [(zi dJ)] [] (fun _:Unit=>(.bool R)) (fun _=>[]):=by
 refine Se 9 Tryz.func101 [.tmp 2] ?_
 intro H0 F0
 unfold vX at hF
 refine ax ?_
 obtain⟨o1,kg,hO2⟩:=bind_some hF
 refine au ?_
 refine bW (fun f' cs'=>∃(c10:Bool)(g:Fr),c10=o1/\f'=aH g [(2,(.bool c10))]/\aF cs' []) ?_ ?_
 · replace hF:=kg
   refine au ?_
   refine bnd hF fun r3 hx4 hF=>az (eU hx4) (fun _=>?_)
   refine au ?_
   rcases bf r3 with gK|gK
   · rw[gK]
     try rw[gK]at hF; dsimp only[ak,aj]at hF
     exact aO hF
   rw[gK]
   try rw[gK]at hF; dsimp only[ak,aj]at hF
   refine ax ?_
   refine bnd hF fun r7 ik hF=>az (G8 ik) (fun _=>?_)
   exact aO hF
 rintro _ _ ⟨c10,g11,rfl,rfl,hE⟩
 replace hF:=hO2
 try dsimp only at hF
 refine bn hE ?_
 exact ze hF
def vN:List Int->Nat->Option (Bool)
 |[],k22=>some true
 |x24::jB,k22=>(vX x24).bind fun gI=>
   if (!gI)then (
     some false)
   else (
     vN jB (k22+1))
def Aw(aa:List Int)(bg:aW):Option (Bool):=
 ((qG aa).bind fun r4=>
   bif (!r4)then (some true)
   else ((dN bg.Rel 0 (IntKind.i64.wrap ((aa.length:Int)-1))).bind fun r8=>
     bif (!r8)then (some true)
     else ((ix aa bg.Rel).bind fun sP=>
       some (((bg.Terms.length:Int):Int)!=sP)))).bind fun o2=>
 match o2 with
 |c18=>if c18 then (
     some false)
   else (
     vN bg.Terms 0)
theorem Ug{aa:List Int}{ae:Sv}{bg:aW}{dS:Sv}{R:Bool}(hF:Aw aa bg=some R):
   Fw.Spec Tryz.prog 71 [ae.v,(zg [(zi bg.Rel),dS.v])] [aC ae aa,aC dS bg.Terms] (fun _:Unit=>(.bool R)) (fun _=>[]):=by
 refine Se 43 Tryz.func71 [.tmp 4] ?_
 intro H0 F0
 unfold Aw at hF
 refine au ?_
 refine fC (fun k1=>?_)
 refine ax ?_
 obtain⟨o2,fH,hO3⟩:=bind_some hF
 refine gN [0,1,2,3,4,5,6,7,8,9,10,11,12,13,14,15,16,17,18,19,20,21,22] [0,1,3,7,15,31,15,79,207,511,1023,2047,4095,8191,16383,32767,8191,8191,139263,466943,991231,2097151,4194303] [1,9] mixed (by decide+kernel) ?_
 refine pG (fun f' cs'=>∃(c18:Bool)(g:Fr),c18=o2/\f'=aH g [(3,(pz k1)),(28,(.bool c18))]/\aF cs' [cz k1 83 (zg [(zi bg.Rel),dS.v]),aC dS bg.Terms]) ?_ ?_
 · replace hF:=fH
   refine du ?_
   refine bnd hF fun r4 hx5 hF=>di (zJ hx5) (fun _=>?_)
   refine fT ?_
   rcases bf (!r4)with aZ|aZ
   · rw[aZ]
     try rw[aZ]at hF; dsimp only[ak,aj]at hF
     exact gm hF
   rw[aZ]
   try rw[aZ]at hF; dsimp only[ak,aj]at hF
   refine BC ?_
   refine bnd hF fun r8 bO hF=>di (eU bO) (fun _=>?_)
   refine iy ?_
   rcases bf (!r8)with bN|bN
   · rw[bN]
     try rw[bN]at hF; dsimp only[ak,aj]at hF
     exact gm hF
   rw[bN]
   try rw[bN]at hF; dsimp only[ak,aj]at hF
   refine uR ?_
   refine zI hF fun sP Fv jO hF=>?_
   refine Di jO (fun k16 F6=>?_)
   refine Dl dw ?_
   exact gm hF
 rintro _ _ ⟨c18,Kt,rfl,rfl,hE⟩
 replace hF:=hO3
 try dsimp only at hF
 refine bn hE ?_
 refine Ci hF (fun mo hF=>?_) (fun mo hF=>?_)
 · exact ze hF
 refine aD ?_
 refine bH (bX (m:=bg.Terms.length) (fun m20 f' cs'=>∃(g:Fr)(k22:Nat)(jB:List Int),m20=jB.length/\f'=aH g [(3,(pz k1)),(5,(zi (k22:Int)))]/\List.drop k22 bg.Terms=jB/\aF cs' [cz k1 83 (zg [(zi bg.Rel),dS.v]),aC dS bg.Terms]/\vN jB k22=some R) ⟨_,0,_,rfl,aK,rfl,aJ,hF⟩ ?_)
 rintro m20 _ _ ⟨g21,k22,jB,rfl,rfl,hd25,hE,hF⟩
 refine Kb hE bg.Terms (fun Yl=>?_)
 rcases jB with _|⟨x24,jB⟩
 · have Jk:=dn hd25
   rw[vN]at hF
   refine dB ?_
   refine dL ?_
   exact ze hF
 obtain⟨Jk,hx27,hd28⟩:=dE hd25
 rw[vN]at hF
 refine dB ?_
 refine dK ?_
 refine bB ?_
 refine Ai hx27 (fun Ku j32=>?_)
 refine Al dw ?_
 refine bnd hF fun gI hx34 hF=>az (M0 hx34) (fun _=>?_)
 refine aG ?_
 refine Ci hF (fun B_ hF=>?_) (fun B_ hF=>?_)
 · exact ze hF
 refine bB ?_
 rw[wk k22]
 exact⟨_,cO _,_,k22+1,jB,rfl,aK,hd28,aJ,hF⟩
def t_(aa:List Int)(aI:bG)(kE:(List Int)):List Int->Nat->Option (Bool)
 |[],k20=>((qG aa).bind fun iM=>
     bif iM then ((dN (aI.Atoms.length:Int) 1 4).bind fun jV=>
       bif jV then (some (decide (((aI.Head.length:Int):Int)<=3)))
       else (some false))
     else (some false)).bind fun KG=>
   match KG with
   |kD=>some kD
 |sS::rE,k20=>(uE kE sS).bind fun m_=>
   if (!m_)then (
     some false)
   else (
     t_ aa aI kE rE (k20+1))
def uf(aa:List Int)(aI:bG):List aW->Nat->Option (Bool)
 |[],k5=>(vW aI).bind fun kE=>
   t_ aa aI kE aI.Head 0
 |x7::gy,k5=>(Aw aa x7).bind fun Q3=>
   if (!Q3)then (
     some false)
   else (
     uf aa aI gy (k5+1))
def xX(aa:List Int)(aI:bG):Option (Bool):=
 uf aa aI aI.Atoms 0
theorem ML{aa:List Int}{ae:Sv}{aI:bG}{kr dS:Sv}{R:Bool}(hF:xX aa aI=some R):
   Fw.Spec Tryz.prog 48 [ae.v,(zg [kr.v,dS.v])] [aC ae aa,aC kr aI.Head,gq dS aI.Atoms] (fun _:Unit=>(.bool R)) (fun _=>[]):=by
 refine Se 54 Tryz.func48 [.tmp 4] ?_
 intro H0 F0
 unfold xX at hF
 refine au ?_
 refine fC (fun k1=>?_)
 refine bB ?_
 refine bH (bX (m:=aI.Atoms.length) (fun m3 f' cs'=>∃(g:Fr)(k5:Nat)(gy:List aW),m3=gy.length/\f'=aH g [(0,ae.v),(3,(pz k1)),(5,(zi (k5:Int)))]/\List.drop k5 aI.Atoms=gy/\aF cs' [aC ae aa,cz k1 59 (zg [kr.v,dS.v]),aC kr aI.Head,gq dS aI.Atoms]/\uf aa aI gy k5=some R) ⟨_,0,_,rfl,aK,rfl,aJ,hF⟩ ?_)
 rintro m3 _ _ ⟨g4,k5,gy,rfl,rfl,u7,hE,hF⟩
 refine Kb hE aI.Atoms (fun Pt=>?_)
 rcases gy with _|⟨x7,gy⟩
 · have CX:=dn u7
   rw[uf]at hF
   refine dB ?_
   refine dL ?_
   refine bB ?_
   refine bnd hF fun kE jO hF=>dI (GQ jO) (fun p16=>?_)
   refine bB ?_
   refine bH (bX (m:=aI.Head.length) (fun m18 f' cs'=>∃(g:Fr)(k20:Nat)(rE:List Int),m18=rE.length/\f'=aH g [(0,ae.v),(3,(pz k1)),(6,p16.1.v),(7,(zi (k20:Int)))]/\List.drop k20 aI.Head=rE/\aF cs' [aC ae aa,cz k1 59 (zg [kr.v,dS.v]),aC kr aI.Head,gq dS aI.Atoms,bT p16.2 p16.1 kE]/\t_ aa aI kE rE k20=some R) ⟨_,0,_,rfl,aK,rfl,aJ,hF⟩ ?_)
   rintro m18 _ _ ⟨g19,k20,rE,rfl,rfl,Qi,hE,hF⟩
   refine Kb hE aI.Head (fun ac0=>?_)
   rcases rE with _|⟨sS,rE⟩
   · have Js:=dn Qi
     rw[t_]at hF
     refine dB ?_
     refine dL ?_
     refine aB ?_
     obtain⟨KG,Yq,aaT⟩:=bind_some hF
     refine au ?_
     refine bW (fun f' cs'=>∃(kD:Bool)(g:Fr),kD=KG/\f'=aH g [(4,(.bool kD))]/\aF cs' []) ?_ ?_
     · replace hF:=Yq
       refine au ?_
       refine bnd hF fun iM hx32 hF=>az (zJ hx32) (fun _=>?_)
       refine au ?_
       rcases bf iM with Cn|Cn
       · rw[Cn]
         try rw[Cn]at hF; dsimp only[ak,aj]at hF
         refine bZ ?_
         refine bnd hF fun jV lC hF=>az (eU lC) (fun _=>?_)
         refine aG ?_
         rcases bf jV with Co|Co
         · rw[Co]
           try rw[Co]at hF; dsimp only[ak,aj]at hF
           exact aO hF
         rw[Co]
         try rw[Co]at hF; dsimp only[ak,aj]at hF
         exact aO hF
       rw[Cn]
       try rw[Cn]at hF; dsimp only[ak,aj]at hF
       exact aO hF
     rintro _ _ ⟨kD,g40,rfl,rfl,hE⟩
     replace hF:=aaT
     try dsimp only at hF
     refine bn hE ?_
     exact ze hF
   obtain⟨Js,hx25,E_⟩:=dE Qi
   rw[t_]at hF
   refine dB ?_
   refine dK ?_
   refine bZ ?_
   refine Ai hx25 (fun sK QQ=>?_)
   refine Al dw ?_
   refine bnd hF fun m_ wN hF=>cB (.cons .q5 .nil) (gP df (fun _=>.nil) (bY EX.h bI (D5 wN))) (fun _=>?_)
   refine aG ?_
   refine Ci hF (fun BU hF=>?_) (fun BU hF=>?_)
   · exact ze hF
   refine bB ?_
   rw[wk k20]
   exact⟨_,cO _,_,k20+1,rE,rfl,aK,E_,aJ,hF⟩
 obtain⟨CX,jr,jv⟩:=dE u7
 rw[uf]at hF
 refine dB ?_
 refine dK ?_
 refine bZ ?_
 refine Ai jr (fun ny j49=>?_)
 refine yM (vT x7) xW (fun p50=>?_)
 refine bnd hF fun Q3 Ju hF=>az (Ug Ju) (fun _=>?_)
 refine aG ?_
 refine Ci hF (fun Jz hF=>?_) (fun Jz hF=>?_)
 · exact ze hF
 refine bB ?_
 rw[wk k5]
 exact⟨_,cO _,_,k5+1,gy,rfl,aK,jv,aJ,hF⟩
def yj(fuel:Nat)(dJ:Int):Option ((List UInt8)):=
 (yt dJ).bind fun r1=>
 if r1 then (
   (fM fuel (IntKind.i64.wrap (dJ-10))).bind fun r4=>
   (aP [120] r4).bind fun x7=>
   some x7)
 else (
   (fM fuel dJ).bind fun iD=>
   some iD)
theorem M3{fuel:Nat}{dJ:Int}{R:(List UInt8)}(hF:yj fuel dJ=some R):
   Fw.Spec Tryz.prog 104 [(zi dJ)] [] (fun _:Unit=>(sv R)) (fun _=>[]):=by
 refine Se 11 Tryz.func104 [.tmp 2] ?_
 intro H0 F0
 unfold yj at hF
 refine bB ?_
 refine bnd hF fun r1 hx2 hF=>az (G8 hx2) (fun _=>?_)
 refine au ?_
 refine Ci hF (fun Cq hF=>?_) (fun Cq hF=>?_)
 · refine ax ?_
   refine bnd hF fun r4 hx5 hF=>az (jM hx5) (fun _=>?_)
   refine bnd hF fun x7 ik hF=>?_
   obtain⟨Qj,Q4⟩:=bq ik
   refine ai (bu (s:=[120]) (t:=r4) (u:=x7) (.sv _) (.tmp rfl rfl) ik) ?_
   exact ze hF
 refine ax ?_
 refine bnd hF fun iD jQ hF=>az (jM jQ) (fun _=>?_)
 exact ze hF
def qC(fuel:Nat):List Int->Nat->(List UInt8)->Option ((List UInt8))
 |[],k5,c1=>some c1
 |x7::gy,k5,c1=>(if (decide ((0:Int)<(k5:Int)))then (
       (aP c1 [44]).bind fun dQ=>
       (yj fuel x7).bind fun gV=>
       (aP dQ gV).bind fun x25=>
       some x25)
     else (
       (yj fuel x7).bind fun iM=>
       (aP c1 iM).bind fun x34=>
       some x34)).bind fun ky=>
   match ky with
   |kD=>qC fuel gy (k5+1) kD
def xY(fuel:Nat)(a_:List Int):Option ((List UInt8)):=
 qC fuel a_ 0 []
theorem MM{fuel:Nat}{a_:List Int}{ae:Sv}{R:(List UInt8)}(hF:xY fuel a_=some R):
   Fw.Spec Tryz.prog 74 [ae.v] [aC ae a_] (fun _:Unit=>(sv R)) (fun _=>[]):=by
 refine Se 23 Tryz.func74 [.tmp 2] ?_
 intro H0 F0
 unfold xY at hF
 refine j6 ?_
 refine bH (bX (m:=a_.length) (fun m3 f' cs'=>∃(g:Fr)(k5:Nat)(gy:List Int)(c1:List UInt8),m3=gy.length/\f'=aH g [(0,ae.v),(3,(sv c1)),(4,(zi (k5:Int)))]/\List.drop k5 a_=gy/\aF cs' [aC ae a_]/\qC fuel gy k5 c1=some R) ⟨_,0,_,_,rfl,aK,rfl,aJ,hF⟩ ?_)
 rintro m3 _ _ ⟨g4,k5,gy,c1,rfl,rfl,u7,hE,hF⟩
 refine Kb hE a_ (fun Pt=>?_)
 rcases gy with _|⟨x7,gy⟩
 · have CX:=dn u7
   rw[qC]at hF
   refine bZ ?_
   refine dL ?_
   exact ze hF
 obtain⟨CX,jr,jv⟩:=dE u7
 rw[qC]at hF
 refine bZ ?_
 refine dK ?_
 refine au ?_
 obtain⟨ky,wD,wJ⟩:=bind_some hF
 refine ll (fun f' cs'=>∃(kD:List UInt8)(g:Fr),kD=ky/\f'=aH g [(0,ae.v),(3,(sv kD)),(4,(zi (k5:Int)))]/\aF cs' [aC ae a_]) ?_ ?_
 · replace hF:=wD
   refine bH (j_ (eF (Cm (zi (k5:Int)) rfl rfl ?_)))
   refine aG ?_
   refine Ci hF (fun mo hF=>?_) (fun mo hF=>?_)
   · refine aG ?_
     refine bnd hF fun dQ iJ hF=>?_
     obtain⟨PZ,P5⟩:=bq iJ
     refine ai (bu (s:=c1) (t:=[44]) (u:=dQ) (.tmp rfl rfl) (.sv _) iJ) ?_
     refine bB ?_
     refine Ai jr (fun k20 F8=>?_)
     refine Al dw ?_
     refine bnd hF fun gV jq hF=>az (M3 jq) (fun _=>?_)
     refine bnd hF fun x25 mi hF=>?_
     obtain⟨aan,aao⟩:=bq mi
     refine ai (bu (s:=dQ) (t:=gV) (u:=x25) (.tmp rfl rfl) (.tmp rfl rfl) mi) ?_
     exact aO hF
   refine aD ?_
   refine Ai jr (fun u_ j30=>?_)
   refine Al dw ?_
   refine bnd hF fun iM hx32 hF=>az (M3 hx32) (fun _=>?_)
   refine bnd hF fun x34 kR hF=>?_
   obtain⟨E5,E8⟩:=bq kR
   refine ai (bu (s:=c1) (t:=iM) (u:=x34) (.tmp rfl rfl) (.tmp rfl rfl) kR) ?_
   exact aO hF
 rintro _ _ ⟨kD,Kn,rfl,rfl,hE⟩
 replace hF:=wJ
 try dsimp only at hF
 refine bn hE ?_
 refine aD ?_
 rw[wk k5]
 exact⟨_,cO _,_,k5+1,gy,_,rfl,aK,jv,aJ,hF⟩
def tQ(bg:aW)(fuel:Nat):List Int->Nat->Option ((List UInt8))
 |[],k15=>(fM fuel bg.Rel).bind fun il=>
   (aP [114] il).bind fun x27=>
   (aP x27 [40]).bind fun x31=>
   (xY fuel bg.Terms).bind fun jV=>
   (aP x31 jV).bind fun x38=>
   (aP x38 [41]).bind fun iB=>
   some iB
 |mZ::jC,k15=>(vX mZ).bind fun ni=>
   if (!ni)then (
     some [])
   else (
     tQ bg fuel jC (k15+1))
def xG(fuel:Nat)(bg:aW):Option ((List UInt8)):=
 ((dN bg.Rel 0 2).bind fun r4=>
   bif (!r4)then (some true)
   else ((dN (bg.Terms.length:Int) 1 3).bind fun r8=>
     some (!r8))).bind fun o2=>
 match o2 with
 |c11=>if c11 then (
     some [])
   else (
     tQ bg fuel bg.Terms 0)
theorem LV{fuel:Nat}{bg:aW}{bA:Sv}{R:(List UInt8)}(hF:xG fuel bg=some R):
   Fw.Spec Tryz.prog 75 [(zg [(zi bg.Rel),bA.v])] [aC bA bg.Terms] (fun _:Unit=>(sv R)) (fun _=>[]):=by
 refine Se 39 Tryz.func75 [.tmp 2] ?_
 intro H0 F0
 unfold xG at hF
 refine au ?_
 refine fC (fun k1=>?_)
 refine ax ?_
 obtain⟨o2,fH,hO3⟩:=bind_some hF
 refine au ?_
 refine bW (fun f' cs'=>∃(c11:Bool)(g:Fr),c11=o2/\f'=aH g [(1,(pz k1)),(14,(.bool c11))]/\aF cs' [cz k1 83 (zg [(zi bg.Rel),bA.v]),aC bA bg.Terms]) ?_ ?_
 · replace hF:=fH
   refine aG ?_
   refine bnd hF fun r4 hx5 hF=>az (eU hx5) (fun _=>?_)
   refine aG ?_
   rcases bf (!r4)with aZ|aZ
   · rw[aZ]
     try rw[aZ]at hF; dsimp only[ak,aj]at hF
     exact aO hF
   rw[aZ]
   try rw[aZ]at hF; dsimp only[ak,aj]at hF
   refine bZ ?_
   refine bnd hF fun r8 bO hF=>az (eU bO) (fun _=>?_)
   exact aO hF
 rintro _ _ ⟨c11,QR,rfl,rfl,hE⟩
 replace hF:=hO3
 try dsimp only at hF
 refine bn hE ?_
 refine Ci hF (fun BJ hF=>?_) (fun BJ hF=>?_)
 · exact ze hF
 refine aD ?_
 refine bH (bX (m:=bg.Terms.length) (fun m13 f' cs'=>∃(g:Fr)(k15:Nat)(jC:List Int),m13=jC.length/\f'=aH g [(1,(pz k1)),(3,(zi (k15:Int)))]/\List.drop k15 bg.Terms=jC/\aF cs' [cz k1 83 (zg [(zi bg.Rel),bA.v]),aC bA bg.Terms]/\tQ bg fuel jC k15=some R) ⟨_,0,_,rfl,aK,rfl,aJ,hF⟩ ?_)
 rintro m13 _ _ ⟨g14,k15,jC,rfl,rfl,Cb,hE,hF⟩
 refine Kb hE bg.Terms (fun Ym=>?_)
 rcases jC with _|⟨mZ,jC⟩
 · have Jl:=dn Cb
   rw[tQ]at hF
   refine dB ?_
   refine dL ?_
   refine aB ?_
   refine gN [0,1,5,6,2,3,4,7,8,9,10] [0,1,3,7,15,0,32,103,255,511,1023] [2,7] mixed (by decide+kernel) ?_
   refine rW ?_
   refine bnd hF fun il hx25 hF=>di (jM hx25) (fun _=>?_)
   refine bnd hF fun x27 hx28 hF=>?_
   obtain⟨Jm,Jn⟩:=bq hx28
   refine bi rfl .no (fun ha=>bu (s:=[114]) (t:=il) (u:=x27) (EN ha (.sv _) rfl) (EN ha (.tmp rfl rfl) rfl) hx28) ?_
   refine bnd hF fun x31 hx32 hF=>?_
   obtain⟨Qb,Qd⟩:=bq hx32
   refine bi rfl .no (fun ha=>bu (s:=x27) (t:=[40]) (u:=x31) (EN ha (.tmp rfl rfl) rfl) (EN ha (.sv _) rfl) hx32) ?_
   refine bnd hF fun jV lC hF=>di (MM lC) (fun _=>?_)
   refine bnd hF fun x38 hx39 hF=>?_
   obtain⟨I1,I4⟩:=bq hx39
   refine bi rfl .no (fun ha=>bu (s:=x31) (t:=jV) (u:=x38) (EN ha (.tmp rfl rfl) rfl) (EN ha (.tmp rfl rfl) rfl) hx39) ?_
   refine bnd hF fun iB iG hF=>?_
   obtain⟨Fe,Ff⟩:=bq iG
   refine bi rfl .no (fun ha=>bu (s:=x38) (t:=[41]) (u:=iB) (EN ha (.tmp rfl rfl) rfl) (EN ha (.sv _) rfl) iG) ?_
   refine fT ?_
   exact ze hF
 obtain⟨Jl,iF,yU⟩:=dE Cb
 rw[tQ]at hF
 refine dB ?_
 refine dK ?_
 refine bB ?_
 refine Ai iF (fun qd Gc=>?_)
 refine Al dw ?_
 refine bnd hF fun ni lS hF=>az (M0 lS) (fun _=>?_)
 refine aG ?_
 refine Ci hF (fun Ce hF=>?_) (fun Ce hF=>?_)
 · exact ze hF
 refine bB ?_
 rw[wk k15]
 exact⟨_,cO _,_,k15+1,jC,rfl,aK,yU,aJ,hF⟩
def oN(fuel:Nat):List aW->Nat->(List UInt8)->Option ((List UInt8))
 |[],iC,c31=>some c31
 |jA::jE,iC,c31=>(((xG fuel jA).bind fun kz=>
     if (kz==[])then (
       some (.inl []))
     else (
       if (decide ((0:Int)<(iC:Int)))then (
         (aP c31 [32,97,110,100,32]).bind fun l8=>
         (aP l8 kz).bind fun KH=>
         some (.inr KH))
       else (
         (aP c31 kz).bind fun za=>
         some (.inr za)))):Option (Sum ((List UInt8)) ((List UInt8)))).bind fun xk=>
   match xk with
   | .inl r=>some r
   | .inr C_=>oN fuel jE (iC+1) C_
def tL(aI:bG)(fuel:Nat)(r9:(List UInt8))(bR:(List Int)):List Int->Nat->Option ((List UInt8))
 |[],k18=>(aP r9 [32,105,102,32]).bind fun x27=>
   oN fuel aI.Atoms 0 x27
 |x20::rF,k18=>(uE bR x20).bind fun Q5=>
   if (!Q5)then (
     some [])
   else (
     tL aI fuel r9 bR rF (k18+1))
def oO(fuel:Nat):List aW->Nat->(List UInt8)->Option ((List UInt8))
 |[],oJ,qg=>some qg
 |x101::qN,oJ,qg=>(((xG fuel x101).bind fun ol=>
     if (ol==[])then (
       some (.inl []))
     else (
       if (decide ((0:Int)<(oJ:Int)))then (
         (aP qg [32,97,110,100,32]).bind fun rX=>
         (aP rX ol).bind fun mX=>
         some (.inr mX))
       else (
         (aP qg ol).bind fun JA=>
         some (.inr JA)))):Option (Sum ((List UInt8)) ((List UInt8)))).bind fun JB=>
   match JB with
   | .inl r=>some r
   | .inr c130=>oO fuel qN (oJ+1) c130
def vD(aI:bG)(fuel:Nat)(oH:(List Int)):List Int->Nat->Option ((List UInt8))
 |[],sU=>(aP [121,101,115] [32,105,102,32]).bind fun x91=>
   oO fuel aI.Atoms 0 x91
 |x84::rG,sU=>(uE oH x84).bind fun Qk=>
   if (!Qk)then (
     some [])
   else (
     vD aI fuel oH rG (sU+1))
def xD(fuel:Nat)(aI:bG):Option ((List UInt8)):=
 ((dN (aI.Atoms.length:Int) 1 4).bind fun r4=>
   bif (!r4)then (some true)
   else (some (decide ((3:Int)<(aI.Head.length:Int))))).bind fun o2=>
 match o2 with
 |c8=>if c8 then (
     some [])
   else (
     if (decide ((0:Int)<(aI.Head.length:Int)))then (
       (xY fuel aI.Head).bind fun r9=>
       (vW aI).bind fun bR=>
       tL aI fuel r9 bR aI.Head 0)
     else (
       (vW aI).bind fun oH=>
       vD aI fuel oH aI.Head 0))
theorem LJ{fuel:Nat}{aI:bG}{ae bA:Sv}{R:(List UInt8)}(hF:xD fuel aI=some R):
   Fw.Spec Tryz.prog 49 [(zg [ae.v,bA.v])] [aC ae aI.Head,gq bA aI.Atoms] (fun _:Unit=>(sv R)) (fun _=>[]):=by
 refine Se 68 Tryz.func49 [.tmp 2] ?_
 intro H0 F0
 unfold xD at hF
 refine au ?_
 refine fC (fun k1=>?_)
 refine ax ?_
 obtain⟨o2,fH,hO3⟩:=bind_some hF
 refine au ?_
 refine bW (fun f' cs'=>∃(c8:Bool)(g:Fr),c8=o2/\f'=aH g [(1,(pz k1)),(18,(.bool c8))]/\aF cs' [cz k1 59 (zg [ae.v,bA.v]),aC ae aI.Head,gq bA aI.Atoms]) ?_ ?_
 · replace hF:=fH
   refine ax ?_
   refine bnd hF fun r4 hx5 hF=>az (eU hx5) (fun _=>?_)
   refine aG ?_
   rcases bf (!r4)with aZ|aZ
   · rw[aZ]
     try rw[aZ]at hF; dsimp only[ak,aj]at hF
     exact aO hF
   rw[aZ]
   try rw[aZ]at hF; dsimp only[ak,aj]at hF
   exact aO hF
 rintro _ _ ⟨c8,aex,rfl,rfl,hE⟩
 replace hF:=hO3
 try dsimp only at hF
 refine bn hE ?_
 refine Ci hF (fun Yr hF=>?_) (fun Yr hF=>?_)
 · exact ze hF
 refine Bc ?_
 refine Ci hF (fun Yt hF=>?_) (fun Yt hF=>?_)
 · refine ax ?_
   refine bnd hF fun r9 jr hF=>az (MM jr) (fun _=>?_)
   refine aB ?_
   refine bnd hF fun bR eB hF=>dI (GQ eB) (fun qh=>?_)
   refine bB ?_
   refine bH (bX (m:=aI.Head.length) (fun m16 f' cs'=>∃(g:Fr)(k18:Nat)(rF:List Int),m16=rF.length/\f'=aH g [(1,(pz k1)),(3,(sv r9)),(4,qh.1.v),(5,(zi (k18:Int)))]/\List.drop k18 aI.Head=rF/\aF cs' [cz k1 59 (zg [ae.v,bA.v]),aC ae aI.Head,gq bA aI.Atoms,bT qh.2 qh.1 bR]/\tL aI fuel r9 bR rF k18=some R) ⟨_,0,_,rfl,aK,rfl,aJ,hF⟩ ?_)
   rintro m16 _ _ ⟨g17,k18,rF,rfl,rfl,yU,hE,hF⟩
   refine Kb hE aI.Head (fun ac1=>?_)
   rcases rF with _|⟨x20,rF⟩
   · have aaU:=dn yU
     rw[tL]at hF
     refine dB ?_
     refine dL ?_
     refine bB ?_
     refine bnd hF fun x27 hx28 hF=>?_
     obtain⟨Jm,Jn⟩:=bq hx28
     refine ai (bu (s:=r9) (t:=[32,105,102,32]) (u:=x27) (.tmp rfl rfl) (.sv _) hx28) ?_
     refine bB ?_
     refine bH (bX (m:=aI.Atoms.length) (fun Da f' cs'=>∃(g:Fr)(iC:Nat)(jE:List aW)(c31:List UInt8),Da=jE.length/\f'=aH g [(1,(pz k1)),(3,(sv c31)),(6,(zi (iC:Int)))]/\List.drop iC aI.Atoms=jE/\aF cs' [cz k1 59 (zg [ae.v,bA.v]),aC ae aI.Head,gq bA aI.Atoms]/\oN fuel jE iC c31=some R) ⟨_,0,_,_,rfl,aK,rfl,aJ,hF⟩ ?_)
     rintro Da _ _ ⟨g34,iC,jE,c31,rfl,rfl,hd38,hE,hF⟩
     refine Kb hE aI.Atoms (fun Yu=>?_)
     rcases jE with _|⟨jA,jE⟩
     · have JC:=dn hd38
       rw[oN]at hF
       refine dB ?_
       refine dL ?_
       exact ze hF
     obtain⟨JC,lu,JD⟩:=dE hd38
     rw[oN]at hF
     refine dB ?_
     refine dK ?_
     refine au ?_
     obtain⟨xk,Io,Fz⟩:=bind_some hF
     refine ll (fun f' cs'=>∃(C_:List UInt8)(g:Fr),xk= .inr C_/\f'=aH g [(1,(pz k1)),(3,(sv C_)),(6,(zi (iC:Int)))]/\aF cs' [cz k1 59 (zg [ae.v,bA.v]),aC ae aI.Head,gq bA aI.Atoms]) ?_ ?_
     · replace hF:=Io
       refine bH (eF (ai (nE (off:=1) wz.h (.tmp rfl rfl)) ?_))
       refine aG ?_
       refine Ai lu (fun qd Gc=>?_)
       refine yM (vT jA) xW (fun p48=>?_)
       refine bnd hF fun kz yQ hF=>az (LV yQ) (fun _=>?_)
       refine aD ?_
       refine ai (nT (s:=kz) (t:=[]) (.tmp rfl rfl) (.sv _)) ?_
       refine au ?_
       refine Ci hF (fun BH hF=>?_) (fun BH hF=>?_)
       · refine aB ?_
         cases hF
         replace hF:=Fz
         try dsimp only at hF
         exact ze hF
       refine bB ?_
       refine Ci hF (fun BV hF=>?_) (fun BV hF=>?_)
       · refine aG ?_
         refine bnd hF fun l8 su hF=>?_
         obtain⟨aaV,aaW⟩:=bq su
         refine ai (bu (s:=c31) (t:=[32,97,110,100,32]) (u:=l8) (.tmp rfl rfl) (.sv _) su) ?_
         refine aD ?_
         refine bnd hF fun KH yV hF=>?_
         obtain⟨aey,aez⟩:=bq yV
         refine ai (bu (s:=l8) (t:=kz) (u:=KH) (.tmp rfl rfl) (.tmp rfl rfl) yV) ?_
         exact aO hF
       refine aB ?_
       refine bnd hF fun za Ql hF=>?_
       obtain⟨aeA,aeB⟩:=bq Ql
       refine ai (bu (s:=c31) (t:=kz) (u:=za) (.tmp rfl rfl) (.tmp rfl rfl) Ql) ?_
       exact aO hF
     rintro _ _ ⟨C_,g68,rfl,rfl,hE⟩
     replace hF:=Fz
     try dsimp only at hF
     refine bn hE ?_
     refine aD ?_
     rw[wk iC]
     exact⟨_,cO _,_,iC+1,jE,_,rfl,aK,JD,aJ,hF⟩
   obtain⟨aaU,jq,hd24⟩:=dE yU
   rw[tL]at hF
   refine dB ?_
   refine dK ?_
   refine bZ ?_
   refine Ai jq (fun k69 j70=>?_)
   refine Al dw ?_
   refine bnd hF fun Q5 aaX hF=>cB (.cons .q4 .nil) (gP df (fun _=>.nil) (bY EX.h bI (D5 aaX))) (fun _=>?_)
   refine aG ?_
   refine Ci hF (fun aaY hF=>?_) (fun aaY hF=>?_)
   · exact ze hF
   refine bB ?_
   rw[wk k18]
   exact⟨_,cO _,_,k18+1,rF,rfl,aK,hd24,aJ,hF⟩
 refine ax ?_
 refine bnd hF fun oH I6 hF=>dI (GQ I6) (fun KI=>?_)
 refine bB ?_
 refine bH (bX (m:=aI.Head.length) (fun Q6 f' cs'=>∃(g:Fr)(sU:Nat)(rG:List Int),Q6=rG.length/\f'=aH g [(1,(pz k1)),(3,(sv [121,101,115])),(4,KI.1.v),(5,(zi (sU:Int)))]/\List.drop sU aI.Head=rG/\aF cs' [cz k1 59 (zg [ae.v,bA.v]),aC ae aI.Head,gq bA aI.Atoms,bT KI.2 KI.1 oH]/\vD aI fuel oH rG sU=some R) ⟨_,0,_,rfl,aK,rfl,aJ,hF⟩ ?_)
 rintro Q6 _ _ ⟨g81,sU,rG,rfl,rfl,Qm,hE,hF⟩
 refine Kb hE aI.Head (fun ac2=>?_)
 rcases rG with _|⟨x84,rG⟩
 · have aaZ:=dn Qm
   rw[vD]at hF
   refine dB ?_
   refine dL ?_
   refine bB ?_
   refine bnd hF fun x91 FB hF=>?_
   obtain⟨aeC,aeD⟩:=bq FB
   refine ai (bu (s:=[121,101,115]) (t:=[32,105,102,32]) (u:=x91) (.tmp rfl rfl) (.sv _) FB) ?_
   refine bB ?_
   refine bH (bX (m:=aI.Atoms.length) (fun Q7 f' cs'=>∃(g:Fr)(oJ:Nat)(qN:List aW)(qg:List UInt8),Q7=qN.length/\f'=aH g [(1,(pz k1)),(3,(sv qg)),(6,(zi (oJ:Int)))]/\List.drop oJ aI.Atoms=qN/\aF cs' [cz k1 59 (zg [ae.v,bA.v]),aC ae aI.Head,gq bA aI.Atoms]/\oO fuel qN oJ qg=some R) ⟨_,0,_,_,rfl,aK,rfl,aJ,hF⟩ ?_)
   rintro Q7 _ _ ⟨g98,oJ,qN,qg,rfl,rfl,hd102,hE,hF⟩
   refine Kb hE aI.Atoms (fun abZ=>?_)
   rcases qN with _|⟨x101,qN⟩
   · have Yv:=dn hd102
     rw[oO]at hF
     refine dB ?_
     refine dL ?_
     exact ze hF
   obtain⟨Yv,hx104,Yw⟩:=dE hd102
   rw[oO]at hF
   refine dB ?_
   refine dK ?_
   refine au ?_
   obtain⟨JB,Wx,Pw⟩:=bind_some hF
   refine ll (fun f' cs'=>∃(c130:List UInt8)(g:Fr),JB= .inr c130/\f'=aH g [(1,(pz k1)),(3,(sv c130)),(6,(zi (oJ:Int)))]/\aF cs' [cz k1 59 (zg [ae.v,bA.v]),aC ae aI.Head,gq bA aI.Atoms]) ?_ ?_
   · replace hF:=Wx
     refine bH (eF (ai (nE (off:=1) wz.h (.tmp rfl rfl)) ?_))
     refine aG ?_
     refine Ai hx104 (fun aeE aeF=>?_)
     refine yM (vT x101) xW (fun aeG=>?_)
     refine bnd hF fun ol hx114 hF=>az (LV hx114) (fun _=>?_)
     refine aD ?_
     refine ai (nT (s:=ol) (t:=[]) (.tmp rfl rfl) (.sv _)) ?_
     refine au ?_
     refine Ci hF (fun Yx hF=>?_) (fun Yx hF=>?_)
     · refine aB ?_
       cases hF
       replace hF:=Pw
       try dsimp only at hF
       exact ze hF
     refine bB ?_
     refine Ci hF (fun Yy hF=>?_) (fun Yy hF=>?_)
     · refine aG ?_
       refine bnd hF fun rX Bd hF=>?_
       obtain⟨XX,XY⟩:=bq Bd
       refine ai (bu (s:=qg) (t:=[32,97,110,100,32]) (u:=rX) (.tmp rfl rfl) (.sv _) Bd) ?_
       refine aD ?_
       refine bnd hF fun mX wE hF=>?_
       obtain⟨XZ,X0⟩:=bq wE
       refine ai (bu (s:=rX) (t:=ol) (u:=mX) (.tmp rfl rfl) (.tmp rfl rfl) wE) ?_
       exact aO hF
     refine aB ?_
     refine bnd hF fun JA EO hF=>?_
     obtain⟨ac3,ac4⟩:=bq EO
     refine ai (bu (s:=qg) (t:=ol) (u:=JA) (.tmp rfl rfl) (.tmp rfl rfl) EO) ?_
     exact aO hF
   rintro _ _ ⟨c130,aeH,rfl,rfl,hE⟩
   replace hF:=Pw
   try dsimp only at hF
   refine bn hE ?_
   refine aD ?_
   rw[wk oJ]
   exact⟨_,cO _,_,oJ+1,qN,_,rfl,aK,Yw,aJ,hF⟩
 obtain⟨aaZ,Fp,aa0⟩:=dE Qm
 rw[vD]at hF
 refine dB ?_
 refine dK ?_
 refine bZ ?_
 refine Ai Fp (fun aeI aeJ=>?_)
 refine Al dw ?_
 refine bnd hF fun Qk Yz hF=>cB (.cons .q4 .nil) (gP df (fun _=>.nil) (bY EX.h bI (D5 Yz))) (fun _=>?_)
 refine aG ?_
 refine Ci hF (fun YA hF=>?_) (fun YA hF=>?_)
 · exact ze hF
 refine bB ?_
 rw[wk sU]
 exact⟨_,cO _,_,sU+1,rG,rfl,aK,aa0,aJ,hF⟩
def tT(aa:List Int)(aN:List UInt8)(r2:(List (List UInt8)))(fuel:Nat)(c148:List Int):Nat->(List aW)->Int->Option (bG×Bool)
 |0,_,_=>none
 |wP+1,oo,c210=>if (decide ((c210:Int)<(r2.length:Int)))then (
     (ix r2 c210).bind fun Cr=>
     (oW fuel Cr).bind fun FC=>
     (app oo ([FC]:List aW)).bind fun z229=>
     tT aa aN r2 fuel c148 wP z229 (IntKind.i64.wrap (c210+2)))
   else (
     ((xX aa ({Head:=c148,Atoms:=oo}:bG)).bind fun Cs=>
       bif (!Cs)then (some true)
       else ((xD fuel ({Head:=c148,Atoms:=oo}:bG)).bind fun FE=>
         some (!(FE==aN)))).bind fun JE=>
     match JE with
     |yX=>if yX then (
         some (({Head:=[],Atoms:=[]}:bG),false))
       else (
         some (({Head:=c148,Atoms:=oo}:bG),true)))
def tV(aa:List Int)(aN:List UInt8)(r2:(List (List UInt8)))(fuel:Nat):List (List UInt8)->Nat->(List Int)->Option (bG×Bool)
 |[],iK,c148=>tT aa aN r2 fuel c148 (((r2.length:Int)-2).toNat+2) ([]:List aW) 2
 |Ct::qO,iK,c148=>(oV fuel Ct).bind fun FH=>
   (app c148 ([FH]:List Int)).bind fun Qn=>
   tV aa aN r2 fuel qO (iK+1) Qn
def vE(aa:List Int)(aN:List UInt8)(r2:(List (List UInt8)))(fuel:Nat):Nat->(List aW)->Int->Option (bG×Bool)
 |0,_,_=>none
 |wQ+1,oq,lV=>if (decide ((lV:Int)<(r2.length:Int)))then (
     (ix r2 lV).bind fun Cu=>
     (oW fuel Cu).bind fun FI=>
     (app oq ([FI]:List aW)).bind fun Qo=>
     vE aa aN r2 fuel wQ Qo (IntKind.i64.wrap (lV+2)))
   else (
     ((xX aa ({Head:=[],Atoms:=oq}:bG)).bind fun Cv=>
       bif (!Cv)then (some true)
       else ((xD fuel ({Head:=[],Atoms:=oq}:bG)).bind fun FJ=>
         some (!(FJ==aN)))).bind fun JF=>
     match JF with
     |yY=>if yY then (
         some (({Head:=[],Atoms:=[]}:bG),false))
       else (
         some (({Head:=[],Atoms:=oq}:bG),true)))
def xH(fuel:Nat)(aa:List Int)(aN:List UInt8):Option (bG×Bool):=
 (pg aN (32:UInt8)).bind fun r2=>
 (ix r2 0).bind fun x9=>
 if (!(x9==[121,101,115]))then (
   (ix r2 0).bind fun dQ=>
   (pg dQ (44:UInt8)).bind fun gU=>
   tV aa aN r2 fuel gU 0 ([]:List Int))
 else (
   vE aa aN r2 fuel (((r2.length:Int)-2).toNat+2) ([]:List aW) 2)
theorem LW{fuel:Nat}{aa:List Int}{ae:Sv}{aN:List UInt8}{R:bG×Bool}(hF:xH fuel aa aN=some R):
   Fw.Spec Tryz.prog 26 [ae.v,(sv aN)] [eQ (cZ 3 aX) ae.v aa] (fun p:Sv×List Nat×Sv×List Nat=>(.tuple [(.agg [p.1.v,p.2.2.1.v].toArray),(.bool R.2)].toArray)) (fun p=>[bS (bM 3 (aR aX)) p.2.1 p.1.v R.1.Head,bS (bM 83 fQ) p.2.2.2 p.2.2.1.v R.1.Atoms]):=by
 refine G6 (n:=66) Tryz.func26 rfl rfl (rs:=[.cell 4 59,.tmp 5]) rfl rfl rfl ?_
 intro H0 F0
 unfold xH at hF
 refine eF (fF rfl (Aq (g:=true) eO.h rfl rfl) (fun k1=>?_))
 refine ai (jZ (v:=(.bool false)) (.bool _)) ?_
 refine fP (eF (Cm (sv aN) rfl rfl ?_))
 obtain⟨r2,hx3,hF⟩:=bind_some hF
 refine cB .nil (bY PL.h (.cons (.tmp rfl rfl) (.cons (.int _ _) .nil)) (@vQ aN (32:UInt8) _ hx3)) (fun p4=>?_)
 refine Ca p4.1.v rfl rfl ?_
 refine fP (eF (ai (fA eO.h rfl (vs:=[]) .nil (cells:=[(.slice none 0 0),(.slice none 0 0)]) rfl) ?_))
 refine fF rfl (Aq (g:=true) eO.h rfl rfl) (fun k5=>?_)
 refine cB (.cons .h .nil) (j3 (e':=(.agg ([(.slice none 0 0),(.slice none 0 0)]:List Value).toArray)) (v:=(.agg ([(.slice none 0 0),(.slice none 0 0)]:List Value).toArray)) eO.h.sz (.tmp rfl rfl) (.tmp rfl rfl) rfl rfl rfl rfl rfl) (fun _=>?_)
 refine fP (j_ (eF (Cm p4.1.v rfl rfl ?_)))
 obtain⟨x9,jr,hF⟩:=bind_some hF
 have hi8:=ww jr
 obtain⟨aa1,jQ⟩:=nK jr
 refine uH gD.h gY.h.sz (.tmp rfl rfl) (.int _ _) (.t .h) hi8 (fun k6 hk7=>?_)
 refine wC (w:=(sv x9)) wX.h (.tmp rfl rfl) (.t .h) hk7 jQ EI ?_
 refine ai (ji (s:=x9) (t:=[121,101,115]) (.tmp rfl rfl) (.sv _)) ?_
 refine fP (mJ (b:=(!(x9==[121,101,115]))) (.tmp rfl rfl) (fun Ip=>?_) (fun Ip=>?_))
 · rw[if_pos Ip]at hF
   refine eF (Cm p4.1.v rfl rfl ?_)
   obtain⟨dQ,iJ,hF⟩:=bind_some hF
   have aa2:=ww iJ
   obtain⟨aas,lU⟩:=nK iJ
   refine uH gD.h gY.h.sz (.tmp rfl rfl) (.int _ _) (.t .h) aa2 (fun k13 aa3=>?_)
   refine wC (w:=(sv dQ)) wX.h (.tmp rfl rfl) (.t .h) aa3 lU EI ?_
   obtain⟨gU,lw,hF⟩:=bind_some hF
   refine cB .nil (bY PL.h (.cons (.tmp rfl rfl) (.cons (.int _ _) .nil)) (@vQ dQ (44:UInt8) _ lw)) (fun qi=>?_)
   refine Ca qi.1.v rfl rfl ?_
   refine fP (eF (ai (jZ (v:=(.int .i64 0)) (.int _ _)) ?_))
   refine fP (bH (nU .h df ?_))
   refine bX (m:=gU.length) (fun Qp f' cs'=>∃(g:Fr)(iK:Nat)(qO:List (List UInt8))(c148:List Int)(lW:Sv)(Cw:List Nat),Qp=qO.length/\f'=aH g [(0,ae.v),(1,(sv aN)),(4,(.pointer (some ⟨k1,0,some 0⟩))),(6,p4.1.v),(7,(.pointer (some ⟨k5,0,some 0⟩))),(8,qi.1.v),(9,(.int .i64 (iK:Int)))]/\List.drop iK gU=qO/\aF cs' [eQ (cZ 3 aX) ae.v aa,bQ k1 59 (.agg ([(.slice none 0 0),(.slice none 0 0)]:List Value).toArray),bS (bM 9 (aR rdStr)) p4.2 p4.1.v r2,bQ k5 59 (.agg [lW.v,(.slice none 0 0)].toArray),bS (bM 3 (aR aX)) Cw lW.v c148,eQ (cZ 9 rdStr) qi.1.v gU]/\tV aa aN r2 fuel qO iK c148=some R) ⟨_,0,_,_,⟨none,0,0⟩,[],rfl,(bF.cons rfl (bF.cons rfl (bF.cons rfl (bF.cons rfl (bF.cons rfl (bF.cons rfl (bF.cons rfl (bF.nil)))))))).eq,rfl,(.conv .nil (dP (Ro:=(aR aX)) (E:=3)) (.cons .nil) (.sel (.rd (.t (.t (.t (.t (.t .h))))) rfl (.cons (.t (.t (.t (.t .h)))) (.cons (.t (.t (.t .h))) (.cons (.t (.t .h)) (.cons .h (.rd .h rfl .nil)))))))),hF⟩ ?_
   clear hF
   rintro Qp _ _ ⟨aeK,iK,qO,c148,lW,Cw,rfl,rfl,hd157,hE,hF⟩
   refine bn hE ?_
   clear hE
   refine OO (c:=eQ (cZ 9 rdStr) qi.1.v gU) (.t (.t (.t (.t (.t .h))))) Nu (fun ab0=>?_)
   rcases qO with _|⟨Ct,qO⟩
   · have YB:=List.drop_eq_nil_iff.1 hd157
     have H7:(decide (((iK:Int):Int)<(gU.length:Int)))=false:=decide_eq_false (by omega)
     rw[tV]at hF
     refine j_ (eF (Cm (.int .i64 (iK:Int)) rfl rfl ?_))
     refine Cm qi.1.v rfl rfl ?_
     refine jl (.t (.t (.t (.t (.t .h))))) (fun hp=>qX (l:=gU.length) gD.h (.tmp rfl rfl) (yn hp)) ?_
     refine ai (yE (i:=(iK:Int)) (j:=(gU.length:Int)) (.tmp rfl rfl) (.tmp rfl rfl)) ?_
     refine fP (mJ (b:=(decide (((iK:Int):Int)<(gU.length:Int)))) (.tmp rfl rfl) (fun hb=>absurd (H7.symm.trans hb) (by decide)) (fun _=>?_))
     refine En ?_
     iterate 2 refine DY ?_
     refine Ec (j_ (eF (ai (jZ (v:=(.int .i64 2)) (.int _ _)) ?_)))
     refine fP (bH (nU (.t (.t .h)) df ?_))
     refine bX (m:=(((r2.length:Int)-2).toNat+2)) (fun wP f' cs'=>∃(g:Fr)(oo:List aW)(c210:Int)(v208:Sv)(FK:List Nat),f'=aH g [(0,ae.v),(1,(sv aN)),(4,(.pointer (some ⟨k1,0,some 0⟩))),(6,p4.1.v),(7,(.pointer (some ⟨k5,0,some 0⟩))),(10,(.int .i64 c210))]/\aF cs' [eQ (cZ 3 aX) ae.v aa,bQ k1 59 (.agg ([(.slice none 0 0),(.slice none 0 0)]:List Value).toArray),eQ (cZ 9 rdStr) p4.1.v r2,bQ k5 59 (.agg [lW.v,v208.v].toArray),bS (bM 3 (aR aX)) Cw lW.v c148,bS (bM 83 fQ) FK v208.v oo]/\tT aa aN r2 fuel c148 wP oo c210=some R) ⟨_,_,_,⟨none,0,0⟩,[],(bF.cons rfl (bF.cons rfl (bF.cons rfl (bF.cons rfl (bF.cons rfl (bF.cons rfl (bF.nil))))))).eq,(.conv .nil (dP (Ro:=fQ) (E:=83)) (.cons .nil) (.sel (.rd (.t (.t .h)) rfl (.cons (.t (.t (.t .h))) (.rd (.t .h) rfl (.cons (.t (.t (.t .h))) (.cons (.t (.t (.t .h))) (.cons .h .nil)))))))),hF⟩ ?_
     clear hF
     rintro wP _ _ ⟨aeL,oo,c210,v208,FK,rfl,hE,hF⟩
     refine bn hE ?_
     clear hE
     rcases wP with _|wP
     · rw[tT]at hF
       exact absurd hF (by simp)
     rw[tT]at hF
     refine j_ (eF (Cm (.int .i64 c210) rfl rfl ?_))
     refine Cm p4.1.v rfl rfl ?_
     refine jl (.t (.t .h)) (fun hp=>qX (l:=r2.length) gD.h (.tmp rfl rfl) (yn hp)) ?_
     refine ai (yE (i:=c210) (j:=(r2.length:Int)) (.tmp rfl rfl) (.tmp rfl rfl)) ?_
     refine fP (mJ (b:=(decide ((c210:Int)<(r2.length:Int)))) (.tmp rfl rfl) (fun Iq=>?_) (fun Iq=>?_))
     · rw[if_pos Iq]at hF
       refine uC (Eo (uD [0,1,2,3,4,5,6,7,8,9,10] [0,1,0,0,12,28,60,124,255,511,1023] [6,8,10] mixed (by decide+kernel) ?_))
       refine bi rfl .no (fun ha=>nE (off:=1) wz.h (EN ha (.tmp rfl rfl) rfl)) ?_
       refine pF rfl .no (.t (.t (.t .h))) (fun ha hp=>lI (v:=v208.v) PO.h (EN ha (.tmp rfl rfl) rfl) hp.2 rfl rfl) ?_
       refine Dm p4.1.v rfl rfl rfl rfl ?_
       refine Dm (.int .i64 c210) rfl rfl rfl rfl ?_
       obtain⟨Cr,YC,hF⟩:=bind_some hF
       obtain⟨YD,YE⟩:=nK YC
       refine EG (a:=Cr) gD.h gY.h.sz rfl .no (.tmp rfl rfl) (.tmp rfl rfl) rfl rfl (.t (.t .h)) YD YE (fun aeM aeN=>?_)
       refine EH (w:=(sv Cr)) wX.h rfl .no (.tmp rfl rfl) rfl .h fB ?_
       obtain⟨FC,YF,hF⟩:=bind_some hF
       refine iR rfl rfl .no .nil (.own (.t (.t (.t (.t .h)))) (fun _ h=>h) .nil) (fun ha=>bY PP.h (.cons (EN ha (.tmp rfl rfl) rfl) .nil) (@LH fuel Cr _ YF)) (fun Qq=>?_)
       refine rM rfl .no rfl (fun ha=>eD (g:=true) (len:=1) (parts:=[(0,.tmp 50)]) rV.h mW.h (.cons (EN ha (.tmp rfl rfl) rfl) .nil) (vs:=[(.agg [(.int .i64 FC.Rel),Qq.1.v].toArray)]) rfl rfl rfl (by intro v hv; simp at hv; rcases hv with rfl<;>rfl)) (fun aeO=>?_)
       refine Ex (.cons .h (.cons .h .nil)) (eH (Ro:=fQ) (E:=83) (F:=(Qq.2++[])) (xs:=([FC]:List aW)) (dM EU eG bU) rfl rfl) bU ?_
       obtain⟨z229,YG,hF⟩:=bind_some hF
       refine iR rfl rfl .no (.cons (.t (.t (.t (.t (.t (.t (.t .h))))))) (.cons .h .nil)) (.dep rfl (.dep rfl .nil)) (fun ha=>iP (Ro:=fQ) rV.h EW mW.h rfl rfl rfl (EN ha (.tmp rfl rfl) rfl) (EN ha (.tmp rfl rfl) rfl) YG iQ) (fun JG=>?_)
       refine bi rfl .no (fun ha=>nE (off:=1) wz.h (EN ha (.tmp rfl rfl) rfl)) ?_
       refine iR rfl rfl .no (.cons (.t (.t (.t (.t (.t .h))))) .nil) (.dep rfl (.dep rfl .nil)) (fun ha=>j3 (e':=(.agg [lW.v,JG.1.v].toArray)) PQ.h.sz (EN ha (.tmp rfl rfl) rfl) (EN ha (.tmp rfl rfl) rfl) rfl rfl rfl rfl rfl) (fun _=>?_)
       refine EF (Aj (Cm (.int .i64 c210) rfl rfl ?_))
       refine ai (A7 (i:=c210) (j:=2) (.tmp rfl rfl) (.int _ _)) ?_
       refine Ca (.int .i64 (IntKind.i64.wrap (c210+2))) rfl rfl ?_
       refine fP ?_
       exact⟨wP,Nat.lt_succ_self _,_,_,_,JG.1,JG.2,(bF.cons rfl (bF.cons rfl (bF.cons rfl (bF.cons rfl (bF.cons rfl (bF.cons rfl (bF.nil))))))).eq,(.sel (.rd (.t (.t (.t .h))) rfl (.cons (.t (.t (.t (.t .h)))) (.rd (.t (.t (.t (.t .h)))) rfl (.cons .h (.cons (.t (.t (.t (.t .h)))) (.cons .h .nil))))))),hF⟩
     rw[if_neg (by rw[Iq]; exact Bool.false_ne_true)]at hF
     refine En ?_
     iterate 2 refine DY ?_
     refine Ec (j_ ?_)
     obtain⟨JE,Wy,Px⟩:=bind_some hF
     refine eF (bW (fun f' cs'=>∃(yX:Bool)(g:Fr),yX=JE/\f'=aH g [(4,(.pointer (some ⟨k1,0,some 0⟩))),(7,(.pointer (some ⟨k5,0,some 0⟩))),(63,(.bool yX))]/\aF cs' [bQ k1 59 (.agg ([(.slice none 0 0),(.slice none 0 0)]:List Value).toArray),bQ k5 59 (.agg [lW.v,v208.v].toArray),bS (bM 3 (aR aX)) Cw lW.v c148,bS (bM 83 fQ) FK v208.v oo]) ?_ ?_)
     · replace hF:=Wy
       refine Cm ae.v rfl rfl ?_
       refine jl (.t (.t (.t .h))) (fun hp=>nH jm.h eO.h.sz rfl (.tmp rfl rfl) hp.2 rfl) ?_
       obtain⟨Cs,YH,hF⟩:=bind_some hF
       refine Bw (.cons (.t (.t (.t (.t (.t .h))))) (.cons (.t (.t (.t (.t .h)))) (.rd .h rfl .nil))) (AO (pre:=_) (.cons df (.cons df .nil)) (fun _=>.nil) (nO (.rd (.t (.t .h)) rfl (.rd .h rfl (.rd (.t .h) rfl .nil))) (bY PR.h (.cons (.tmp rfl rfl) (.cons (.tmp rfl rfl) .nil)) (@ML aa ae ({Head:=c148,Atoms:=oo}:bG) lW v208 _ YH)))) (fun _=>?_)
       refine ai (A8 (b:=Cs) (.tmp rfl rfl)) ?_
       refine Cm (.bool (!Cs)) rfl rfl ?_
       rcases Bool.eq_false_or_eq_true (!Cs)with Bl|Bl
       · rw[Bl]
         try rw[Bl]at hF; dsimp only[cond_true,cond_false]at hF
         iterate 4 refine yF (t:=58) rfl rfl rfl ?_
         refine ai (qR (b:=true) (u:=(.bool true)) (v:=undef) (.tmp rfl rfl) (.bool _) (.tmp rfl rfl)) ?_
         refine fP ?_
         obtain rfl:=Option.some.inj hF
         exact⟨_,_,rfl,(bF.cons rfl (bF.cons rfl (bF.cons rfl (bF.nil)))).eq,(.sel (.cons (.t (.t (.t .h))) (.cons (.t (.t (.t (.t .h)))) (.cons (.t .h) (.cons .h .nil)))))⟩
       rw[Bl]
       try rw[Bl]at hF; dsimp only[cond_true,cond_false]at hF
       refine kN (t:=58) rfl rfl rfl ?_
       refine jl (.t (.t (.t (.t (.t .h))))) (fun hp=>nH jm.h eO.h.sz rfl (.tmp rfl rfl) hp.2 rfl) ?_
       refine kN (t:=58) rfl rfl rfl ?_
       obtain⟨FE,YI,hF⟩:=bind_some hF
       refine Bw (.cons .h (.cons .h .nil)) (AO (pre:=[]) (.cons df (.cons df .nil)) (fun _=>.nil) (bY PS.h (.cons (.tmp rfl rfl) .nil) (@LJ fuel ({Head:=c148,Atoms:=oo}:bG) lW v208 _ YI))) (fun _=>?_)
       refine kN (t:=58) rfl rfl rfl ?_
       refine Cm (sv aN) rfl rfl ?_
       refine kN (t:=58) rfl rfl rfl ?_
       refine ai (ji (s:=FE) (t:=aN) (.tmp rfl rfl) (.tmp rfl rfl)) ?_
       refine ai (qR (b:=false) (u:=(.bool true)) (v:=(.bool (!(FE==aN)))) (.tmp rfl rfl) (.bool _) (.tmp rfl rfl)) ?_
       refine fP ?_
       obtain rfl:=Option.some.inj hF
       exact⟨_,_,rfl,(bF.cons rfl (bF.cons rfl (bF.cons rfl (bF.nil)))).eq,(.sel (.cons (.t (.t (.t .h))) (.cons (.t (.t (.t (.t .h)))) (.cons (.t .h) (.cons .h .nil)))))⟩
     rintro _ _ ⟨yX,aeP,rfl,rfl,hE⟩
     replace hF:=Px
     clear Px
     try dsimp only at hF
     refine bn hE ?_
     refine mJ (b:=yX) (.tmp rfl rfl) (fun Ir=>?_) (fun Ir=>?_)
     · rw[if_pos Ir]at hF
       refine eF (ai (fA eO.h rfl (vs:=[]) .nil (cells:=[(.slice none 0 0),(.slice none 0 0)]) rfl) ?_)
       refine cB (.cons .h .nil) (j3 (e':=(.agg ([(.slice none 0 0),(.slice none 0 0)]:List Value).toArray)) (v:=(.agg ([(.slice none 0 0),(.slice none 0 0)]:List Value).toArray)) eO.h.sz (.tmp rfl rfl) (.tmp rfl rfl) rfl rfl rfl rfl rfl) (fun _=>?_)
       refine ai (jZ (v:=(.bool false)) (.bool _)) ?_
       refine fP (wu ?_)
       obtain rfl:=Option.some.inj hF
       exact dF (⟨none,0,0⟩,[],⟨none,0,0⟩,[]) (.cellA rfl rfl .h rfl jm.h eO.h.sz rfl rfl (.tmp rfl rfl .nil)) rfl (.conv .nil (dP (Ro:=(aR aX)) (E:=3)) (.cons .nil) (.conv .nil (dP (Ro:=fQ) (E:=83)) (.cons .nil) (.sel (.cons (.t .h) (.cons .h .nil)))))
     rw[if_neg (by rw[Ir]; exact Bool.false_ne_true)]at hF
     refine uC (eF (jl (.t .h) (fun hp=>nH jm.h eO.h.sz rfl (.tmp rfl rfl) hp.2 rfl) ?_))
     refine cB (.cons .h .nil) (j3 (e':=(.agg [lW.v,v208.v].toArray)) (v:=(.agg [lW.v,v208.v].toArray)) eO.h.sz (.tmp rfl rfl) (.tmp rfl rfl) rfl rfl rfl rfl rfl) (fun _=>?_)
     refine ai (jZ (v:=(.bool true)) (.bool _)) ?_
     refine fP (wu ?_)
     obtain rfl:=Option.some.inj hF
     exact dF (lW,Cw,v208,FK) (.cellA rfl rfl .h rfl jm.h eO.h.sz rfl rfl (.tmp rfl rfl .nil)) rfl (.sel (.cons (.t (.t .h)) (.cons (.t (.t .h)) .nil)))
   obtain⟨YB,hx159,hd160⟩:=dE hd157
   have H7:(decide (((iK:Int):Int)<(gU.length:Int)))=true:=decide_eq_true (by omega)
   rw[tV]at hF
   refine j_ (eF (Cm (.int .i64 (iK:Int)) rfl rfl ?_))
   refine Cm qi.1.v rfl rfl ?_
   refine jl (.t (.t (.t (.t (.t .h))))) (fun hp=>qX (l:=gU.length) gD.h (.tmp rfl rfl) (yn hp)) ?_
   refine ai (yE (i:=(iK:Int)) (j:=(gU.length:Int)) (.tmp rfl rfl) (.tmp rfl rfl)) ?_
   refine fP (mJ (b:=(decide (((iK:Int):Int)<(gU.length:Int)))) (.tmp rfl rfl) (fun _=>?_) (fun hb=>absurd (H7.symm.trans hb) (by decide)))
   refine uC (Eo (uD [0,1,2,3,4,5,6,7,8,9,10] [0,1,0,0,12,28,60,124,255,511,1023] [6,8,10] mixed (by decide+kernel) ?_))
   refine bi rfl .no (fun ha=>nE (off:=0) OY.h (EN ha (.tmp rfl rfl) rfl)) ?_
   refine pF rfl .no (.t (.t (.t .h))) (fun ha hp=>lI (v:=lW.v) uP.h (EN ha (.tmp rfl rfl) rfl) hp.2 rfl rfl) ?_
   refine Dm qi.1.v rfl rfl rfl rfl ?_
   refine Dm (.int .i64 (iK:Int)) rfl rfl rfl rfl ?_
   refine EG (a:=Ct) gD.h gY.h.sz rfl .no (.tmp rfl rfl) (.tmp rfl rfl) rfl rfl (.t (.t (.t (.t (.t .h))))) (Int.natCast_nonneg iK) hx159 (fun aeQ aeR=>?_)
   refine EH (w:=(sv Ct)) wX.h rfl .no (.tmp rfl rfl) rfl .h fB ?_
   obtain⟨FH,YJ,hF⟩:=bind_some hF
   refine mO rfl rfl .no .nil (.own (.t (.t (.t (.t .h)))) (fun _ h=>h) .nil) (fun ha=>bY PN.h (.cons (EN ha (.tmp rfl rfl) rfl) .nil) (@LG fuel Ct _ YJ)) (fun _=>?_)
   refine rM rfl .no rfl (fun ha=>eD (g:=true) (len:=1) (parts:=[(0,.tmp 34)]) eP.h dX.h (.cons (EN ha (.tmp rfl rfl) rfl) .nil) (vs:=[(.int .i64 FH)]) rfl rfl rfl (by intro v hv; simp at hv; rcases hv with rfl<;>rfl)) (fun aeS=>?_)
   refine Ex (.cons .h .nil) (eH (Ro:=(aR aX)) (E:=3) (F:=([]++[])) (xs:=([FH]:List Int)) (dM (fq (fun _=>rfl)) eG bU) rfl rfl) bU ?_
   obtain⟨Qn,YK,hF⟩:=bind_some hF
   refine iR rfl rfl .no (.cons (.t (.t (.t (.t (.t (.t .h)))))) (.cons .h .nil)) (.dep rfl (.dep rfl .nil)) (fun ha=>iP (Ro:=(aR aX)) eP.h mh dX.h rfl rfl rfl (EN ha (.tmp rfl rfl) rfl) (EN ha (.tmp rfl rfl) rfl) YK iQ) (fun JH=>?_)
   refine bi rfl .no (fun ha=>nE (off:=0) OY.h (EN ha (.tmp rfl rfl) rfl)) ?_
   refine iR rfl rfl .no (.cons (.t (.t (.t (.t (.t .h))))) .nil) (.dep rfl (.dep rfl .nil)) (fun ha=>j3 (e':=(.agg [JH.1.v,(.slice none 0 0)].toArray)) BB.h.sz (EN ha (.tmp rfl rfl) rfl) (EN ha (.tmp rfl rfl) rfl) rfl rfl rfl rfl rfl) (fun _=>?_)
   refine EF (Aj (Cm (.int .i64 (iK:Int)) rfl rfl ?_))
   refine ai (A7 (i:=(iK:Int)) (j:=1) (.tmp rfl rfl) (.int _ _)) ?_
   refine Ca (.int .i64 (IntKind.i64.wrap ((iK:Int)+1))) rfl rfl ?_
   refine fP ?_
   have YL:IntKind.i64.wrap ((iK:Int)+1)=((iK+1:Nat):Int):=by rw[eY (by omega) (by omega)]; rfl
   rw[YL]
   exact⟨_,Nat.lt_succ_self _,_,iK+1,qO,_,JH.1,JH.2,rfl,(bF.cons rfl (bF.cons rfl (bF.cons rfl (bF.cons rfl (bF.cons rfl (bF.cons rfl (bF.cons rfl (bF.nil)))))))).eq,hd160,(.sel (.rd (.t (.t (.t .h))) rfl (.cons (.t (.t (.t (.t .h)))) (.cons (.t (.t (.t (.t .h)))) (.cons .h (.cons .h (.rd (.t (.t .h)) rfl .nil))))))),hF⟩
 rw[if_neg (by rw[Ip]; exact Bool.false_ne_true)]at hF
 refine uC (j_ (eF (ai (jZ (v:=(.int .i64 2)) (.int _ _)) ?_)))
 refine fP (bH (nU (.t .h) df ?_))
 refine bX (m:=(((r2.length:Int)-2).toNat+2)) (fun wQ f' cs'=>∃(g:Fr)(oq:List aW)(lV:Int)(ou:Sv)(FL:List Nat),f'=aH g [(0,ae.v),(1,(sv aN)),(4,(.pointer (some ⟨k1,0,some 0⟩))),(6,p4.1.v),(7,(.pointer (some ⟨k5,0,some 0⟩))),(10,(.int .i64 lV))]/\aF cs' [eQ (cZ 3 aX) ae.v aa,bQ k1 59 (.agg ([(.slice none 0 0),(.slice none 0 0)]:List Value).toArray),eQ (cZ 9 rdStr) p4.1.v r2,bQ k5 59 (.agg [(.slice none 0 0),ou.v].toArray),bS (bM 83 fQ) FL ou.v oq]/\vE aa aN r2 fuel wQ oq lV=some R) ⟨_,_,_,⟨none,0,0⟩,[],(bF.cons rfl (bF.cons rfl (bF.cons rfl (bF.cons rfl (bF.cons rfl (bF.cons rfl (bF.nil))))))).eq,(.conv .nil (dP (Ro:=fQ) (E:=83)) (.cons .nil) (.sel (.rd (.t (.t (.t (.t .h)))) rfl (.cons (.t (.t (.t .h))) (.rd (.t .h) rfl (.cons (.t (.t .h)) (.cons .h .nil))))))),hF⟩ ?_
 clear hF
 rintro wQ _ _ ⟨aeT,oq,lV,ou,FL,rfl,hE,hF⟩
 refine bn hE ?_
 clear hE
 rcases wQ with _|wQ
 · rw[vE]at hF
   exact absurd hF (by simp)
 rw[vE]at hF
 refine j_ (eF (Cm (.int .i64 lV) rfl rfl ?_))
 refine Cm p4.1.v rfl rfl ?_
 refine jl (.t (.t .h)) (fun hp=>qX (l:=r2.length) gD.h (.tmp rfl rfl) (yn hp)) ?_
 refine ai (yE (i:=lV) (j:=(r2.length:Int)) (.tmp rfl rfl) (.tmp rfl rfl)) ?_
 refine fP (mJ (b:=(decide ((lV:Int)<(r2.length:Int)))) (.tmp rfl rfl) (fun Iu=>?_) (fun Iu=>?_))
 · rw[if_pos Iu]at hF
   refine uC (Eo (uD [0,1,2,3,4,5,6,7,8,9,10] [0,1,0,0,12,28,60,124,255,511,1023] [6,8,10] mixed (by decide+kernel) ?_))
   refine bi rfl .no (fun ha=>nE (off:=1) wz.h (EN ha (.tmp rfl rfl) rfl)) ?_
   refine pF rfl .no (.t (.t (.t .h))) (fun ha hp=>lI (v:=ou.v) PO.h (EN ha (.tmp rfl rfl) rfl) hp.2 rfl rfl) ?_
   refine Dm p4.1.v rfl rfl rfl rfl ?_
   refine Dm (.int .i64 lV) rfl rfl rfl rfl ?_
   obtain⟨Cu,YM,hF⟩:=bind_some hF
   obtain⟨YN,YO⟩:=nK YM
   refine EG (a:=Cu) gD.h gY.h.sz rfl .no (.tmp rfl rfl) (.tmp rfl rfl) rfl rfl (.t (.t .h)) YN YO (fun aeU aeV=>?_)
   refine EH (w:=(sv Cu)) wX.h rfl .no (.tmp rfl rfl) rfl .h fB ?_
   obtain⟨FI,YP,hF⟩:=bind_some hF
   refine iR rfl rfl .no .nil (.own (.t (.t (.t (.t .h)))) (fun _ h=>h) .nil) (fun ha=>bY PP.h (.cons (EN ha (.tmp rfl rfl) rfl) .nil) (@LH fuel Cu _ YP)) (fun Qr=>?_)
   refine rM rfl .no rfl (fun ha=>eD (g:=true) (len:=1) (parts:=[(0,.tmp 50)]) rV.h mW.h (.cons (EN ha (.tmp rfl rfl) rfl) .nil) (vs:=[(.agg [(.int .i64 FI.Rel),Qr.1.v].toArray)]) rfl rfl rfl (by intro v hv; simp at hv; rcases hv with rfl<;>rfl)) (fun aeW=>?_)
   refine Ex (.cons .h (.cons .h .nil)) (eH (Ro:=fQ) (E:=83) (F:=(Qr.2++[])) (xs:=([FI]:List aW)) (dM EU eG bU) rfl rfl) bU ?_
   obtain⟨Qo,YQ,hF⟩:=bind_some hF
   refine iR rfl rfl .no (.cons (.t (.t (.t (.t (.t (.t .h)))))) (.cons .h .nil)) (.dep rfl (.dep rfl .nil)) (fun ha=>iP (Ro:=fQ) rV.h EW mW.h rfl rfl rfl (EN ha (.tmp rfl rfl) rfl) (EN ha (.tmp rfl rfl) rfl) YQ iQ) (fun JI=>?_)
   refine bi rfl .no (fun ha=>nE (off:=1) wz.h (EN ha (.tmp rfl rfl) rfl)) ?_
   refine iR rfl rfl .no (.cons (.t (.t (.t (.t (.t .h))))) .nil) (.dep rfl (.dep rfl .nil)) (fun ha=>j3 (e':=(.agg [(.slice none 0 0),JI.1.v].toArray)) PQ.h.sz (EN ha (.tmp rfl rfl) rfl) (EN ha (.tmp rfl rfl) rfl) rfl rfl rfl rfl rfl) (fun _=>?_)
   refine EF (Aj (Cm (.int .i64 lV) rfl rfl ?_))
   refine ai (A7 (i:=lV) (j:=2) (.tmp rfl rfl) (.int _ _)) ?_
   refine Ca (.int .i64 (IntKind.i64.wrap (lV+2))) rfl rfl ?_
   refine fP ?_
   exact⟨wQ,Nat.lt_succ_self _,_,_,_,JI.1,JI.2,(bF.cons rfl (bF.cons rfl (bF.cons rfl (bF.cons rfl (bF.cons rfl (bF.cons rfl (bF.nil))))))).eq,(.sel (.rd (.t (.t (.t .h))) rfl (.cons (.t (.t (.t (.t .h)))) (.rd (.t (.t (.t (.t .h)))) rfl (.cons .h (.cons .h .nil)))))),hF⟩
 rw[if_neg (by rw[Iu]; exact Bool.false_ne_true)]at hF
 refine En ?_
 iterate 2 refine DY ?_
 refine Ec (j_ ?_)
 obtain⟨JF,Wz,Py⟩:=bind_some hF
 refine eF (bW (fun f' cs'=>∃(yY:Bool)(g:Fr),yY=JF/\f'=aH g [(4,(.pointer (some ⟨k1,0,some 0⟩))),(7,(.pointer (some ⟨k5,0,some 0⟩))),(63,(.bool yY))]/\aF cs' [bQ k1 59 (.agg ([(.slice none 0 0),(.slice none 0 0)]:List Value).toArray),bQ k5 59 (.agg [(.slice none 0 0),ou.v].toArray),bS (bM 83 fQ) FL ou.v oq]) ?_ ?_)
 · replace hF:=Wz
   refine Cm ae.v rfl rfl ?_
   refine jl (.t (.t (.t .h))) (fun hp=>nH jm.h eO.h.sz rfl (.tmp rfl rfl) hp.2 rfl) ?_
   refine OP .nil (yA (R:=aX) (E:=3)) bU ?_
   obtain⟨Cv,YR,hF⟩:=bind_some hF
   refine cB (.cons (.t (.t (.t (.t (.t .h))))) (.rd (.t .h) rfl (.rd .h rfl .nil))) (gP df (fun _=>.nil) (nO (.rd (.t .h) rfl (.rd (.t (.t .h)) rfl (.rd .h rfl .nil))) (bY PR.h (.cons (.tmp rfl rfl) (.cons (.tmp rfl rfl) .nil)) (@ML aa ae ({Head:=[],Atoms:=oq}:bG) (⟨none,0,0⟩) ou _ YR)))) (fun _=>?_)
   refine ai (A8 (b:=Cv) (.tmp rfl rfl)) ?_
   refine Cm (.bool (!Cv)) rfl rfl ?_
   rcases Bool.eq_false_or_eq_true (!Cv)with Bn|Bn
   · rw[Bn]
     try rw[Bn]at hF; dsimp only[cond_true,cond_false]at hF
     iterate 4 refine yF (t:=58) rfl rfl rfl ?_
     refine ai (qR (b:=true) (u:=(.bool true)) (v:=undef) (.tmp rfl rfl) (.bool _) (.tmp rfl rfl)) ?_
     refine fP ?_
     obtain rfl:=Option.some.inj hF
     exact⟨_,_,rfl,(bF.cons rfl (bF.cons rfl (bF.cons rfl (bF.nil)))).eq,(.sel (.cons (.t (.t (.t .h))) (.cons (.t (.t (.t (.t .h)))) (.cons .h .nil))))⟩
   rw[Bn]
   try rw[Bn]at hF; dsimp only[cond_true,cond_false]at hF
   refine kN (t:=58) rfl rfl rfl ?_
   refine jl (.t (.t (.t (.t (.t .h))))) (fun hp=>nH jm.h eO.h.sz rfl (.tmp rfl rfl) hp.2 rfl) ?_
   refine kN (t:=58) rfl rfl rfl ?_
   obtain⟨FJ,YS,hF⟩:=bind_some hF
   refine cB (.cons .h (.rd .h rfl .nil)) (gP df (fun _=>.nil) (nO (.rd (.t .h) rfl (.rd .h rfl .nil)) (bY PS.h (.cons (.tmp rfl rfl) .nil) (@LJ fuel ({Head:=[],Atoms:=oq}:bG) (⟨none,0,0⟩) ou _ YS)))) (fun _=>?_)
   refine kN (t:=58) rfl rfl rfl ?_
   refine Cm (sv aN) rfl rfl ?_
   refine kN (t:=58) rfl rfl rfl ?_
   refine ai (ji (s:=FJ) (t:=aN) (.tmp rfl rfl) (.tmp rfl rfl)) ?_
   refine ai (qR (b:=false) (u:=(.bool true)) (v:=(.bool (!(FJ==aN)))) (.tmp rfl rfl) (.bool _) (.tmp rfl rfl)) ?_
   refine fP ?_
   obtain rfl:=Option.some.inj hF
   exact⟨_,_,rfl,(bF.cons rfl (bF.cons rfl (bF.cons rfl (bF.nil)))).eq,(.sel (.cons (.t (.t (.t .h))) (.cons (.t (.t (.t (.t .h)))) (.cons .h .nil))))⟩
 rintro _ _ ⟨yY,aeX,rfl,rfl,hE⟩
 replace hF:=Py
 clear Py
 try dsimp only at hF
 refine bn hE ?_
 refine mJ (b:=yY) (.tmp rfl rfl) (fun Iw=>?_) (fun Iw=>?_)
 · rw[if_pos Iw]at hF
   refine eF (ai (fA eO.h rfl (vs:=[]) .nil (cells:=[(.slice none 0 0),(.slice none 0 0)]) rfl) ?_)
   refine cB (.cons .h .nil) (j3 (e':=(.agg ([(.slice none 0 0),(.slice none 0 0)]:List Value).toArray)) (v:=(.agg ([(.slice none 0 0),(.slice none 0 0)]:List Value).toArray)) eO.h.sz (.tmp rfl rfl) (.tmp rfl rfl) rfl rfl rfl rfl rfl) (fun _=>?_)
   refine ai (jZ (v:=(.bool false)) (.bool _)) ?_
   refine fP (wu ?_)
   obtain rfl:=Option.some.inj hF
   exact dF (⟨none,0,0⟩,[],⟨none,0,0⟩,[]) (.cellA rfl rfl .h rfl jm.h eO.h.sz rfl rfl (.tmp rfl rfl .nil)) rfl (.conv .nil (dP (Ro:=(aR aX)) (E:=3)) (.cons .nil) (.conv .nil (dP (Ro:=fQ) (E:=83)) (.cons .nil) (.sel (.cons (.t .h) (.cons .h .nil)))))
 rw[if_neg (by rw[Iw]; exact Bool.false_ne_true)]at hF
 refine uC (eF (jl (.t .h) (fun hp=>nH jm.h eO.h.sz rfl (.tmp rfl rfl) hp.2 rfl) ?_))
 refine cB (.cons .h .nil) (j3 (e':=(.agg [(.slice none 0 0),ou.v].toArray)) (v:=(.agg [(.slice none 0 0),ou.v].toArray)) eO.h.sz (.tmp rfl rfl) (.tmp rfl rfl) rfl rfl rfl rfl rfl) (fun _=>?_)
 refine ai (jZ (v:=(.bool true)) (.bool _)) ?_
 refine fP (wu ?_)
 obtain rfl:=Option.some.inj hF
 exact dF (⟨none,0,0⟩,[],ou,FL) (.cellA rfl rfl .h rfl jm.h eO.h.sz rfl rfl (.tmp rfl rfl .nil)) rfl (.conv .nil (dP (Ro:=(aR aX)) (E:=3)) (.cons .nil) (.sel (.cons .h (.cons (.t (.t .h)) .nil))))
def xZ(fuel:Nat)(aa:List Int)(bK:Event):Option (Bool):=
 if ((bK.Kind:Int)==1)then (
   (zK fuel aa bK.Text).bind fun r2=>
   some r2.2)
 else (
   if ((bK.Kind:Int)==2)then (
     (zX fuel aa bK.Text).bind fun r5=>
     some r5.2)
   else (
     if ((bK.Kind:Int)==3)then (
       if ((bK.Kind:Int)==3)then (
         (xL fuel aa bK.Text).bind fun r8=>
         some r8.2)
       else (
         if ((bK.Kind:Int)==5)then (
           (o7 fuel bK.Text).bind fun iD=>
           (bif iD.2 then ((dN iD.1 1 100).bind fun fw=>
               some fw)
             else (some false)).bind fun ky=>
           match ky with
           |c20=>some c20)
         else (
           if ((bK.Kind:Int)==6)then (
             (xH fuel aa bK.Text).bind fun gV=>
             some gV.2)
           else (
             some false))))
     else (
       if ((bK.Kind:Int)==4)then (
         (xL fuel aa bK.Text).bind fun ng=>
         some ng.2)
       else (
         if ((bK.Kind:Int)==5)then (
           (o7 fuel bK.Text).bind fun iM=>
           (bif iM.2 then ((dN iM.1 1 100).bind fun Q8=>
               some Q8)
             else (some false)).bind fun KJ=>
           match KJ with
           |c40=>some c40)
         else (
           if ((bK.Kind:Int)==6)then (
             (xH fuel aa bK.Text).bind fun zb=>
             some zb.2)
           else (
             some false))))))
theorem TP{fuel:Nat}{aa:List Int}{ae:Sv}{bK:Event}{R:Bool}(hF:xZ fuel aa bK=some R):
   Fw.Spec Tryz.prog 7 [ae.v,(zg [(zi bK.Kind),(sv bK.Text)])] [aC ae aa] (fun _:Unit=>(.bool R)) (fun _=>[]):=by
 refine Se 61 Tryz.func7 [.tmp 4] ?_
 intro H0 F0
 unfold xZ at hF
 refine au ?_
 refine fC (fun k1=>?_)
 refine j6 ?_
 refine bH (eF (ai (EB (i:=bK.Kind) (j:=1) (.tmp rfl rfl) (.int _ _)) ?_))
 refine aG ?_
 refine Ci hF (fun aa4 hF=>?_) (fun aa4 hF=>?_)
 · refine aB ?_
   refine bnd hF fun r2 hx3 hF=>dI (Si hx3) (fun p4=>?_)
   refine au ?_
   refine zx ?_
   refine zx ?_
   exact ze hF
 refine aB ?_
 refine Ci hF (fun JJ hF=>?_) (fun JJ hF=>?_)
 · refine aB ?_
   refine bnd hF fun r5 hx6 hF=>dI (Ti hx6) (fun p7=>?_)
   refine au ?_
   refine zx ?_
   refine zx ?_
   exact ze hF
 refine aD ?_
 refine Ci hF (fun hb48 hF=>?_) (fun hb48 hF=>?_)
 · refine au ?_
   refine Ci hF (fun JK hF=>?_) (fun JK hF=>?_)
   · refine aB ?_
     refine bnd hF fun r8 bO hF=>dI (L8 bO) (fun Gj=>?_)
     refine au ?_
     refine zx ?_
     refine zx ?_
     exact ze hF
   refine aB ?_
   refine Ci hF (fun Cg hF=>?_) (fun Cg hF=>?_)
   · refine ax ?_
     refine bnd hF fun iD jQ hF=>az (GH jQ) (fun _=>?_)
     refine au ?_
     refine zx ?_
     refine zx ?_
     refine ax ?_
     obtain⟨ky,wD,wJ⟩:=bind_some hF
     refine au ?_
     refine bW (fun f' cs'=>∃(c20:Bool)(g:Fr),c20=ky/\f'=aH g [(5,(.bool c20))]/\aF cs' []) ?_ ?_
     · replace hF:=wD
       refine aG ?_
       rcases bf iD.2 with gH|gH
       · rw[gH]
         try rw[gH]at hF; dsimp only[ak,aj]at hF
         refine ax ?_
         refine bnd hF fun fw jH hF=>az (eU jH) (fun _=>?_)
         exact aO hF
       rw[gH]
       try rw[gH]at hF; dsimp only[ak,aj]at hF
       exact aO hF
     rintro _ _ ⟨c20,g21,rfl,rfl,hE⟩
     replace hF:=wJ
     try dsimp only at hF
     refine bn hE ?_
     exact ze hF
   refine aB ?_
   refine Ci hF (fun Ch hF=>?_) (fun Ch hF=>?_)
   · refine aB ?_
     refine bnd hF fun gV jq hF=>CP (LW jq) (fun FZ=>?_)
     refine au ?_
     refine zx ?_
     refine zx ?_
     exact ze hF
   exact ze hF
 refine aB ?_
 refine Ci hF (fun BU hF=>?_) (fun BU hF=>?_)
 · refine aB ?_
   refine bnd hF fun ng hx29 hF=>dI (L8 hx29) (fun p30=>?_)
   refine au ?_
   refine zx ?_
   refine zx ?_
   exact ze hF
 refine aB ?_
 refine Ci hF (fun aa5 hF=>?_) (fun aa5 hF=>?_)
 · refine ax ?_
   refine bnd hF fun iM hx32 hF=>az (GH hx32) (fun _=>?_)
   refine au ?_
   refine zx ?_
   refine zx ?_
   refine ax ?_
   obtain⟨KJ,YT,aa6⟩:=bind_some hF
   refine au ?_
   refine bW (fun f' cs'=>∃(c40:Bool)(g:Fr),c40=KJ/\f'=aH g [(5,(.bool c40))]/\aF cs' []) ?_ ?_
   · replace hF:=YT
     refine aG ?_
     rcases bf iM.2 with Cx|Cx
     · rw[Cx]
       try rw[Cx]at hF; dsimp only[ak,aj]at hF
       refine ax ?_
       refine bnd hF fun Q8 hx38 hF=>az (eU hx38) (fun _=>?_)
       exact aO hF
     rw[Cx]
     try rw[Cx]at hF; dsimp only[ak,aj]at hF
     exact aO hF
   rintro _ _ ⟨c40,Kn,rfl,rfl,hE⟩
   replace hF:=aa6
   try dsimp only at hF
   refine bn hE ?_
   exact ze hF
 refine aB ?_
 refine Ci hF (fun aa7 hF=>?_) (fun aa7 hF=>?_)
 · refine aB ?_
   refine bnd hF fun zb iG hF=>CP (LW iG) (fun p44=>?_)
   refine au ?_
   refine zx ?_
   refine zx ?_
   exact ze hF
 exact ze hF
def oP(aa:List Int)(fJ:List UInt8)(fuel:Nat):Nat->Int->Option (Event×Bool)
 |0,_=>none
 |m3+1,c2=>if (decide ((c2:Int)<=6))then (
     (((zW c2).bind fun jU=>
       (aP jU [32]).bind fun dQ=>
       (bif (decide (((dQ.length:Int):Int)<(fJ.length:Int)))then ((jI (decide (0<=(dQ.length:Int))&&decide ((dQ.length:Int)<=((fJ).length:Int)))).bind fun u24=>
           some ((fJ.take ((dQ.length:Int)).toNat)==dQ))
         else (some false)).bind fun xh=>
       match xh with
       |Db=>if Db then (
           (jI (decide (0<=(dQ.length:Int))&&decide ((dQ.length:Int)<=((fJ).length:Int)))).bind fun u28=>
           (xZ fuel aa (⟨c2,(fJ.drop ((dQ.length:Int)).toNat)⟩:Event)).bind fun iM=>
           if iM then (
             some (.inl ((⟨c2,(fJ.drop ((dQ.length:Int)).toNat)⟩:Event),true)))
           else (
             some (.inr ())))
         else (
           some (.inr ()))):Option (Sum (Event×Bool) (Unit))).bind fun KL=>
     match KL with
     | .inl r=>some r
     | .inr _=>oP aa fJ fuel m3 (IntKind.i64.wrap (c2+1)))
   else (
     some ((⟨0,[]⟩:Event),false))
def vJ(fuel:Nat)(aa:List Int)(fJ:List UInt8):Option (Event×Bool):=
 oP aa fJ fuel (((6:Int)-1).toNat+2) 1
theorem Sz{fuel:Nat}{aa:List Int}{ae:Sv}{fJ:List UInt8}{R:Event×Bool}(hF:vJ fuel aa fJ=some R):
   Fw.Spec Tryz.prog 12 [ae.v,(sv fJ)] [aC ae aa] (fun _:Unit=>(.tuple [(zg [(zi R.1.Kind),(sv R.1.Text)]),(.bool R.2)].toArray)) (fun _=>[]):=by
 refine Se 40 Tryz.func12 [.cell 4 28,.tmp 5] ?_
 intro H0 F0
 unfold vJ at hF
 refine au ?_
 refine fe (fun k1=>?_)
 refine bB ?_
 refine bH (bX (m:=(((6:Int)-1).toNat+2)) (fun m3 f' cs'=>∃(g:Fr)(c2:Int),f'=aH g [(0,ae.v),(1,(sv fJ)),(4,(pz k1)),(6,(zi c2))]/\aF cs' [aC ae aa,bQ k1 28 (zg [(zi 0),(sv [])])]/\oP aa fJ fuel m3 c2=some R) ⟨_,_,aK,aJ,hF⟩ ?_)
 rintro m3 _ _ ⟨g4,c2,rfl,hE,hF⟩
 refine bn hE ?_
 rcases m3 with _|m3
 · rw[oP]at hF
   exact absurd hF (by simp)
 rw[oP]at hF
 refine aD ?_
 refine Ci hF (fun mo hF=>?_) (fun mo hF=>?_)
 · refine au ?_
   obtain⟨KL,YU,Qs⟩:=bind_some hF
   refine ll (fun f' cs'=>∃(g:Fr),KL= .inr ()/\f'=aH g [(0,ae.v),(1,(sv fJ)),(4,(pz k1)),(6,(zi c2))]/\aF cs' [aC ae aa,bQ k1 28 (zg [(zi 0),(sv [])])]) ?_ ?_
   · replace hF:=YU
     refine bH (eF (Cm (zi c2) rfl rfl ?_))
     refine bnd hF fun jU jG hF=>az (Tg jG) (fun _=>?_)
     refine bnd hF fun dQ iJ hF=>?_
     obtain⟨PZ,P5⟩:=bq iJ
     refine ai (bu (s:=jU) (t:=[32]) (u:=dQ) (.tmp rfl rfl) (.sv _) iJ) ?_
     refine aG ?_
     obtain⟨xh,Im,Jr⟩:=bind_some hF
     refine au ?_
     refine bW (fun f' cs'=>∃(Db:Bool)(g:Fr),Db=xh/\f'=aH g [(0,ae.v),(1,(sv fJ)),(4,(pz k1)),(6,(zi c2)),(7,(sv dQ)),(28,(.bool Db))]/\aF cs' [aC ae aa,bQ k1 28 (zg [(zi 0),(sv [])])]) ?_ ?_
     · replace hF:=Im
       refine au ?_
       refine ai (g_ (s:=fJ) dz (.tmp rfl rfl)) ?_
       refine au ?_
       refine ai (g_ (s:=dQ) dz (.tmp rfl rfl)) ?_
       refine aG ?_
       rcases bf (decide (((dQ.length:Int):Int)<(fJ.length:Int)))with ko|ko
       · rw[ko]
         try rw[ko]at hF; dsimp only[ak,aj]at hF
         refine aD ?_
         refine ai (g_ (s:=dQ) dz (.tmp rfl rfl)) ?_
         refine au ?_
         refine bnd hF fun u24 hx25 hF=>?_
         have JL:=lH hx25
         simp only[Bool.and_eq_true,decide_eq_true_eq]at JL
         refine ai (Ah (s:=fJ) (j:=(dQ.length:Int)) dz (.tmp rfl rfl) (.tmp rfl rfl) JL.1 JL.2) ?_
         refine ax ?_
         refine ai (nT (s:=(fJ.take ((dQ.length:Int)).toNat)) (t:=dQ) (.tmp rfl rfl) (.tmp rfl rfl)) ?_
         exact aO hF
       rw[ko]
       try rw[ko]at hF; dsimp only[ak,aj]at hF
       exact aO hF
     rintro _ _ ⟨Db,g36,rfl,rfl,hE⟩
     replace hF:=Jr
     try dsimp only at hF
     refine bn hE ?_
     refine Ci hF (fun Cy hF=>?_) (fun Cy hF=>?_)
     · refine aB ?_
       refine ai (g_ (s:=dQ) dz (.tmp rfl rfl)) ?_
       refine bnd hF fun u28 hx29 hF=>?_
       have hc27:=lH hx29
       simp only[Bool.and_eq_true,decide_eq_true_eq]at hc27
       refine ai (xV (s:=fJ) (i:=(dQ.length:Int)) dz (.tmp rfl rfl) (.tmp rfl rfl) hc27.1 hc27.2) ?_
       refine ai (fA uO.h rfl (vs:=[(zi c2),(sv (fJ.drop ((dQ.length:Int)).toNat))]) bI (cells:=[(zi c2),(sv (fJ.drop ((dQ.length:Int)).toNat))]) rfl) ?_
       refine fe (fun k30=>?_)
       refine As (zg [(zi c2),(sv (fJ.drop ((dQ.length:Int)).toNat))]) ?_
       refine aB ?_
       refine bnd hF fun iM hx32 hF=>az (TP hx32) (fun _=>?_)
       refine au ?_
       refine Ci hF (fun BZ hF=>?_) (fun BZ hF=>?_)
       · refine aG ?_
         refine As (zg [(zi c2),(sv (fJ.drop ((dQ.length:Int)).toNat))]) ?_
         refine ax ?_
         cases hF
         replace hF:=Qs
         try dsimp only at hF
         cases hF
         exact dF () (.cellA rfl rfl .h rfl ES.h uO.h.sz rfl rfl (.tmp rfl rfl .nil)) rfl (.sel .nil)
       refine au ?_
       cases hF
       exact⟨_,rfl,aK,aJ⟩
     refine au ?_
     cases hF
     exact⟨_,rfl,aK,aJ⟩
   rintro _ _ ⟨g37,rfl,rfl,hE⟩
   replace hF:=Qs
   try dsimp only at hF
   refine bn hE ?_
   refine aD ?_
   exact⟨m3,cO _,_,_,aK,aJ,hF⟩
 refine aD ?_
 refine ai (fA uO.h rfl (vs:=[]) .nil (cells:=[(zi 0),(sv [])]) rfl) ?_
 refine As (zg [(zi 0),(sv [])]) ?_
 refine ax ?_
 cases hF
 exact dF () (.cellA rfl rfl .h rfl ES.h uO.h.sz rfl rfl (.tmp rfl rfl .nil)) rfl (.sel .nil)
def zu(aa d_:List UInt8):Option Int:=
 if aa.length<4294967281 then some (Lib.index aa d_)else none
theorem RJ{aa d_:List UInt8}{R:Int}(hF:zu aa d_=some R):
   Fw.Spec Tryz.prog 97 [sv aa,sv d_] [] (fun _:Unit=>(zi R)) (fun _=>[]):=by
 unfold zu at hF
 split at hF
 · rename_i h1
   cases hF
   exact T_ Wn (fun _=>.int _ _) fun w hv=>by
     obtain⟨m,hm⟩:=(iL.cellI (P:=Tryz.prog) (fun w0 (h:aV.V Tryz.prog w0)=>And.right (And.right (And.right h))) hv.choose_spec)
     exact TI VL aa d_ m w h1 hm
 · simp at hF
end Go.Proofs.YtcjkjmnbdlnojaaGreatDoor
