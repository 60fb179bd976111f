/-
  Functions of the program as Lean functions, and that the calls return what these say: part 1. No conditions.
-/
import Derived.Test.YtcjkjmnbdlnojaaGreatDoorFc
import Derived.Shelf.Strconv.Itoa3
import Derived.Shelf.Strings.OnBuilder
import Derived.Shelf.Sort.Plain
import Derived.Shelf.Slices.In.SortNone
import Derived.Shelf.Slices.CompactI
import Derived.Test.YtcjkjmnbdlnojaaGreatDoorProg
import Derived.KernelRfl
set_option maxRecDepth 100000
set_option maxHeartbeats 1000000
set_option linter.unusedVariables false
namespace Go.Proofs.YtcjkjmnbdlnojaaGreatDoor
open Go Go.Fw

theorem jK{G:Prop}(h:G:=by (unfold FD; kernel_rfl)):G:=h
theorem mI{G:Prop}(h:G:=by (unfold AG; kernel_rfl)):G:=h
theorem AZ{G:Prop}(h:G:=by (unfold SL; kernel_rfl)):G:=h
theorem lX{G:Prop}(h:G:=by (unfold TY; kernel_rfl)):G:=h
instance:aV Tryz.prog:=⟨fun w=>Lib.TabIs Tryz.prog w "internal/strconv.uint64pow10" .u64 Lib.pow10Tab/\(∃tp p,w.var? Tryz.prog "strconv.ErrSyntax" =some #[.iface tp p])/\(∃tp p,w.var? Tryz.prog "strconv.ErrRange" =some #[.iface tp p])/\ ∃m,w.cell? ⟨0,0,none⟩=some (.int .i64 m)⟩
structure Event where
 Kind:Int
 Text:List UInt8
instance Za:iD Tryz.prog 24 2 24 (.agg [(.int .i64 0),(.string ⟨[].toArray⟩)].toArray):=⟨lX⟩
instance eB:pK Tryz.prog 22 3:=⟨AZ⟩
instance acL:iC Tryz.prog 24 true:=⟨mI⟩
instance cf6:aT Tryz.prog 6:=⟨Tryz.call6⟩
instance abb:jk Tryz.prog 24 1 1:=⟨jK⟩
instance Cb:iC Tryz.prog 9 false:=⟨mI⟩
theorem dN:Fw.ST Tryz.prog 9:=by unfold Fw.ST; kernel_rfl
theorem mixed:Tryz.prog.follows .mixedOrders=true:=by kernel_rfl
instance cf8:aT Tryz.prog 8:=⟨Tryz.call8⟩
instance dU:iD Tryz.prog 3 1 8 (.int .i64 0):=⟨lX⟩
theorem dw{a:Int}:∀H e,aY H e a->e.cells.toList[0]?=some (.int .i64 a):=by
 intro H e h
 subst h
 rfl
instance JC:iC Tryz.prog 3 false:=⟨mI⟩
instance cf9:aT Tryz.prog 9:=⟨Tryz.call9⟩
instance acM:iD Tryz.prog 28 2 24 (.agg [(.int .i64 0),(.string ⟨[].toArray⟩)].toArray):=⟨lX⟩
instance abd:jk Tryz.prog 24 0 0:=⟨jK⟩
instance abe:jk Tryz.prog 28 0 0:=⟨jK⟩
instance abf:jk Tryz.prog 28 1 1:=⟨jK⟩
instance iF:iD Tryz.prog 9 1 16 (.string ⟨[].toArray⟩):=⟨lX⟩
instance acN:iC Tryz.prog 28 true:=⟨mI⟩
instance cf7:aT Tryz.prog 7:=⟨Tryz.call7⟩
instance acO:aT Tryz.prog 21:=⟨Tryz.call21⟩
structure Method where
 Rel:Int
 Inputs:List Int
 Limit:Int
 Cost:Int
 Quota:Int
instance iN:iD Tryz.prog 43 5 56 (.agg [(.int .i64 0),(.slice none 0 0),(.int .i64 0),(.int .i64 0),(.int .i64 0)].toArray):=⟨lX⟩
instance O_:aT Tryz.prog 33:=⟨Tryz.call33⟩
instance gY:pK Tryz.prog 68 9:=⟨AZ⟩
theorem A7:xQ Tryz.prog 68:=.inr ⟨9,by kernel_rfl⟩
instance nN:iC Tryz.prog 43 true:=⟨mI⟩
theorem eZ{a:List UInt8}:∀H e,rdStr H e a->e.cells.toList[0]?=some (sv a):=by
 intro H e h
 subst h
 rfl
instance HZ:aT Tryz.prog 36:=⟨Tryz.call36⟩
instance ym:aT Tryz.prog 37:=⟨Tryz.call37⟩
instance acP:aT Tryz.prog 24:=⟨Tryz.call24⟩
theorem Ce:IK Tryz.prog 5 .u8:=by unfold IK; kernel_rfl
theorem JD:IK Tryz.prog 3 .i64:=by unfold IK; kernel_rfl
instance acQ:aT Tryz.prog 45:=⟨Tryz.call45⟩
instance Ej:pK Tryz.prog 108 5:=⟨AZ⟩
instance Fv:iD Tryz.prog 5 1 1 (.int .u8 0):=⟨lX⟩
theorem Pb:Tryz.prog.underlying 9=some .string:=by kernel_rfl
instance abg:jk Tryz.prog 43 1 1:=⟨jK⟩
instance uC:iC Tryz.prog 22 false:=⟨mI⟩
theorem lY:xQ Tryz.prog 22:=.inr ⟨3,by kernel_rfl⟩
instance A8:iD Tryz.prog 22 1 24 (.slice none 0 0):=⟨lX⟩
instance Zb:aT Tryz.prog 38:=⟨Tryz.call38⟩
instance acR:aT Tryz.prog 69:=⟨Tryz.call69⟩
instance acS:aT Tryz.prog 25:=⟨Tryz.call25⟩
instance abh:jk Tryz.prog 43 0 0:=⟨jK⟩
instance abj:jk Tryz.prog 43 2 2:=⟨jK⟩
instance abk:jk Tryz.prog 43 3 3:=⟨jK⟩
instance abl:jk Tryz.prog 43 4 4:=⟨jK⟩
instance Zc:aT Tryz.prog 39:=⟨Tryz.call39⟩
instance acT:aT Tryz.prog 70:=⟨Tryz.call70⟩
instance acU:aT Tryz.prog 22:=⟨Tryz.call22⟩
structure eU where
 From:Int
 To:Int
 Map:List Int
instance lG:iD Tryz.prog 47 3 40 (.agg [(.int .i64 0),(.int .i64 0),(.slice none 0 0)].toArray):=⟨lX⟩
instance yn:iC Tryz.prog 47 true:=⟨mI⟩
instance abm:jk Tryz.prog 47 2 2:=⟨jK⟩
instance Zd:aT Tryz.prog 40:=⟨Tryz.call40⟩
instance abn:jk Tryz.prog 47 0 0:=⟨jK⟩
instance abo:jk Tryz.prog 47 1 1:=⟨jK⟩
instance Ze:aT Tryz.prog 41:=⟨Tryz.call41⟩
instance acV:aT Tryz.prog 23:=⟨Tryz.call23⟩
structure Fact where
 Rel:Int
 Values:List Int
instance uD:iD Tryz.prog 51 2 32 (.agg [(.int .i64 0),(.slice none 0 0)].toArray):=⟨lX⟩
instance acW:aT Tryz.prog 42:=⟨Tryz.call42⟩
instance abp:jk Tryz.prog 51 1 1:=⟨jK⟩
instance Ev:iC Tryz.prog 51 true:=⟨mI⟩
instance Zf:aT Tryz.prog 43:=⟨Tryz.call43⟩
instance abq:jk Tryz.prog 51 0 0:=⟨jK⟩
instance Zg:aT Tryz.prog 44:=⟨Tryz.call44⟩
instance acX:aT Tryz.prog 26:=⟨Tryz.call26⟩
structure aW where
 Rel:Int
 Terms:List Int
structure bG where
 Head:List Int
 Atoms:List aW
instance ek:iD Tryz.prog 59 2 48 (.agg [(.slice none 0 0),(.slice none 0 0)].toArray):=⟨lX⟩
theorem OU{a:List UInt8}:∀F H e,(aR rdStr) F H e a->e.cells.toList[0]?=some (sv a):=by
 intro F H e h
 obtain⟨-,h⟩:=h
 subst h
 rfl
instance Oo:jk Tryz.prog 59 0 0:=⟨jK⟩
instance Pf:aT Tryz.prog 46:=⟨Tryz.call46⟩
instance vQ:jk Tryz.prog 59 1 1:=⟨jK⟩
instance Ph:iC Tryz.prog 57 false:=⟨mI⟩
instance Pi:aT Tryz.prog 47:=⟨Tryz.call47⟩
instance mJ:iD Tryz.prog 83 2 32 (.agg [(.int .i64 0),(.slice none 0 0)].toArray):=⟨lX⟩
instance abr:jk Tryz.prog 83 1 1:=⟨jK⟩
instance Zh:iC Tryz.prog 83 true:=⟨mI⟩
instance rD:pK Tryz.prog 57 83:=⟨AZ⟩
def yo(H:ag)(v:Value)(a:aW):Prop:=∃v0:Sv,v= .agg [(.int .i64 a.Rel),v0.v].toArray/\(cO 3 aY) H v0.v a.Terms
instance:dD yo:=⟨fun h hi=>by
 obtain⟨v0,h,h0⟩:=h
 exact⟨v0,h,dD.up h0 hi⟩⟩
instance:Cells yo 2:=⟨fun h=>by
 obtain⟨v0,rfl,h0⟩:=h
 exact⟨rfl,rfl⟩⟩
def fJ:dY aW:=fun F H v a=>∃(v0:Sv)(F0:List Nat),v= .agg [(.int .i64 a.Rel),v0.v].toArray/\F0=F/\(bL 3 (aR aY)) F0 H v0.v a.Terms
instance:gI fJ:=⟨fun h hi hg=>by
 obtain⟨v0,F0,rfl,rfl,h0⟩:=h
 exact⟨v0,F0,rfl,rfl,gI.keep h0 hi (fun k hk=>hg k (by simp[hk]))⟩⟩
instance:Local fJ:=⟨fun h hg=>by
 obtain⟨v0,F0,rfl,rfl,h0⟩:=h
 exact⟨v0,F0,rfl,rfl,Local.keep h0 (fun k hk=>hg k (by simp[hk]))⟩⟩
instance:rA fJ:=⟨fun h k hk=>by
 obtain⟨v0,F0,rfl,rfl,h0⟩:=h
 exact rA.owns h0 k hk
⟩
instance:qI fJ 2:=⟨fun h=>by
 obtain⟨v0,F0,rfl,rfl,h0⟩:=h
 exact⟨rfl,rfl⟩⟩
instance:rW fJ yo:=⟨fun h hg=>by
 obtain⟨v0,F0,rfl,rfl,h0⟩:=h
 exact⟨v0,rfl,rW.frz h0 (fun k hk=>hg k (by simp[hk]))⟩⟩
theorem Ew{a:aW}{v0:Sv}{F0:List Nat}:Mk fJ F0 (.agg [(.int .i64 a.Rel),v0.v].toArray) a [bP (bL 3 (aR aY)) F0 v0.v a.Terms]:=
 ⟨fun H h=>⟨v0,F0,rfl,rfl,h (bP (bL 3 (aR aY)) F0 v0.v a.Terms) (by simp)⟩,by simp[bP]⟩
theorem Ex:xQ Tryz.prog 57:=.inr ⟨83,by kernel_rfl⟩
instance Pj:iD Tryz.prog 57 1 24 (.slice none 0 0):=⟨lX⟩
instance jd:iC Tryz.prog 59 true:=⟨mI⟩
instance Pk:aT Tryz.prog 48:=⟨Tryz.call48⟩
instance acY:aT Tryz.prog 72:=⟨Tryz.call72⟩
theorem GZ{a:aW}:∀H e,yo H e a-> ∃w:Sv,e.cells.toList[1]?=some w.v/\(cO 3 aY) H w.v a.Terms:=by
 intro H e h
 obtain⟨v0,rfl,h0⟩:=h
 exact⟨v0,rfl,h0⟩
instance abA:aT Tryz.prog 102:=⟨Tryz.call102⟩
instance abB:aT Tryz.prog 103:=⟨Tryz.call103⟩
instance Ey:aT Tryz.prog 73:=⟨Tryz.call73⟩
theorem Ha{a:Int}:∀F H e,(aR aY) F H e a->e.cells.toList[0]?=some (.int .i64 a):=by
 intro F H e h
 obtain⟨-,h⟩:=h
 subst h
 rfl
def vF(a:aW)(p:Sv):List Value:=[(.int .i64 a.Rel),p.v]
theorem xy{a:aW}:∀H e,yo H e a-> ∃i:Sv,0+2<=e.cells.size/\(e.cells.toList.drop 0).take 2=vF a i/\ ∀c∈([eF (cO 3 aY) i.v a.Terms]:List ah),c.P H/\c.F=[]:=by
 intro H e h
 obtain⟨v0,rfl,h0⟩:=h
 refine⟨v0,Nat.le_of_ble_eq_true rfl,rfl,fun c hc=>by
   simp only[List.mem_cons,List.not_mem_nil,or_false]at hc
   rcases hc with rfl
   · exact⟨h0,rfl⟩
⟩
instance acZ:aT Tryz.prog 71:=⟨Tryz.call71⟩
instance abt:jk Tryz.prog 83 0 0:=⟨jK⟩
instance abC:aT Tryz.prog 101:=⟨Tryz.call101⟩
instance Pm:aT Tryz.prog 49:=⟨Tryz.call49⟩
instance ac0:aT Tryz.prog 74:=⟨Tryz.call74⟩
instance abD:aT Tryz.prog 104:=⟨Tryz.call104⟩
instance ac1:aT Tryz.prog 75:=⟨Tryz.call75⟩
instance Zi:aT Tryz.prog 10:=⟨Tryz.call10⟩
instance ac2:aT Tryz.prog 27:=⟨Tryz.call27⟩
instance ac3:aT Tryz.prog 50:=⟨Tryz.call50⟩
instance ac4:aT Tryz.prog 34:=⟨Tryz.call34⟩
instance ac5:aT Tryz.prog 68:=⟨Tryz.call68⟩
def Tn:Go.Shelf.Ren:=⟨fun|221=>68|268=>98|138=>99|143=>100|195=>159|197=>160|218=>161|219=>97|260=>227|217=>155|225=>156|224=>157|267=>158|266=>225|314=>226|n=>n,fun|9=>9|3=>3|31=>68|4=>4|0=>0|105=>196|21=>21|5=>5|46=>195|119=>279|139=>282|138=>281|146=>243|51=>242|n=>n,fun|1=>0|3=>3|4=>4|n=>n⟩
theorem Vd:Go.Proofs.Lays.n221 Tryz.prog Tn:={
 mixed:=by kernel_rfl
 f138:=Tryz.func99.trans (congrArg some (by kernel_rfl))
 f143:=Tryz.func100.trans (congrArg some (by kernel_rfl))
 f195:=Tryz.func159.trans (congrArg some (by kernel_rfl))
 f197:=Tryz.func160.trans (congrArg some (by kernel_rfl))
 f217:=Tryz.func155.trans (congrArg some (by kernel_rfl))
 f218:=Tryz.func161.trans (congrArg some (by kernel_rfl))
 f219:=Tryz.func97.trans (congrArg some (by kernel_rfl))
 f221:=Tryz.func68.trans (congrArg some (by kernel_rfl))
 f224:=Tryz.func157.trans (congrArg some (by kernel_rfl))
 f225:=Tryz.func156.trans (congrArg some (by kernel_rfl))
 f260:=Tryz.func227.trans (congrArg some (by kernel_rfl))
 f266:=Tryz.func225.trans (congrArg some (by kernel_rfl))
 f267:=Tryz.func158.trans (congrArg some (by kernel_rfl))
 f268:=Tryz.func98.trans (congrArg some (by kernel_rfl))
 f314:=Tryz.func226.trans (congrArg some (by kernel_rfl))
 t0:=Tryz.underlying0
 a0:=Tryz.isAgg0
 z0:=Tryz.sizeOf0
 v0:=Tryz.zeroValue0
 t3:=Tryz.underlying3
 a3:=Tryz.isAgg3
 z3:=Tryz.sizeOf3
 v3:=Tryz.zeroValue3
 t4:=Tryz.underlying4
 a4:=Tryz.isAgg4
 z4:=Tryz.sizeOf4
 v4:=Tryz.zeroValue4
 t5:=Tryz.underlying5
 a5:=Tryz.isAgg5
 z5:=Tryz.sizeOf5
 v5:=Tryz.zeroValue5
 t9:=Tryz.underlying9
 a9:=Tryz.isAgg9
 z9:=Tryz.sizeOf9
 v9:=Tryz.zeroValue9
 t21:=Tryz.underlying21
 a21:=Tryz.isAgg21
 z21:=Tryz.sizeOf21
 v21:=Tryz.zeroValue21
 t31:=Tryz.underlying68
 a31:=Tryz.isAgg68
 z31:=Tryz.sizeOf68
 v31:=Tryz.zeroValue68
 t46:=Tryz.underlying195
 a46:=Tryz.isAgg195
 z46:=Tryz.sizeOf195
 v46:=Tryz.zeroValue195
 t51:=Tryz.underlying242
 a51:=Tryz.isAgg242
 z51:=Tryz.sizeOf242
 v51:=Tryz.zeroValue242
 t105:=Tryz.underlying196
 a105:=Tryz.isAgg196
 z105:=Tryz.sizeOf196
 v105:=Tryz.zeroValue196
 t119:=Tryz.underlying279
 a119:=Tryz.isAgg279
 z119:=Tryz.sizeOf279
 t138:=Tryz.underlying281
 a138:=Tryz.isAgg281
 z138:=Tryz.sizeOf281
 v138:=Tryz.zeroValue281
 t139:=Tryz.underlying282
 a139:=Tryz.isAgg282
 z139:=Tryz.sizeOf282
 v139:=Tryz.zeroValue282
 t146:=Tryz.underlying243
 a146:=Tryz.isAgg243
 z146:=Tryz.sizeOf243
 v146:=Tryz.zeroValue243
 g1:=by kernel_rfl
 g3:=by kernel_rfl
 g4:=by kernel_rfl}
theorem hi9:(Tryz.prog.info? 9).map (fun i=>(i.zero,i.size,i.bytes))=some (some (.string ByteArray.empty),1,16):=by kernel_rfl
instance ac6:aT Tryz.prog 76:=⟨Tryz.call76⟩
instance ac7:aT Tryz.prog 59:=⟨Tryz.call59⟩
instance Zj:aT Tryz.prog 90:=⟨Tryz.call90⟩
def SV:Go.Shelf.Ren:=⟨fun|172=>90|244=>133|245=>134|247=>194|279=>195|280=>196|281=>197|282=>198|287=>238|316=>239|171=>135|205=>240|321=>269|322=>270|243=>199|246=>241|283=>271|284=>272|285=>273|286=>274|129=>293|317=>292|318=>294|319=>295|320=>296|337=>308|338=>309|n=>n,fun|9=>9|3=>3|75=>128|76=>129|4=>4|5=>5|167=>216|37=>108|0=>0|85=>217|2=>2|168=>219|53=>256|175=>257|46=>195|210=>261|127=>283|145=>288|143=>286|21=>21|171=>289|173=>292|212=>311|51=>242|20=>20|213=>312|232=>333|233=>334|80=>250|n=>n,fun|15=>1|16=>2|17=>5|18=>6|19=>7|n=>n⟩
theorem UH:Go.Proofs.LaysC.n172 Tryz.prog SV:={
 mixed:=by kernel_rfl
 f129:=Tryz.func293.trans (congrArg some (by kernel_rfl))
 f171:=Tryz.func135.trans (congrArg some (by kernel_rfl))
 f172:=Tryz.func90.trans (congrArg some (by kernel_rfl))
 f205:=Tryz.func240.trans (congrArg some (by kernel_rfl))
 f243:=Tryz.func199.trans (congrArg some (by kernel_rfl))
 f244:=Tryz.func133.trans (congrArg some (by kernel_rfl))
 f245:=Tryz.func134.trans (congrArg some (by kernel_rfl))
 f246:=Tryz.func241.trans (congrArg some (by kernel_rfl))
 f247:=Tryz.func194.trans (congrArg some (by kernel_rfl))
 f279:=Tryz.func195.trans (congrArg some (by kernel_rfl))
 f280:=Tryz.func196.trans (congrArg some (by kernel_rfl))
 f281:=Tryz.func197.trans (congrArg some (by kernel_rfl))
 f282:=Tryz.func198.trans (congrArg some (by kernel_rfl))
 f283:=Tryz.func271.trans (congrArg some (by kernel_rfl))
 f284:=Tryz.func272.trans (congrArg some (by kernel_rfl))
 f285:=Tryz.func273.trans (congrArg some (by kernel_rfl))
 f286:=Tryz.func274.trans (congrArg some (by kernel_rfl))
 f287:=Tryz.func238.trans (congrArg some (by kernel_rfl))
 f316:=Tryz.func239.trans (congrArg some (by kernel_rfl))
 f317:=Tryz.func292.trans (congrArg some (by kernel_rfl))
 f318:=Tryz.func294.trans (congrArg some (by kernel_rfl))
 f319:=Tryz.func295.trans (congrArg some (by kernel_rfl))
 f320:=Tryz.func296.trans (congrArg some (by kernel_rfl))
 f321:=Tryz.func269.trans (congrArg some (by kernel_rfl))
 f322:=Tryz.func270.trans (congrArg some (by kernel_rfl))
 f337:=Tryz.func308.trans (congrArg some (by kernel_rfl))
 f338:=Tryz.func309.trans (congrArg some (by kernel_rfl))
 t0:=Tryz.underlying0
 a0:=Tryz.isAgg0
 z0:=Tryz.sizeOf0
 v0:=Tryz.zeroValue0
 t2:=Tryz.underlying2
 a2:=Tryz.isAgg2
 z2:=Tryz.sizeOf2
 v2:=Tryz.zeroValue2
 t3:=Tryz.underlying3
 a3:=Tryz.isAgg3
 z3:=Tryz.sizeOf3
 v3:=Tryz.zeroValue3
 t4:=Tryz.underlying4
 a4:=Tryz.isAgg4
 z4:=Tryz.sizeOf4
 v4:=Tryz.zeroValue4
 t5:=Tryz.underlying5
 a5:=Tryz.isAgg5
 z5:=Tryz.sizeOf5
 v5:=Tryz.zeroValue5
 t9:=Tryz.underlying9
 a9:=Tryz.isAgg9
 z9:=Tryz.sizeOf9
 v9:=Tryz.zeroValue9
 t20:=Tryz.underlying20
 a20:=Tryz.isAgg20
 z20:=Tryz.sizeOf20
 v20:=Tryz.zeroValue20
 t21:=Tryz.underlying21
 a21:=Tryz.isAgg21
 z21:=Tryz.sizeOf21
 v21:=Tryz.zeroValue21
 t37:=Tryz.underlying108
 a37:=Tryz.isAgg108
 z37:=Tryz.sizeOf108
 v37:=Tryz.zeroValue108
 t46:=Tryz.underlying195
 a46:=Tryz.isAgg195
 z46:=Tryz.sizeOf195
 v46:=Tryz.zeroValue195
 t51:=Tryz.underlying242
 a51:=Tryz.isAgg242
 z51:=Tryz.sizeOf242
 v51:=Tryz.zeroValue242
 t53:=Tryz.underlying256
 a53:=Tryz.isAgg256
 z53:=Tryz.sizeOf256
 v53:=Tryz.zeroValue256
 t75:=Tryz.underlying128
 a75:=Tryz.isAgg128
 z75:=Tryz.sizeOf128
 v75:=Tryz.zeroValue128
 t76:=Tryz.underlying129
 a76:=Tryz.isAgg129
 z76:=Tryz.sizeOf129
 v76:=Tryz.zeroValue129
 t85:=Tryz.underlying217
 a85:=Tryz.isAgg217
 z85:=Tryz.sizeOf217
 v85:=Tryz.zeroValue217
 t127:=Tryz.underlying283
 a127:=Tryz.isAgg283
 z127:=Tryz.sizeOf283
 v127:=Tryz.zeroValue283
 t143:=Tryz.underlying286
 a143:=Tryz.isAgg286
 z143:=Tryz.sizeOf286
 v143:=Tryz.zeroValue286
 t145:=Tryz.underlying288
 a145:=Tryz.isAgg288
 z145:=Tryz.sizeOf288
 v145:=Tryz.zeroValue288
 t167:=Tryz.underlying216
 a167:=Tryz.isAgg216
 z167:=Tryz.sizeOf216
 v167:=Tryz.zeroValue216
 t168:=Tryz.underlying219
 a168:=Tryz.isAgg219
 z168:=Tryz.sizeOf219
 v168:=Tryz.zeroValue219
 t171:=Tryz.underlying289
 a171:=Tryz.isAgg289
 z171:=Tryz.sizeOf289
 v171:=Tryz.zeroValue289
 t173:=Tryz.underlying292
 a173:=Tryz.isAgg292
 z173:=Tryz.sizeOf292
 v173:=Tryz.zeroValue292
 t175:=Tryz.underlying257
 a175:=Tryz.isAgg257
 z175:=Tryz.sizeOf257
 v175:=Tryz.zeroValue257
 t210:=Tryz.underlying261
 a210:=Tryz.isAgg261
 z210:=Tryz.sizeOf261
 v210:=Tryz.zeroValue261
 t212:=Tryz.underlying311
 a212:=Tryz.isAgg311
 z212:=Tryz.sizeOf311
 v212:=Tryz.zeroValue311
 t213:=Tryz.underlying312
 a213:=Tryz.isAgg312
 z213:=Tryz.sizeOf312
 t232:=Tryz.underlying333
 a232:=Tryz.isAgg333
 z232:=Tryz.sizeOf333
 v232:=Tryz.zeroValue333
 t233:=Tryz.underlying334
 a233:=Tryz.isAgg334
 z233:=Tryz.sizeOf334
 v233:=Tryz.zeroValue334
 g15:=by kernel_rfl
 g16:=by kernel_rfl
 g17:=by kernel_rfl
 g18:=by kernel_rfl
 g19:=by kernel_rfl
 t80:=Tryz.underlying250
 a80:=Tryz.isAgg250
 z80:=Tryz.sizeOf250
 v80:=Tryz.zeroValue250
 i0:=by kernel_rfl
 i2:=by kernel_rfl
 i3:=by kernel_rfl
 i4:=by kernel_rfl
 i5:=by kernel_rfl
 i9:=by kernel_rfl
 i20:=by kernel_rfl
 i21:=by kernel_rfl
 i37:=by kernel_rfl
 i46:=by kernel_rfl
 i51:=by kernel_rfl
 i53:=by kernel_rfl
 i75:=by kernel_rfl
 i76:=by kernel_rfl
 i80:=by kernel_rfl
 i85:=by kernel_rfl
 i127:=by kernel_rfl
 i143:=by kernel_rfl
 i145:=by kernel_rfl
 i167:=by kernel_rfl
 i168:=by kernel_rfl
 i171:=by kernel_rfl
 i173:=by kernel_rfl
 i175:=by kernel_rfl
 i210:=by kernel_rfl
 i212:=by kernel_rfl
 i232:=by kernel_rfl
 i233:=by kernel_rfl
 m15:=by kernel_rfl
 m16:=by kernel_rfl
 m17:=by kernel_rfl
 m18:=by kernel_rfl
 m19:=by kernel_rfl
 c0:=by kernel_rfl
 c2:=by kernel_rfl
 c3:=by kernel_rfl
 c4:=by kernel_rfl
 c5:=by kernel_rfl
 c9:=by kernel_rfl
 c20:=by kernel_rfl
 c21:=by kernel_rfl
 c37:=by kernel_rfl
 c46:=by kernel_rfl
 c51:=by kernel_rfl
 c53:=by kernel_rfl
 c75:=by kernel_rfl
 c76:=by kernel_rfl
 c80:=by kernel_rfl
 c85:=by kernel_rfl
 c127:=by kernel_rfl
 c143:=by kernel_rfl
 c145:=by kernel_rfl
 c167:=by kernel_rfl
 c168:=by kernel_rfl
 c171:=by kernel_rfl
 c173:=by kernel_rfl
 c175:=by kernel_rfl
 c210:=by kernel_rfl
 c212:=by kernel_rfl
 c213:=by kernel_rfl
 c232:=by kernel_rfl
 c233:=by kernel_rfl}
theorem VK:Tryz.prog.underlying 128=some (.interface (Tryz.prog.methodsAt 128)):=by kernel_rfl
instance Zk:aT Tryz.prog 60:=⟨Tryz.call60⟩
instance Zl:aT Tryz.prog 91:=⟨Tryz.call91⟩
instance abE:aT Tryz.prog 135:=⟨Tryz.call135⟩
def SX:Go.Shelf.Ren:=⟨fun|171=>135|243=>199|246=>241|283=>271|284=>272|285=>273|286=>274|129=>293|317=>292|318=>294|319=>295|320=>296|337=>308|338=>309|n=>n,fun|3=>3|9=>9|2=>2|4=>4|171=>289|0=>0|53=>256|37=>108|5=>5|173=>292|212=>311|51=>242|20=>20|213=>312|46=>195|232=>333|233=>334|n=>n,fun|17=>5|18=>6|19=>7|n=>n⟩
theorem UI:Go.Proofs.LaysM.n171 Tryz.prog SX:={
 mixed:=by kernel_rfl
 f129:=Tryz.func293.trans (congrArg some (by kernel_rfl))
 f171:=Tryz.func135.trans (congrArg some (by kernel_rfl))
 f243:=Tryz.func199.trans (congrArg some (by kernel_rfl))
 f246:=Tryz.func241.trans (congrArg some (by kernel_rfl))
 f283:=Tryz.func271.trans (congrArg some (by kernel_rfl))
 f284:=Tryz.func272.trans (congrArg some (by kernel_rfl))
 f285:=Tryz.func273.trans (congrArg some (by kernel_rfl))
 f286:=Tryz.func274.trans (congrArg some (by kernel_rfl))
 f317:=Tryz.func292.trans (congrArg some (by kernel_rfl))
 f318:=Tryz.func294.trans (congrArg some (by kernel_rfl))
 f319:=Tryz.func295.trans (congrArg some (by kernel_rfl))
 f320:=Tryz.func296.trans (congrArg some (by kernel_rfl))
 f337:=Tryz.func308.trans (congrArg some (by kernel_rfl))
 f338:=Tryz.func309.trans (congrArg some (by kernel_rfl))
 t0:=Tryz.underlying0
 a0:=Tryz.isAgg0
 z0:=Tryz.sizeOf0
 v0:=Tryz.zeroValue0
 t2:=Tryz.underlying2
 a2:=Tryz.isAgg2
 z2:=Tryz.sizeOf2
 v2:=Tryz.zeroValue2
 t3:=Tryz.underlying3
 a3:=Tryz.isAgg3
 z3:=Tryz.sizeOf3
 v3:=Tryz.zeroValue3
 t4:=Tryz.underlying4
 a4:=Tryz.isAgg4
 z4:=Tryz.sizeOf4
 v4:=Tryz.zeroValue4
 t5:=Tryz.underlying5
 a5:=Tryz.isAgg5
 z5:=Tryz.sizeOf5
 v5:=Tryz.zeroValue5
 t9:=Tryz.underlying9
 a9:=Tryz.isAgg9
 z9:=Tryz.sizeOf9
 v9:=Tryz.zeroValue9
 t20:=Tryz.underlying20
 a20:=Tryz.isAgg20
 z20:=Tryz.sizeOf20
 v20:=Tryz.zeroValue20
 t37:=Tryz.underlying108
 a37:=Tryz.isAgg108
 z37:=Tryz.sizeOf108
 v37:=Tryz.zeroValue108
 t46:=Tryz.underlying195
 a46:=Tryz.isAgg195
 z46:=Tryz.sizeOf195
 v46:=Tryz.zeroValue195
 t51:=Tryz.underlying242
 a51:=Tryz.isAgg242
 z51:=Tryz.sizeOf242
 v51:=Tryz.zeroValue242
 t53:=Tryz.underlying256
 a53:=Tryz.isAgg256
 z53:=Tryz.sizeOf256
 v53:=Tryz.zeroValue256
 t171:=Tryz.underlying289
 a171:=Tryz.isAgg289
 z171:=Tryz.sizeOf289
 v171:=Tryz.zeroValue289
 t173:=Tryz.underlying292
 a173:=Tryz.isAgg292
 z173:=Tryz.sizeOf292
 v173:=Tryz.zeroValue292
 t212:=Tryz.underlying311
 a212:=Tryz.isAgg311
 z212:=Tryz.sizeOf311
 v212:=Tryz.zeroValue311
 t213:=Tryz.underlying312
 a213:=Tryz.isAgg312
 z213:=Tryz.sizeOf312
 t232:=Tryz.underlying333
 a232:=Tryz.isAgg333
 z232:=Tryz.sizeOf333
 v232:=Tryz.zeroValue333
 t233:=Tryz.underlying334
 a233:=Tryz.isAgg334
 z233:=Tryz.sizeOf334
 v233:=Tryz.zeroValue334
 g17:=by kernel_rfl
 g18:=by kernel_rfl
 g19:=by kernel_rfl
 i0:=by kernel_rfl
 i2:=by kernel_rfl
 i3:=by kernel_rfl
 i4:=by kernel_rfl
 i5:=by kernel_rfl
 i9:=by kernel_rfl
 i20:=by kernel_rfl
 i37:=by kernel_rfl
 i46:=by kernel_rfl
 i51:=by kernel_rfl
 i53:=by kernel_rfl
 i171:=by kernel_rfl
 i173:=by kernel_rfl
 i212:=by kernel_rfl
 i232:=by kernel_rfl
 i233:=by kernel_rfl
 m17:=by kernel_rfl
 m18:=by kernel_rfl
 m19:=by kernel_rfl}
instance ac8:aT Tryz.prog 77:=⟨Tryz.call77⟩
instance abF:aT Tryz.prog 105:=⟨Tryz.call105⟩
instance abG:aT Tryz.prog 162:=⟨Tryz.call162⟩
instance oZ:pK Tryz.prog 119 118:=⟨AZ⟩
instance uy:iD Tryz.prog 118 1 8 (.pointer none):=⟨lX⟩
instance abH:iC Tryz.prog 118 false:=⟨mI⟩
instance Zm:aT Tryz.prog 78:=⟨Tryz.call78⟩
instance abI:aT Tryz.prog 106:=⟨Tryz.call106⟩
instance abJ:aT Tryz.prog 142:=⟨Tryz.call142⟩
instance abK:aT Tryz.prog 164:=⟨Tryz.call164⟩
instance abL:aT Tryz.prog 228:=⟨Tryz.call228⟩
instance WV:aT Tryz.prog 204:=⟨Tryz.call204⟩
instance abM:aT Tryz.prog 107:=⟨Tryz.call107⟩
instance abN:aT Tryz.prog 163:=⟨Tryz.call163⟩
instance WW:aT Tryz.prog 165:=⟨Tryz.call165⟩
instance abO:aT Tryz.prog 166:=⟨Tryz.call166⟩
instance Zn:aT Tryz.prog 79:=⟨Tryz.call79⟩
instance abP:aT Tryz.prog 108:=⟨Tryz.call108⟩
instance abQ:aT Tryz.prog 109:=⟨Tryz.call109⟩
instance El:aT Tryz.prog 167:=⟨Tryz.call167⟩
def Mo:Go.Shelf.Ren:=⟨fun|156=>167|165=>229|166=>230|169=>231|240=>266|241=>267|276=>289|277=>290|n=>n,fun|31=>68|9=>9|3=>3|4=>4|0=>0|20=>20|72=>248|76=>129|70=>246|37=>108|75=>128|127=>283|164=>306|5=>5|80=>250|n=>n,fun|n=>n⟩
theorem NS:Go.Proofs.Lays.n156 Tryz.prog Mo:={
 mixed:=by kernel_rfl
 f156:=Tryz.func167.trans (congrArg some (by kernel_rfl))
 f165:=Tryz.func229.trans (congrArg some (by kernel_rfl))
 f166:=Tryz.func230.trans (congrArg some (by kernel_rfl))
 f169:=Tryz.func231.trans (congrArg some (by kernel_rfl))
 f240:=Tryz.func266.trans (congrArg some (by kernel_rfl))
 f241:=Tryz.func267.trans (congrArg some (by kernel_rfl))
 f276:=Tryz.func289.trans (congrArg some (by kernel_rfl))
 f277:=Tryz.func290.trans (congrArg some (by kernel_rfl))
 t0:=Tryz.underlying0
 a0:=Tryz.isAgg0
 z0:=Tryz.sizeOf0
 v0:=Tryz.zeroValue0
 t3:=Tryz.underlying3
 a3:=Tryz.isAgg3
 z3:=Tryz.sizeOf3
 v3:=Tryz.zeroValue3
 t4:=Tryz.underlying4
 a4:=Tryz.isAgg4
 z4:=Tryz.sizeOf4
 v4:=Tryz.zeroValue4
 t9:=Tryz.underlying9
 a9:=Tryz.isAgg9
 z9:=Tryz.sizeOf9
 v9:=Tryz.zeroValue9
 t20:=Tryz.underlying20
 a20:=Tryz.isAgg20
 z20:=Tryz.sizeOf20
 v20:=Tryz.zeroValue20
 t31:=Tryz.underlying68
 a31:=Tryz.isAgg68
 z31:=Tryz.sizeOf68
 v31:=Tryz.zeroValue68
 t37:=Tryz.underlying108
 a37:=Tryz.isAgg108
 z37:=Tryz.sizeOf108
 v37:=Tryz.zeroValue108
 t70:=Tryz.underlying246
 a70:=Tryz.isAgg246
 z70:=Tryz.sizeOf246
 v70:=Tryz.zeroValue246
 t72:=Tryz.underlying248
 a72:=Tryz.isAgg248
 z72:=Tryz.sizeOf248
 v72:=Tryz.zeroValue248
 t75:=Tryz.underlying128
 a75:=Tryz.isAgg128
 z75:=Tryz.sizeOf128
 v75:=Tryz.zeroValue128
 t76:=Tryz.underlying129
 a76:=Tryz.isAgg129
 z76:=Tryz.sizeOf129
 v76:=Tryz.zeroValue129
 t127:=Tryz.underlying283
 a127:=Tryz.isAgg283
 z127:=Tryz.sizeOf283
 v127:=Tryz.zeroValue283
 t164:=Tryz.underlying306
 a164:=Tryz.isAgg306
 z164:=Tryz.sizeOf306
 v164:=Tryz.zeroValue306}
theorem extra:Go.Proofs.Builder.Extra Tryz.prog Mo:={
 sizeBuilder:=by kernel_rfl
 liesBuilder:=by kernel_rfl
 t5:=Tryz.underlying5
 a5:=Tryz.isAgg5
 z5:=Tryz.sizeOf5
 v5:=Tryz.zeroValue5
 infoByte:=by kernel_rfl
 cellsByte:=by kernel_rfl
 sizeByte:=by kernel_rfl
 neB5:=by decide}
instance ac9:aT Tryz.prog 53:=⟨Tryz.call53⟩
instance Zo:aT Tryz.prog 83:=⟨Tryz.call83⟩
instance abR:aT Tryz.prog 124:=⟨Tryz.call124⟩
instance WX:aT Tryz.prog 180:=⟨Tryz.call180⟩
instance Zp:aT Tryz.prog 84:=⟨Tryz.call84⟩
instance ac_:aT Tryz.prog 56:=⟨Tryz.call56⟩
instance ac':aT Tryz.prog 86:=⟨Tryz.call86⟩
instance ada:aT Tryz.prog 29:=⟨Tryz.call29⟩
instance adb:aT Tryz.prog 66:=⟨Tryz.call66⟩
instance adc:aT Tryz.prog 97:=⟨Tryz.call97⟩
def Tp:Go.Shelf.Ren:=⟨fun|219=>97|217=>155|225=>156|224=>157|267=>158|266=>225|314=>226|n=>n,fun|9=>9|3=>3|4=>4|5=>5|46=>195|146=>243|51=>242|n=>n,fun|1=>0|n=>n⟩
theorem Ve:Go.Proofs.Lays.n219 Tryz.prog Tp:={
 mixed:=by kernel_rfl
 f217:=Tryz.func155.trans (congrArg some (by kernel_rfl))
 f219:=Tryz.func97.trans (congrArg some (by kernel_rfl))
 f224:=Tryz.func157.trans (congrArg some (by kernel_rfl))
 f225:=Tryz.func156.trans (congrArg some (by kernel_rfl))
 f266:=Tryz.func225.trans (congrArg some (by kernel_rfl))
 f267:=Tryz.func158.trans (congrArg some (by kernel_rfl))
 f314:=Tryz.func226.trans (congrArg some (by kernel_rfl))
 t3:=Tryz.underlying3
 a3:=Tryz.isAgg3
 z3:=Tryz.sizeOf3
 v3:=Tryz.zeroValue3
 t4:=Tryz.underlying4
 a4:=Tryz.isAgg4
 z4:=Tryz.sizeOf4
 v4:=Tryz.zeroValue4
 t5:=Tryz.underlying5
 a5:=Tryz.isAgg5
 z5:=Tryz.sizeOf5
 v5:=Tryz.zeroValue5
 t9:=Tryz.underlying9
 a9:=Tryz.isAgg9
 z9:=Tryz.sizeOf9
 v9:=Tryz.zeroValue9
 t46:=Tryz.underlying195
 a46:=Tryz.isAgg195
 z46:=Tryz.sizeOf195
 v46:=Tryz.zeroValue195
 t51:=Tryz.underlying242
 a51:=Tryz.isAgg242
 z51:=Tryz.sizeOf242
 v51:=Tryz.zeroValue242
 t146:=Tryz.underlying243
 a146:=Tryz.isAgg243
 z146:=Tryz.sizeOf243
 v146:=Tryz.zeroValue243
 g1:=by kernel_rfl}
instance abS:aT Tryz.prog 125:=⟨Tryz.call125⟩
instance abT:aT Tryz.prog 181:=⟨Tryz.call181⟩
instance abU:aT Tryz.prog 126:=⟨Tryz.call126⟩
instance abV:aT Tryz.prog 182:=⟨Tryz.call182⟩
instance Zq:aT Tryz.prog 87:=⟨Tryz.call87⟩
instance abW:aT Tryz.prog 127:=⟨Tryz.call127⟩
instance WY:aT Tryz.prog 183:=⟨Tryz.call183⟩
instance abX:aT Tryz.prog 184:=⟨Tryz.call184⟩
instance Zr:aT Tryz.prog 88:=⟨Tryz.call88⟩
instance ade:aT Tryz.prog 63:=⟨Tryz.call63⟩
instance adf:aT Tryz.prog 93:=⟨Tryz.call93⟩
instance abY:aT Tryz.prog 139:=⟨Tryz.call139⟩
instance OV:aT Tryz.prog 141:=⟨Tryz.call141⟩
instance WZ:aT Tryz.prog 202:=⟨Tryz.call202⟩
instance adg:aT Tryz.prog 30:=⟨Tryz.call30⟩
instance abZ:aT Tryz.prog 146:=⟨Tryz.call146⟩
instance ab0:aT Tryz.prog 207:=⟨Tryz.call207⟩
instance ab1:aT Tryz.prog 245:=⟨Tryz.call245⟩
instance ab2:aT Tryz.prog 275:=⟨Tryz.call275⟩
def Tq:Go.Shelf.Ren:=⟨fun|189=>275|125=>298|257=>297|128=>318|129=>293|294=>310|295=>311|296=>312|297=>313|298=>314|299=>315|216=>234|300=>316|301=>317|328=>324|329=>325|330=>326|331=>327|332=>328|215=>237|343=>330|n=>n,fun|28=>22|3=>3|46=>195|0=>0|51=>242|53=>256|4=>4|183=>324|182=>323|131=>54|5=>5|9=>9|218=>335|222=>118|228=>340|229=>341|n=>n,fun|n=>n⟩
theorem NT:Go.Proofs.Lays.n189 Tryz.prog Tq:={
 mixed:=by kernel_rfl
 f125:=Tryz.func298.trans (congrArg some (by kernel_rfl))
 f128:=Tryz.func318.trans (congrArg some (by kernel_rfl))
 f129:=Tryz.func293.trans (congrArg some (by kernel_rfl))
 f189:=Tryz.func275.trans (congrArg some (by kernel_rfl))
 f215:=Tryz.func237.trans (congrArg some (by kernel_rfl))
 f216:=Tryz.func234.trans (congrArg some (by kernel_rfl))
 f257:=Tryz.func297.trans (congrArg some (by kernel_rfl))
 f294:=Tryz.func310.trans (congrArg some (by kernel_rfl))
 f295:=Tryz.func311.trans (congrArg some (by kernel_rfl))
 f296:=Tryz.func312.trans (congrArg some (by kernel_rfl))
 f297:=Tryz.func313.trans (congrArg some (by kernel_rfl))
 f298:=Tryz.func314.trans (congrArg some (by kernel_rfl))
 f299:=Tryz.func315.trans (congrArg some (by kernel_rfl))
 f300:=Tryz.func316.trans (congrArg some (by kernel_rfl))
 f301:=Tryz.func317.trans (congrArg some (by kernel_rfl))
 f328:=Tryz.func324.trans (congrArg some (by kernel_rfl))
 f329:=Tryz.func325.trans (congrArg some (by kernel_rfl))
 f330:=Tryz.func326.trans (congrArg some (by kernel_rfl))
 f331:=Tryz.func327.trans (congrArg some (by kernel_rfl))
 f332:=Tryz.func328.trans (congrArg some (by kernel_rfl))
 f343:=Tryz.func330.trans (congrArg some (by kernel_rfl))
 t0:=Tryz.underlying0
 a0:=Tryz.isAgg0
 z0:=Tryz.sizeOf0
 v0:=Tryz.zeroValue0
 t3:=Tryz.underlying3
 a3:=Tryz.isAgg3
 z3:=Tryz.sizeOf3
 v3:=Tryz.zeroValue3
 t4:=Tryz.underlying4
 a4:=Tryz.isAgg4
 z4:=Tryz.sizeOf4
 v4:=Tryz.zeroValue4
 t5:=Tryz.underlying5
 a5:=Tryz.isAgg5
 z5:=Tryz.sizeOf5
 v5:=Tryz.zeroValue5
 t9:=Tryz.underlying9
 a9:=Tryz.isAgg9
 z9:=Tryz.sizeOf9
 v9:=Tryz.zeroValue9
 t28:=Tryz.underlying22
 a28:=Tryz.isAgg22
 z28:=Tryz.sizeOf22
 v28:=Tryz.zeroValue22
 t46:=Tryz.underlying195
 a46:=Tryz.isAgg195
 z46:=Tryz.sizeOf195
 v46:=Tryz.zeroValue195
 t51:=Tryz.underlying242
 a51:=Tryz.isAgg242
 z51:=Tryz.sizeOf242
 v51:=Tryz.zeroValue242
 t53:=Tryz.underlying256
 a53:=Tryz.isAgg256
 z53:=Tryz.sizeOf256
 v53:=Tryz.zeroValue256
 t131:=Tryz.underlying54
 a131:=Tryz.isAgg54
 z131:=Tryz.sizeOf54
 v131:=Tryz.zeroValue54
 t182:=Tryz.underlying323
 a182:=Tryz.isAgg323
 z182:=Tryz.sizeOf323
 v182:=Tryz.zeroValue323
 t183:=Tryz.underlying324
 a183:=Tryz.isAgg324
 z183:=Tryz.sizeOf324
 v183:=Tryz.zeroValue324
 t218:=Tryz.underlying335
 a218:=Tryz.isAgg335
 z218:=Tryz.sizeOf335
 v218:=Tryz.zeroValue335
 t222:=Tryz.underlying118
 a222:=Tryz.isAgg118
 z222:=Tryz.sizeOf118
 v222:=Tryz.zeroValue118
 t228:=Tryz.underlying340
 a228:=Tryz.isAgg340
 z228:=Tryz.sizeOf340
 v228:=Tryz.zeroValue340
 t229:=Tryz.underlying341
 a229:=Tryz.isAgg341
 z229:=Tryz.sizeOf341
 v229:=Tryz.zeroValue341}
instance ab3:aT Tryz.prog 276:=⟨Tryz.call276⟩
def SY:Go.Shelf.Ren:=⟨fun|20=>276|n=>n,fun|22=>22|3=>3|4=>4|0=>0|n=>n,fun|n=>n⟩
theorem Np:Go.Proofs.Lays2.n20 Tryz.prog SY:={
 mixed:=by kernel_rfl
 f20:=Tryz.func276.trans (congrArg some (by kernel_rfl))
 t0:=Tryz.underlying0
 a0:=Tryz.isAgg0
 z0:=Tryz.sizeOf0
 v0:=Tryz.zeroValue0
 t3:=Tryz.underlying3
 a3:=Tryz.isAgg3
 z3:=Tryz.sizeOf3
 v3:=Tryz.zeroValue3
 t4:=Tryz.underlying4
 a4:=Tryz.isAgg4
 z4:=Tryz.sizeOf4
 v4:=Tryz.zeroValue4
 t22:=Tryz.underlying22
 a22:=Tryz.isAgg22
 z22:=Tryz.sizeOf22
 v22:=Tryz.zeroValue22
 i3:=by kernel_rfl}
instance W9:aT Tryz.prog 246:=⟨Tryz.call246⟩
instance W_:aT Tryz.prog 208:=⟨Tryz.call208⟩
instance ab4:aT Tryz.prog 209:=⟨Tryz.call209⟩
instance ab5:aT Tryz.prog 247:=⟨Tryz.call247⟩
instance ab6:aT Tryz.prog 203:=⟨Tryz.call203⟩
instance ab7:aT Tryz.prog 242:=⟨Tryz.call242⟩
instance ab8:aT Tryz.prog 201:=⟨Tryz.call201⟩
instance ab9:aT Tryz.prog 206:=⟨Tryz.call206⟩
instance Xa:aT Tryz.prog 243:=⟨Tryz.call243⟩
instance ab_:aT Tryz.prog 244:=⟨Tryz.call244⟩
instance ab':aT Tryz.prog 140:=⟨Tryz.call140⟩
instance Zt:aT Tryz.prog 94:=⟨Tryz.call94⟩
instance aca:aT Tryz.prog 143:=⟨Tryz.call143⟩
instance acb:aT Tryz.prog 205:=⟨Tryz.call205⟩
instance Xb:aT Tryz.prog 144:=⟨Tryz.call144⟩
instance acd:aT Tryz.prog 145:=⟨Tryz.call145⟩
theorem Xc:Tryz.prog.underlying 62=some (.func #[98] #[98,4] false):=by kernel_rfl
instance Zu:aT Tryz.prog 11:=⟨Tryz.call11⟩
def Ez(_:ag)(v:Value)(a:Event):Prop:=v= .agg [(.int .i64 a.Kind),(sv a.Text)].toArray
instance:Pure Ez:=⟨fun h=>h⟩
instance:Cells Ez 2:=⟨fun h=>by
 subst h
 exact⟨rfl,rfl⟩⟩
theorem Oq:fieldAt Tryz.prog 24 0=some (3,0,1):=by kernel_rfl
theorem VL:fieldAt Tryz.prog 24 1=some (9,1,1):=by kernel_rfl
def Pn(a:Event):Prop:=Ei a.Kind/\OP a.Text
theorem Zv:∀H v a,Ez H v a->oW v=Eu Tryz.prog 24:=by
 intro H v a h
 subst h
 kernel_rfl
theorem Zw:jE Tryz.prog 24 Ez Pn:=by
 intro T enc w fuel cs x h hw ρ H hr hF
 have hl:=U6 Oq h (n:=2) Za.h.sz.cells
 obtain⟨ρ0,H0,Qn,a0,r0,f0,u0,i0,v0,q0,w0⟩:=MX Oq h hw (jE.int (by kernel_rfl)) hr hF
 obtain⟨ρ1,H1,JE,a1,r1,f1,u1,i1,v1,q1,w1⟩:=MX VL h hw (jE.str (by kernel_rfl)) r0 f0
 obtain rfl:Qn=(.int .i64 a0):=q0
 replace v0:=v0.up u1
 obtain rfl:JE=(sv a1):=q1
 have hv:=aQ.field (o:=0) v0 (aQ.field (o:=1) v1 (aQ.end hl))
 rw[List.drop_zero]at hv
 refine⟨ρ1,H1,(.agg [(.int .i64 a0),(sv a1)].toArray:Value),({Kind:=a0,Text:=a1}:Event),r1,f1,(u0.trans u1),(i0.trans i1),?_,?_,w0,w1⟩
 · exact hv
 · exact rfl
theorem zI{α β:Type}{l:List α}{i:Int}{f:α->Option β}{R:β}{G:Prop}(hF:(ix l i).bind f=some R)(k:∀x,0<=i->l[i.toNat]?=some x->f x=some R->G):G:=by
 obtain⟨x,h,e⟩:=Option.bind_eq_some_iff.1 hF
 obtain⟨h1,h2⟩:=qy h
 exact k x h1 h2 e
theorem kG{G N:Prop}(k:N)(h:N->G:=by (intro k; (iterate 10 refine au ?_); exact k)):G:=h k
theorem Au{G N:Prop}(k:N)(h:N->G:=by (intro k; (iterate 11 refine au ?_); exact k)):G:=h k
theorem OW{G N:Prop}(k:N)(h:N->G:=by (intro k; (iterate 14 refine au ?_); exact k)):G:=h k
theorem aI{G N:Prop}(k:N)(h:N->G:=by (intro k; (iterate 2 refine au ?_); exact k)):G:=h k
theorem ay{G N:Prop}(k:N)(h:N->G:=by (intro k; (iterate 3 refine au ?_); exact k)):G:=h k
theorem aB{G N:Prop}(k:N)(h:N->G:=by (intro k; (iterate 4 refine au ?_); exact k)):G:=h k
theorem aD{G N:Prop}(k:N)(h:N->G:=by (intro k; (iterate 5 refine au ?_); exact k)):G:=h k
theorem bC{G N:Prop}(k:N)(h:N->G:=by (intro k; (iterate 6 refine au ?_); exact k)):G:=h k
theorem bU{G N:Prop}(k:N)(h:N->G:=by (intro k; (iterate 7 refine au ?_); exact k)):G:=h k
theorem dh{G N:Prop}(k:N)(h:N->G:=by (intro k; (iterate 8 refine au ?_); exact k)):G:=h k
theorem gq{G N:Prop}(k:N)(h:N->G:=by (intro k; (iterate 9 refine au ?_); exact k)):G:=h k
theorem bi(b:Bool):b=true\/b=false:=Bool.eq_false_or_eq_true b
theorem aj{α:Sort _}{a b:α}:cond false a b=b:=rfl
theorem ak{α:Sort _}{a b:α}:cond true a b=a:=rfl
theorem fA{G N:Prop}(k:N)(h:N->G:=by (intro k; (iterate 2 refine du ?_); exact k)):G:=h k
theorem gZ{G N:Prop}(k:N)(h:N->G:=by (intro k; (iterate 3 refine du ?_); exact k)):G:=h k
theorem rE{G N:Prop}(k:N)(h:N->G:=by (intro k; (iterate 4 refine du ?_); exact k)):G:=h k
theorem A9{G N:Prop}(k:N)(h:N->G:=by (intro k; (iterate 5 refine du ?_); exact k)):G:=h k
theorem uE{G N:Prop}(k:N)(h:N->G:=by (intro k; (iterate 6 refine du ?_); exact k)):G:=h k
theorem EA{G N:Prop}(k:N)(h:N->G:=by (intro k; (iterate 9 refine du ?_); exact k)):G:=h k
theorem ze{G P:Prop}(hF:P)(h:P->G:=by (intro hF; (repeat refine au ?_); cases hF; exact Er ())):G:=h hF
theorem aP{G P:Prop}(hF:P)(h:P->G:=by (intro hF; (repeat refine au ?_); cases hF; exact⟨_,_,rfl,aN,aL⟩)):G:=h hF
theorem EB{G P:Prop}(hF:P)(h:P->G:=by (intro hF; (repeat refine au ?_); cases hF; exact⟨_,_,_,rfl,aN,aL⟩)):G:=h hF
theorem fP{G P:Prop}(hF:P)(h:P->G:=by (intro hF; (repeat refine du ?_); cases hF; exact⟨_,_,rfl,aN,aL⟩)):G:=h hF
abbrev zg(l:List Value):Value:=.agg l.toArray
abbrev zi(n:Int):Value:=.int .i64 n
theorem cK(n:Nat):n<n.succ:=Nat.lt_succ_self n
abbrev vW(F:List Nat)(v:Sv):=bP (bL 83 fJ) F v.v
abbrev bR(F:List Nat)(v:Sv):=bP (bL 3 (aR aY)) F v.v
abbrev uL(F:List Nat)(v:Sv):=bP (bL 9 (aR rdStr)) F v.v
abbrev aC(v:Sv):=eF (cO 3 aY) v.v
abbrev fQ(v:Sv):=eF (cO 83 yo) v.v
abbrev iY(v:Sv):=eF (cO 9 rdStr) v.v
theorem zx{G N:Prop}(k:N)(h:N->G:=by (intro k; exact ai (Gy (.tmp rfl rfl) rfl) k)):G:=h k
theorem _root_.Go.Fw.Mem.q2{c d0 d1:ah}{l:List ah}:Fw.Mem c (d0::d1::c::l):=.t (.t .h)
theorem _root_.Go.Fw.Mem.q3{c d0 d1 d2:ah}{l:List ah}:Fw.Mem c (d0::d1::d2::c::l):=.t (.t (.t .h))
theorem _root_.Go.Fw.Mem.q4{c d0 d1 d2 d3:ah}{l:List ah}:Fw.Mem c (d0::d1::d2::d3::c::l):=.t (.t (.t (.t .h)))
theorem _root_.Go.Fw.Mem.q5{c d0 d1 d2 d3 d4:ah}{l:List ah}:Fw.Mem c (d0::d1::d2::d3::d4::c::l):=.t (.t (.t (.t (.t .h))))
theorem _root_.Go.Fw.Mem.q6{c d0 d1 d2 d3 d4 d5:ah}{l:List ah}:Fw.Mem c (d0::d1::d2::d3::d4::d5::c::l):=.t (.t (.t (.t (.t (.t .h)))))
theorem _root_.Go.Fw.Mem.q7{c d0 d1 d2 d3 d4 d5 d6:ah}{l:List ah}:Fw.Mem c (d0::d1::d2::d3::d4::d5::d6::c::l):=.t (.t (.t (.t (.t (.t (.t .h))))))
theorem _root_.Go.Fw.Mem.q9{c d0 d1 d2 d3 d4 d5 d6 d7 d8:ah}{l:List ah}:Fw.Mem c (d0::d1::d2::d3::d4::d5::d6::d7::d8::c::l):=.t (.t (.t (.t (.t (.t (.t (.t (.t .h))))))))
theorem _root_.Go.Fw.Mem.q11{c d0 d1 d2 d3 d4 d5 d6 d7 d8 d9 Fx:ah}{l:List ah}:Fw.Mem c (d0::d1::d2::d3::d4::d5::d6::d7::d8::d9::Fx::c::l):=.t (.t (.t (.t (.t (.t (.t (.t (.t (.t (.t .h))))))))))
theorem _root_.Go.Fw.Sel.q2{c d0 d1:ah}{l:List ah}:Fw.Sel (d0::d1::c::l) c (d0::d1::l):=.t (.t .h)
theorem _root_.Go.Fw.Sel.q3{c d0 d1 d2:ah}{l:List ah}:Fw.Sel (d0::d1::d2::c::l) c (d0::d1::d2::l):=.t (.t (.t .h))
theorem _root_.Go.Fw.Sel.q4{c d0 d1 d2 d3:ah}{l:List ah}:Fw.Sel (d0::d1::d2::d3::c::l) c (d0::d1::d2::d3::l):=.t (.t (.t (.t .h)))
theorem _root_.Go.Fw.Sel.q5{c d0 d1 d2 d3 d4:ah}{l:List ah}:Fw.Sel (d0::d1::d2::d3::d4::c::l) c (d0::d1::d2::d3::d4::l):=.t (.t (.t (.t (.t .h))))
theorem _root_.Go.Fw.Sel.q6{c d0 d1 d2 d3 d4 d5:ah}{l:List ah}:Fw.Sel (d0::d1::d2::d3::d4::d5::c::l) c (d0::d1::d2::d3::d4::d5::l):=.t (.t (.t (.t (.t (.t .h)))))
theorem _root_.Go.Fw.Sel.q7{c d0 d1 d2 d3 d4 d5 d6:ah}{l:List ah}:Fw.Sel (d0::d1::d2::d3::d4::d5::d6::c::l) c (d0::d1::d2::d3::d4::d5::d6::l):=.t (.t (.t (.t (.t (.t (.t .h))))))
theorem _root_.Go.Fw.Sel.q9{c d0 d1 d2 d3 d4 d5 d6 d7 d8:ah}{l:List ah}:Fw.Sel (d0::d1::d2::d3::d4::d5::d6::d7::d8::c::l) c (d0::d1::d2::d3::d4::d5::d6::d7::d8::l):=.t (.t (.t (.t (.t (.t (.t (.t (.t .h))))))))
theorem _root_.Go.Fw.Sel.q11{c d0 d1 d2 d3 d4 d5 d6 d7 d8 d9 Fx:ah}{l:List ah}:Fw.Sel (d0::d1::d2::d3::d4::d5::d6::d7::d8::d9::Fx::c::l) c (d0::d1::d2::d3::d4::d5::d6::d7::d8::d9::Fx::l):=.t (.t (.t (.t (.t (.t (.t (.t (.t (.t (.t .h))))))))))
def Du(aX:Event)(Ag:Int):Option (Int):=
 if (decide (((IntKind.i64.wrap (Ag-(aX.Text.length:Int))):Int)<0))then (
   some (-1))
 else (
   some (IntKind.i64.wrap (Ag-(aX.Text.length:Int))))
theorem S9{aX:Event}{Ag R:Int}(hF:Du aX Ag=some R):
   Fw.Spec Tryz.prog 6 [(zg [(zi aX.Kind),(sv aX.Text)]),(zi Ag)] [] (fun _:Unit=>(zi R)) (fun _=>[]):=by
 refine Se 13 Tryz.func6 [.tmp 4] ?_
 intro H0 F0
 unfold Du at hF
 refine au ?_
 refine fe (fun k1=>?_)
 refine bC ?_
 refine ai (iK (s:=aX.Text) dN (.tmp rfl rfl)) ?_
 refine dh ?_
 refine Ci hF (fun hb2 hF=>?_) (fun hb2 hF=>?_)
 · exact ze hF
 exact ze hF
def xe:List Int->Nat->(List Int)->Option ((List Int))
 |[],lK,jl=>some jl
 |x34::qL,lK,jl=>(kg (decide (0<=(lK:Int))&&decide ((lK:Int)<(jl.length:Int)))).bind fun u46=>
   (some (jl.set ((lK:Int)).toNat x34)).bind fun z48=>
   xe qL (lK+1) z48
def xG(aX:List Int):Option ((List Int)):=
 (wD (aX.length:Int) (0:Int)).bind fun z1=>
 xe aX 0 z1
theorem Gh{aX:List Int}{ae:Sv}{R:(List Int)}(hF:xG aX=some R):
   Fw.Spec Tryz.prog 8 [ae.v] [aC ae aX] (fun p:Sv×List Nat=>p.1.v) (fun p=>[bR p.2 p.1 R]):=by
 refine Se 22 Tryz.func8 [.tmp 2] ?_
 intro H0 F0
 unfold xG at hF
 refine bC ?_
 refine bnd hF fun z1 hx2 hF=>?_
 have Qo:=Nc hx2
 refine fI rfl (Tj (g:=true) (c:=(aX.length:Int)) eB.h dU.h rfl rfl (by decide) (.tmp rfl rfl) Qo.2.1 Qo.2.2) (fun k4=>?_)
 refine fT (.cons .h .nil) (Uz (Ro:=(aR aY)) (E:=3) (a:=(0:Int)) hx2 (fun _=>⟨rfl,rfl⟩)) ?_
 refine bC ?_
 refine bI (bY (m:=aX.length) (fun Qp f' cs'=>∃(g:Fr)(lK:Nat)(qL jl:List Int)(JF:List Nat),Qp=qL.length/\f'=aH g [(0,ae.v),(3,(.slice (some ⟨k4,0,none⟩) (aX.length:Int).toNat 1)),(4,(zi (lK:Int)))]/\List.drop lK aX=qL/\aF cs' [aC ae aX,bP (bL 3 (aR aY)) JF (.slice (some ⟨k4,0,none⟩) (aX.length:Int).toNat 1) jl]/\xe qL lK jl=some R) ⟨_,0,_,_,[k4],rfl,aN,rfl,aL,hF⟩ ?_)
 rintro Qp _ _ ⟨g31,lK,qL,jl,JF,rfl,rfl,Po,hE,hF⟩
 refine Kb hE aX (fun ace=>?_)
 rcases qL with _|⟨x34,qL⟩
 · have H5:=dn Po
   rw[xe]at hF
   refine bU ?_
   refine dI ?_
   refine gq ?_
   cases hF
   exact Er (⟨(some ⟨k4,0,none⟩),(aX.length:Int).toNat,1⟩,JF)
 obtain⟨H5,A_,hd38⟩:=dC Po
 rw[xe]at hF
 refine bU ?_
 refine dH ?_
 refine bU ?_
 refine Ai A_ (fun rY Qq=>?_)
 refine Al dw ?_
 refine bnd hF fun u46 kK hF=>?_
 have Pp:=mi kK
 refine xU eB.h dU.h.sz (.tmp rfl rfl) (.tmp rfl rfl) .q2 Pp (fun k43 Zx=>?_)
 refine bnd hF fun z48 lH hF=>?_
 replace lH:=Option.some.inj lH
 refine cB (.cons .q2 .nil) (Ux (Ro:=(aR aY)) (a:=x34) (i:=(lK:Int)) dU.h.sz rfl (.tmp rfl rfl) (.tmp rfl rfl) Zx Pp (iL (fun _=>rfl)) (fun _ _ _ _ h=>by obtain⟨-,h⟩:=h; cases h; rfl)) (fun F50=>?_)
 rw[lH]
 refine bC ?_
 rw[wk lK]
 exact⟨_,cK _,_,lK+1,qL,_,F50,rfl,aN,hd38,aL,hF⟩
def xz(aX:Event):Option (Event):=
 some aX
theorem L9{aX R:Event}(hF:xz aX=some R):
   Fw.Spec Tryz.prog 9 [(zg [(zi aX.Kind),(sv aX.Text)])] [] (fun _:Unit=>(zg [(zi R.Kind),(sv R.Text)])) (fun _=>[]):=by
 refine Se 11 Tryz.func9 [.cell 2 28] ?_
 intro H0 F0
 unfold xz at hF
 refine au ?_
 refine fe (fun k1=>?_)
 refine fD (fun k2=>?_)
 refine aI ?_
 refine fD (fun k3=>?_)
 refine aD ?_
 refine As (zg [(zi aX.Kind),(sv [])]) ?_
 refine aD ?_
 refine As (zg [(zi aX.Kind),(sv aX.Text)]) ?_
 refine ay ?_
 refine As (zg [(zi aX.Kind),(sv aX.Text)]) ?_
 exact ze hF
def tT(aa:List UInt8)(je:UInt8):Nat->(List (List UInt8))->(List UInt8)->Int->Option ((List (List UInt8)))
 |0,_,_,_=>none
 |m7+1,c2,c5,c6=>if (decide ((c6:Int)<(aa.length:Int)))then (
     ((ix aa c6).bind fun wG=>
       if (((wG.toNat:Int):Int)==(je.toNat:Int))then (
         (app c2 ([c5]:List (List UInt8))).bind fun z22=>
         some (z22,[]))
       else (
         (kg (decide (0<=c6)&&decide (c6<=(IntKind.i64.wrap (c6+1)))&&decide ((IntKind.i64.wrap (c6+1))<=((aa).length:Int)))).bind fun u26=>
         (aO c5 ((aa.take ((IntKind.i64.wrap (c6+1))).toNat).drop (c6).toNat)).bind fun x28=>
         some (c2,x28))).bind fun JG=>
     match JG with
     |(Cf,Cg)=>tT aa je m7 Cf Cg (IntKind.i64.wrap (c6+1)))
   else (
     (app c2 ([c5]:List (List UInt8))).bind fun z39=>
     some z39)
def oN(aa:List UInt8)(je:UInt8):Option ((List (List UInt8))):=
 tT aa je (((aa.length:Int)-0).toNat+2) ([]:List (List UInt8)) [] 0
theorem vC{aa:List UInt8}{je:UInt8}{R:(List (List UInt8))}(hF:oN aa je=some R):
   Fw.Spec Tryz.prog 33 [(sv aa),(.int .u8 (je.toNat:Int))] [] (fun p:Sv×List Nat=>p.1.v) (fun p=>[uL p.2 p.1 R]):=by
 refine Se 35 Tryz.func33 [.tmp 4] ?_
 intro H0 F0
 unfold oN at hF
 refine aB ?_
 refine fI rfl (eH (g:=true) gY.h iF.h .nil (vs:=[]) rfl rfl rfl (by simp)) (fun k1=>?_)
 refine fT (.cons .h .nil) (eT (Ro:=(aR rdStr)) (E:=9) (F:=[]) (xs:=([]:List (List UInt8))) eQ rfl rfl) ?_
 refine gq ?_
 refine bI (bY (m:=(((aa.length:Int)-0).toNat+2)) (fun m7 f' cs'=>∃(g:Fr)(c2:List (List UInt8))(c5:List UInt8)(c6:Int)(v3:Sv)(F4:List Nat),f'=aH g [(0,(sv aa)),(1,(.int .u8 (je.toNat:Int))),(5,v3.v),(6,(sv c5)),(7,(zi c6))]/\aF cs' [uL F4 v3 c2]/\tT aa je m7 c2 c5 c6=some R) ⟨_,_,_,_,⟨(some ⟨k1,0,none⟩),0,1⟩,(k1::[]),aN,aL,hF⟩ ?_)
 rintro m7 _ _ ⟨g8,c2,c5,c6,v3,F4,rfl,hE,hF⟩
 refine bz hE ?_
 rcases m7 with _|m7
 · rw[tT]at hF
   exact absurd hF (by simp)
 rw[tT]at hF
 refine aB ?_
 refine ai (iK (s:=aa) dN (.tmp rfl rfl)) ?_
 refine aI ?_
 refine Ci hF (fun H6 hF=>?_) (fun H6 hF=>?_)
 · refine au ?_
   obtain⟨JG,Xd,Zy⟩:=bind_some hF
   refine lu (fun f' cs'=>∃(Cf:List (List UInt8))(Cg:List UInt8)(v34:Sv)(JH:List Nat)(g:Fr),JG=(Cf,Cg)/\f'=aH g [(0,(sv aa)),(1,(.int .u8 (je.toNat:Int))),(5,v34.v),(6,(sv Cg)),(7,(zi c6))]/\aF cs' [uL JH v34 Cf]) ?_ ?_
   · replace hF:=Xd
     refine bI (eu (Cm (sv aa) rfl rfl ?_))
     refine au ?_
     refine zI hF fun wG Ba ik hF=>?_
     refine ai (qp (u:=wG) dN (.tmp rfl rfl) (.tmp rfl rfl) Ba ik) ?_
     refine ay ?_
     refine Ci hF (fun vX hF=>?_) (fun vX hF=>?_)
     · refine ay ?_
       refine fI rfl (eH (g:=true) gY.h iF.h bJ (vs:=[(sv c5)]) rfl rfl rfl (by intro v hv; simp at hv; rcases hv with rfl<;>rfl)) (fun k21=>?_)
       refine fT (.cons .h .nil) (eT (Ro:=(aR rdStr)) (E:=9) (F:=([]++[])) (xs:=([c5]:List (List UInt8))) (fK (iL (fun _=>rfl)) eQ dE) rfl rfl) ?_
       refine bnd hF fun z22 jL hF=>cB (.cons (.t .h) (.cons .h .nil)) (iJ (Ro:=(aR rdStr)) gY.h A7 iF.h rfl rfl rfl (.tmp rfl rfl) (.tmp rfl rfl) jL iM) (fun JI=>?_)
       refine aD ?_
       cases hF
       exact⟨_,_,JI.1,JI.2,_,rfl,aN,aL⟩
     refine bC ?_
     refine bnd hF fun u26 hx27 hF=>?_
     have hc25:=mi hx27
     simp only[Bool.and_eq_true,decide_eq_true_eq]at hc25
     refine ai (M6 (s:=aa) (i:=c6) (j:=(IntKind.i64.wrap (c6+1))) dN (.tmp rfl rfl) (.tmp rfl rfl) (.tmp rfl rfl) hc25.1.1 hc25.1.2 hc25.2) ?_
     refine bnd hF fun x28 hx29 hF=>?_
     obtain⟨adh,adi⟩:=bq hx29
     refine ai (bu (s:=c5) (t:=((aa.take ((IntKind.i64.wrap (c6+1))).toNat).drop (c6).toNat)) (u:=x28) (.tmp rfl rfl) (.tmp rfl rfl) hx29) ?_
     refine aI ?_
     cases hF
     exact⟨_,_,v3,F4,_,rfl,aN,aL⟩
   rintro _ _ ⟨Cf,Cg,v34,JH,g37,rfl,rfl,hE⟩
   replace hF:=Zy
   try dsimp only at hF
   refine bz hE ?_
   refine aD ?_
   exact⟨m7,cK _,_,_,_,_,v34,JH,aN,aL,hF⟩
 refine bU ?_
 refine fI rfl (eH (g:=true) gY.h iF.h bJ (vs:=[(sv c5)]) rfl rfl rfl (by intro v hv; simp at hv; rcases hv with rfl<;>rfl)) (fun k38=>?_)
 refine fT (.cons .h .nil) (eT (Ro:=(aR rdStr)) (E:=9) (F:=([]++[])) (xs:=([c5]:List (List UInt8))) (fK (iL (fun _=>rfl)) eQ dE) rfl rfl) ?_
 refine bnd hF fun z39 kY hF=>cB (.cons (.t .h) (.cons .h .nil)) (iJ (Ro:=(aR rdStr)) gY.h A7 iF.h rfl rfl rfl (.tmp rfl rfl) (.tmp rfl rfl) kY iM) (fun p41=>?_)
 refine ay ?_
 cases hF
 exact Er (p41.1,p41.2)
def oF:Nat->Int->(List UInt8)->Option ((List UInt8))
 |0,_,_=>none
 |m5+1,c3,c4=>if ((c3:Int)!=0)then (
     if (decide (((Int.tmod c3 10):Int)<0))then (
       (aO [(lF (IntKind.i64.wrap (48+(IntKind.i64.wrap (-(Int.tmod c3 10))))))] c4).bind fun JJ=>
       oF m5 (IntKind.i64.wrap (Int.tdiv c3 10)) JJ)
     else (
       (aO [(lF (IntKind.i64.wrap (48+(Int.tmod c3 10))))] c4).bind fun kM=>
       oF m5 (IntKind.i64.wrap (Int.tdiv c3 10)) kM))
   else (
     some c4)
def fF(fuel:Nat)(bX:Int):Option ((List UInt8)):=
 if ((bX:Int)==0)then (
   some [48])
 else (
   (oF fuel bX []).bind fun o1=>
   match o1 with
   |wH=>if (decide ((bX:Int)<0))then (
       (aO [45] wH).bind fun lL=>
       some lL)
     else (
       some wH))
theorem jH{fuel:Nat}{bX:Int}{R:(List UInt8)}(hF:fF fuel bX=some R):
   Fw.Spec Tryz.prog 45 [(zi bX)] [] (fun _:Unit=>(sv R)) (fun _=>[]):=by
 refine Se 31 Tryz.func45 [.tmp 2] ?_
 intro H0 F0
 unfold fF at hF
 refine dh ?_
 refine Ci hF (fun vX hF=>?_) (fun vX hF=>?_)
 · exact ze hF
 refine gq ?_
 obtain⟨o1,jZ,hO2⟩:=bind_some hF
 refine lu (fun f' cs'=>∃(wH:List UInt8)(g:Fr),wH=o1/\f'=aH g [(3,(sv wH)),(4,(.bool (decide ((bX:Int)<0))))]/\aF cs' []) ?_ ?_
 · replace hF:=jZ
   refine bI (bY (m:=fuel) (fun m5 f' cs'=>∃(g:Fr)(c3:Int)(c4:List UInt8),f'=aH g [(0,(zi c3)),(3,(sv c4)),(4,(.bool (decide ((bX:Int)<0))))]/\aF cs' []/\oF m5 c3 c4=some o1) ⟨_,_,_,aN,aL,hF⟩ ?_)
   rintro m5 _ _ ⟨g6,c3,c4,rfl,hE,hF⟩
   refine bz hE ?_
   rcases m5 with _|m5
   · rw[oF]at hF
     exact absurd hF (by simp)
   rw[oF]at hF
   refine aD ?_
   refine Ci hF (fun H7 hF=>?_) (fun H7 hF=>?_)
   · refine au ?_
     refine bI (eu (Cm (zi c3) rfl rfl ?_))
     refine ai (VV (i:=c3) (j:=10) (.tmp rfl rfl) (.int _ _) (by decide)) ?_
     refine bU ?_
     refine Ci hF (fun H8 hF=>?_) (fun H8 hF=>?_)
     · refine aI ?_
       refine ai (OQ (i:=(Int.tmod c3 10)) (.tmp rfl rfl)) ?_
       refine aD ?_
       refine ai (Ng (i:=(IntKind.i64.wrap (48+(IntKind.i64.wrap (-(Int.tmod c3 10)))))) JD Ce (.tmp rfl rfl)) ?_
       refine fI rfl (eH (g:=true) Ej.h Fv.h bJ (vs:=[(.int .u8 ((lF (IntKind.i64.wrap (48+(IntKind.i64.wrap (-(Int.tmod c3 10)))))).toNat:Int))]) rfl rfl rfl (by intro v hv; simp at hv; rcases hv with rfl<;>rfl)) (fun k13=>?_)
       refine fT (.cons .h .nil) (eT (Ro:=(aR uA)) (E:=5) (F:=([]++[])) (xs:=([(lF (IntKind.i64.wrap (48+(IntKind.i64.wrap (-(Int.tmod c3 10))))))]:List UInt8)) (fK (iL (fun _=>rfl)) eQ dE) rfl rfl) ?_
       refine jc .h (fun hp=>Nk (u:=(lF (IntKind.i64.wrap (48+(IntKind.i64.wrap (-(Int.tmod c3 10))))))) Ej.h Ce Pb Fv.h.sz (.tmp rfl rfl) hp) ?_
       refine au ?_
       refine bnd hF fun JJ jM hF=>?_
       obtain⟨adj,adk⟩:=bq jM
       refine ai (bu (s:=[(lF (IntKind.i64.wrap (48+(IntKind.i64.wrap (-(Int.tmod c3 10))))))]) (t:=c4) (u:=JJ) (.tmp rfl rfl) (.tmp rfl rfl) jM) ?_
       refine aB ?_
       refine ai (OG (i:=c3) (j:=10) (.tmp rfl rfl) (.int _ _) (by decide)) ?_
       refine aI ?_
       exact⟨m5,cK _,_,_,_,aN,aL,hF⟩
     refine aB ?_
     refine ai (Ng (i:=(IntKind.i64.wrap (48+(Int.tmod c3 10)))) JD Ce (.tmp rfl rfl)) ?_
     refine fI rfl (eH (g:=true) Ej.h Fv.h bJ (vs:=[(.int .u8 ((lF (IntKind.i64.wrap (48+(Int.tmod c3 10)))).toNat:Int))]) rfl rfl rfl (by intro v hv; simp at hv; rcases hv with rfl<;>rfl)) (fun k18=>?_)
     refine fT (.cons .h .nil) (eT (Ro:=(aR uA)) (E:=5) (F:=([]++[])) (xs:=([(lF (IntKind.i64.wrap (48+(Int.tmod c3 10))))]:List UInt8)) (fK (iL (fun _=>rfl)) eQ dE) rfl rfl) ?_
     refine jc .h (fun hp=>Nk (u:=(lF (IntKind.i64.wrap (48+(Int.tmod c3 10))))) Ej.h Ce Pb Fv.h.sz (.tmp rfl rfl) hp) ?_
     refine au ?_
     refine bnd hF fun kM ik hF=>?_
     obtain⟨Pq,Ps⟩:=bq ik
     refine ai (bu (s:=[(lF (IntKind.i64.wrap (48+(Int.tmod c3 10))))]) (t:=c4) (u:=kM) (.tmp rfl rfl) (.tmp rfl rfl) ik) ?_
     refine aB ?_
     refine ai (OG (i:=c3) (j:=10) (.tmp rfl rfl) (.int _ _) (by decide)) ?_
     refine aI ?_
     exact⟨m5,cK _,_,_,_,aN,aL,hF⟩
   exact aP hF
 rintro _ _ ⟨wH,g31,rfl,rfl,hE⟩
 replace hF:=hO2
 try dsimp only at hF
 refine bz hE ?_
 refine aB ?_
 refine Ci hF (fun H9 hF=>?_) (fun H9 hF=>?_)
 · refine aI ?_
   refine bnd hF fun lL hx27 hF=>?_
   obtain⟨Zz,ZA⟩:=bq hx27
   refine ai (bu (s:=[45]) (t:=wH) (u:=lL) (.sv _) (.tmp rfl rfl) hx27) ?_
   exact ze hF
 exact ze hF
def oG(aa:List UInt8)(fuel:Nat):Nat->Int->Int->Int->Option (Int×Bool)
 |0,_,_,_=>none
 |m4+1,c1,c2,c3=>if ((decide ((c3:Int)<(aa.length:Int)))&&(decide ((c3:Int)<11)))then (
     (((ix aa c3).bind fun Fy=>
         bif (decide ((48:Int)<=(Fy.toNat:Int)))then ((ix aa c3).bind fun u23=>
           some (decide (((u23.toNat:Int):Int)<=57)))
         else (some false)).bind fun o16=>
       match o16 with
       |jl=>if jl then (
           (ix aa c3).bind fun u28=>
           some ((IntKind.i64.wrap ((IntKind.i64.wrap (c1*10))+(IntKind.i64.wrap (IntKind.u8.wrap ((u28.toNat:Int)-48))))),(IntKind.i64.wrap (c2+1))))
         else (
           some (c1,c2))).bind fun ko=>
     match ko with
     |(c34,Ch)=>oG aa fuel m4 c34 Ch (IntKind.i64.wrap (c3+1)))
   else (
     (bif (decide ((0:Int)<(aa.length:Int)))then ((ix aa 0).bind fun u40=>
         some (((u40.toNat:Int):Int)==45))
       else (some false)).bind fun JK=>
     match JK with
     |uM=>if uM then (
         (bif (decide ((9:Int)<c2))then (some true)
           else (bif (decide ((10:Int)<(aa.length:Int)))then (some true)
             else ((fF fuel (IntKind.i64.wrap (-c1))).bind fun kr=>
               some (!(kr==aa))))).bind fun JL=>
         match JL with
         |ku=>if ku then (
             some (0,false))
           else (
             some ((IntKind.i64.wrap (-c1)),true)))
       else (
         (bif (decide ((9:Int)<c2))then (some true)
           else (bif (decide ((10:Int)<(aa.length:Int)))then (some true)
             else ((fF fuel c1).bind fun uN=>
               some (!(uN==aa))))).bind fun JM=>
         match JM with
         |jF=>if jF then (
             some (0,false))
           else (
             some (c1,true))))
def oL(fuel:Nat)(aa:List UInt8):Option (Int×Bool):=
 oG aa fuel (((aa.length:Int)-0).toNat+2) 0 0 0
theorem Gb{fuel:Nat}{aa:List UInt8}{R:Int×Bool}(hF:oL fuel aa=some R):
   Fw.Spec Tryz.prog 24 [(sv aa)] [] (fun _:Unit=>(.tuple [(zi R.1),(.bool R.2)].toArray)) (fun _=>[]):=by
 refine Se 61 Tryz.func24 [.tmp 2,.tmp 3] ?_
 intro H0 F0
 unfold oL at hF
 refine OW ?_
 refine bI (bY (m:=(((aa.length:Int)-0).toNat+2)) (fun m4 f' cs'=>∃(g:Fr)(c1 c2 c3:Int),f'=aH g [(0,(sv aa)),(4,(zi c1)),(5,(zi c2)),(6,(zi c3))]/\aF cs' []/\oG aa fuel m4 c1 c2 c3=some R) ⟨_,_,_,_,aN,aL,hF⟩ ?_)
 rintro m4 _ _ ⟨g5,c1,c2,c3,rfl,hE,hF⟩
 refine bz hE ?_
 rcases m4 with _|m4
 · rw[oG]at hF
   exact absurd hF (by simp)
 rw[oG]at hF
 refine aI ?_
 refine b_ (fun f' cs'=>∃(g:Fr),f'=aH g [(0,(sv aa)),(4,(zi c1)),(5,(zi c2)),(6,(zi c3)),(14,(.bool ((decide ((c3:Int)<(aa.length:Int)))&&(decide ((c3:Int)<11)))))]/\aF cs' []) ?_ ?_
 · refine aI ?_
   refine ai (iK (s:=aa) dN (.tmp rfl rfl)) ?_
   refine aI ?_
   rcases bi (decide ((c3:Int)<(aa.length:Int)))with gu|gu
   · rw[gu]
     try rw[gu]at hF; dsimp only[ak,aj]at hF
     refine bC ?_
     exact⟨_,aN,aL⟩
   rw[gu]
   try rw[gu]at hF; dsimp only[ak,aj]at hF
   refine aB ?_
   exact⟨_,aN,aL⟩
 rintro _ _ ⟨g13,rfl,hE⟩
 refine bz hE ?_
 refine Ci hF (fun ZB hF=>?_) (fun ZB hF=>?_)
 · refine au ?_
   obtain⟨ko,vS,vY⟩:=bind_some hF
   refine lu (fun f' cs'=>∃(c34 Ch:Int)(g:Fr),ko=(c34,Ch)/\f'=aH g [(0,(sv aa)),(4,(zi c34)),(5,(zi Ch)),(6,(zi c3))]/\aF cs' []) ?_ ?_
   · replace hF:=vS
     refine bI ?_
     obtain⟨o16,Xe,ZC⟩:=bind_some hF
     refine au ?_
     refine b_ (fun f' cs'=>∃(jl:Bool)(g:Fr),jl=o16/\f'=aH g [(0,(sv aa)),(4,(zi c1)),(5,(zi c2)),(6,(zi c3)),(26,(.bool jl))]/\aF cs' []) ?_ ?_
     · replace hF:=Xe
       refine aI ?_
       refine zI hF fun Fy H_ j3 hF=>?_
       refine ai (qp (u:=Fy) dN (.tmp rfl rfl) (.tmp rfl rfl) H_ j3) ?_
       refine aI ?_
       rcases bi (decide ((48:Int)<=(Fy.toNat:Int)))with nO|nO
       · rw[nO]
         try rw[nO]at hF; dsimp only[ak,aj]at hF
         refine aD ?_
         refine zI hF fun u23 Pt nP hF=>?_
         refine ai (qp (u:=u23) dN (.tmp rfl rfl) (.tmp rfl rfl) Pt nP) ?_
         exact aP hF
       rw[nO]
       try rw[nO]at hF; dsimp only[ak,aj]at hF
       exact aP hF
     rintro _ _ ⟨jl,g33,rfl,rfl,hE⟩
     replace hF:=ZC
     try dsimp only at hF
     refine bz hE ?_
     refine Ci hF (fun vX hF=>?_) (fun vX hF=>?_)
     · refine aD ?_
       refine zI hF fun u28 ZE hx31 hF=>?_
       refine ai (qp (u:=u28) dN (.tmp rfl rfl) (.tmp rfl rfl) ZE hx31) ?_
       refine au ?_
       refine ai (MZ (i:=(IntKind.u8.wrap ((u28.toNat:Int)-48))) Ce JD (.tmp rfl rfl)) ?_
       exact EB hF
     exact EB hF
   rintro _ _ ⟨c34,Ch,g36,rfl,rfl,hE⟩
   replace hF:=vY
   try dsimp only at hF
   refine bz hE ?_
   refine aD ?_
   exact⟨m4,cK _,_,_,_,_,aN,aL,hF⟩
 refine aD ?_
 obtain⟨JK,Xf,ZF⟩:=bind_some hF
 refine au ?_
 refine b_ (fun f' cs'=>∃(uM:Bool)(g:Fr),uM=JK/\f'=aH g [(0,(sv aa)),(4,(zi c1)),(5,(zi c2)),(44,(.bool uM))]/\aF cs' []) ?_ ?_
 · replace hF:=Xf
   refine au ?_
   refine ai (iK (s:=aa) dN (.tmp rfl rfl)) ?_
   refine aI ?_
   rcases bi (decide ((0:Int)<(aa.length:Int)))with Bb|Bb
   · rw[Bb]
     try rw[Bb]at hF; dsimp only[ak,aj]at hF
     refine ay ?_
     refine zI hF fun u40 Ia il hF=>?_
     refine ai (qp (u:=u40) dN (.tmp rfl rfl) (.int _ _) Ia il) ?_
     exact aP hF
   rw[Bb]
   try rw[Bb]at hF; dsimp only[ak,aj]at hF
   exact aP hF
 rintro _ _ ⟨uM,g66,rfl,rfl,hE⟩
 replace hF:=ZF
 try dsimp only at hF
 refine bz hE ?_
 refine Ci hF (fun Bc hF=>?_) (fun Bc hF=>?_)
 · refine aI ?_
   refine ai (OQ (i:=c1) (.tmp rfl rfl)) ?_
   refine ay ?_
   obtain⟨JL,Xg,ZG⟩:=bind_some hF
   refine au ?_
   refine b_ (fun f' cs'=>∃(ku:Bool)(g:Fr),ku=JL/\f'=aH g [(4,(zi (IntKind.i64.wrap (-c1)))),(59,(.bool ku))]/\aF cs' []) ?_ ?_
   · replace hF:=Xg
     refine ay ?_
     rcases bi (decide ((9:Int)<c2))with nQ|nQ
     · rw[nQ]
       try rw[nQ]at hF; dsimp only[ak,aj]at hF
       exact aP hF
     rw[nQ]
     try rw[nQ]at hF; dsimp only[ak,aj]at hF
     refine ay ?_
     refine ai (iK (s:=aa) dN (.tmp rfl rfl)) ?_
     refine aB ?_
     rcases bi (decide ((10:Int)<(aa.length:Int)))with Bd|Bd
     · rw[Bd]
       try rw[Bd]at hF; dsimp only[ak,aj]at hF
       exact aP hF
     rw[Bd]
     try rw[Bd]at hF; dsimp only[ak,aj]at hF
     refine ay ?_
     refine bnd hF fun kr yt hF=>aA (jH yt) (fun _=>?_)
     refine ay ?_
     refine ai (jI (s:=kr) (t:=aa) (.tmp rfl rfl) (.tmp rfl rfl)) ?_
     exact aP hF
   rintro _ _ ⟨ku,Qr,rfl,rfl,hE⟩
   replace hF:=ZG
   try dsimp only at hF
   refine bz hE ?_
   refine Ci hF (fun Be hF=>?_) (fun Be hF=>?_)
   · exact ze hF
   exact ze hF
 refine aI ?_
 obtain⟨JM,Xh,ZH⟩:=bind_some hF
 refine au ?_
 refine b_ (fun f' cs'=>∃(jF:Bool)(g:Fr),jF=JM/\f'=aH g [(4,(zi c1)),(59,(.bool jF))]/\aF cs' []) ?_ ?_
 · replace hF:=Xh
   refine ay ?_
   rcases bi (decide ((9:Int)<c2))with Bf|Bf
   · rw[Bf]
     try rw[Bf]at hF; dsimp only[ak,aj]at hF
     exact aP hF
   rw[Bf]
   try rw[Bf]at hF; dsimp only[ak,aj]at hF
   refine ay ?_
   refine ai (iK (s:=aa) dN (.tmp rfl rfl)) ?_
   refine aB ?_
   rcases bi (decide ((10:Int)<(aa.length:Int)))with Bg|Bg
   · rw[Bg]
     try rw[Bg]at hF; dsimp only[ak,aj]at hF
     exact aP hF
   rw[Bg]
   try rw[Bg]at hF; dsimp only[ak,aj]at hF
   refine ay ?_
   refine bnd hF fun uN yu hF=>aA (jH yu) (fun _=>?_)
   refine ay ?_
   refine ai (jI (s:=uN) (t:=aa) (.tmp rfl rfl) (.tmp rfl rfl)) ?_
   exact aP hF
 rintro _ _ ⟨jF,g64,rfl,rfl,hE⟩
 replace hF:=ZH
 try dsimp only at hF
 refine bz hE ?_
 refine Ci hF (fun vZ hF=>?_) (fun vZ hF=>?_)
 · exact ze hF
 exact ze hF
def jW(fuel:Nat)(aa:List UInt8):Option (Int):=
 (oL fuel aa).bind fun r1=>
 if (!r1.2)then (
   some (-100000))
 else (
   some r1.1)
theorem qm{fuel:Nat}{aa:List UInt8}{R:Int}(hF:jW fuel aa=some R):
   Fw.Spec Tryz.prog 37 [(sv aa)] [] (fun _:Unit=>(zi R)) (fun _=>[]):=by
 refine Se 13 Tryz.func37 [.tmp 2] ?_
 intro H0 F0
 unfold jW at hF
 refine aD ?_
 refine bnd hF fun r1 hx2 hF=>aA (Gb hx2) (fun _=>?_)
 refine au ?_
 refine zx ?_
 refine zx ?_
 refine dh ?_
 refine Ci hF (fun hb4 hF=>?_) (fun hb4 hF=>?_)
 · exact ze hF
 exact ze hF
def nC(fuel:Nat)(nG:List UInt8):Option (Int):=
 (bif (decide (((nG.length:Int):Int)<2))then (some true)
   else ((ix nG 0).bind fun u4=>
     some (((u4.toNat:Int):Int)!=114))).bind fun o1=>
 match o1 with
 |c8=>if c8 then (
     some (-1))
   else (
     (kg (decide (0<=(1:Int))&&decide ((1:Int)<=((nG).length:Int)))).bind fun JN=>
     (jW fuel (nG.drop ((1:Int)).toNat)).bind fun bO=>
     some bO)
theorem zC{fuel:Nat}{nG:List UInt8}{R:Int}(hF:nC fuel nG=some R):
   Fw.Spec Tryz.prog 36 [(sv nG)] [] (fun _:Unit=>(zi R)) (fun _=>[]):=by
 refine Se 14 Tryz.func36 [.tmp 2] ?_
 intro H0 F0
 unfold nC at hF
 refine aB ?_
 obtain⟨o1,jZ,hO2⟩:=bind_some hF
 refine au ?_
 refine b_ (fun f' cs'=>∃(c8:Bool)(g:Fr),c8=o1/\f'=aH g [(0,(sv nG)),(10,(.bool c8))]/\aF cs' []) ?_ ?_
 · replace hF:=jZ
   refine au ?_
   refine ai (iK (s:=nG) dN (.tmp rfl rfl)) ?_
   refine aI ?_
   rcases bi (decide (((nG.length:Int):Int)<2))with hg3|hg3
   · rw[hg3]
     try rw[hg3]at hF; dsimp only[ak,aj]at hF
     exact aP hF
   rw[hg3]
   try rw[hg3]at hF; dsimp only[ak,aj]at hF
   refine ay ?_
   refine zI hF fun u4 JO hx7 hF=>?_
   refine ai (qp (u:=u4) dN (.tmp rfl rfl) (.int _ _) JO hx7) ?_
   exact aP hF
 rintro _ _ ⟨c8,g16,rfl,rfl,hE⟩
 replace hF:=hO2
 try dsimp only at hF
 refine bz hE ?_
 refine Ci hF (fun Bh hF=>?_) (fun Bh hF=>?_)
 · exact ze hF
 refine ay ?_
 refine bnd hF fun JN rF hF=>?_
 have wI:=mi rF
 simp only[Bool.and_eq_true,decide_eq_true_eq]at wI
 refine ai (zJ (s:=nG) (i:=(1:Int)) dN (.tmp rfl rfl) (.int _ _) wI.1 wI.2) ?_
 refine bnd hF fun bO eD hF=>aA (qm eD) (fun _=>?_)
 exact ze hF
def dL(dA:Int)(lW:Int)(nH:Int):Option (Bool):=
 some ((decide ((lW:Int)<=dA))&&(decide ((dA:Int)<=nH)))
theorem eX{dA lW nH:Int}{R:Bool}(hF:dL dA lW nH=some R):
   Fw.Spec Tryz.prog 25 [(zi dA),(zi lW),(zi nH)] [] (fun _:Unit=>(.bool R)) (fun _=>[]):=by
 refine Se 15 Tryz.func25 [.tmp 6] ?_
 intro H0 F0
 unfold dL at hF
 refine aB ?_
 refine b_ (fun f' cs'=>∃(g:Fr),f'=aH g [(6,(.bool ((decide ((lW:Int)<=dA))&&(decide ((dA:Int)<=nH)))))]/\aF cs' []) ?_ ?_
 · refine aB ?_
   rcases bi (decide ((lW:Int)<=dA))with hg1|hg1
   · rw[hg1]
     try rw[hg1]at hF; dsimp only[ak,aj]at hF
     refine gq ?_
     exact⟨_,aN,aL⟩
   rw[hg1]
   try rw[hg1]at hF; dsimp only[ak,aj]at hF
   refine bC ?_
   exact⟨_,aN,aL⟩
 rintro _ _ ⟨g2,rfl,hE⟩
 refine bz hE ?_
 exact ze hF
def ve(aa:List Int):List Int->Nat->Option (Bool)
 |[],k4=>(dL (aa.length:Int) 1 3).bind fun lM=>
   some lM
 |x6::aK,k4=>(dL x6 1 3).bind fun gM=>
   if (!gM)then (
     some false)
   else (
     ve aa aK (k4+1))
def qo(aa:List Int):Option (Bool):=
 ve aa aa 0
theorem za{aa:List Int}{ae:Sv}{R:Bool}(hF:qo aa=some R):
   Fw.Spec Tryz.prog 69 [ae.v] [aC ae aa] (fun _:Unit=>(.bool R)) (fun _=>[]):=by
 refine Se 19 Tryz.func69 [.tmp 2] ?_
 intro H0 F0
 unfold qo at hF
 refine bU ?_
 refine bI (bY (m:=aa.length) (fun m2 f' cs'=>∃(g:Fr)(k4:Nat)(aK:List Int),m2=aK.length/\f'=aH g [(0,ae.v),(3,(zi (k4:Int)))]/\List.drop k4 aa=aK/\aF cs' [aC ae aa]/\ve aa aK k4=some R) ⟨_,0,_,rfl,aN,rfl,aL,hF⟩ ?_)
 rintro m2 _ _ ⟨g3,k4,aK,rfl,rfl,hd7,hE,hF⟩
 refine Kb hE aa (fun mF=>?_)
 rcases aK with _|⟨x6,aK⟩
 · have h_:=dn hd7
   rw[ve]at hF
   refine bU ?_
   refine dI ?_
   refine bU ?_
   refine bnd hF fun lM j4 hF=>aA (eX j4) (fun _=>?_)
   exact ze hF
 obtain⟨h_,bQ,g_⟩:=dC hd7
 rw[ve]at hF
 refine bU ?_
 refine dH ?_
 refine aD ?_
 refine Ai bQ (fun k16 Fz=>?_)
 refine Al dw ?_
 refine bnd hF fun gM mK hF=>aA (eX mK) (fun _=>?_)
 refine aI ?_
 refine Ci hF (fun Ib hF=>?_) (fun Ib hF=>?_)
 · exact ze hF
 refine bC ?_
 rw[wk k4]
 exact⟨_,cK _,_,k4+1,aK,rfl,aN,g_,aL,hF⟩
def qh(aa:List Int)(aJ:Method):List Int->Nat->Option (Bool)
 |[],k27=>some true
 |x29::qM,k27=>((ix aa aJ.Rel).bind fun x40=>
     (dL x29 0 (IntKind.i64.wrap (x40-1))).bind fun yH=>
     bif (!yH)then (some true)
     else (bif (decide ((0:Int)<(k27:Int)))then ((ix aJ.Inputs (IntKind.i64.wrap ((k27:Int)-1))).bind fun pM=>
         some (decide ((x29:Int)<=pM)))
       else (some false))).bind fun JP=>
   match JP with
   |c59=>if c59 then (
       some false)
     else (
       qh aa aJ qM (k27+1))
def xq(aa:List Int)(aJ:Method):Option (Bool):=
 ((qo aa).bind fun r4=>
   bif (!r4)then (some true)
   else ((dL aJ.Rel 0 (IntKind.i64.wrap ((aa.length:Int)-1))).bind fun r8=>
     bif (!r8)then (some true)
     else ((dL aJ.Limit 0 9).bind fun bO=>
       bif (!bO)then (some true)
       else ((dL aJ.Cost 0 99).bind fun r16=>
         bif (!r16)then (some true)
         else ((dL aJ.Quota 1 99).bind fun fE=>
           some (!fE)))))).bind fun o2=>
 match o2 with
 |c23=>if c23 then (
     some false)
   else (
     qh aa aJ aJ.Inputs 0)
theorem LJ{aa:List Int}{ae:Sv}{aJ:Method}{dP:Sv}{R:Bool}(hF:xq aa aJ=some R):
   Fw.Spec Tryz.prog 38 [ae.v,(zg [(zi aJ.Rel),dP.v,(zi aJ.Limit),(zi aJ.Cost),(zi aJ.Quota)])] [aC ae aa,aC dP aJ.Inputs] (fun _:Unit=>(.bool R)) (fun _=>[]):=by
 refine Se 74 Tryz.func38 [.tmp 4] ?_
 intro H0 F0
 unfold xq at hF
 refine au ?_
 refine fe (fun k1=>?_)
 refine ay ?_
 obtain⟨o2,fB,hO3⟩:=bind_some hF
 refine au ?_
 refine b_ (fun f' cs'=>∃(c23:Bool)(g:Fr),c23=o2/\f'=aH g [(0,ae.v),(3,(pz k1)),(35,(.bool c23))]/\aF cs' [aC ae aa,cu k1 43 (zg [(zi aJ.Rel),dP.v,(zi aJ.Limit),(zi aJ.Cost),(zi aJ.Quota)]),aC dP aJ.Inputs]) ?_ ?_
 · replace hF:=fB
   refine au ?_
   refine bnd hF fun r4 hx5 hF=>aA (za hx5) (fun _=>?_)
   refine aI ?_
   rcases bi (!r4)with a_|a_
   · rw[a_]
     try rw[a_]at hF; dsimp only[ak,aj]at hF
     exact aP hF
   rw[a_]
   try rw[a_]at hF; dsimp only[ak,aj]at hF
   refine Au ?_
   refine bnd hF fun r8 bQ hF=>aA (eX bQ) (fun _=>?_)
   refine aB ?_
   rcases bi (!r8)with bM|bM
   · rw[bM]
     try rw[bM]at hF; dsimp only[ak,aj]at hF
     exact aP hF
   rw[bM]
   try rw[bM]at hF; dsimp only[ak,aj]at hF
   refine aD ?_
   refine bnd hF fun bO eD hF=>aA (eX eD) (fun _=>?_)
   refine aB ?_
   rcases bi (!bO)with gy|gy
   · rw[gy]
     try rw[gy]at hF; dsimp only[ak,aj]at hF
     exact aP hF
   rw[gy]
   try rw[gy]at hF; dsimp only[ak,aj]at hF
   refine aD ?_
   refine bnd hF fun r16 jf hF=>aA (eX jf) (fun _=>?_)
   refine aB ?_
   rcases bi (!r16)with Bi|Bi
   · rw[Bi]
     try rw[Bi]at hF; dsimp only[ak,aj]at hF
     exact aP hF
   rw[Bi]
   try rw[Bi]at hF; dsimp only[ak,aj]at hF
   refine aD ?_
   refine bnd hF fun fE j3 hF=>aA (eX j3) (fun _=>?_)
   exact aP hF
 rintro _ _ ⟨c23,g64,rfl,rfl,hE⟩
 replace hF:=hO3
 try dsimp only at hF
 refine bz hE ?_
 refine Ci hF (fun vZ hF=>?_) (fun vZ hF=>?_)
 · exact ze hF
 refine aD ?_
 refine bI (bY (m:=aJ.Inputs.length) (fun Qs f' cs'=>∃(g:Fr)(k27:Nat)(qM:List Int),Qs=qM.length/\f'=aH g [(0,ae.v),(3,(pz k1)),(5,(zi (k27:Int)))]/\List.drop k27 aJ.Inputs=qM/\aF cs' [aC ae aa,cu k1 43 (zg [(zi aJ.Rel),dP.v,(zi aJ.Limit),(zi aJ.Cost),(zi aJ.Quota)]),aC dP aJ.Inputs]/\qh aa aJ qM k27=some R) ⟨_,0,_,rfl,aN,rfl,aL,hF⟩ ?_)
 rintro Qs _ _ ⟨g26,k27,qM,rfl,rfl,Pv,hE,hF⟩
 refine Kb hE aJ.Inputs (fun acf=>?_)
 rcases qM with _|⟨x29,qM⟩
 · have hk31:=dn Pv
   rw[qh]at hF
   refine dh ?_
   refine dI ?_
   exact ze hF
 obtain⟨hk31,hx32,ZI⟩:=dC Pv
 rw[qh]at hF
 refine dh ?_
 refine dH ?_
 refine aI ?_
 obtain⟨JP,Xi,ZJ⟩:=bind_some hF
 refine fV [0,1,2,3,4,5,6,7,8,9,10,11,12,13,14,15,16,17,18,19,20,21,22,23,24,25,26,27,28,29,30] [0,1,0,7,15,0,0,64,224,480,992,2047,4095,8191,16383,32767,65535,131071,262143,131071,1048575,2097151,131071,4325375,131071,16908287,63045631,130154495,268435455,536870911,1073741823] [11] mixed (by decide+kernel) ?_
 refine oV (fun f' cs'=>∃(c59:Bool)(g:Fr),c59=JP/\f'=aH g [(0,ae.v),(3,(pz k1)),(5,(zi (k27:Int))),(73,(.bool c59))]/\aF cs' [aC ae aa,cu k1 43 (zg [(zi aJ.Rel),dP.v,(zi aJ.Limit),(zi aJ.Cost),(zi aJ.Quota)]),aC dP aJ.Inputs]) ?_ ?_
 · replace hF:=Xi
   refine gZ ?_
   refine Di hx32 (fun k38 j39=>?_)
   refine Dl dw ?_
   refine gZ ?_
   refine zI hF fun x40 Ia il hF=>?_
   refine Di il (fun k44 j45=>?_)
   refine Dl dw ?_
   refine du ?_
   refine bnd hF fun yH kK hF=>cZ (eX kK) (fun _=>?_)
   refine fA ?_
   rcases bi (!yH)with nR|nR
   · rw[nR]
     try rw[nR]at hF; dsimp only[ak,aj]at hF
     exact fP hF
   rw[nR]
   try rw[nR]at hF; dsimp only[ak,aj]at hF
   refine gZ ?_
   rcases bi (decide ((0:Int)<(k27:Int)))with Bj|Bj
   · rw[Bj]
     try rw[Bj]at hF; dsimp only[ak,aj]at hF
     refine gZ ?_
     refine Di hx32 (fun k51 j52=>?_)
     refine Dl dw ?_
     refine rE ?_
     refine zI hF fun pM adl ZK hF=>?_
     refine Di ZK (fun k57 j58=>?_)
     refine Dl dw ?_
     exact fP hF
   rw[Bj]
   try rw[Bj]at hF; dsimp only[ak,aj]at hF
   exact fP hF
 rintro _ _ ⟨c59,g62,rfl,rfl,hE⟩
 replace hF:=ZJ
 try dsimp only at hF
 refine bz hE ?_
 refine Ci hF (fun Bl hF=>?_) (fun Bl hF=>?_)
 · exact ze hF
 refine bC ?_
 rw[wk k27]
 exact⟨_,cK _,_,k27+1,qM,rfl,aN,ZI,aL,hF⟩
def qj(fuel:Nat):List Int->Nat->(List UInt8)->Option ((List UInt8))
 |[],k5,c1=>some c1
 |x7::fZ,k5,c1=>(if (decide ((0:Int)<(k5:Int)))then (
       (aO c1 [44]).bind fun kv=>
       (fF fuel x7).bind fun ib=>
       (aO kv ib).bind fun x25=>
       some x25)
     else (
       (fF fuel x7).bind fun jm=>
       (aO c1 jm).bind fun x34=>
       some x34)).bind fun ko=>
   match ko with
   |kw=>qj fuel fZ (k5+1) kw
def vH(fuel:Nat)(bf:List Int):Option ((List UInt8)):=
 qj fuel bf 0 []
theorem Gi{fuel:Nat}{bf:List Int}{ae:Sv}{R:(List UInt8)}(hF:vH fuel bf=some R):
   Fw.Spec Tryz.prog 70 [ae.v] [aC ae bf] (fun _:Unit=>(sv R)) (fun _=>[]):=by
 refine Se 23 Tryz.func70 [.tmp 2] ?_
 intro H0 F0
 unfold vH at hF
 refine kG ?_
 refine bI (bY (m:=bf.length) (fun m3 f' cs'=>∃(g:Fr)(k5:Nat)(fZ:List Int)(c1:List UInt8),m3=fZ.length/\f'=aH g [(0,ae.v),(3,(sv c1)),(4,(zi (k5:Int)))]/\List.drop k5 bf=fZ/\aF cs' [aC ae bf]/\qj fuel fZ k5 c1=some R) ⟨_,0,_,_,rfl,aN,rfl,aL,hF⟩ ?_)
 rintro m3 _ _ ⟨g4,k5,fZ,c1,rfl,rfl,uO,hE,hF⟩
 refine Kb hE bf (fun OX=>?_)
 rcases fZ with _|⟨x7,fZ⟩
 · have Cj:=dn uO
   rw[qj]at hF
   refine bU ?_
   refine dI ?_
   exact ze hF
 obtain⟨Cj,jg,jh⟩:=dC uO
 rw[qj]at hF
 refine bU ?_
 refine dH ?_
 refine au ?_
 obtain⟨ko,vS,vY⟩:=bind_some hF
 refine lu (fun f' cs'=>∃(kw:List UInt8)(g:Fr),kw=ko/\f'=aH g [(0,ae.v),(3,(sv kw)),(4,(zi (k5:Int)))]/\aF cs' [aC ae bf]) ?_ ?_
 · replace hF:=vS
   refine bI (jY (eu (Cm (zi (k5:Int)) rfl rfl ?_)))
   refine aI ?_
   refine Ci hF (fun nT hF=>?_) (fun nT hF=>?_)
   · refine aI ?_
     refine bnd hF fun kv jf hF=>?_
     obtain⟨ZL,ZM⟩:=bq jf
     refine ai (bu (s:=c1) (t:=[44]) (u:=kv) (.tmp rfl rfl) (.sv _) jf) ?_
     refine bC ?_
     refine Ai jg (fun k20 FB=>?_)
     refine Al dw ?_
     refine bnd hF fun ib jL hF=>aA (jH jL) (fun _=>?_)
     refine bnd hF fun x25 nP hF=>?_
     obtain⟨ZN,ZO⟩:=bq nP
     refine ai (bu (s:=kv) (t:=ib) (u:=x25) (.tmp rfl rfl) (.tmp rfl rfl) nP) ?_
     exact aP hF
   refine aD ?_
   refine Ai jg (fun uP j30=>?_)
   refine Al dw ?_
   refine bnd hF fun jm hx32 hF=>aA (jH hx32) (fun _=>?_)
   refine bnd hF fun x34 kL hF=>?_
   obtain⟨EC,ED⟩:=bq kL
   refine ai (bu (s:=c1) (t:=jm) (u:=x34) (.tmp rfl rfl) (.tmp rfl rfl) kL) ?_
   exact aP hF
 rintro _ _ ⟨kw,JQ,rfl,rfl,hE⟩
 replace hF:=vY
 try dsimp only at hF
 refine bz hE ?_
 refine aD ?_
 rw[wk k5]
 exact⟨_,cK _,_,k5+1,fZ,_,rfl,aN,jh,aL,hF⟩
def qc(aJ:Method)(fuel:Nat):List Int->Nat->Option ((List UInt8))
 |[],k23=>if (decide ((0:Int)<(aJ.Inputs.length:Int)))then (
     (vH fuel aJ.Inputs).bind fun r32=>
     (fF fuel aJ.Rel).bind fun jR=>
     (aO [114] jR).bind fun x38=>
     (aO x38 [32,105,110,32]).bind fun ic=>
     (aO ic r32).bind fun lN=>
     (aO lN [32,108,105,109,105,116,32]).bind fun wJ=>
     (fF fuel aJ.Limit).bind fun pO=>
     (aO wJ pO).bind fun FC=>
     (aO FC [32,99,111,115,116,32]).bind fun FE=>
     (fF fuel aJ.Cost).bind fun JR=>
     (aO FE JR).bind fun FH=>
     (aO FH [32,113,117,111,116,97,32]).bind fun wK=>
     (fF fuel aJ.Quota).bind fun ol=>
     (aO wK ol).bind fun JS=>
     some JS)
   else (
     (fF fuel aJ.Rel).bind fun JU=>
     (aO [114] JU).bind fun x86=>
     (aO x86 [32,105,110,32]).bind fun x90=>
     (aO x90 [102,114,101,101]).bind fun FI=>
     (aO FI [32,108,105,109,105,116,32]).bind fun x98=>
     (fF fuel aJ.Limit).bind fun Ic=>
     (aO x98 Ic).bind fun x105=>
     (aO x105 [32,99,111,115,116,32]).bind fun EE=>
     (fF fuel aJ.Cost).bind fun nU=>
     (aO EE nU).bind fun rG=>
     (aO rG [32,113,117,111,116,97,32]).bind fun mM=>
     (fF fuel aJ.Quota).bind fun Ie=>
     (aO mM Ie).bind fun Ig=>
     some Ig)
 |x25::qN,k23=>((dL x25 0 2).bind fun Ih=>
     bif (!Ih)then (some true)
     else (bif (decide ((0:Int)<(k23:Int)))then ((ix aJ.Inputs (IntKind.i64.wrap ((k23:Int)-1))).bind fun Pw=>
         some (decide ((x25:Int)<=Pw)))
       else (some false))).bind fun Ii=>
   match Ii with
   |Bn=>if Bn then (
       some [])
     else (
       qc aJ fuel qN (k23+1))
def wV(fuel:Nat)(aJ:Method):Option ((List UInt8)):=
 ((dL aJ.Rel 0 2).bind fun r4=>
   bif (!r4)then (some true)
   else ((dL aJ.Limit 0 9).bind fun r8=>
     bif (!r8)then (some true)
     else ((dL aJ.Cost 0 99).bind fun bO=>
       bif (!bO)then (some true)
       else ((dL aJ.Quota 1 99).bind fun r16=>
         some (!r16))))).bind fun o2=>
 match o2 with
 |c19=>if c19 then (
     some [])
   else (
     qc aJ fuel aJ.Inputs 0)
theorem KT{fuel:Nat}{aJ:Method}{bA:Sv}{R:(List UInt8)}(hF:wV fuel aJ=some R):
   Fw.Spec Tryz.prog 39 [(zg [(zi aJ.Rel),bA.v,(zi aJ.Limit),(zi aJ.Cost),(zi aJ.Quota)])] [aC bA aJ.Inputs] (fun _:Unit=>(sv R)) (fun _=>[]):=by
 refine Se 88 Tryz.func39 [.tmp 2] ?_
 intro H0 F0
 unfold wV at hF
 refine au ?_
 refine fe (fun k1=>?_)
 refine ay ?_
 obtain⟨o2,fB,hO3⟩:=bind_some hF
 refine au ?_
 refine b_ (fun f' cs'=>∃(c19:Bool)(g:Fr),c19=o2/\f'=aH g [(1,(pz k1)),(26,(.bool c19))]/\aF cs' [cu k1 43 (zg [(zi aJ.Rel),bA.v,(zi aJ.Limit),(zi aJ.Cost),(zi aJ.Quota)]),aC bA aJ.Inputs]) ?_ ?_
 · replace hF:=fB
   refine aI ?_
   refine bnd hF fun r4 hx5 hF=>aA (eX hx5) (fun _=>?_)
   refine aI ?_
   rcases bi (!r4)with a_|a_
   · rw[a_]
     try rw[a_]at hF; dsimp only[ak,aj]at hF
     exact aP hF
   rw[a_]
   try rw[a_]at hF; dsimp only[ak,aj]at hF
   refine aD ?_
   refine bnd hF fun r8 bQ hF=>aA (eX bQ) (fun _=>?_)
   refine aB ?_
   rcases bi (!r8)with bM|bM
   · rw[bM]
     try rw[bM]at hF; dsimp only[ak,aj]at hF
     exact aP hF
   rw[bM]
   try rw[bM]at hF; dsimp only[ak,aj]at hF
   refine aD ?_
   refine bnd hF fun bO eD hF=>aA (eX eD) (fun _=>?_)
   refine aB ?_
   rcases bi (!bO)with gy|gy
   · rw[gy]
     try rw[gy]at hF; dsimp only[ak,aj]at hF
     exact aP hF
   rw[gy]
   try rw[gy]at hF; dsimp only[ak,aj]at hF
   refine aD ?_
   refine bnd hF fun r16 jf hF=>aA (eX jf) (fun _=>?_)
   exact aP hF
 rintro _ _ ⟨c19,adm,rfl,rfl,hE⟩
 replace hF:=hO3
 try dsimp only at hF
 refine bz hE ?_
 refine Ci hF (fun Xj hF=>?_) (fun Xj hF=>?_)
 · exact ze hF
 refine aD ?_
 refine bI (bY (m:=aJ.Inputs.length) (fun m21 f' cs'=>∃(g:Fr)(k23:Nat)(qN:List Int),m21=qN.length/\f'=aH g [(1,(pz k1)),(3,(zi (k23:Int)))]/\List.drop k23 aJ.Inputs=qN/\aF cs' [cu k1 43 (zg [(zi aJ.Rel),bA.v,(zi aJ.Limit),(zi aJ.Cost),(zi aJ.Quota)]),aC bA aJ.Inputs]/\qc aJ fuel qN k23=some R) ⟨_,0,_,rfl,aN,rfl,aL,hF⟩ ?_)
 rintro m21 _ _ ⟨g22,k23,qN,rfl,rfl,EF,hE,hF⟩
 refine Kb hE aJ.Inputs (fun acg=>?_)
 rcases qN with _|⟨x25,qN⟩
 · have ZP:=dn EF
   rw[qc]at hF
   refine dh ?_
   refine dI ?_
   refine OW ?_
   refine Ci hF (fun Xk hF=>?_) (fun Xk hF=>?_)
   · refine ay ?_
     refine bnd hF fun r32 rH hF=>aA (Gi rH) (fun _=>?_)
     refine aI ?_
     refine fV [0,1,5,8,9,13,14,18,19,2,3,4,6,7,10,11,12,15,16,17,20,21,22] [0,1,3,7,15,0,63,127,0,256,775,2047,4095,0,8192,26375,65535,131071,0,262144,845575,2097151,4194303] [2,10,15,20] mixed (by decide+kernel) ?_
     refine EA ?_
     refine bnd hF fun jR kZ hF=>cZ (jH kZ) (fun _=>?_)
     refine bnd hF fun x38 hx39 hF=>?_
     obtain⟨Ij,Ik⟩:=bq hx39
     refine bg rfl .no (fun ha=>bu (s:=[114]) (t:=jR) (u:=x38) (EN ha (.sv _) rfl) (EN ha (.tmp rfl rfl) rfl) hx39) ?_
     refine bnd hF fun ic il hF=>?_
     obtain⟨EG,EH⟩:=bq il
     refine bg rfl .no (fun ha=>bu (s:=x38) (t:=[32,105,110,32]) (u:=ic) (EN ha (.tmp rfl rfl) rfl) (EN ha (.sv _) rfl) il) ?_
     refine bnd hF fun lN kK hF=>?_
     obtain⟨Px,Py⟩:=bq kK
     refine bg rfl .no (fun ha=>bu (s:=ic) (t:=r32) (u:=lN) (EN ha (.tmp rfl rfl) rfl) (EN ha (.tmp rfl rfl) rfl) kK) ?_
     refine bnd hF fun wJ mO hF=>?_
     obtain⟨adn,ado⟩:=bq mO
     refine bg rfl .no (fun ha=>bu (s:=lN) (t:=[32,108,105,109,105,116,32]) (u:=wJ) (EN ha (.tmp rfl rfl) rfl) (EN ha (.sv _) rfl) mO) ?_
     refine bnd hF fun pO v_ hF=>cZ (jH v_) (fun _=>?_)
     refine bnd hF fun FC yw hF=>?_
     obtain⟨adp,adq⟩:=bq yw
     refine bg rfl .no (fun ha=>bu (s:=wJ) (t:=pO) (u:=FC) (EN ha (.tmp rfl rfl) rfl) (EN ha (.tmp rfl rfl) rfl) yw) ?_
     refine bnd hF fun FE EI hF=>?_
     obtain⟨adr,ads⟩:=bq EI
     refine bg rfl .no (fun ha=>bu (s:=FC) (t:=[32,99,111,115,116,32]) (u:=FE) (EN ha (.tmp rfl rfl) rfl) (EN ha (.sv _) rfl) EI) ?_
     refine bnd hF fun JR Il hF=>cZ (jH Il) (fun _=>?_)
     refine bnd hF fun FH yx hF=>?_
     obtain⟨adt,adu⟩:=bq yx
     refine bg rfl .no (fun ha=>bu (s:=FE) (t:=JR) (u:=FH) (EN ha (.tmp rfl rfl) rfl) (EN ha (.tmp rfl rfl) rfl) yx) ?_
     refine bnd hF fun wK EJ hF=>?_
     obtain⟨adv,adw⟩:=bq EJ
     refine bg rfl .no (fun ha=>bu (s:=FH) (t:=[32,113,117,111,116,97,32]) (u:=wK) (EN ha (.tmp rfl rfl) rfl) (EN ha (.sv _) rfl) EJ) ?_
     refine bnd hF fun ol Im hF=>cZ (jH Im) (fun _=>?_)
     refine bnd hF fun JS Pz hF=>?_
     obtain⟨adx,ady⟩:=bq Pz
     refine bg rfl .no (fun ha=>bu (s:=wK) (t:=ol) (u:=JS) (EN ha (.tmp rfl rfl) rfl) (EN ha (.tmp rfl rfl) rfl) Pz) ?_
     refine fA ?_
     exact ze hF
   refine au ?_
   refine fV [0,1,5,8,9,13,14,18,19,2,3,4,6,7,10,11,12,15,16,17,20,21,22] [0,1,3,7,15,0,63,127,0,256,775,2047,4095,0,8192,26375,65535,131071,0,262144,845575,2097151,4194303] [2,10,15,20] mixed (by decide+kernel) ?_
   refine EA ?_
   refine bnd hF fun JU ZQ hF=>cZ (jH ZQ) (fun _=>?_)
   refine bnd hF fun x86 EK hF=>?_
   obtain⟨adz,adA⟩:=bq EK
   refine bg rfl .no (fun ha=>bu (s:=[114]) (t:=JU) (u:=x86) (EN ha (.sv _) rfl) (EN ha (.tmp rfl rfl) rfl) EK) ?_
   refine bnd hF fun x90 hx91 hF=>?_
   obtain⟨adB,hz92⟩:=bq hx91
   refine bg rfl .no (fun ha=>bu (s:=x86) (t:=[32,105,110,32]) (u:=x90) (EN ha (.tmp rfl rfl) rfl) (EN ha (.sv _) rfl) hx91) ?_
   refine bnd hF fun FI hx95 hF=>?_
   obtain⟨adC,adD⟩:=bq hx95
   refine bg rfl .no (fun ha=>bu (s:=x90) (t:=[102,114,101,101]) (u:=FI) (EN ha (.tmp rfl rfl) rfl) (EN ha (.tmp rfl rfl) rfl) hx95) ?_
   refine bnd hF fun x98 hx99 hF=>?_
   obtain⟨ach,aci⟩:=bq hx99
   refine bg rfl .no (fun ha=>bu (s:=FI) (t:=[32,108,105,109,105,116,32]) (u:=x98) (EN ha (.tmp rfl rfl) rfl) (EN ha (.sv _) rfl) hx99) ?_
   refine bnd hF fun Ic Xl hF=>cZ (jH Xl) (fun _=>?_)
   refine bnd hF fun x105 Em hF=>?_
   obtain⟨acj,ack⟩:=bq Em
   refine bg rfl .no (fun ha=>bu (s:=x98) (t:=Ic) (u:=x105) (EN ha (.tmp rfl rfl) rfl) (EN ha (.tmp rfl rfl) rfl) Em) ?_
   refine bnd hF fun EE En hF=>?_
   obtain⟨acl,acm⟩:=bq En
   refine bg rfl .no (fun ha=>bu (s:=x105) (t:=[32,99,111,115,116,32]) (u:=EE) (EN ha (.tmp rfl rfl) rfl) (EN ha (.sv _) rfl) En) ?_
   refine bnd hF fun nU hx114 hF=>cZ (jH hx114) (fun _=>?_)
   refine bnd hF fun rG Av hF=>?_
   obtain⟨Xm,Xn⟩:=bq Av
   refine bg rfl .no (fun ha=>bu (s:=EE) (t:=nU) (u:=rG) (EN ha (.tmp rfl rfl) rfl) (EN ha (.tmp rfl rfl) rfl) Av) ?_
   refine bnd hF fun mM vT hF=>?_
   obtain⟨Xo,Xp⟩:=bq vT
   refine bg rfl .no (fun ha=>bu (s:=rG) (t:=[32,113,117,111,116,97,32]) (u:=mM) (EN ha (.tmp rfl rfl) rfl) (EN ha (.sv _) rfl) vT) ?_
   refine bnd hF fun Ie Eo hF=>cZ (jH Eo) (fun _=>?_)
   refine bnd hF fun Ig hx128 hF=>?_
   obtain⟨acn,aco⟩:=bq hx128
   refine bg rfl .no (fun ha=>bu (s:=mM) (t:=Ie) (u:=Ig) (EN ha (.tmp rfl rfl) rfl) (EN ha (.tmp rfl rfl) rfl) hx128) ?_
   refine fA ?_
   exact ze hF
 obtain⟨ZP,hx28,hd29⟩:=dC EF
 rw[qc]at hF
 refine dh ?_
 refine dH ?_
 refine aI ?_
 obtain⟨Ii,VM,Xq⟩:=bind_some hF
 refine fV [0,1,2,3,4,5,6,7,8,9,10,11,12,13,14,15,16,17,18,19,20,21,22,23,24] [0,1,0,7,15,31,63,127,255,511,1023,2047,4095,2047,16383,32767,2047,67583,2047,264191,985087,2033663,4194303,8388607,16777215] [5] mixed (by decide+kernel) ?_
 refine oV (fun f' cs'=>∃(Bn:Bool)(g:Fr),Bn=Ii/\f'=aH g [(1,(pz k1)),(3,(zi (k23:Int))),(58,(.bool Bn))]/\aF cs' [cu k1 43 (zg [(zi aJ.Rel),bA.v,(zi aJ.Limit),(zi aJ.Cost),(zi aJ.Quota)]),aC bA aJ.Inputs]) ?_ ?_
 · replace hF:=VM
   refine gZ ?_
   refine Di hx28 (fun adE adF=>?_)
   refine Dl dw ?_
   refine bnd hF fun Ih Xr hF=>cZ (eX Xr) (fun _=>?_)
   refine fA ?_
   rcases bi (!Ih)with Aw|Aw
   · rw[Aw]
     try rw[Aw]at hF; dsimp only[ak,aj]at hF
     exact fP hF
   rw[Aw]
   try rw[Aw]at hF; dsimp only[ak,aj]at hF
   refine gZ ?_
   rcases bi (decide ((0:Int)<(k23:Int)))with Ay|Ay
   · rw[Ay]
     try rw[Ay]at hF; dsimp only[ak,aj]at hF
     refine gZ ?_
     refine Di hx28 (fun adG adH=>?_)
     refine Dl dw ?_
     refine rE ?_
     refine zI hF fun Pw acp Hd hF=>?_
     refine Di Hd (fun adI adJ=>?_)
     refine Dl dw ?_
     exact fP hF
   rw[Ay]
   try rw[Ay]at hF; dsimp only[ak,aj]at hF
   exact fP hF
 rintro _ _ ⟨Bn,adK,rfl,rfl,hE⟩
 replace hF:=Xq
 try dsimp only at hF
 refine bz hE ?_
 refine Ci hF (fun Xt hF=>?_) (fun Xt hF=>?_)
 · exact ze hF
 refine bC ?_
 rw[wk k23]
 exact⟨_,cK _,_,k23+1,qN,rfl,aN,hd29,aL,hF⟩
def qd(aa:List Int)(aM:List UInt8)(fuel:Nat)(fC:Int)(gB:Int)(gU:Int)(eG:Int):List (List UInt8)->Nat->(List Int)->Option (Method×Bool)
 |[],rJ,jN=>((xq aa (⟨fC,jN,gB,gU,eG⟩:Method)).bind fun Io=>
     bif (!Io)then (some true)
     else ((wV fuel (⟨fC,jN,gB,gU,eG⟩:Method)).bind fun Ip=>
       some (!(Ip==aM)))).bind fun Iq=>
   match Iq with
   |Bo=>if Bo then (
       some ((⟨0,[],0,0,0⟩:Method),false))
     else (
       some ((⟨fC,jN,gB,gU,eG⟩:Method),true))
 |mM::qA,rJ,jN=>(jW fuel mM).bind fun EL=>
   (app jN ([EL]:List Int)).bind fun z145=>
   qd aa aM fuel fC gB gU eG qA (rJ+1) z145
def zb(fuel:Nat)(aa:List Int)(aM:List UInt8):Option (Method×Bool):=
 (oN aM (32:UInt8)).bind fun r2=>
 if (((r2.length:Int):Int)!=9)then (
   some ((⟨0,[],0,0,0⟩:Method),false))
 else (
   (ix r2 0).bind fun x5=>
   (ix r2 4).bind fun iP=>
   (ix r2 6).bind fun mP=>
   (ix r2 8).bind fun jS=>
   (nC fuel x5).bind fun fC=>
   (jW fuel iP).bind fun gB=>
   (jW fuel mP).bind fun gU=>
   (jW fuel jS).bind fun eG=>
   (ix r2 2).bind fun ic=>
   if (!(ic==[102,114,101,101]))then (
     (ix r2 2).bind fun rZ=>
     (oN rZ (44:UInt8)).bind fun pO=>
     qd aa aM fuel fC gB gU eG pO 0 ([]:List Int))
   else (
     ((xq aa (⟨fC,[],gB,gU,eG⟩:Method)).bind fun Ir=>
       bif (!Ir)then (some true)
       else ((wV fuel (⟨fC,[],gB,gU,eG⟩:Method)).bind fun Iu=>
         some (!(Iu==aM)))).bind fun Iw=>
     match Iw with
     |Bp=>if Bp then (
         some ((⟨0,[],0,0,0⟩:Method),false))
       else (
         some ((⟨fC,[],gB,gU,eG⟩:Method),true))))
theorem RI{fuel:Nat}{aa:List Int}{ae:Sv}{aM:List UInt8}{R:Method×Bool}(hF:zb fuel aa aM=some R):
   Fw.Spec Tryz.prog 21 [ae.v,(sv aM)] [aC ae aa] (fun p:Sv×List Nat=>(.tuple [(zg [(zi R.1.Rel),p.1.v,(zi R.1.Limit),(zi R.1.Cost),(zi R.1.Quota)]),(.bool R.2)].toArray)) (fun p=>[bR p.2 p.1 R.1.Inputs]):=by
 refine Se 69 Tryz.func21 [.cell 4 43,.tmp 5] ?_
 intro H0 F0
 unfold zb at hF
 refine au ?_
 refine fD (fun k1=>?_)
 refine aB ?_
 refine bnd hF fun r2 hx3 hF=>dM (vC hx3) (fun p4=>?_)
 refine dh ?_
 refine Ci hF (fun Xu hF=>?_) (fun Xu hF=>?_)
 · refine au ?_
   refine ai (fM iN.h rfl (vs:=[]) .nil (cells:=[(zi 0),(.slice none 0 0),(zi 0),(zi 0),(zi 0)]) rfl) ?_
   refine As (zg [(zi 0),(.slice none 0 0),(zi 0),(zi 0),(zi 0)]) ?_
   refine ay ?_
   cases hF
   exact dO (⟨none,0,0⟩,[]) (.cellA rfl rfl .h rfl nN.h iN.h.sz rfl rfl (.tmp rfl rfl .nil)) rfl (.conv .nil (dK (Ro:=(aR aY)) (E:=3)) (.cons .nil) (.sel (.cons .h .nil)))
 refine au ?_
 refine nI .h dm ?_
 refine fV [0,1,2,4,5,6,8,9,10,12,13,14,17,3,7,11,15,16,18] [0,1,3,7,0,16,48,127,0,256,768,2047,0,4096,12288,32767,65535,0,262143] [3,7,11,15,18] mixed (by decide+kernel) ?_
 refine du ?_
 refine zI hF fun x5 hp7 iG hF=>?_
 refine Di iG (fun k9 j10=>?_)
 refine Dl eZ ?_
 refine du ?_
 refine zI hF fun iP ZR j4 hF=>?_
 refine Di j4 (fun k15 j16=>?_)
 refine Dl eZ ?_
 refine du ?_
 refine zI hF fun mP Ba ik hF=>?_
 refine Di ik (fun k21 j22=>?_)
 refine Dl eZ ?_
 refine du ?_
 refine zI hF fun jS Pt nP hF=>?_
 refine Di nP (fun k27 j28=>?_)
 refine Dl eZ ?_
 refine q8 rfl .no rfl (fun ha=>zQ (g:=true) iN.h rfl rfl) (fun uP=>?_)
 refine bnd hF fun fC hx31 hF=>mD rfl rfl .no .nil (.own .h (fun _ h=>h) .nil) (fun ha=>bZ HZ.h (.cons (EN ha (.tmp rfl rfl) rfl) .nil) (@zC fuel x5 _ hx31)) (fun _=>?_)
 refine bnd hF fun gB hx34 hF=>mD rfl rfl .no .nil (.own .h (fun _ h=>h) .nil) (fun ha=>bZ ym.h (.cons (EN ha (.tmp rfl rfl) rfl) .nil) (@qm fuel iP _ hx34)) (fun _=>?_)
 refine bnd hF fun gU A_ hF=>mD rfl rfl .no .nil (.own .h (fun _ h=>h) .nil) (fun ha=>bZ ym.h (.cons (EN ha (.tmp rfl rfl) rfl) .nil) (@qm fuel mP _ A_)) (fun _=>?_)
 refine bnd hF fun eG kY hF=>mD rfl rfl .no .nil (.own .h (fun _ h=>h) .nil) (fun ha=>bZ ym.h (.cons (EN ha (.tmp rfl rfl) rfl) .nil) (@qm fuel jS _ kY)) (fun _=>?_)
 refine bg rfl .no (fun ha=>fM iN.h rfl (vs:=[(zi fC),(zi gB),(zi gU),(zi eG)]) (.cons (EN ha (.tmp rfl rfl) rfl) (.cons (EN ha (.tmp rfl rfl) rfl) (.cons (EN ha (.tmp rfl rfl) rfl) (.cons (EN ha (.tmp rfl rfl) rfl) .nil)))) (cells:=[(zi fC),(.slice none 0 0),(zi gB),(zi gU),(zi eG)]) rfl) ?_
 refine iw rfl rfl .no (.cons .h .nil) (.dep rfl .nil) (fun ha=>jV (e':=(zg [(zi fC),(.slice none 0 0),(zi gB),(zi gU),(zi eG)])) (v:=(zg [(zi fC),(.slice none 0 0),(zi gB),(zi gU),(zi eG)])) iN.h.sz (EN ha (.tmp rfl rfl) rfl) (EN ha (.tmp rfl rfl) rfl) rfl rfl rfl rfl rfl) (fun _=>?_)
 refine du ?_
 refine ay ?_
 refine zI hF fun ic adL Iy hF=>?_
 refine Ai Iy (fun pQ FJ=>?_)
 refine Al eZ ?_
 refine ai (jI (s:=ic) (t:=[102,114,101,101]) (.tmp rfl rfl) (.sv _)) ?_
 refine au ?_
 refine Ci hF (fun Xv hF=>?_) (fun Xv hF=>?_)
 · refine aI ?_
   refine zI hF fun rZ adM mO hF=>?_
   refine Ai mO (fun k52 j53=>?_)
   refine Al eZ ?_
   refine bnd hF fun pO v_ hF=>dM (vC v_) (fun p56=>?_)
   refine aD ?_
   refine bI (nI .h dm ?_)
   refine bY (m:=pO.length) (fun PD f' cs'=>∃(g:Fr)(rJ:Nat)(qA:List (List UInt8))(jN:List Int)(pq:Sv)(EM:List Nat),PD=qA.length/\f'=aH g [(0,ae.v),(1,(sv aM)),(4,(pz k1)),(7,(pz uP)),(8,p56.1.v),(9,(zi (rJ:Int)))]/\List.drop rJ pO=qA/\aF cs' [aC ae aa,bV k1 43 (zg [(zi 0),(.slice none 0 0),(zi 0),(zi 0),(zi 0)]),bV uP 43 (zg [(zi fC),pq.v,(zi gB),(zi gU),(zi eG)]),bR EM pq jN,iY p56.1 pO]/\qd aa aM fuel fC gB gU eG qA rJ jN=some R) ⟨_,0,_,_,⟨none,0,0⟩,[],rfl,aN,rfl,(.conv .nil (dK (Ro:=(aR aY)) (E:=3)) (.cons .nil) aL),hF⟩ ?_
   rintro PD _ _ ⟨adN,rJ,qA,jN,pq,EM,rfl,rfl,OY,hE,hF⟩
   refine Kb hE pO (fun abu=>?_)
   rcases qA with _|⟨mM,qA⟩
   · have Xw:=dn OY
     rw[qd]at hF
     refine bU ?_
     refine dI ?_
     refine aD ?_
     obtain⟨Iq,VN,Xx⟩:=bind_some hF
     refine au ?_
     refine b_ (fun f' cs'=>∃(Bo:Bool)(g:Fr),Bo=Iq/\f'=aH g [(4,(pz k1)),(7,(pz uP)),(66,(.bool Bo))]/\aF cs' [bV k1 43 (zg [(zi 0),(.slice none 0 0),(zi 0),(zi 0),(zi 0)]),bV uP 43 (zg [(zi fC),pq.v,(zi gB),(zi gU),(zi eG)]),bR EM pq jN]) ?_ ?_
     · replace hF:=VN
       refine aI ?_
       refine bnd hF fun Io Xy hF=>cB (.cons .q3 (.rd .h rfl .nil)) (gL dm (fun _=>.nil) (nE (.rd (.t .h) rfl (.rd .h rfl .nil)) (bZ Zb.h bJ (@LJ aa ae (⟨fC,jN,gB,gU,eG⟩:Method) pq _ Xy)))) (fun _=>?_)
       refine aI ?_
       rcases bi (!Io)with Az|Az
       · rw[Az]
         try rw[Az]at hF; dsimp only[ak,aj]at hF
         exact aP hF
       rw[Az]
       try rw[Az]at hF; dsimp only[ak,aj]at hF
       refine ay ?_
       refine bnd hF fun Ip Xz hF=>cB (.cons .h .nil) (gL dm (fun _=>.nil) (bZ Zc.h bJ (@KT fuel (⟨fC,jN,gB,gU,eG⟩:Method) pq _ Xz))) (fun _=>?_)
       refine ay ?_
       refine ai (jI (s:=Ip) (t:=aM) (.tmp rfl rfl) (.tmp rfl rfl)) ?_
       exact aP hF
     rintro _ _ ⟨Bo,adO,rfl,rfl,hE⟩
     replace hF:=Xx
     try dsimp only at hF
     refine bz hE ?_
     refine Ci hF (fun He hF=>?_) (fun He hF=>?_)
     · refine au ?_
       refine ai (fM iN.h rfl (vs:=[]) .nil (cells:=[(zi 0),(.slice none 0 0),(zi 0),(zi 0),(zi 0)]) rfl) ?_
       refine As (zg [(zi 0),(.slice none 0 0),(zi 0),(zi 0),(zi 0)]) ?_
       refine ay ?_
       cases hF
       exact dO (⟨none,0,0⟩,[]) (.cellA rfl rfl .h rfl nN.h iN.h.sz rfl rfl (.tmp rfl rfl .nil)) rfl (.conv .nil (dK (Ro:=(aR aY)) (E:=3)) (.cons .nil) (.sel (.cons .h .nil)))
     refine ay ?_
     refine As (zg [(zi fC),pq.v,(zi gB),(zi gU),(zi eG)]) ?_
     refine ay ?_
     cases hF
     exact dO (pq,EM) (.cellA rfl rfl .h rfl nN.h iN.h.sz rfl rfl (.tmp rfl rfl .nil)) rfl (.sel (.cons .q2 .nil))
   obtain⟨Xw,XA,XB⟩:=dC OY
   rw[qd]at hF
   refine bU ?_
   refine dH ?_
   refine aI ?_
   refine uk [0,1,2,3,4,5,6,7,8,9,10] [0,1,0,0,12,28,60,124,255,511,1023] [6,8,10] mixed (by decide+kernel) ?_
   refine du ?_
   refine oU rfl .no .q2 (fun ha hp=>lm (v:=pq.v) uC.h (EN ha (.tmp rfl rfl) rfl) hp.2 rfl rfl) ?_
   refine fA ?_
   refine Di XA (fun adP adQ=>?_)
   refine Dl eZ ?_
   refine bnd hF fun EL XD hF=>mD rfl rfl .no .nil (.own .q3 (fun _ h=>h) .nil) (fun ha=>bZ ym.h (.cons (EN ha (.tmp rfl rfl) rfl) .nil) (@qm fuel mM _ XD)) (fun _=>?_)
   refine q8 rfl .no rfl (fun ha=>eH (g:=true) (len:=1) (parts:=[(0,.tmp 53)]) eB.h dU.h (.cons (EN ha (.tmp rfl rfl) rfl) .nil) (vs:=[(zi EL)]) rfl rfl rfl (by intro v hv; simp at hv; rcases hv with rfl<;>rfl)) (fun adR=>?_)
   refine B_ (.cons .h .nil) (eT (Ro:=(aR aY)) (E:=3) (F:=([]++[])) (xs:=([EL]:List Int)) (fK (iL (fun _=>rfl)) eQ dE) rfl rfl) ?_
   refine bnd hF fun z145 Hd hF=>iw rfl rfl .no (.cons .q5 (.cons .h .nil)) (.dep rfl (.dep rfl .nil)) (fun ha=>iJ (Ro:=(aR aY)) eB.h lY dU.h rfl rfl rfl (EN ha (.tmp rfl rfl) rfl) (EN ha (.tmp rfl rfl) rfl) Hd iM) (fun Iz=>?_)
   refine du ?_
   refine iw rfl rfl .no (.cons .q4 .nil) (.dep rfl (.dep rfl .nil)) (fun ha=>jV (e':=(zg [(zi fC),Iz.1.v,(zi gB),(zi gU),(zi eG)])) A8.h.sz (EN ha (.tmp rfl rfl) rfl) (EN ha (.tmp rfl rfl) rfl) rfl rfl rfl rfl rfl) (fun _=>?_)
   refine du ?_
   refine aD ?_
   rw[wk rJ]
   exact⟨_,cK _,_,rJ+1,qA,_,Iz.1,Iz.2,rfl,aN,XB,aL,hF⟩
 refine aI ?_
 obtain⟨Iw,VO,XE⟩:=bind_some hF
 refine au ?_
 refine b_ (fun f' cs'=>∃(Bp:Bool)(g:Fr),Bp=Iw/\f'=aH g [(4,(pz k1)),(7,(pz uP)),(66,(.bool Bp))]/\aF cs' [bV k1 43 (zg [(zi 0),(.slice none 0 0),(zi 0),(zi 0),(zi 0)]),bV uP 43 (zg [(zi fC),(.slice none 0 0),(zi gB),(zi gU),(zi eG)])]) ?_ ?_
 · replace hF:=VO
   refine aI ?_
   refine fT .nil (xS (R:=aY) (E:=3)) ?_
   refine bnd hF fun Ir hx152 hF=>aA (@LJ _ _ _ (⟨none,0,0⟩) _ hx152) (fun _=>?_)
   refine aI ?_
   rcases bi (!Ir)with AA|AA
   · rw[AA]
     try rw[AA]at hF; dsimp only[ak,aj]at hF
     exact aP hF
   rw[AA]
   try rw[AA]at hF; dsimp only[ak,aj]at hF
   refine ay ?_
   refine bnd hF fun Iu XF hF=>aA (@KT _ _ (⟨none,0,0⟩) _ XF) (fun _=>?_)
   refine ay ?_
   refine ai (jI (s:=Iu) (t:=aM) (.tmp rfl rfl) (.tmp rfl rfl)) ?_
   exact aP hF
 rintro _ _ ⟨Bp,adS,rfl,rfl,hE⟩
 replace hF:=XE
 try dsimp only at hF
 refine bz hE ?_
 refine Ci hF (fun XG hF=>?_) (fun XG hF=>?_)
 · refine au ?_
   refine ai (fM iN.h rfl (vs:=[]) .nil (cells:=[(zi 0),(.slice none 0 0),(zi 0),(zi 0),(zi 0)]) rfl) ?_
   refine As (zg [(zi 0),(.slice none 0 0),(zi 0),(zi 0),(zi 0)]) ?_
   refine ay ?_
   cases hF
   exact dO (⟨none,0,0⟩,[]) (.cellA rfl rfl .h rfl nN.h iN.h.sz rfl rfl (.tmp rfl rfl .nil)) rfl (.conv .nil (dK (Ro:=(aR aY)) (E:=3)) (.cons .nil) (.sel (.cons .h .nil)))
 refine ay ?_
 refine As (zg [(zi fC),(.slice none 0 0),(zi gB),(zi gU),(zi eG)]) ?_
 refine ay ?_
 cases hF
 exact dO (⟨none,0,0⟩,[]) (.cellA rfl rfl .h rfl nN.h iN.h.sz rfl rfl (.tmp rfl rfl .nil)) rfl (.conv .nil (dK (Ro:=(aR aY)) (E:=3)) (.cons .nil) (.sel (.cons .h .nil)))
def tK(aa:List Int)(bE:eU):List Int->Nat->Option (Bool)
 |[],k26=>some true
 |x28::qO,k26=>(ix aa bE.From).bind fun jo=>
   (dL x28 0 (IntKind.i64.wrap (jo-1))).bind fun mQ=>
   if (!mQ)then (
     some false)
   else (
     tK aa bE qO (k26+1))
def zS(aa:List Int)(bE:eU):Option (Bool):=
 ((qo aa).bind fun r4=>
   bif (!r4)then (some true)
   else ((dL bE.From 0 (IntKind.i64.wrap ((aa.length:Int)-1))).bind fun r8=>
     bif (!r8)then (some true)
     else ((dL bE.To 0 (IntKind.i64.wrap ((aa.length:Int)-1))).bind fun bO=>
       bif (!bO)then (some true)
       else ((ix aa bE.To).bind fun kv=>
         some (((bE.Map.length:Int):Int)!=kv))))).bind fun o2=>
 match o2 with
 |Ck=>if Ck then (
     some false)
   else (
     tK aa bE bE.Map 0)
theorem Tt{aa:List Int}{ae:Sv}{bE:eU}{rM:Sv}{R:Bool}(hF:zS aa bE=some R):
   Fw.Spec Tryz.prog 40 [ae.v,(zg [(zi bE.From),(zi bE.To),rM.v])] [aC ae aa,aC rM bE.Map] (fun _:Unit=>(.bool R)) (fun _=>[]):=by
 refine Se 58 Tryz.func40 [.tmp 4] ?_
 intro H0 F0
 unfold zS at hF
 refine au ?_
 refine fe (fun k1=>?_)
 refine ay ?_
 obtain⟨o2,fB,hO3⟩:=bind_some hF
 refine fV [0,1,2,3,4,5,6,7,8,9,10,11,12,13,14,15,16,17,18,19,20,21,22,23,24,25,26,27,28,29,30,31] [0,1,3,7,15,31,15,79,207,511,1023,2047,4095,8191,16383,8191,40959,106495,262143,524287,1048575,2097151,4194303,8388607,16777215,4194303,4194303,71303167,239075327,507510783,1073741823,2147483647] [1,9,18] mixed (by decide+kernel) ?_
 refine oV (fun f' cs'=>∃(Ck:Bool)(g:Fr),Ck=o2/\f'=aH g [(0,ae.v),(3,(pz k1)),(37,(.bool Ck))]/\aF cs' [aC ae aa,cu k1 47 (zg [(zi bE.From),(zi bE.To),rM.v]),aC rM bE.Map]) ?_ ?_
 · replace hF:=fB
   refine du ?_
   refine bnd hF fun r4 hx5 hF=>cZ (za hx5) (fun _=>?_)
   refine fA ?_
   rcases bi (!r4)with a_|a_
   · rw[a_]
     try rw[a_]at hF; dsimp only[ak,aj]at hF
     exact fP hF
   rw[a_]
   try rw[a_]at hF; dsimp only[ak,aj]at hF
   refine A9 ?_
   refine bnd hF fun r8 bQ hF=>cZ (eX bQ) (fun _=>?_)
   refine gZ ?_
   rcases bi (!r8)with bM|bM
   · rw[bM]
     try rw[bM]at hF; dsimp only[ak,aj]at hF
     exact fP hF
   rw[bM]
   try rw[bM]at hF; dsimp only[ak,aj]at hF
   refine A9 ?_
   refine bnd hF fun bO eD hF=>cZ (eX eD) (fun _=>?_)
   refine gZ ?_
   rcases bi (!bO)with gy|gy
   · rw[gy]
     try rw[gy]at hF; dsimp only[ak,aj]at hF
     exact fP hF
   rw[gy]
   try rw[gy]at hF; dsimp only[ak,aj]at hF
   refine uE ?_
   refine zI hF fun kv ZT mK hF=>?_
   refine Di mK (fun k20 FB=>?_)
   refine Dl dw ?_
   exact fP hF
 rintro _ _ ⟨Ck,g49,rfl,rfl,hE⟩
 replace hF:=hO3
 try dsimp only at hF
 refine bz hE ?_
 refine Ci hF (fun hb48 hF=>?_) (fun hb48 hF=>?_)
 · exact ze hF
 refine aD ?_
 refine bI (bY (m:=bE.Map.length) (fun m24 f' cs'=>∃(g:Fr)(k26:Nat)(qO:List Int),m24=qO.length/\f'=aH g [(0,ae.v),(3,(pz k1)),(5,(zi (k26:Int)))]/\List.drop k26 bE.Map=qO/\aF cs' [aC ae aa,cu k1 47 (zg [(zi bE.From),(zi bE.To),rM.v]),aC rM bE.Map]/\tK aa bE qO k26=some R) ⟨_,0,_,rfl,aN,rfl,aL,hF⟩ ?_)
 rintro m24 _ _ ⟨Qt,k26,qO,rfl,rfl,hd29,hE,hF⟩
 refine Kb hE bE.Map (fun acr=>?_)
 rcases qO with _|⟨x28,qO⟩
 · have ZU:=dn hd29
   rw[tK]at hF
   refine dh ?_
   refine dI ?_
   exact ze hF
 obtain⟨ZU,hx31,hd32⟩:=dC hd29
 rw[tK]at hF
 refine dh ?_
 refine dH ?_
 refine aI ?_
 refine fV [0,1,2,3,4,5,6,7,8,9,10,11,12] [0,1,0,7,15,0,0,64,224,480,992,2047,4095] [11] mixed (by decide+kernel) ?_
 refine gZ ?_
 refine Di hx31 (fun ig j36=>?_)
 refine Dl dw ?_
 refine gZ ?_
 refine zI hF fun jo adT kY hF=>?_
 refine Di kY (fun rY Qq=>?_)
 refine Dl dw ?_
 refine du ?_
 refine bnd hF fun mQ wh hF=>cZ (eX wh) (fun _=>?_)
 refine fA ?_
 refine Ci hF (fun Bq hF=>?_) (fun Bq hF=>?_)
 · exact ze hF
 refine bC ?_
 rw[wk k26]
 exact⟨_,cK _,_,k26+1,qO,rfl,aN,hd32,aL,hF⟩
def sQ(bE:eU)(fuel:Nat):List Int->Nat->Option ((List UInt8))
 |[],k19=>(fF fuel bE.From).bind fun mR=>
   (aO [114] mR).bind fun x31=>
   (aO x31 [32,103,105,118,101,115,32,114]).bind fun r_=>
   (fF fuel bE.To).bind fun eG=>
   (aO r_ eG).bind fun ic=>
   (aO ic [32]).bind fun lN=>
   (vH fuel bE.Map).bind fun iq=>
   (aO lN iq).bind fun pM=>
   some pM
 |Qu::qP,k19=>(dL Qu 0 2).bind fun uN=>
   if (!uN)then (
     some [])
   else (
     sQ bE fuel qP (k19+1))
def zl(fuel:Nat)(bE:eU):Option ((List UInt8)):=
 ((dL bE.From 0 2).bind fun r4=>
   bif (!r4)then (some true)
   else ((dL bE.To 0 2).bind fun r8=>
     bif (!r8)then (some true)
     else ((dL (bE.Map.length:Int) 1 3).bind fun bO=>
       some (!bO)))).bind fun o2=>
 match o2 with
 |c15=>if c15 then (
     some [])
   else (
     sQ bE fuel bE.Map 0)
theorem RS{fuel:Nat}{bE:eU}{nV:Sv}{R:(List UInt8)}(hF:zl fuel bE=some R):
   Fw.Spec Tryz.prog 41 [(zg [(zi bE.From),(zi bE.To),nV.v])] [aC nV bE.Map] (fun _:Unit=>(sv R)) (fun _=>[]):=by
 refine Se 49 Tryz.func41 [.tmp 2] ?_
 intro H0 F0
 unfold zl at hF
 refine au ?_
 refine fe (fun k1=>?_)
 refine ay ?_
 obtain⟨o2,fB,hO3⟩:=bind_some hF
 refine au ?_
 refine b_ (fun f' cs'=>∃(c15:Bool)(g:Fr),c15=o2/\f'=aH g [(1,(pz k1)),(20,(.bool c15))]/\aF cs' [cu k1 47 (zg [(zi bE.From),(zi bE.To),nV.v]),aC nV bE.Map]) ?_ ?_
 · replace hF:=fB
   refine aI ?_
   refine bnd hF fun r4 hx5 hF=>aA (eX hx5) (fun _=>?_)
   refine aI ?_
   rcases bi (!r4)with a_|a_
   · rw[a_]
     try rw[a_]at hF; dsimp only[ak,aj]at hF
     exact aP hF
   rw[a_]
   try rw[a_]at hF; dsimp only[ak,aj]at hF
   refine aD ?_
   refine bnd hF fun r8 bQ hF=>aA (eX bQ) (fun _=>?_)
   refine aB ?_
   rcases bi (!r8)with bM|bM
   · rw[bM]
     try rw[bM]at hF; dsimp only[ak,aj]at hF
     exact aP hF
   rw[bM]
   try rw[bM]at hF; dsimp only[ak,aj]at hF
   refine bU ?_
   refine bnd hF fun bO eD hF=>aA (eX eD) (fun _=>?_)
   exact aP hF
 rintro _ _ ⟨c15,Qv,rfl,rfl,hE⟩
 replace hF:=hO3
 try dsimp only at hF
 refine bz hE ?_
 refine Ci hF (fun Br hF=>?_) (fun Br hF=>?_)
 · exact ze hF
 refine aD ?_
 refine bI (bY (m:=bE.Map.length) (fun m17 f' cs'=>∃(g:Fr)(k19:Nat)(qP:List Int),m17=qP.length/\f'=aH g [(1,(pz k1)),(3,(zi (k19:Int)))]/\List.drop k19 bE.Map=qP/\aF cs' [cu k1 47 (zg [(zi bE.From),(zi bE.To),nV.v]),aC nV bE.Map]/\sQ bE fuel qP k19=some R) ⟨_,0,_,rfl,aN,rfl,aL,hF⟩ ?_)
 rintro m17 _ _ ⟨g18,k19,qP,rfl,rfl,PE,hE,hF⟩
 refine Kb hE bE.Map (fun acu=>?_)
 rcases qP with _|⟨Qu,qP⟩
 · have ZV:=dn PE
   rw[sQ]at hF
   refine dh ?_
   refine dI ?_
   refine aB ?_
   refine fV [0,1,5,6,10,11,2,3,4,7,8,9,12,13,14] [0,1,3,7,15,0,32,103,255,511,0,1024,3303,8191,16383] [2,7,12] mixed (by decide+kernel) ?_
   refine uE ?_
   refine bnd hF fun mR hx29 hF=>cZ (jH hx29) (fun _=>?_)
   refine bnd hF fun x31 hx32 hF=>?_
   obtain⟨PG,PH⟩:=bq hx32
   refine bg rfl .no (fun ha=>bu (s:=[114]) (t:=mR) (u:=x31) (EN ha (.sv _) rfl) (EN ha (.tmp rfl rfl) rfl) hx32) ?_
   refine bnd hF fun r_ kZ hF=>?_
   obtain⟨ZW,ZX⟩:=bq kZ
   refine bg rfl .no (fun ha=>bu (s:=x31) (t:=[32,103,105,118,101,115,32,114]) (u:=r_) (EN ha (.tmp rfl rfl) rfl) (EN ha (.sv _) rfl) kZ) ?_
   refine bnd hF fun eG kY hF=>cZ (jH kY) (fun _=>?_)
   refine bnd hF fun ic il hF=>?_
   obtain⟨EG,EH⟩:=bq il
   refine bg rfl .no (fun ha=>bu (s:=r_) (t:=eG) (u:=ic) (EN ha (.tmp rfl rfl) rfl) (EN ha (.tmp rfl rfl) rfl) il) ?_
   refine bnd hF fun lN kK hF=>?_
   obtain⟨Px,Py⟩:=bq kK
   refine bg rfl .no (fun ha=>bu (s:=ic) (t:=[32]) (u:=lN) (EN ha (.tmp rfl rfl) rfl) (EN ha (.sv _) rfl) kK) ?_
   refine bnd hF fun iq mO hF=>cZ (Gi mO) (fun _=>?_)
   refine bnd hF fun pM Bt hF=>?_
   obtain⟨ZY,ZZ⟩:=bq Bt
   refine bg rfl .no (fun ha=>bu (s:=lN) (t:=iq) (u:=pM) (EN ha (.tmp rfl rfl) rfl) (EN ha (.tmp rfl rfl) rfl) Bt) ?_
   refine fA ?_
   exact ze hF
 obtain⟨ZV,hx24,hd25⟩:=dC PE
 rw[sQ]at hF
 refine dh ?_
 refine dH ?_
 refine bC ?_
 refine Ai hx24 (fun k57 j58=>?_)
 refine Al dw ?_
 refine bnd hF fun uN yu hF=>aA (eX yu) (fun _=>?_)
 refine aI ?_
 refine Ci hF (fun vZ hF=>?_) (fun vZ hF=>?_)
 · exact ze hF
 refine bC ?_
 rw[wk k19]
 exact⟨_,cK _,_,k19+1,qP,rfl,aN,hd25,aL,hF⟩
def sZ(aa:List Int)(aM:List UInt8)(fuel:Nat)(gM:Int)(gD:Int):List (List UInt8)->Nat->(List Int)->Option (eU×Bool)
 |[],si,kN=>((zS aa (⟨gM,gD,kN⟩:eU)).bind fun IA=>
     bif (!IA)then (some true)
     else ((zl fuel (⟨gM,gD,kN⟩:eU)).bind fun IB=>
       some (!(IB==aM)))).bind fun IC=>
   match IC with
   |jN=>if jN then (
       some ((⟨0,0,[]⟩:eU),false))
     else (
       some ((⟨gM,gD,kN⟩:eU),true))
 |x96::qQ,si,kN=>(jW fuel x96).bind fun EO=>
   (app kN ([EO]:List Int)).bind fun PI=>
   sZ aa aM fuel gM gD qQ (si+1) PI
def zu(fuel:Nat)(aa:List Int)(aM:List UInt8):Option (eU×Bool):=
 (oN aM (32:UInt8)).bind fun r2=>
 if (((r2.length:Int):Int)!=4)then (
   some ((⟨0,0,[]⟩:eU),false))
 else (
   (ix r2 0).bind fun x5=>
   (ix r2 2).bind fun iP=>
   (nC fuel x5).bind fun gM=>
   (nC fuel iP).bind fun gD=>
   (ix r2 3).bind fun x24=>
   (oN x24 (44:UInt8)).bind fun fC=>
   sZ aa aM fuel gM gD fC 0 ([]:List Int))
theorem Sj{fuel:Nat}{aa:List Int}{ae:Sv}{aM:List UInt8}{R:eU×Bool}(hF:zu fuel aa aM=some R):
   Fw.Spec Tryz.prog 22 [ae.v,(sv aM)] [aC ae aa] (fun p:Sv×List Nat=>(.tuple [(zg [(zi R.1.From),(zi R.1.To),p.1.v]),(.bool R.2)].toArray)) (fun p=>[bR p.2 p.1 R.1.Map]):=by
 refine Se 57 Tryz.func22 [.cell 4 47,.tmp 5] ?_
 intro H0 F0
 unfold zu at hF
 refine au ?_
 refine fD (fun k1=>?_)
 refine aB ?_
 refine bnd hF fun r2 hx3 hF=>dM (vC hx3) (fun p4=>?_)
 refine dh ?_
 refine Ci hF (fun XH hF=>?_) (fun XH hF=>?_)
 · refine au ?_
   refine ai (fM lG.h rfl (vs:=[]) .nil (cells:=[(zi 0),(zi 0),(.slice none 0 0)]) rfl) ?_
   refine As (zg [(zi 0),(zi 0),(.slice none 0 0)]) ?_
   refine ay ?_
   cases hF
   exact dO (⟨none,0,0⟩,[]) (.cellA rfl rfl .h rfl yn.h lG.h.sz rfl rfl (.tmp rfl rfl .nil)) rfl (.conv .nil (dK (Ro:=(aR aY)) (E:=3)) (.cons .nil) (.sel (.cons .h .nil)))
 refine au ?_
 refine nI .h dm ?_
 refine fV [0,1,2,4,5,6,9,3,7,8,10] [0,1,3,7,0,16,48,127,255,0,1023] [3,7,10] mixed (by decide+kernel) ?_
 refine du ?_
 refine zI hF fun x5 hp7 iG hF=>?_
 refine Di iG (fun k9 j10=>?_)
 refine Dl eZ ?_
 refine du ?_
 refine zI hF fun iP ZR j4 hF=>?_
 refine Di j4 (fun k15 j16=>?_)
 refine Dl eZ ?_
 refine q8 rfl .no rfl (fun ha=>zQ (g:=true) lG.h rfl rfl) (fun k17=>?_)
 refine bnd hF fun gM mK hF=>mD rfl rfl .no .nil (.own .h (fun _ h=>h) .nil) (fun ha=>bZ HZ.h (.cons (EN ha (.tmp rfl rfl) rfl) .nil) (zC mK)) (fun _=>?_)
 refine bnd hF fun gD rO hF=>mD rfl rfl .no .nil (.own .h (fun _ h=>h) .nil) (fun ha=>bZ HZ.h (.cons (EN ha (.tmp rfl rfl) rfl) .nil) (zC rO)) (fun _=>?_)
 refine bg rfl .no (fun ha=>fM lG.h rfl (vs:=[(zi gM),(zi gD)]) (.cons (EN ha (.tmp rfl rfl) rfl) (.cons (EN ha (.tmp rfl rfl) rfl) .nil)) (cells:=[(zi gM),(zi gD),(.slice none 0 0)]) rfl) ?_
 refine iw rfl rfl .no (.cons .h .nil) (.dep rfl .nil) (fun ha=>jV (e':=(zg [(zi gM),(zi gD),(.slice none 0 0)])) (v:=(zg [(zi gM),(zi gD),(.slice none 0 0)])) lG.h.sz (EN ha (.tmp rfl rfl) rfl) (EN ha (.tmp rfl rfl) rfl) rfl rfl rfl rfl rfl) (fun _=>?_)
 refine du ?_
 refine aI ?_
 refine zI hF fun x24 adU hx27 hF=>?_
 refine Ai hx27 (fun k28 j29=>?_)
 refine Al eZ ?_
 refine bnd hF fun fC hx31 hF=>dM (vC hx31) (fun p32=>?_)
 refine bC ?_
 refine bI (nI .h dm ?_)
 refine bY (m:=fC.length) (fun Qw f' cs'=>∃(g:Fr)(si:Nat)(qQ:List (List UInt8))(kN:List Int)(v89:Sv)(FK:List Nat),Qw=qQ.length/\f'=aH g [(0,ae.v),(1,(sv aM)),(4,(pz k1)),(7,(pz k17)),(8,p32.1.v),(9,(zi (si:Int)))]/\List.drop si fC=qQ/\aF cs' [aC ae aa,bV k1 47 (zg [(zi 0),(zi 0),(.slice none 0 0)]),bV k17 47 (zg [(zi gM),(zi gD),v89.v]),bR FK v89 kN,iY p32.1 fC]/\sZ aa aM fuel gM gD qQ si kN=some R) ⟨_,0,_,_,⟨none,0,0⟩,[],rfl,aN,rfl,(.conv .nil (dK (Ro:=(aR aY)) (E:=3)) (.cons .nil) aL),hF⟩ ?_
 rintro Qw _ _ ⟨g93,si,qQ,kN,v89,FK,rfl,rfl,PK,hE,hF⟩
 refine Kb hE fC (fun abv=>?_)
 rcases qQ with _|⟨x96,qQ⟩
 · have Z0:=dn PK
   rw[sZ]at hF
   refine bU ?_
   refine dI ?_
   refine aD ?_
   obtain⟨IC,VP,XI⟩:=bind_some hF
   refine au ?_
   refine b_ (fun f' cs'=>∃(jN:Bool)(g:Fr),jN=IC/\f'=aH g [(4,(pz k1)),(7,(pz k17)),(54,(.bool jN))]/\aF cs' [bV k1 47 (zg [(zi 0),(zi 0),(.slice none 0 0)]),bV k17 47 (zg [(zi gM),(zi gD),v89.v]),bR FK v89 kN]) ?_ ?_
   · replace hF:=VP
     refine aI ?_
     refine bnd hF fun IA Em hF=>cB (.cons .q3 (.rd .h rfl .nil)) (gL dm (fun _=>.nil) (nE (.rd (.t .h) rfl (.rd .h rfl .nil)) (bZ Zd.h bJ (Tt Em)))) (fun _=>?_)
     refine aI ?_
     rcases bi (!IA)with AB|AB
     · rw[AB]
       try rw[AB]at hF; dsimp only[ak,aj]at hF
       exact aP hF
     rw[AB]
     try rw[AB]at hF; dsimp only[ak,aj]at hF
     refine ay ?_
     refine bnd hF fun IB En hF=>cB (.cons .h .nil) (gL dm (fun _=>.nil) (bZ Ze.h bJ (RS En))) (fun _=>?_)
     refine ay ?_
     refine ai (jI (s:=IB) (t:=aM) (.tmp rfl rfl) (.tmp rfl rfl)) ?_
     exact aP hF
   rintro _ _ ⟨jN,adV,rfl,rfl,hE⟩
   replace hF:=XI
   try dsimp only at hF
   refine bz hE ?_
   refine Ci hF (fun XJ hF=>?_) (fun XJ hF=>?_)
   · refine au ?_
     refine ai (fM lG.h rfl (vs:=[]) .nil (cells:=[(zi 0),(zi 0),(.slice none 0 0)]) rfl) ?_
     refine As (zg [(zi 0),(zi 0),(.slice none 0 0)]) ?_
     refine ay ?_
     cases hF
     exact dO (⟨none,0,0⟩,[]) (.cellA rfl rfl .h rfl yn.h lG.h.sz rfl rfl (.tmp rfl rfl .nil)) rfl (.conv .nil (dK (Ro:=(aR aY)) (E:=3)) (.cons .nil) (.sel (.cons .h .nil)))
   refine ay ?_
   refine As (zg [(zi gM),(zi gD),v89.v]) ?_
   refine ay ?_
   cases hF
   exact dO (v89,FK) (.cellA rfl rfl .h rfl yn.h lG.h.sz rfl rfl (.tmp rfl rfl .nil)) rfl (.sel (.cons .q2 .nil))
 obtain⟨Z0,hx99,XK⟩:=dC PK
 rw[sZ]at hF
 refine bU ?_
 refine dH ?_
 refine aI ?_
 refine uk [0,1,2,3,4,5,6,7,8,9,10] [0,1,0,0,12,28,60,124,255,511,1023] [6,8,10] mixed (by decide+kernel) ?_
 refine du ?_
 refine oU rfl .no .q2 (fun ha hp=>lm (v:=v89.v) uC.h (EN ha (.tmp rfl rfl) rfl) hp.2 rfl rfl) ?_
 refine fA ?_
 refine Di hx99 (fun adW adX=>?_)
 refine Dl eZ ?_
 refine bnd hF fun EO Hf hF=>mD rfl rfl .no .nil (.own .q3 (fun _ h=>h) .nil) (fun ha=>bZ ym.h (.cons (EN ha (.tmp rfl rfl) rfl) .nil) (qm Hf)) (fun _=>?_)
 refine q8 rfl .no rfl (fun ha=>eH (g:=true) (len:=1) (parts:=[(0,.tmp 41)]) eB.h dU.h (.cons (EN ha (.tmp rfl rfl) rfl) .nil) (vs:=[(zi EO)]) rfl rfl rfl (by intro v hv; simp at hv; rcases hv with rfl<;>rfl)) (fun adY=>?_)
 refine B_ (.cons .h .nil) (eT (Ro:=(aR aY)) (E:=3) (F:=([]++[])) (xs:=([EO]:List Int)) (fK (iL (fun _=>rfl)) eQ dE) rfl rfl) ?_
 refine bnd hF fun PI Hg hF=>iw rfl rfl .no (.cons .q5 (.cons .h .nil)) (.dep rfl (.dep rfl .nil)) (fun ha=>iJ (Ro:=(aR aY)) eB.h lY dU.h rfl rfl rfl (EN ha (.tmp rfl rfl) rfl) (EN ha (.tmp rfl rfl) rfl) Hg iM) (fun IE=>?_)
 refine du ?_
 refine iw rfl rfl .no (.cons .q4 .nil) (.dep rfl (.dep rfl .nil)) (fun ha=>jV (e':=(zg [(zi gM),(zi gD),IE.1.v])) A8.h.sz (EN ha (.tmp rfl rfl) rfl) (EN ha (.tmp rfl rfl) rfl) rfl rfl rfl rfl rfl) (fun _=>?_)
 refine du ?_
 refine aD ?_
 rw[wk si]
 exact⟨_,cK _,_,si+1,qQ,_,IE.1,IE.2,rfl,aN,XK,aL,hF⟩
def oJ(aa:List UInt8):Nat->Int->Option ((List UInt8)×(List (List UInt8)))
 |0,_=>none
 |m2+1,c1=>if (decide ((c1:Int)<(aa.length:Int)))then (
     ((ix aa c1).bind fun FL=>
       bif (((FL.toNat:Int):Int)==40)then ((ix aa (IntKind.i64.wrap ((aa.length:Int)-1))).bind fun wG=>
         some (((wG.toNat:Int):Int)==41))
       else (some false)).bind fun wL=>
     match wL with
     |c21=>if c21 then (
         (kg (decide (0<=c1)&&decide (c1<=((aa).length:Int)))).bind fun u23=>
         (kg (decide (0<=(IntKind.i64.wrap (c1+1)))&&decide ((IntKind.i64.wrap (c1+1))<=(IntKind.i64.wrap ((aa.length:Int)-1)))&&decide ((IntKind.i64.wrap ((aa.length:Int)-1))<=((aa).length:Int)))).bind fun u26=>
         (oN ((aa.take ((IntKind.i64.wrap ((aa.length:Int)-1))).toNat).drop ((IntKind.i64.wrap (c1+1))).toNat) (44:UInt8)).bind fun mR=>
         some ((aa.take (c1).toNat),mR))
       else (
         oJ aa m2 (IntKind.i64.wrap (c1+1))))
   else (
     some ([],([]:List (List UInt8))))
def xH(aa:List UInt8):Option ((List UInt8)×(List (List UInt8))):=
 oJ aa (((aa.length:Int)-0).toNat+2) 0
theorem Mq{aa:List UInt8}{R:(List UInt8)×(List (List UInt8))}(hF:xH aa=some R):
   Fw.Spec Tryz.prog 42 [(sv aa)] [] (fun p:Sv×List Nat=>(.tuple [(sv R.1),p.1.v].toArray)) (fun p=>[uL p.2 p.1 R.2]):=by
 refine Se 35 Tryz.func42 [.tmp 2,.tmp 3] ?_
 intro H0 F0
 unfold xH at hF
 refine dh ?_
 refine bI (bY (m:=(((aa.length:Int)-0).toNat+2)) (fun m2 f' cs'=>∃(g:Fr)(c1:Int),f'=aH g [(0,(sv aa)),(4,(zi c1))]/\aF cs' []/\oJ aa m2 c1=some R) ⟨_,_,aN,aL,hF⟩ ?_)
 rintro m2 _ _ ⟨g3,c1,rfl,hE,hF⟩
 refine bz hE ?_
 rcases m2 with _|m2
 · rw[oJ]at hF
   exact absurd hF (by simp)
 rw[oJ]at hF
 refine aB ?_
 refine ai (iK (s:=aa) dN (.tmp rfl rfl)) ?_
 refine aI ?_
 refine Ci hF (fun IG hF=>?_) (fun IG hF=>?_)
 · refine aI ?_
   obtain⟨wL,Hl,II⟩:=bind_some hF
   refine au ?_
   refine b_ (fun f' cs'=>∃(c21:Bool)(g:Fr),c21=wL/\f'=aH g [(0,(sv aa)),(4,(zi c1)),(22,(.bool c21))]/\aF cs' []) ?_ ?_
   · replace hF:=Hl
     refine aI ?_
     refine zI hF fun FL EP jM hF=>?_
     refine ai (qp (u:=FL) dN (.tmp rfl rfl) (.tmp rfl rfl) EP jM) ?_
     refine aI ?_
     rcases bi (((FL.toNat:Int):Int)==40)with gz|gz
     · rw[gz]
       try rw[gz]at hF; dsimp only[ak,aj]at hF
       refine aD ?_
       refine ai (iK (s:=aa) dN (.tmp rfl rfl)) ?_
       refine ay ?_
       refine zI hF fun wG Ba ik hF=>?_
       refine ai (qp (u:=wG) dN (.tmp rfl rfl) (.tmp rfl rfl) Ba ik) ?_
       exact aP hF
     rw[gz]
     try rw[gz]at hF; dsimp only[ak,aj]at hF
     exact aP hF
   rintro _ _ ⟨c21,g32,rfl,rfl,hE⟩
   replace hF:=II
   try dsimp only at hF
   refine bz hE ?_
   refine Ci hF (fun IJ hF=>?_) (fun IJ hF=>?_)
   · refine fV [0,1,2,3,4,5,6,7,8,9,10,11,12] [0,0,3,0,0,16,0,64,192,504,1016,2047,4095] [10] mixed (by decide+kernel) ?_
     refine fA ?_
     refine bnd hF fun u23 hx24 hF=>?_
     have hc22:=mi hx24
     simp only[Bool.and_eq_true,decide_eq_true_eq]at hc22
     refine bg rfl .no (fun ha=>Dt (s:=aa) (j:=c1) dN (EN ha (.tmp rfl rfl) rfl) (EN ha (.tmp rfl rfl) rfl) hc22.1 hc22.2) ?_
     refine rE ?_
     refine bg rfl .no (fun ha=>iK (s:=aa) dN (EN ha (.tmp rfl rfl) rfl)) ?_
     refine du ?_
     refine bnd hF fun u26 hx27 hF=>?_
     have hc25:=mi hx27
     simp only[Bool.and_eq_true,decide_eq_true_eq]at hc25
     refine bg rfl .no (fun ha=>M6 (s:=aa) (i:=(IntKind.i64.wrap (c1+1))) (j:=(IntKind.i64.wrap ((aa.length:Int)-1))) dN (EN ha (.tmp rfl rfl) rfl) (EN ha (.tmp rfl rfl) rfl) (EN ha (.tmp rfl rfl) rfl) hc25.1.1 hc25.1.2 hc25.2) ?_
     refine bnd hF fun mR hx29 hF=>Qm (vC hx29) (fun p30=>?_)
     refine gZ ?_
     refine au ?_
     cases hF
     exact Er (p30.1,p30.2)
   refine bC ?_
   exact⟨m2,cK _,_,_,aN,aL,hF⟩
 refine aD ?_
 refine fI rfl (eH (g:=true) gY.h iF.h .nil (vs:=[]) rfl rfl rfl (by simp)) (fun yI=>?_)
 refine fT (.cons .h .nil) (eT (Ro:=(aR rdStr)) (E:=9) (F:=[]) (xs:=([]:List (List UInt8))) eQ rfl rfl) ?_
 refine aB ?_
 cases hF
 exact Er (⟨(some ⟨yI,0,none⟩),0,1⟩,(yI::[]))
def vo:List Int->Nat->Option (Bool)
 |[],k22=>some true
 |x24::jv,k22=>(dL x24 0 9).bind fun gB=>
   if (!gB)then (
     some false)
   else (
     vo jv (k22+1))
def zT(aa:List Int)(bS:Fact):Option (Bool):=
 ((qo aa).bind fun r4=>
   bif (!r4)then (some true)
   else ((dL bS.Rel 0 (IntKind.i64.wrap ((aa.length:Int)-1))).bind fun r8=>
     bif (!r8)then (some true)
     else ((ix aa bS.Rel).bind fun sj=>
       some (((bS.Values.length:Int):Int)!=sj)))).bind fun o2=>
 match o2 with
 |c18=>if c18 then (
     some false)
   else (
     vo bS.Values 0)
theorem Tu{aa:List Int}{ae:Sv}{bS:Fact}{dP:Sv}{R:Bool}(hF:zT aa bS=some R):
   Fw.Spec Tryz.prog 43 [ae.v,(zg [(zi bS.Rel),dP.v])] [aC ae aa,aC dP bS.Values] (fun _:Unit=>(.bool R)) (fun _=>[]):=by
 refine Se 43 Tryz.func43 [.tmp 4] ?_
 intro H0 F0
 unfold zT at hF
 refine au ?_
 refine fe (fun k1=>?_)
 refine ay ?_
 obtain⟨o2,fB,hO3⟩:=bind_some hF
 refine fV [0,1,2,3,4,5,6,7,8,9,10,11,12,13,14,15,16,17,18,19,20,21,22] [0,1,3,7,15,31,15,79,207,511,1023,2047,4095,8191,16383,32767,8191,8191,139263,466943,991231,2097151,4194303] [1,9] mixed (by decide+kernel) ?_
 refine oV (fun f' cs'=>∃(c18:Bool)(g:Fr),c18=o2/\f'=aH g [(3,(pz k1)),(28,(.bool c18))]/\aF cs' [cu k1 51 (zg [(zi bS.Rel),dP.v]),aC dP bS.Values]) ?_ ?_
 · replace hF:=fB
   refine du ?_
   refine bnd hF fun r4 hx5 hF=>cZ (za hx5) (fun _=>?_)
   refine fA ?_
   rcases bi (!r4)with a_|a_
   · rw[a_]
     try rw[a_]at hF; dsimp only[ak,aj]at hF
     exact fP hF
   rw[a_]
   try rw[a_]at hF; dsimp only[ak,aj]at hF
   refine A9 ?_
   refine bnd hF fun r8 bQ hF=>cZ (eX bQ) (fun _=>?_)
   refine gZ ?_
   rcases bi (!r8)with bM|bM
   · rw[bM]
     try rw[bM]at hF; dsimp only[ak,aj]at hF
     exact fP hF
   rw[bM]
   try rw[bM]at hF; dsimp only[ak,aj]at hF
   refine uE ?_
   refine zI hF fun sj EP jM hF=>?_
   refine Di jM (fun k16 Fz=>?_)
   refine Dl dw ?_
   exact fP hF
 rintro _ _ ⟨c18,JV,rfl,rfl,hE⟩
 replace hF:=hO3
 try dsimp only at hF
 refine bz hE ?_
 refine Ci hF (fun nT hF=>?_) (fun nT hF=>?_)
 · exact ze hF
 refine aD ?_
 refine bI (bY (m:=bS.Values.length) (fun m20 f' cs'=>∃(g:Fr)(k22:Nat)(jv:List Int),m20=jv.length/\f'=aH g [(3,(pz k1)),(5,(zi (k22:Int)))]/\List.drop k22 bS.Values=jv/\aF cs' [cu k1 51 (zg [(zi bS.Rel),dP.v]),aC dP bS.Values]/\vo jv k22=some R) ⟨_,0,_,rfl,aN,rfl,aL,hF⟩ ?_)
 rintro m20 _ _ ⟨g21,k22,jv,rfl,rfl,hd25,hE,hF⟩
 refine Kb hE bS.Values (fun XL=>?_)
 rcases jv with _|⟨x24,jv⟩
 · have IL:=dn hd25
   rw[vo]at hF
   refine dh ?_
   refine dI ?_
   exact ze hF
 obtain⟨IL,hx27,hd28⟩:=dC hd25
 rw[vo]at hF
 refine dh ?_
 refine dH ?_
 refine bC ?_
 refine Ai hx27 (fun JW j32=>?_)
 refine Al dw ?_
 refine bnd hF fun gB hx34 hF=>aA (eX hx34) (fun _=>?_)
 refine aI ?_
 refine Ci hF (fun Bu hF=>?_) (fun Bu hF=>?_)
 · exact ze hF
 refine bC ?_
 rw[wk k22]
 exact⟨_,cK _,_,k22+1,jv,rfl,aN,hd28,aL,hF⟩
def sS(bS:Fact)(fuel:Nat):List Int->Nat->Option ((List UInt8))
 |[],k15=>(fF fuel bS.Rel).bind fun gV=>
   (aO [114] gV).bind fun x27=>
   (aO x27 [40]).bind fun x31=>
   (vH fuel bS.Values).bind fun jR=>
   (aO x31 jR).bind fun x38=>
   (aO x38 [41]).bind fun ic=>
   some ic
 |mP::jw,k15=>(dL mP 0 9).bind fun mU=>
   if (!mU)then (
     some [])
   else (
     sS bS fuel jw (k15+1))
def zm(fuel:Nat)(bS:Fact):Option ((List UInt8)):=
 ((dL bS.Rel 0 2).bind fun r4=>
   bif (!r4)then (some true)
   else ((dL (bS.Values.length:Int) 1 3).bind fun r8=>
     some (!r8))).bind fun o2=>
 match o2 with
 |c11=>if c11 then (
     some [])
   else (
     sS bS fuel bS.Values 0)
theorem RU{fuel:Nat}{bS:Fact}{bA:Sv}{R:(List UInt8)}(hF:zm fuel bS=some R):
   Fw.Spec Tryz.prog 44 [(zg [(zi bS.Rel),bA.v])] [aC bA bS.Values] (fun _:Unit=>(sv R)) (fun _=>[]):=by
 refine Se 39 Tryz.func44 [.tmp 2] ?_
 intro H0 F0
 unfold zm at hF
 refine au ?_
 refine fe (fun k1=>?_)
 refine ay ?_
 obtain⟨o2,fB,hO3⟩:=bind_some hF
 refine au ?_
 refine b_ (fun f' cs'=>∃(c11:Bool)(g:Fr),c11=o2/\f'=aH g [(1,(pz k1)),(14,(.bool c11))]/\aF cs' [cu k1 51 (zg [(zi bS.Rel),bA.v]),aC bA bS.Values]) ?_ ?_
 · replace hF:=fB
   refine aI ?_
   refine bnd hF fun r4 hx5 hF=>aA (eX hx5) (fun _=>?_)
   refine aI ?_
   rcases bi (!r4)with a_|a_
   · rw[a_]
     try rw[a_]at hF; dsimp only[ak,aj]at hF
     exact aP hF
   rw[a_]
   try rw[a_]at hF; dsimp only[ak,aj]at hF
   refine bU ?_
   refine bnd hF fun r8 bQ hF=>aA (eX bQ) (fun _=>?_)
   exact aP hF
 rintro _ _ ⟨c11,Qr,rfl,rfl,hE⟩
 replace hF:=hO3
 try dsimp only at hF
 refine bz hE ?_
 refine Ci hF (fun Be hF=>?_) (fun Be hF=>?_)
 · exact ze hF
 refine aD ?_
 refine bI (bY (m:=bS.Values.length) (fun m13 f' cs'=>∃(g:Fr)(k15:Nat)(jw:List Int),m13=jw.length/\f'=aH g [(1,(pz k1)),(3,(zi (k15:Int)))]/\List.drop k15 bS.Values=jw/\aF cs' [cu k1 51 (zg [(zi bS.Rel),bA.v]),aC bA bS.Values]/\sS bS fuel jw k15=some R) ⟨_,0,_,rfl,aN,rfl,aL,hF⟩ ?_)
 rintro m13 _ _ ⟨g14,k15,jw,rfl,rfl,Bv,hE,hF⟩
 refine Kb hE bS.Values (fun XM=>?_)
 rcases jw with _|⟨mP,jw⟩
 · have IM:=dn Bv
   rw[sS]at hF
   refine dh ?_
   refine dI ?_
   refine aB ?_
   refine fV [0,1,5,6,2,3,4,7,8,9,10] [0,1,3,7,15,0,32,103,255,511,1023] [2,7] mixed (by decide+kernel) ?_
   refine rE ?_
   refine bnd hF fun gV hx25 hF=>cZ (jH hx25) (fun _=>?_)
   refine bnd hF fun x27 hx28 hF=>?_
   obtain⟨IP,IQ⟩:=bq hx28
   refine bg rfl .no (fun ha=>bu (s:=[114]) (t:=gV) (u:=x27) (EN ha (.sv _) rfl) (EN ha (.tmp rfl rfl) rfl) hx28) ?_
   refine bnd hF fun x31 hx32 hF=>?_
   obtain⟨PG,PH⟩:=bq hx32
   refine bg rfl .no (fun ha=>bu (s:=x27) (t:=[40]) (u:=x31) (EN ha (.tmp rfl rfl) rfl) (EN ha (.sv _) rfl) hx32) ?_
   refine bnd hF fun jR kZ hF=>cZ (Gi kZ) (fun _=>?_)
   refine bnd hF fun x38 hx39 hF=>?_
   obtain⟨Ij,Ik⟩:=bq hx39
   refine bg rfl .no (fun ha=>bu (s:=x31) (t:=jR) (u:=x38) (EN ha (.tmp rfl rfl) rfl) (EN ha (.tmp rfl rfl) rfl) hx39) ?_
   refine bnd hF fun ic il hF=>?_
   obtain⟨EG,EH⟩:=bq il
   refine bg rfl .no (fun ha=>bu (s:=x38) (t:=[41]) (u:=ic) (EN ha (.tmp rfl rfl) rfl) (EN ha (.sv _) rfl) il) ?_
   refine fA ?_
   exact ze hF
 obtain⟨IM,ik,yz⟩:=dC Bv
 rw[sS]at hF
 refine dh ?_
 refine dH ?_
 refine bC ?_
 refine Ai ik (fun pQ FJ=>?_)
 refine Al dw ?_
 refine bnd hF fun mU lH hF=>aA (eX lH) (fun _=>?_)
 refine aI ?_
 refine Ci hF (fun Bw hF=>?_) (fun Bw hF=>?_)
 · exact ze hF
 refine bC ?_
 rw[wk k15]
 exact⟨_,cK _,_,k15+1,jw,rfl,aN,yz,aL,hF⟩
def tu(aa:List Int)(aM:List UInt8)(fuel:Nat)(r5:Int):List (List UInt8)->Nat->(List Int)->Option (Fact×Bool)
 |[],pR,c64=>((zT aa (⟨r5,c64⟩:Fact)).bind fun JX=>
     bif (!JX)then (some true)
     else ((zm fuel (⟨r5,c64⟩:Fact)).bind fun JY=>
       some (!(JY==aM)))).bind fun JZ=>
   match JZ with
   |kN=>if kN then (
       some ((⟨0,[]⟩:Fact),false))
     else (
       some ((⟨r5,c64⟩:Fact),true))
 |wK::qR,pR,c64=>(jW fuel wK).bind fun uQ=>
   (app c64 ([uQ]:List Int)).bind fun Qx=>
   tu aa aM fuel r5 qR (pR+1) Qx
def xg(fuel:Nat)(aa:List Int)(aM:List UInt8):Option (Fact×Bool):=
 (xH aM).bind fun r2=>
 (nC fuel r2.1).bind fun r5=>
 tu aa aM fuel r5 r2.2 0 ([]:List Int)
theorem Li{fuel:Nat}{aa:List Int}{ae:Sv}{aM:List UInt8}{R:Fact×Bool}(hF:xg fuel aa aM=some R):
   Fw.Spec Tryz.prog 23 [ae.v,(sv aM)] [aC ae aa] (fun p:Sv×List Nat=>(.tuple [(zg [(zi R.1.Rel),p.1.v]),(.bool R.2)].toArray)) (fun p=>[bR p.2 p.1 R.1.Values]):=by
 refine Se 46 Tryz.func23 [.cell 4 51,.tmp 5] ?_
 intro H0 F0
 unfold xg at hF
 refine au ?_
 refine fD (fun k1=>?_)
 refine aB ?_
 refine bnd hF fun r2 hx3 hF=>dM (Mq hx3) (fun p4=>?_)
 refine au ?_
 refine zx ?_
 refine zx ?_
 refine aD ?_
 refine bnd hF fun r5 hx6 hF=>aA (zC hx6) (fun _=>?_)
 refine ai (fM uD.h rfl (vs:=[(zi r5)]) bJ (cells:=[(zi r5),(.slice none 0 0)]) rfl) ?_
 refine fD (fun k8=>?_)
 refine As (zg [(zi r5),(.slice none 0 0)]) ?_
 refine aD ?_
 refine bI (nI (.t .h) dm ?_)
 refine bY (m:=r2.2.length) (fun Qy f' cs'=>∃(g:Fr)(pR:Nat)(qR:List (List UInt8))(c64:List Int)(v65:Sv)(FM:List Nat),Qy=qR.length/\f'=aH g [(0,ae.v),(1,(sv aM)),(4,(pz k1)),(7,p4.1.v),(8,(pz k8)),(9,(zi (pR:Int)))]/\List.drop pR r2.2=qR/\aF cs' [aC ae aa,bV k1 51 (zg [(zi 0),(.slice none 0 0)]),iY p4.1 r2.2,bV k8 51 (zg [(zi r5),v65.v]),bR FM v65 c64]/\tu aa aM fuel r5 qR pR c64=some R) ⟨_,0,_,_,⟨none,0,0⟩,[],rfl,aN,rfl,(.conv .nil (dK (Ro:=(aR aY)) (E:=3)) (.cons .nil) aL),hF⟩ ?_
 rintro Qy _ _ ⟨g69,pR,qR,c64,v65,FM,rfl,rfl,PL,hE,hF⟩
 refine Kb hE r2.2 (fun acv=>?_)
 rcases qR with _|⟨wK,qR⟩
 · have Z4:=dn PL
   rw[tu]at hF
   refine bU ?_
   refine dI ?_
   refine aD ?_
   obtain⟨JZ,XN,Z5⟩:=bind_some hF
   refine au ?_
   refine b_ (fun f' cs'=>∃(kN:Bool)(g:Fr),kN=JZ/\f'=aH g [(4,(pz k1)),(8,(pz k8)),(43,(.bool kN))]/\aF cs' [bV k1 51 (zg [(zi 0),(.slice none 0 0)]),bV k8 51 (zg [(zi r5),v65.v]),bR FM v65 c64]) ?_ ?_
   · replace hF:=XN
     refine aI ?_
     refine bnd hF fun JX Z6 hF=>cB (.cons .q4 (.rd .h rfl .nil)) (gL dm (fun _=>.nil) (nE (.rd (.t .h) rfl (.rd .h rfl .nil)) (bZ Zf.h bJ (Tu Z6)))) (fun _=>?_)
     refine aI ?_
     rcases bi (!JX)with Bz|Bz
     · rw[Bz]
       try rw[Bz]at hF; dsimp only[ak,aj]at hF
       exact aP hF
     rw[Bz]
     try rw[Bz]at hF; dsimp only[ak,aj]at hF
     refine ay ?_
     refine bnd hF fun JY EQ hF=>cB (.cons .h .nil) (gL dm (fun _=>.nil) (bZ Zg.h bJ (RU EQ))) (fun _=>?_)
     refine ay ?_
     refine ai (jI (s:=JY) (t:=aM) (.tmp rfl rfl) (.tmp rfl rfl)) ?_
     exact aP hF
   rintro _ _ ⟨kN,g90,rfl,rfl,hE⟩
   replace hF:=Z5
   try dsimp only at hF
   refine bz hE ?_
   refine Ci hF (fun Z7 hF=>?_) (fun Z7 hF=>?_)
   · refine au ?_
     refine ai (fM uD.h rfl (vs:=[]) .nil (cells:=[(zi 0),(.slice none 0 0)]) rfl) ?_
     refine As (zg [(zi 0),(.slice none 0 0)]) ?_
     refine ay ?_
     cases hF
     exact dO (⟨none,0,0⟩,[]) (.cellA rfl rfl .h rfl Ev.h uD.h.sz rfl rfl (.tmp rfl rfl .nil)) rfl (.conv .nil (dK (Ro:=(aR aY)) (E:=3)) (.cons .nil) (.sel (.cons .h .nil)))
   refine ay ?_
   refine As (zg [(zi r5),v65.v]) ?_
   refine ay ?_
   cases hF
   exact dO (v65,FM) (.cellA rfl rfl .h rfl Ev.h uD.h.sz rfl rfl (.tmp rfl rfl .nil)) rfl (.sel (.cons .q2 .nil))
 obtain⟨Z4,ER,Z8⟩:=dC PL
 rw[tu]at hF
 refine bU ?_
 refine dH ?_
 refine aI ?_
 refine uk [0,1,2,3,4,5,6,7,8,9,10] [0,1,0,0,12,28,60,124,255,511,1023] [6,8,10] mixed (by decide+kernel) ?_
 refine du ?_
 refine oU rfl .no .q3 (fun ha hp=>lm (v:=v65.v) uC.h (EN ha (.tmp rfl rfl) rfl) hp.2 rfl rfl) ?_
 refine fA ?_
 refine Di ER (fun k91 j92=>?_)
 refine Dl eZ ?_
 refine bnd hF fun uQ IR hF=>mD rfl rfl .no .nil (.own .q4 (fun _ h=>h) .nil) (fun ha=>bZ ym.h (.cons (EN ha (.tmp rfl rfl) rfl) .nil) (qm IR)) (fun _=>?_)
 refine q8 rfl .no rfl (fun ha=>eH (g:=true) (len:=1) (parts:=[(0,.tmp 30)]) eB.h dU.h (.cons (EN ha (.tmp rfl rfl) rfl) .nil) (vs:=[(zi uQ)]) rfl rfl rfl (by intro v hv; simp at hv; rcases hv with rfl<;>rfl)) (fun k96=>?_)
 refine B_ (.cons .h .nil) (eT (Ro:=(aR aY)) (E:=3) (F:=([]++[])) (xs:=([uQ]:List Int)) (fK (iL (fun _=>rfl)) eQ dE) rfl rfl) ?_
 refine bnd hF fun Qx hx98 hF=>iw rfl rfl .no (.cons .q6 (.cons .h .nil)) (.dep rfl (.dep rfl .nil)) (fun ha=>iJ (Ro:=(aR aY)) eB.h lY dU.h rfl rfl rfl (EN ha (.tmp rfl rfl) rfl) (EN ha (.tmp rfl rfl) rfl) hx98 iM) (fun J2=>?_)
 refine du ?_
 refine iw rfl rfl .no (.cons .q5 .nil) (.dep rfl (.dep rfl .nil)) (fun ha=>jV (e':=(zg [(zi r5),J2.1.v])) A8.h.sz (EN ha (.tmp rfl rfl) rfl) (EN ha (.tmp rfl rfl) rfl) rfl rfl rfl rfl rfl) (fun _=>?_)
 refine du ?_
 refine aD ?_
 rw[wk pR]
 exact⟨_,cK _,_,pR+1,qR,_,J2.1,J2.2,rfl,aN,Z8,aL,hF⟩
def oH(fuel:Nat)(aa:List UInt8):Option (Int):=
 (bif (decide ((1:Int)<(aa.length:Int)))then ((ix aa 0).bind fun u4=>
     some (((u4.toNat:Int):Int)==120))
   else (some false)).bind fun o1=>
 match o1 with
 |c8=>if c8 then (
     (kg (decide (0<=(1:Int))&&decide ((1:Int)<=((aa).length:Int)))).bind fun JN=>
     (jW fuel (aa.drop ((1:Int)).toNat)).bind fun bO=>
     (dL bO 0 7).bind fun dV=>
     if dV then (
       some (IntKind.i64.wrap (10+bO)))
     else (
       some (-1)))
   else (
     (jW fuel aa).bind fun mV=>
     (dL mV 0 9).bind fun ib=>
     if (!ib)then (
       some (-1))
     else (
       some mV))
theorem K5{fuel:Nat}{aa:List UInt8}{R:Int}(hF:oH fuel aa=some R):
   Fw.Spec Tryz.prog 46 [(sv aa)] [] (fun _:Unit=>(zi R)) (fun _=>[]):=by
 refine Se 26 Tryz.func46 [.tmp 2] ?_
 intro H0 F0
 unfold oH at hF
 refine aB ?_
 obtain⟨o1,jZ,hO2⟩:=bind_some hF
 refine au ?_
 refine b_ (fun f' cs'=>∃(c8:Bool)(g:Fr),c8=o1/\f'=aH g [(0,(sv aa)),(12,(.bool c8))]/\aF cs' []) ?_ ?_
 · replace hF:=jZ
   refine au ?_
   refine ai (iK (s:=aa) dN (.tmp rfl rfl)) ?_
   refine aI ?_
   rcases bi (decide ((1:Int)<(aa.length:Int)))with hg3|hg3
   · rw[hg3]
     try rw[hg3]at hF; dsimp only[ak,aj]at hF
     refine ay ?_
     refine zI hF fun u4 JO hx7 hF=>?_
     refine ai (qp (u:=u4) dN (.tmp rfl rfl) (.int _ _) JO hx7) ?_
     exact aP hF
   rw[hg3]
   try rw[hg3]at hF; dsimp only[ak,aj]at hF
   exact aP hF
 rintro _ _ ⟨c8,g27,rfl,rfl,hE⟩
 replace hF:=hO2
 try dsimp only at hF
 refine bz hE ?_
 refine Ci hF (fun BA hF=>?_) (fun BA hF=>?_)
 · refine aI ?_
   refine bnd hF fun JN rF hF=>?_
   have wI:=mi rF
   simp only[Bool.and_eq_true,decide_eq_true_eq]at wI
   refine ai (zJ (s:=aa) (i:=(1:Int)) dN (.tmp rfl rfl) (.int _ _) wI.1 wI.2) ?_
   refine bnd hF fun bO eD hF=>aA (qm eD) (fun _=>?_)
   refine aD ?_
   refine bnd hF fun dV hx16 hF=>aA (eX hx16) (fun _=>?_)
   refine au ?_
   refine Ci hF (fun Z9 hF=>?_) (fun Z9 hF=>?_)
   · exact ze hF
   exact ze hF
 refine ay ?_
 refine bnd hF fun mV ik hF=>aA (qm ik) (fun _=>?_)
 refine aD ?_
 refine bnd hF fun ib jL hF=>aA (eX jL) (fun _=>?_)
 refine aI ?_
 refine Ci hF (fun BB hF=>?_) (fun BB hF=>?_)
 · exact ze hF
 exact ze hF
def sO(fuel:Nat)(r5:Int):List (List UInt8)->Nat->(List Int)->Option (aW)
 |[],su,ku=>some (⟨r5,ku⟩:aW)
 |yJ::qU,su,ku=>(oH fuel yJ).bind fun FN=>
   (app ku ([FN]:List Int)).bind fun z73=>
   sO fuel r5 qU (su+1) z73
def oI(fuel:Nat)(aa:List UInt8):Option (aW):=
 (xH aa).bind fun r2=>
 (nC fuel r2.1).bind fun r5=>
 sO fuel r5 r2.2 0 ([]:List Int)
theorem K6{fuel:Nat}{aa:List UInt8}{R:aW}(hF:oI fuel aa=some R):
   Fw.Spec Tryz.prog 47 [(sv aa)] [] (fun p:Sv×List Nat=>(zg [(zi R.Rel),p.1.v])) (fun p=>[bR p.2 p.1 R.Terms]):=by
 refine Se 32 Tryz.func47 [.cell 2 83] ?_
 intro H0 F0
 unfold oI at hF
 refine au ?_
 refine fD (fun k1=>?_)
 refine ay ?_
 refine bnd hF fun r2 hx3 hF=>dM (Mq hx3) (fun p4=>?_)
 refine au ?_
 refine zx ?_
 refine zx ?_
 refine aD ?_
 refine bnd hF fun r5 hx6 hF=>aA (zC hx6) (fun _=>?_)
 refine ai (fM mJ.h rfl (vs:=[(zi r5)]) bJ (cells:=[(zi r5),(.slice none 0 0)]) rfl) ?_
 refine fD (fun k8=>?_)
 refine As (zg [(zi r5),(.slice none 0 0)]) ?_
 refine aD ?_
 refine bI (nI (.t .h) dm ?_)
 refine bY (m:=r2.2.length) (fun Qz f' cs'=>∃(g:Fr)(su:Nat)(qU:List (List UInt8))(ku:List Int)(v53:Sv)(J3:List Nat),Qz=qU.length/\f'=aH g [(2,(pz k1)),(4,p4.1.v),(5,(pz k8)),(6,(zi (su:Int)))]/\List.drop su r2.2=qU/\aF cs' [bV k1 83 (zg [(zi 0),(.slice none 0 0)]),iY p4.1 r2.2,bV k8 83 (zg [(zi r5),v53.v]),bR J3 v53 ku]/\sO fuel r5 qU su ku=some R) ⟨_,0,_,_,⟨none,0,0⟩,[],rfl,aN,rfl,(.conv .nil (dK (Ro:=(aR aY)) (E:=3)) (.cons .nil) aL),hF⟩ ?_
 rintro Qz _ _ ⟨g57,su,qU,ku,v53,J3,rfl,rfl,PM,hE,hF⟩
 refine Kb hE r2.2 (fun acw=>?_)
 rcases qU with _|⟨yJ,qU⟩
 · have Z_:=dn PM
   rw[sO]at hF
   refine bU ?_
   refine dI ?_
   refine bC ?_
   refine As (zg [(zi r5),v53.v]) ?_
   refine aI ?_
   cases hF
   exact Er (v53,J3)
 obtain⟨Z_,IU,aaa⟩:=dC PM
 rw[sO]at hF
 refine bU ?_
 refine dH ?_
 refine aI ?_
 refine uk [0,1,2,3,4,5,6,7,8,9,10] [0,1,0,0,12,28,60,124,255,511,1023] [6,8,10] mixed (by decide+kernel) ?_
 refine du ?_
 refine oU rfl .no .q2 (fun ha hp=>lm (v:=v53.v) uC.h (EN ha (.tmp rfl rfl) rfl) hp.2 rfl rfl) ?_
 refine fA ?_
 refine Di IU (fun k67 j68=>?_)
 refine Dl eZ ?_
 refine bnd hF fun FN IV hF=>mD rfl rfl .no .nil (.own .q3 (fun _ h=>h) .nil) (fun ha=>bZ Pf.h (.cons (EN ha (.tmp rfl rfl) rfl) .nil) (K5 IV)) (fun _=>?_)
 refine q8 rfl .no rfl (fun ha=>eH (g:=true) (len:=1) (parts:=[(0,.tmp 27)]) eB.h dU.h (.cons (EN ha (.tmp rfl rfl) rfl) .nil) (vs:=[(zi FN)]) rfl rfl rfl (by intro v hv; simp at hv; rcases hv with rfl<;>rfl)) (fun k72=>?_)
 refine B_ (.cons .h .nil) (eT (Ro:=(aR aY)) (E:=3) (F:=([]++[])) (xs:=([FN]:List Int)) (fK (iL (fun _=>rfl)) eQ dE) rfl rfl) ?_
 refine bnd hF fun z73 aab hF=>iw rfl rfl .no (.cons .q5 (.cons .h .nil)) (.dep rfl (.dep rfl .nil)) (fun ha=>iJ (Ro:=(aR aY)) eB.h lY dU.h rfl rfl rfl (EN ha (.tmp rfl rfl) rfl) (EN ha (.tmp rfl rfl) rfl) aab iM) (fun p75=>?_)
 refine du ?_
 refine iw rfl rfl .no (.cons .q4 .nil) (.dep rfl (.dep rfl .nil)) (fun ha=>jV (e':=(zg [(zi r5),p75.1.v])) A8.h.sz (EN ha (.tmp rfl rfl) rfl) (EN ha (.tmp rfl rfl) rfl) rfl rfl rfl rfl rfl) (fun _=>?_)
 refine du ?_
 refine aD ?_
 rw[wk su]
 exact⟨_,cK _,_,su+1,qU,_,p75.1,p75.2,rfl,aN,aaa,aL,hF⟩
def xN(dG:Int):Option (Bool):=
 (dL dG 10 17).bind fun r1=>
 some r1
theorem Gv{dG:Int}{R:Bool}(hF:xN dG=some R):
   Fw.Spec Tryz.prog 102 [(zi dG)] [] (fun _:Unit=>(.bool R)) (fun _=>[]):=by
 refine Se 5 Tryz.func102 [.tmp 2] ?_
 intro H0 F0
 unfold xN at hF
 refine aD ?_
 refine bnd hF fun r1 hx2 hF=>aA (eX hx2) (fun _=>?_)
 exact ze hF
def xu(dA:Int):List Int->Nat->Option (Bool)
 |[],k4=>some false
 |x6::aK,k4=>if ((x6:Int)==dA)then (
     some true)
   else (
     xu dA aK (k4+1))
def um(bf:List Int)(dA:Int):Option (Bool):=
 xu dA bf 0
theorem Dn{bf:List Int}{ae:Sv}{dA:Int}{R:Bool}(hF:um bf dA=some R):
   Fw.Spec Tryz.prog 73 [ae.v,(zi dA)] [aC ae bf] (fun _:Unit=>(.bool R)) (fun _=>[]):=by
 refine Se 18 Tryz.func73 [.tmp 4] ?_
 intro H0 F0
 unfold um at hF
 refine bU ?_
 refine bI (bY (m:=bf.length) (fun m2 f' cs'=>∃(g:Fr)(k4:Nat)(aK:List Int),m2=aK.length/\f'=aH g [(0,ae.v),(1,(zi dA)),(5,(zi (k4:Int)))]/\List.drop k4 bf=aK/\aF cs' [aC ae bf]/\xu dA aK k4=some R) ⟨_,0,_,rfl,aN,rfl,aL,hF⟩ ?_)
 rintro m2 _ _ ⟨g3,k4,aK,rfl,rfl,hd7,hE,hF⟩
 refine Kb hE bf (fun mF=>?_)
 rcases aK with _|⟨x6,aK⟩
 · have h_:=dn hd7
   rw[xu]at hF
   refine bU ?_
   refine dI ?_
   exact ze hF
 obtain⟨h_,bQ,g_⟩:=dC hd7
 rw[xu]at hF
 refine bU ?_
 refine dH ?_
 refine aD ?_
 refine Ai bQ (fun k13 om=>?_)
 refine Al dw ?_
 refine ay ?_
 refine Ci hF (fun wm hF=>?_) (fun wm hF=>?_)
 · exact ze hF
 refine bC ?_
 rw[wk k4]
 exact⟨_,cK _,_,k4+1,aK,rfl,aN,g_,aL,hF⟩
def vD(bf:List Int)(dA:Int):Nat->(List Int)->Bool->Int->Option ((List Int))
 |0,_,_,_=>none
 |m10+1,c5,c8,c9=>if (decide ((c9:Int)<(bf.length:Int)))then (
     ((bif (!c8)then ((ix bf c9).bind fun lL=>
           some (decide ((dA:Int)<lL)))
         else (some false)).bind fun J4=>
       match J4 with
       |Cn=>if Cn then (
           (app c5 ([dA]:List Int)).bind fun z32=>
           (ix bf c9).bind fun x38=>
           (app z32 ([x38]:List Int)).bind fun z43=>
           some (z43,true))
         else (
           (ix bf c9).bind fun Co=>
           (app c5 ([Co]:List Int)).bind fun z54=>
           some (z54,c8))).bind fun mW=>
     match mW with
     |(c59,jF)=>vD bf dA m10 c59 jF (IntKind.i64.wrap (c9+1)))
   else (
     if (!c8)then (
       (app c5 ([dA]:List Int)).bind fun z65=>
       some z65)
     else (
       some c5))
def Aa(bf:List Int)(dA:Int):Option ((List Int)):=
 (um bf dA).bind fun r1=>
 if r1 then (
   some bf)
 else (
   vD bf dA (((bf.length:Int)-0).toNat+2) ([]:List Int) false 0)
theorem TT{bf:List Int}{ae:Sv}{rP:List Nat}{dA:Int}{R:(List Int)}(hF:Aa bf dA=some R):
   Fw.Spec Tryz.prog 103 [ae.v,(zi dA)] [bR rP ae bf] (fun p:Sv×List Nat=>p.1.v) (fun p=>[bR p.2 p.1 R]):=by
 refine Se 47 Tryz.func103 [.tmp 4] ?_
 intro H0 F0
 unfold Aa at hF
 refine bU ?_
 refine bnd hF fun r1 hx2 hF=>cB (.cons .h .nil) (gL dm (fun _=>.nil) (bZ Ey.h bJ (Dn hx2))) (fun _=>?_)
 refine au ?_
 refine Ci hF (fun aac hF=>?_) (fun aac hF=>?_)
 · refine aD ?_
   cases hF
   exact Er (ae,rP)
 refine aI ?_
 refine fI rfl (eH (g:=true) eB.h dU.h .nil (vs:=[]) rfl rfl rfl (by simp)) (fun k4=>?_)
 refine fT (.cons .h .nil) (eT (Ro:=(aR aY)) (E:=3) (F:=[]) (xs:=([]:List Int)) eQ rfl rfl) ?_
 refine gq ?_
 refine bI (bY (m:=(((bf.length:Int)-0).toNat+2)) (fun m10 f' cs'=>∃(g:Fr)(c5:List Int)(c8:Bool)(c9:Int)(v6:Sv)(F7:List Nat),f'=aH g [(0,ae.v),(1,(zi dA)),(5,v6.v),(6,(.bool c8)),(7,(zi c9))]/\aF cs' [bR rP ae bf,bR F7 v6 c5]/\vD bf dA m10 c5 c8 c9=some R) ⟨_,_,_,_,⟨(some ⟨k4,0,none⟩),0,1⟩,(k4::[]),aN,aL,hF⟩ ?_)
 rintro m10 _ _ ⟨g11,c5,c8,c9,v6,F7,rfl,hE,hF⟩
 refine bz hE ?_
 rcases m10 with _|m10
 · rw[vD]at hF
   exact absurd hF (by simp)
 rw[vD]at hF
 refine bU ?_
 refine Ci hF (fun aad hF=>?_) (fun aad hF=>?_)
 · refine au ?_
   obtain⟨mW,AJ,BC⟩:=bind_some hF
   refine lu (fun f' cs'=>∃(c59:List Int)(jF:Bool)(v60:Sv)(J5:List Nat)(g:Fr),mW=(c59,jF)/\f'=aH g [(0,ae.v),(1,(zi dA)),(5,v60.v),(6,(.bool jF)),(7,(zi c9))]/\aF cs' [bR rP ae bf,bR J5 v60 c59]) ?_ ?_
   · replace hF:=AJ
     refine bI (jY ?_)
     obtain⟨J4,XO,aae⟩:=bind_some hF
     refine au ?_
     refine b_ (fun f' cs'=>∃(Cn:Bool)(g:Fr),Cn=J4/\f'=aH g [(0,ae.v),(1,(zi dA)),(5,v6.v),(6,(.bool c8)),(7,(zi c9)),(28,(.bool Cn))]/\aF cs' [bR rP ae bf,bR F7 v6 c5]) ?_ ?_
     · replace hF:=XO
       refine ay ?_
       rcases bi (!c8)with nO|nO
       · rw[nO]
         try rw[nO]at hF; dsimp only[ak,aj]at hF
         refine aD ?_
         refine bnd hF fun lL hx27 hF=>?_
         have aaf:=Ad hx27
         obtain⟨adZ,hx29⟩:=qy hx27
         refine xU eB.h dU.h.sz (.tmp rfl rfl) (.tmp rfl rfl) .h aaf (fun k23 IW=>?_)
         refine au ?_
         refine Ap (w:=(zi lL)) JC.h (.tmp rfl rfl) .h IW hx29 Ha ?_
         exact aP hF
       rw[nO]
       try rw[nO]at hF; dsimp only[ak,aj]at hF
       exact aP hF
     rintro _ _ ⟨Cn,g58,rfl,rfl,hE⟩
     replace hF:=aae
     try dsimp only at hF
     refine bz hE ?_
     refine Ci hF (fun IX hF=>?_) (fun IX hF=>?_)
     · refine ay ?_
       refine fI rfl (eH (g:=true) eB.h dU.h bJ (vs:=[(zi dA)]) rfl rfl rfl (by intro v hv; simp at hv; rcases hv with rfl<;>rfl)) (fun JW=>?_)
       refine fT (.cons .h .nil) (eT (Ro:=(aR aY)) (E:=3) (F:=([]++[])) (xs:=([dA]:List Int)) (fK (iL (fun _=>rfl)) eQ dE) rfl rfl) ?_
       refine bnd hF fun z32 rH hF=>cB (.cons .q2 (.cons .h .nil)) (iJ (Ro:=(aR aY)) eB.h lY dU.h rfl rfl rfl (.tmp rfl rfl) (.tmp rfl rfl) rH iM) (fun p34=>?_)
       refine gq ?_
       refine bnd hF fun x38 hx39 hF=>?_
       have aag:=Ad hx39
       obtain⟨ad1,aah⟩:=qy hx39
       refine xU eB.h dU.h.sz (.tmp rfl rfl) (.tmp rfl rfl) (.t .h) aag (fun ig H5=>?_)
       refine Ap (w:=(zi x38)) JC.h (.tmp rfl rfl) (.t .h) H5 aah Ha ?_
       refine fI rfl (eH (g:=true) eB.h dU.h bJ (vs:=[(zi x38)]) rfl rfl rfl (by intro v hv; simp at hv; rcases hv with rfl<;>rfl)) (fun k42=>?_)
       refine fT (.cons .h .nil) (eT (Ro:=(aR aY)) (E:=3) (F:=([]++[])) (xs:=([x38]:List Int)) (fK (iL (fun _=>rfl)) eQ dE) rfl rfl) ?_
       refine bnd hF fun z43 wh hF=>cB (.cons (.t .h) (.cons .h .nil)) (iJ (Ro:=(aR aY)) eB.h lY dU.h rfl rfl rfl (.tmp rfl rfl) (.tmp rfl rfl) wh iM) (fun p45=>?_)
       refine aI ?_
       cases hF
       exact⟨_,_,p45.1,p45.2,_,rfl,aN,aL⟩
     refine aD ?_
     refine bnd hF fun Co yt hF=>?_
     have aai:=Ad yt
     obtain⟨ad2,IY⟩:=qy yt
     refine xU eB.h dU.h.sz (.tmp rfl rfl) (.tmp rfl rfl) .h aai (fun pQ aaj=>?_)
     refine Ap (w:=(zi Co)) JC.h (.tmp rfl rfl) .h aaj IY Ha ?_
     refine fI rfl (eH (g:=true) eB.h dU.h bJ (vs:=[(zi Co)]) rfl rfl rfl (by intro v hv; simp at hv; rcases hv with rfl<;>rfl)) (fun k53=>?_)
     refine fT (.cons .h .nil) (eT (Ro:=(aR aY)) (E:=3) (F:=([]++[])) (xs:=([Co]:List Int)) (fK (iL (fun _=>rfl)) eQ dE) rfl rfl) ?_
     refine bnd hF fun z54 v_ hF=>cB (.cons .q2 (.cons .h .nil)) (iJ (Ro:=(aR aY)) eB.h lY dU.h rfl rfl rfl (.tmp rfl rfl) (.tmp rfl rfl) v_ iM) (fun p56=>?_)
     refine aI ?_
     cases hF
     exact⟨_,_,p56.1,p56.2,_,rfl,aN,aL⟩
   rintro _ _ ⟨c59,jF,v60,J5,g63,rfl,rfl,hE⟩
   replace hF:=BC
   try dsimp only at hF
   refine bz hE ?_
   refine aD ?_
   exact⟨m10,cK _,_,_,_,_,v60,J5,aN,aL,hF⟩
 refine gq ?_
 refine Ci hF (fun aak hF=>?_) (fun aak hF=>?_)
 · refine ay ?_
   refine fI rfl (eH (g:=true) eB.h dU.h bJ (vs:=[(zi dA)]) rfl rfl rfl (by intro v hv; simp at hv; rcases hv with rfl<;>rfl)) (fun k64=>?_)
   refine fT (.cons .h .nil) (eT (Ro:=(aR aY)) (E:=3) (F:=([]++[])) (xs:=([dA]:List Int)) (fK (iL (fun _=>rfl)) eQ dE) rfl rfl) ?_
   refine bnd hF fun z65 Il hF=>cB (.cons .q2 (.cons .h .nil)) (iJ (Ro:=(aR aY)) eB.h lY dU.h rfl rfl rfl (.tmp rfl rfl) (.tmp rfl rfl) Il iM) (fun p67=>?_)
   refine bU ?_
   cases hF
   exact Er (p67.1,p67.2)
 refine bC ?_
 cases hF
 exact Er (v6,F7)
def tL(iP:aW):Nat->(List Int)->Int->Option ((List Int))
 |0,_,_=>none
 |m24+1,c20,c23=>if (decide ((c23:Int)<(iP.Terms.length:Int)))then (
     ((ix iP.Terms c23).bind fun x40=>
       (xN x40).bind fun yH=>
       if yH then (
         (ix iP.Terms c23).bind fun lQ=>
         (Aa c20 lQ).bind fun QA=>
         some QA)
       else (
         some c20)).bind fun J6=>
     match J6 with
     |jF=>tL iP m24 jF (IntKind.i64.wrap (c23+1)))
   else (
     some c20)
def vv:List aW->Nat->(List Int)->Option ((List Int))
 |[],k9,c3=>some c3
 |iP::jy,k9,c3=>(tL iP (((iP.Terms.length:Int)-0).toNat+2) c3 0).bind fun mW=>
   match mW with
   |Cq=>vv jy (k9+1) Cq
def vI(aG:bG):Option ((List Int)):=
 vv aG.Atoms 0 ([]:List Int)
theorem Gj{aG:bG}{ae bA:Sv}{R:(List Int)}(hF:vI aG=some R):
   Fw.Spec Tryz.prog 72 [(zg [ae.v,bA.v])] [aC ae aG.Head,fQ bA aG.Atoms] (fun p:Sv×List Nat=>p.1.v) (fun p=>[bR p.2 p.1 R]):=by
 refine Se 47 Tryz.func72 [.tmp 2] ?_
 intro H0 F0
 unfold vI at hF
 refine au ?_
 refine fe (fun k1=>?_)
 refine ay ?_
 refine fI rfl (eH (g:=true) eB.h dU.h .nil (vs:=[]) rfl rfl rfl (by simp)) (fun k2=>?_)
 refine fT (.cons .h .nil) (eT (Ro:=(aR aY)) (E:=3) (F:=[]) (xs:=([]:List Int)) eQ rfl rfl) ?_
 refine bC ?_
 refine bI (bY (m:=aG.Atoms.length) (fun m7 f' cs'=>∃(g:Fr)(k9:Nat)(jy:List aW)(c3:List Int)(v4:Sv)(F5:List Nat),m7=jy.length/\f'=aH g [(1,(pz k1)),(3,v4.v),(4,(zi (k9:Int)))]/\List.drop k9 aG.Atoms=jy/\aF cs' [cu k1 59 (zg [ae.v,bA.v]),aC ae aG.Head,fQ bA aG.Atoms,bR F5 v4 c3]/\vv jy k9 c3=some R) ⟨_,0,_,_,⟨(some ⟨k2,0,none⟩),0,1⟩,(k2::[]),rfl,aN,rfl,aL,hF⟩ ?_)
 rintro m7 _ _ ⟨g8,k9,jy,c3,v4,F5,rfl,rfl,BD,hE,hF⟩
 refine Kb hE aG.Atoms (fun XP=>?_)
 rcases jy with _|⟨iP,jy⟩
 · have IZ:=dn BD
   rw[vv]at hF
   refine dh ?_
   refine dI ?_
   refine gq ?_
   cases hF
   exact Er (v4,F5)
 obtain⟨IZ,j4,I1⟩:=dC BD
 rw[vv]at hF
 refine dh ?_
 refine dH ?_
 refine au ?_
 obtain⟨mW,AJ,BC⟩:=bind_some hF
 refine lu (fun f' cs'=>∃(Cq:List Int)(v68:Sv)(J7:List Nat)(g:Fr),Cq=mW/\f'=aH g [(1,(pz k1)),(3,v68.v),(4,(zi (k9:Int)))]/\aF cs' [cu k1 59 (zg [ae.v,bA.v]),aC ae aG.Head,fQ bA aG.Atoms,bR J7 v68 Cq]) ?_ ?_
 · replace hF:=AJ
   refine bI (eu (ai (jU (v:=(zi 0)) (.int _ _)) ?_))
   refine au ?_
   refine bI (bY (m:=(((iP.Terms.length:Int)-0).toNat+2)) (fun m24 f' cs'=>∃(g:Fr)(c20:List Int)(c23:Int)(v21:Sv)(FO:List Nat),f'=aH g [(1,(pz k1)),(3,v21.v),(4,(zi (k9:Int))),(5,(zi c23))]/\aF cs' [cu k1 59 (zg [ae.v,bA.v]),aC ae aG.Head,fQ bA aG.Atoms,bR FO v21 c20]/\tL iP m24 c20 c23=some mW) ⟨_,_,_,v4,F5,aN,aL,hF⟩ ?_)
   rintro m24 _ _ ⟨Qt,c20,c23,v21,FO,rfl,hE,hF⟩
   refine bz hE ?_
   rcases m24 with _|m24
   · rw[tL]at hF
     exact absurd hF (by simp)
   rw[tL]at hF
   refine bC ?_
   refine Ai j4 (fun lK j33=>?_)
   refine au ?_
   refine G9 (R':=(cO 3 aY)) uC.h (.tmp rfl rfl) .h GZ (fun w34=>?_)
   refine ay ?_
   refine Ci hF (fun I4 hF=>?_) (fun I4 hF=>?_)
   · refine au ?_
     obtain⟨J6,XQ,aal⟩:=bind_some hF
     refine lu (fun f' cs'=>∃(jF:List Int)(v63:Sv)(J8:List Nat)(g:Fr),jF=J6/\f'=aH g [(1,(pz k1)),(3,v63.v),(4,(zi (k9:Int))),(5,(zi c23))]/\aF cs' [cu k1 59 (zg [ae.v,bA.v]),aC ae aG.Head,fQ bA aG.Atoms,bR J8 v63 jF]) ?_ ?_
     · replace hF:=XQ
       refine bI (eu (ai (ni (off:=1) vQ.h (.tmp rfl rfl)) ?_))
       refine aI ?_
       refine Ai j4 (fun k37 j38=>?_)
       refine au ?_
       refine G9 (R':=(cO 3 aY)) uC.h (.tmp rfl rfl) .h GZ (fun w39=>?_)
       refine au ?_
       refine zI hF fun x40 Ia il hF=>?_
       refine Ai il (fun k44 j45=>?_)
       refine Al dw ?_
       refine bnd hF fun yH kK hF=>aA (Gv kK) (fun _=>?_)
       refine au ?_
       refine Ci hF (fun Bl hF=>?_) (fun Bl hF=>?_)
       · refine aD ?_
         refine Ai j4 (fun k49 j50=>?_)
         refine au ?_
         refine G9 (R':=(cO 3 aY)) uC.h (.tmp rfl rfl) .h GZ (fun w51=>?_)
         refine au ?_
         refine zI hF fun lQ ad3 v_ hF=>?_
         refine Ai v_ (fun k56 j57=>?_)
         refine Al dw ?_
         refine bnd hF fun QA aam hF=>dM (TT aam) (fun p60=>?_)
         refine aI ?_
         cases hF
         exact⟨_,p60.1,p60.2,_,rfl,aN,aL⟩
       refine au ?_
       cases hF
       exact⟨_,v21,FO,_,rfl,aN,aL⟩
     rintro _ _ ⟨jF,v63,J8,Qv,rfl,rfl,hE⟩
     replace hF:=aal
     try dsimp only at hF
     refine bz hE ?_
     refine aD ?_
     exact⟨m24,cK _,_,_,_,v63,J8,aN,aL,hF⟩
   refine aB ?_
   cases hF
   exact⟨_,v21,FO,_,rfl,aN,aL⟩
 rintro _ _ ⟨Cq,v68,J7,g71,rfl,rfl,hE⟩
 replace hF:=BC
 try dsimp only at hF
 refine bz hE ?_
 refine aD ?_
 rw[wk k9]
 exact⟨_,cK _,_,k9+1,jy,_,v68,J7,rfl,aN,I1,aL,hF⟩
def vJ(dG:Int):Option (Bool):=
 ((dL dG 0 9).bind fun r3=>
   bif r3 then (some true)
   else ((xN dG).bind fun r7=>
     some r7)).bind fun o1=>
 match o1 with
 |c10=>some c10
theorem Mr{dG:Int}{R:Bool}(hF:vJ dG=some R):
   Fw.Spec Tryz.prog 101 [(zi dG)] [] (fun _:Unit=>(.bool R)) (fun _=>[]):=by
 refine Se 9 Tryz.func101 [.tmp 2] ?_
 intro H0 F0
 unfold vJ at hF
 refine ay ?_
 obtain⟨o1,jZ,hO2⟩:=bind_some hF
 refine au ?_
 refine b_ (fun f' cs'=>∃(c10:Bool)(g:Fr),c10=o1/\f'=aH g [(2,(.bool c10))]/\aF cs' []) ?_ ?_
 · replace hF:=jZ
   refine au ?_
   refine bnd hF fun r3 hx4 hF=>aA (eX hx4) (fun _=>?_)
   refine au ?_
   rcases bi r3 with gF|gF
   · rw[gF]
     try rw[gF]at hF; dsimp only[ak,aj]at hF
     exact aP hF
   rw[gF]
   try rw[gF]at hF; dsimp only[ak,aj]at hF
   refine ay ?_
   refine bnd hF fun r7 iG hF=>aA (Gv iG) (fun _=>?_)
   exact aP hF
 rintro _ _ ⟨c10,g11,rfl,rfl,hE⟩
 replace hF:=hO2
 try dsimp only at hF
 refine bz hE ?_
 exact ze hF
def vw:List Int->Nat->Option (Bool)
 |[],k22=>some true
 |x24::jv,k22=>(vJ x24).bind fun gB=>
   if (!gB)then (
     some false)
   else (
     vw jv (k22+1))
def zU(aa:List Int)(aX:aW):Option (Bool):=
 ((qo aa).bind fun r4=>
   bif (!r4)then (some true)
   else ((dL aX.Rel 0 (IntKind.i64.wrap ((aa.length:Int)-1))).bind fun r8=>
     bif (!r8)then (some true)
     else ((ix aa aX.Rel).bind fun sj=>
       some (((aX.Terms.length:Int):Int)!=sj)))).bind fun o2=>
 match o2 with
 |c18=>if c18 then (
     some false)
   else (
     vw aX.Terms 0)
theorem Tv{aa:List Int}{ae:Sv}{aX:aW}{dP:Sv}{R:Bool}(hF:zU aa aX=some R):
   Fw.Spec Tryz.prog 71 [ae.v,(zg [(zi aX.Rel),dP.v])] [aC ae aa,aC dP aX.Terms] (fun _:Unit=>(.bool R)) (fun _=>[]):=by
 refine Se 43 Tryz.func71 [.tmp 4] ?_
 intro H0 F0
 unfold zU at hF
 refine au ?_
 refine fe (fun k1=>?_)
 refine ay ?_
 obtain⟨o2,fB,hO3⟩:=bind_some hF
 refine fV [0,1,2,3,4,5,6,7,8,9,10,11,12,13,14,15,16,17,18,19,20,21,22] [0,1,3,7,15,31,15,79,207,511,1023,2047,4095,8191,16383,32767,8191,8191,139263,466943,991231,2097151,4194303] [1,9] mixed (by decide+kernel) ?_
 refine oV (fun f' cs'=>∃(c18:Bool)(g:Fr),c18=o2/\f'=aH g [(3,(pz k1)),(28,(.bool c18))]/\aF cs' [cu k1 83 (zg [(zi aX.Rel),dP.v]),aC dP aX.Terms]) ?_ ?_
 · replace hF:=fB
   refine du ?_
   refine bnd hF fun r4 hx5 hF=>cZ (za hx5) (fun _=>?_)
   refine fA ?_
   rcases bi (!r4)with a_|a_
   · rw[a_]
     try rw[a_]at hF; dsimp only[ak,aj]at hF
     exact fP hF
   rw[a_]
   try rw[a_]at hF; dsimp only[ak,aj]at hF
   refine A9 ?_
   refine bnd hF fun r8 bQ hF=>cZ (eX bQ) (fun _=>?_)
   refine gZ ?_
   rcases bi (!r8)with bM|bM
   · rw[bM]
     try rw[bM]at hF; dsimp only[ak,aj]at hF
     exact fP hF
   rw[bM]
   try rw[bM]at hF; dsimp only[ak,aj]at hF
   refine uE ?_
   refine zI hF fun sj EP jM hF=>?_
   refine Di jM (fun k16 Fz=>?_)
   refine Dl dw ?_
   exact fP hF
 rintro _ _ ⟨c18,JV,rfl,rfl,hE⟩
 replace hF:=hO3
 try dsimp only at hF
 refine bz hE ?_
 refine Ci hF (fun nT hF=>?_) (fun nT hF=>?_)
 · exact ze hF
 refine aD ?_
 refine bI (bY (m:=aX.Terms.length) (fun m20 f' cs'=>∃(g:Fr)(k22:Nat)(jv:List Int),m20=jv.length/\f'=aH g [(3,(pz k1)),(5,(zi (k22:Int)))]/\List.drop k22 aX.Terms=jv/\aF cs' [cu k1 83 (zg [(zi aX.Rel),dP.v]),aC dP aX.Terms]/\vw jv k22=some R) ⟨_,0,_,rfl,aN,rfl,aL,hF⟩ ?_)
 rintro m20 _ _ ⟨g21,k22,jv,rfl,rfl,hd25,hE,hF⟩
 refine Kb hE aX.Terms (fun XL=>?_)
 rcases jv with _|⟨x24,jv⟩
 · have IL:=dn hd25
   rw[vw]at hF
   refine dh ?_
   refine dI ?_
   exact ze hF
 obtain⟨IL,hx27,hd28⟩:=dC hd25
 rw[vw]at hF
 refine dh ?_
 refine dH ?_
 refine bC ?_
 refine Ai hx27 (fun JW j32=>?_)
 refine Al dw ?_
 refine bnd hF fun gB hx34 hF=>aA (Mr hx34) (fun _=>?_)
 refine aI ?_
 refine Ci hF (fun Bu hF=>?_) (fun Bu hF=>?_)
 · exact ze hF
 refine bC ?_
 rw[wk k22]
 exact⟨_,cK _,_,k22+1,jv,rfl,aN,hd28,aL,hF⟩
def tH(aa:List Int)(aG:bG)(ky:(List Int)):List Int->Nat->Option (Bool)
 |[],k20=>((qo aa).bind fun jm=>
     bif jm then ((dL (aG.Atoms.length:Int) 1 4).bind fun jR=>
       bif jR then (some (decide (((aG.Head.length:Int):Int)<=3)))
       else (some false))
     else (some false)).bind fun J9=>
   match J9 with
   |kw=>some kw
 |sw::qV,k20=>(um ky sw).bind fun mQ=>
   if (!mQ)then (
     some false)
   else (
     tH aa aG ky qV (k20+1))
def tJ(aa:List Int)(aG:bG):List aW->Nat->Option (Bool)
 |[],k5=>(vI aG).bind fun ky=>
   tH aa aG ky aG.Head 0
 |x7::fZ,k5=>(zU aa x7).bind fun QB=>
   if (!QB)then (
     some false)
   else (
     tJ aa aG fZ (k5+1))
def xA(aa:List Int)(aG:bG):Option (Bool):=
 tJ aa aG aG.Atoms 0
theorem L_{aa:List Int}{ae:Sv}{aG:bG}{j5 dP:Sv}{R:Bool}(hF:xA aa aG=some R):
   Fw.Spec Tryz.prog 48 [ae.v,(zg [j5.v,dP.v])] [aC ae aa,aC j5 aG.Head,fQ dP aG.Atoms] (fun _:Unit=>(.bool R)) (fun _=>[]):=by
 refine Se 54 Tryz.func48 [.tmp 4] ?_
 intro H0 F0
 unfold xA at hF
 refine au ?_
 refine fe (fun k1=>?_)
 refine bC ?_
 refine bI (bY (m:=aG.Atoms.length) (fun m3 f' cs'=>∃(g:Fr)(k5:Nat)(fZ:List aW),m3=fZ.length/\f'=aH g [(0,ae.v),(3,(pz k1)),(5,(zi (k5:Int)))]/\List.drop k5 aG.Atoms=fZ/\aF cs' [aC ae aa,cu k1 59 (zg [j5.v,dP.v]),aC j5 aG.Head,fQ dP aG.Atoms]/\tJ aa aG fZ k5=some R) ⟨_,0,_,rfl,aN,rfl,aL,hF⟩ ?_)
 rintro m3 _ _ ⟨g4,k5,fZ,rfl,rfl,uO,hE,hF⟩
 refine Kb hE aG.Atoms (fun OX=>?_)
 rcases fZ with _|⟨x7,fZ⟩
 · have Cj:=dn uO
   rw[tJ]at hF
   refine dh ?_
   refine dI ?_
   refine bC ?_
   refine bnd hF fun ky jM hF=>dM (Gj jM) (fun p16=>?_)
   refine bC ?_
   refine bI (bY (m:=aG.Head.length) (fun m18 f' cs'=>∃(g:Fr)(k20:Nat)(qV:List Int),m18=qV.length/\f'=aH g [(0,ae.v),(3,(pz k1)),(6,p16.1.v),(7,(zi (k20:Int)))]/\List.drop k20 aG.Head=qV/\aF cs' [aC ae aa,cu k1 59 (zg [j5.v,dP.v]),aC j5 aG.Head,fQ dP aG.Atoms,bR p16.2 p16.1 ky]/\tH aa aG ky qV k20=some R) ⟨_,0,_,rfl,aN,rfl,aL,hF⟩ ?_)
   rintro m18 _ _ ⟨g19,k20,qV,rfl,rfl,PN,hE,hF⟩
   refine Kb hE aG.Head (fun acx=>?_)
   rcases qV with _|⟨sw,qV⟩
   · have IW:=dn PN
     rw[tH]at hF
     refine dh ?_
     refine dI ?_
     refine aB ?_
     obtain⟨J9,XR,aan⟩:=bind_some hF
     refine au ?_
     refine b_ (fun f' cs'=>∃(kw:Bool)(g:Fr),kw=J9/\f'=aH g [(4,(.bool kw))]/\aF cs' []) ?_ ?_
     · replace hF:=XR
       refine au ?_
       refine bnd hF fun jm hx32 hF=>aA (za hx32) (fun _=>?_)
       refine au ?_
       rcases bi jm with BF|BF
       · rw[BF]
         try rw[BF]at hF; dsimp only[ak,aj]at hF
         refine bU ?_
         refine bnd hF fun jR kZ hF=>aA (eX kZ) (fun _=>?_)
         refine aI ?_
         rcases bi jR with BG|BG
         · rw[BG]
           try rw[BG]at hF; dsimp only[ak,aj]at hF
           exact aP hF
         rw[BG]
         try rw[BG]at hF; dsimp only[ak,aj]at hF
         exact aP hF
       rw[BF]
       try rw[BF]at hF; dsimp only[ak,aj]at hF
       exact aP hF
     rintro _ _ ⟨kw,g40,rfl,rfl,hE⟩
     replace hF:=aan
     try dsimp only at hF
     refine bz hE ?_
     exact ze hF
   obtain⟨IW,hx25,EF⟩:=dC PN
   rw[tH]at hF
   refine dh ?_
   refine dH ?_
   refine bU ?_
   refine Ai hx25 (fun rY Qq=>?_)
   refine Al dw ?_
   refine bnd hF fun mQ wh hF=>cB (.cons .q5 .nil) (gL dm (fun _=>.nil) (bZ Ey.h bJ (Dn wh))) (fun _=>?_)
   refine aI ?_
   refine Ci hF (fun Bq hF=>?_) (fun Bq hF=>?_)
   · exact ze hF
   refine bC ?_
   rw[wk k20]
   exact⟨_,cK _,_,k20+1,qV,rfl,aN,EF,aL,hF⟩
 obtain⟨Cj,jg,jh⟩:=dC uO
 rw[tJ]at hF
 refine dh ?_
 refine dH ?_
 refine bU ?_
 refine Ai jg (fun mX j49=>?_)
 refine yl (vF x7) xy (fun p50=>?_)
 refine bnd hF fun QB IY hF=>aA (Tv IY) (fun _=>?_)
 refine aI ?_
 refine Ci hF (fun I5 hF=>?_) (fun I5 hF=>?_)
 · exact ze hF
 refine bC ?_
 rw[wk k5]
 exact⟨_,cK _,_,k5+1,fZ,rfl,aN,jh,aL,hF⟩
def xI(fuel:Nat)(dG:Int):Option ((List UInt8)):=
 (xN dG).bind fun r1=>
 if r1 then (
   (fF fuel (IntKind.i64.wrap (dG-10))).bind fun r4=>
   (aO [120] r4).bind fun x7=>
   some x7)
 else (
   (fF fuel dG).bind fun iQ=>
   some iQ)
theorem Ms{fuel:Nat}{dG:Int}{R:(List UInt8)}(hF:xI fuel dG=some R):
   Fw.Spec Tryz.prog 104 [(zi dG)] [] (fun _:Unit=>(sv R)) (fun _=>[]):=by
 refine Se 11 Tryz.func104 [.tmp 2] ?_
 intro H0 F0
 unfold xI at hF
 refine bC ?_
 refine bnd hF fun r1 hx2 hF=>aA (Gv hx2) (fun _=>?_)
 refine au ?_
 refine Ci hF (fun I6 hF=>?_) (fun I6 hF=>?_)
 · refine ay ?_
   refine bnd hF fun r4 hx5 hF=>aA (jH hx5) (fun _=>?_)
   refine bnd hF fun x7 iG hF=>?_
   obtain⟨aao,hz9⟩:=bq iG
   refine ai (bu (s:=[120]) (t:=r4) (u:=x7) (.sv _) (.tmp rfl rfl) iG) ?_
   exact ze hF
 refine ay ?_
 refine bnd hF fun iQ lc hF=>aA (jH lc) (fun _=>?_)
 exact ze hF
def qi(fuel:Nat):List Int->Nat->(List UInt8)->Option ((List UInt8))
 |[],k5,c1=>some c1
 |x7::fZ,k5,c1=>(if (decide ((0:Int)<(k5:Int)))then (
       (aO c1 [44]).bind fun kv=>
       (xI fuel x7).bind fun ib=>
       (aO kv ib).bind fun x25=>
       some x25)
     else (
       (xI fuel x7).bind fun jm=>
       (aO c1 jm).bind fun x34=>
       some x34)).bind fun ko=>
   match ko with
   |kw=>qi fuel fZ (k5+1) kw
def xB(fuel:Nat)(bf:List Int):Option ((List UInt8)):=
 qi fuel bf 0 []
theorem Ma{fuel:Nat}{bf:List Int}{ae:Sv}{R:(List UInt8)}(hF:xB fuel bf=some R):
   Fw.Spec Tryz.prog 74 [ae.v] [aC ae bf] (fun _:Unit=>(sv R)) (fun _=>[]):=by
 refine Se 23 Tryz.func74 [.tmp 2] ?_
 intro H0 F0
 unfold xB at hF
 refine kG ?_
 refine bI (bY (m:=bf.length) (fun m3 f' cs'=>∃(g:Fr)(k5:Nat)(fZ:List Int)(c1:List UInt8),m3=fZ.length/\f'=aH g [(0,ae.v),(3,(sv c1)),(4,(zi (k5:Int)))]/\List.drop k5 bf=fZ/\aF cs' [aC ae bf]/\qi fuel fZ k5 c1=some R) ⟨_,0,_,_,rfl,aN,rfl,aL,hF⟩ ?_)
 rintro m3 _ _ ⟨g4,k5,fZ,c1,rfl,rfl,uO,hE,hF⟩
 refine Kb hE bf (fun OX=>?_)
 rcases fZ with _|⟨x7,fZ⟩
 · have Cj:=dn uO
   rw[qi]at hF
   refine bU ?_
   refine dI ?_
   exact ze hF
 obtain⟨Cj,jg,jh⟩:=dC uO
 rw[qi]at hF
 refine bU ?_
 refine dH ?_
 refine au ?_
 obtain⟨ko,vS,vY⟩:=bind_some hF
 refine lu (fun f' cs'=>∃(kw:List UInt8)(g:Fr),kw=ko/\f'=aH g [(0,ae.v),(3,(sv kw)),(4,(zi (k5:Int)))]/\aF cs' [aC ae bf]) ?_ ?_
 · replace hF:=vS
   refine bI (jY (eu (Cm (zi (k5:Int)) rfl rfl ?_)))
   refine aI ?_
   refine Ci hF (fun nT hF=>?_) (fun nT hF=>?_)
   · refine aI ?_
     refine bnd hF fun kv jf hF=>?_
     obtain⟨ZL,ZM⟩:=bq jf
     refine ai (bu (s:=c1) (t:=[44]) (u:=kv) (.tmp rfl rfl) (.sv _) jf) ?_
     refine bC ?_
     refine Ai jg (fun k20 FB=>?_)
     refine Al dw ?_
     refine bnd hF fun ib jL hF=>aA (Ms jL) (fun _=>?_)
     refine bnd hF fun x25 nP hF=>?_
     obtain⟨ZN,ZO⟩:=bq nP
     refine ai (bu (s:=kv) (t:=ib) (u:=x25) (.tmp rfl rfl) (.tmp rfl rfl) nP) ?_
     exact aP hF
   refine aD ?_
   refine Ai jg (fun uP j30=>?_)
   refine Al dw ?_
   refine bnd hF fun jm hx32 hF=>aA (Ms hx32) (fun _=>?_)
   refine bnd hF fun x34 kL hF=>?_
   obtain⟨EC,ED⟩:=bq kL
   refine ai (bu (s:=c1) (t:=jm) (u:=x34) (.tmp rfl rfl) (.tmp rfl rfl) kL) ?_
   exact aP hF
 rintro _ _ ⟨kw,JQ,rfl,rfl,hE⟩
 replace hF:=vY
 try dsimp only at hF
 refine bz hE ?_
 refine aD ?_
 rw[wk k5]
 exact⟨_,cK _,_,k5+1,fZ,_,rfl,aN,jh,aL,hF⟩
def sU(aX:aW)(fuel:Nat):List Int->Nat->Option ((List UInt8))
 |[],k15=>(fF fuel aX.Rel).bind fun gV=>
   (aO [114] gV).bind fun x27=>
   (aO x27 [40]).bind fun x31=>
   (xB fuel aX.Terms).bind fun jR=>
   (aO x31 jR).bind fun x38=>
   (aO x38 [41]).bind fun ic=>
   some ic
 |mP::jw,k15=>(vJ mP).bind fun mU=>
   if (!mU)then (
     some [])
   else (
     sU aX fuel jw (k15+1))
def w9(fuel:Nat)(aX:aW):Option ((List UInt8)):=
 ((dL aX.Rel 0 2).bind fun r4=>
   bif (!r4)then (some true)
   else ((dL (aX.Terms.length:Int) 1 3).bind fun r8=>
     some (!r8))).bind fun o2=>
 match o2 with
 |c11=>if c11 then (
     some [])
   else (
     sU aX fuel aX.Terms 0)
theorem Ld{fuel:Nat}{aX:aW}{bA:Sv}{R:(List UInt8)}(hF:w9 fuel aX=some R):
   Fw.Spec Tryz.prog 75 [(zg [(zi aX.Rel),bA.v])] [aC bA aX.Terms] (fun _:Unit=>(sv R)) (fun _=>[]):=by
 refine Se 39 Tryz.func75 [.tmp 2] ?_
 intro H0 F0
 unfold w9 at hF
 refine au ?_
 refine fe (fun k1=>?_)
 refine ay ?_
 obtain⟨o2,fB,hO3⟩:=bind_some hF
 refine au ?_
 refine b_ (fun f' cs'=>∃(c11:Bool)(g:Fr),c11=o2/\f'=aH g [(1,(pz k1)),(14,(.bool c11))]/\aF cs' [cu k1 83 (zg [(zi aX.Rel),bA.v]),aC bA aX.Terms]) ?_ ?_
 · replace hF:=fB
   refine aI ?_
   refine bnd hF fun r4 hx5 hF=>aA (eX hx5) (fun _=>?_)
   refine aI ?_
   rcases bi (!r4)with a_|a_
   · rw[a_]
     try rw[a_]at hF; dsimp only[ak,aj]at hF
     exact aP hF
   rw[a_]
   try rw[a_]at hF; dsimp only[ak,aj]at hF
   refine bU ?_
   refine bnd hF fun r8 bQ hF=>aA (eX bQ) (fun _=>?_)
   exact aP hF
 rintro _ _ ⟨c11,Qr,rfl,rfl,hE⟩
 replace hF:=hO3
 try dsimp only at hF
 refine bz hE ?_
 refine Ci hF (fun Be hF=>?_) (fun Be hF=>?_)
 · exact ze hF
 refine aD ?_
 refine bI (bY (m:=aX.Terms.length) (fun m13 f' cs'=>∃(g:Fr)(k15:Nat)(jw:List Int),m13=jw.length/\f'=aH g [(1,(pz k1)),(3,(zi (k15:Int)))]/\List.drop k15 aX.Terms=jw/\aF cs' [cu k1 83 (zg [(zi aX.Rel),bA.v]),aC bA aX.Terms]/\sU aX fuel jw k15=some R) ⟨_,0,_,rfl,aN,rfl,aL,hF⟩ ?_)
 rintro m13 _ _ ⟨g14,k15,jw,rfl,rfl,Bv,hE,hF⟩
 refine Kb hE aX.Terms (fun XM=>?_)
 rcases jw with _|⟨mP,jw⟩
 · have IM:=dn Bv
   rw[sU]at hF
   refine dh ?_
   refine dI ?_
   refine aB ?_
   refine fV [0,1,5,6,2,3,4,7,8,9,10] [0,1,3,7,15,0,32,103,255,511,1023] [2,7] mixed (by decide+kernel) ?_
   refine rE ?_
   refine bnd hF fun gV hx25 hF=>cZ (jH hx25) (fun _=>?_)
   refine bnd hF fun x27 hx28 hF=>?_
   obtain⟨IP,IQ⟩:=bq hx28
   refine bg rfl .no (fun ha=>bu (s:=[114]) (t:=gV) (u:=x27) (EN ha (.sv _) rfl) (EN ha (.tmp rfl rfl) rfl) hx28) ?_
   refine bnd hF fun x31 hx32 hF=>?_
   obtain⟨PG,PH⟩:=bq hx32
   refine bg rfl .no (fun ha=>bu (s:=x27) (t:=[40]) (u:=x31) (EN ha (.tmp rfl rfl) rfl) (EN ha (.sv _) rfl) hx32) ?_
   refine bnd hF fun jR kZ hF=>cZ (Ma kZ) (fun _=>?_)
   refine bnd hF fun x38 hx39 hF=>?_
   obtain⟨Ij,Ik⟩:=bq hx39
   refine bg rfl .no (fun ha=>bu (s:=x31) (t:=jR) (u:=x38) (EN ha (.tmp rfl rfl) rfl) (EN ha (.tmp rfl rfl) rfl) hx39) ?_
   refine bnd hF fun ic il hF=>?_
   obtain⟨EG,EH⟩:=bq il
   refine bg rfl .no (fun ha=>bu (s:=x38) (t:=[41]) (u:=ic) (EN ha (.tmp rfl rfl) rfl) (EN ha (.sv _) rfl) il) ?_
   refine fA ?_
   exact ze hF
 obtain⟨IM,ik,yz⟩:=dC Bv
 rw[sU]at hF
 refine dh ?_
 refine dH ?_
 refine bC ?_
 refine Ai ik (fun pQ FJ=>?_)
 refine Al dw ?_
 refine bnd hF fun mU lH hF=>aA (Mr lH) (fun _=>?_)
 refine aI ?_
 refine Ci hF (fun Bw hF=>?_) (fun Bw hF=>?_)
 · exact ze hF
 refine bC ?_
 rw[wk k15]
 exact⟨_,cK _,_,k15+1,jw,rfl,aN,yz,aL,hF⟩
def oC(fuel:Nat):List aW->Nat->(List UInt8)->Option ((List UInt8))
 |[],ig,c31=>some c31
 |jo::jA,ig,c31=>(((w9 fuel jo).bind fun kr=>
     if (kr==[])then (
       some (.inl []))
     else (
       if (decide ((0:Int)<(ig:Int)))then (
         (aO c31 [32,97,110,100,32]).bind fun lQ=>
         (aO lQ kr).bind fun J_=>
         some (.inr J_))
       else (
         (aO c31 kr).bind fun yJ=>
         some (.inr yJ)))):Option (Sum ((List UInt8)) ((List UInt8)))).bind fun wM=>
   match wM with
   | .inl r=>some r
   | .inr Cr=>oC fuel jA (ig+1) Cr
def sP(aG:bG)(fuel:Nat)(r9:(List UInt8))(bO:(List Int)):List Int->Nat->Option ((List UInt8))
 |[],k18=>(aO r9 [32,105,102,32]).bind fun x27=>
   oC fuel aG.Atoms 0 x27
 |x20::qW,k18=>(um bO x20).bind fun QC=>
   if (!QC)then (
     some [])
   else (
     sP aG fuel r9 bO qW (k18+1))
def oD(fuel:Nat):List aW->Nat->(List UInt8)->Option ((List UInt8))
 |[],oo,pU=>some pU
 |x101::qB,oo,pU=>(((w9 fuel x101).bind fun nU=>
     if (nU==[])then (
       some (.inl []))
     else (
       if (decide ((0:Int)<(oo:Int)))then (
         (aO pU [32,97,110,100,32]).bind fun rG=>
         (aO rG nU).bind fun mM=>
         some (.inr mM))
       else (
         (aO pU nU).bind fun I7=>
         some (.inr I7)))):Option (Sum ((List UInt8)) ((List UInt8)))).bind fun I8=>
   match I8 with
   | .inl r=>some r
   | .inr c130=>oD fuel qB (oo+1) c130
def uY(aG:bG)(fuel:Nat)(ol:(List Int)):List Int->Nat->Option ((List UInt8))
 |[],sD=>(aO [121,101,115] [32,105,102,32]).bind fun x91=>
   oD fuel aG.Atoms 0 x91
 |x84::qX,sD=>(um ol x84).bind fun PO=>
   if (!PO)then (
     some [])
   else (
     uY aG fuel ol qX (sD+1))
def wY(fuel:Nat)(aG:bG):Option ((List UInt8)):=
 ((dL (aG.Atoms.length:Int) 1 4).bind fun r4=>
   bif (!r4)then (some true)
   else (some (decide ((3:Int)<(aG.Head.length:Int))))).bind fun o2=>
 match o2 with
 |c8=>if c8 then (
     some [])
   else (
     if (decide ((0:Int)<(aG.Head.length:Int)))then (
       (xB fuel aG.Head).bind fun r9=>
       (vI aG).bind fun bO=>
       sP aG fuel r9 bO aG.Head 0)
     else (
       (vI aG).bind fun ol=>
       uY aG fuel ol aG.Head 0))
theorem K7{fuel:Nat}{aG:bG}{ae bA:Sv}{R:(List UInt8)}(hF:wY fuel aG=some R):
   Fw.Spec Tryz.prog 49 [(zg [ae.v,bA.v])] [aC ae aG.Head,fQ bA aG.Atoms] (fun _:Unit=>(sv R)) (fun _=>[]):=by
 refine Se 68 Tryz.func49 [.tmp 2] ?_
 intro H0 F0
 unfold wY at hF
 refine au ?_
 refine fe (fun k1=>?_)
 refine ay ?_
 obtain⟨o2,fB,hO3⟩:=bind_some hF
 refine au ?_
 refine b_ (fun f' cs'=>∃(c8:Bool)(g:Fr),c8=o2/\f'=aH g [(1,(pz k1)),(18,(.bool c8))]/\aF cs' [cu k1 59 (zg [ae.v,bA.v]),aC ae aG.Head,fQ bA aG.Atoms]) ?_ ?_
 · replace hF:=fB
   refine ay ?_
   refine bnd hF fun r4 hx5 hF=>aA (eX hx5) (fun _=>?_)
   refine aI ?_
   rcases bi (!r4)with a_|a_
   · rw[a_]
     try rw[a_]at hF; dsimp only[ak,aj]at hF
     exact aP hF
   rw[a_]
   try rw[a_]at hF; dsimp only[ak,aj]at hF
   exact aP hF
 rintro _ _ ⟨c8,ad4,rfl,rfl,hE⟩
 replace hF:=hO3
 try dsimp only at hF
 refine bz hE ?_
 refine Ci hF (fun XT hF=>?_) (fun XT hF=>?_)
 · exact ze hF
 refine Au ?_
 refine Ci hF (fun XU hF=>?_) (fun XU hF=>?_)
 · refine ay ?_
   refine bnd hF fun r9 jg hF=>aA (Ma jg) (fun _=>?_)
   refine aB ?_
   refine bnd hF fun bO eD hF=>dM (Gj eD) (fun pV=>?_)
   refine bC ?_
   refine bI (bY (m:=aG.Head.length) (fun m16 f' cs'=>∃(g:Fr)(k18:Nat)(qW:List Int),m16=qW.length/\f'=aH g [(1,(pz k1)),(3,(sv r9)),(4,pV.1.v),(5,(zi (k18:Int)))]/\List.drop k18 aG.Head=qW/\aF cs' [cu k1 59 (zg [ae.v,bA.v]),aC ae aG.Head,fQ bA aG.Atoms,bR pV.2 pV.1 bO]/\sP aG fuel r9 bO qW k18=some R) ⟨_,0,_,rfl,aN,rfl,aL,hF⟩ ?_)
   rintro m16 _ _ ⟨g17,k18,qW,rfl,rfl,yz,hE,hF⟩
   refine Kb hE aG.Head (fun acy=>?_)
   rcases qW with _|⟨x20,qW⟩
   · have aap:=dn yz
     rw[sP]at hF
     refine dh ?_
     refine dI ?_
     refine bC ?_
     refine bnd hF fun x27 hx28 hF=>?_
     obtain⟨IP,IQ⟩:=bq hx28
     refine ai (bu (s:=r9) (t:=[32,105,102,32]) (u:=x27) (.tmp rfl rfl) (.sv _) hx28) ?_
     refine bC ?_
     refine bI (bY (m:=aG.Atoms.length) (fun Cs f' cs'=>∃(g:Fr)(ig:Nat)(jA:List aW)(c31:List UInt8),Cs=jA.length/\f'=aH g [(1,(pz k1)),(3,(sv c31)),(6,(zi (ig:Int)))]/\List.drop ig aG.Atoms=jA/\aF cs' [cu k1 59 (zg [ae.v,bA.v]),aC ae aG.Head,fQ bA aG.Atoms]/\oC fuel jA ig c31=some R) ⟨_,0,_,_,rfl,aN,rfl,aL,hF⟩ ?_)
     rintro Cs _ _ ⟨g34,ig,jA,c31,rfl,rfl,hd38,hE,hF⟩
     refine Kb hE aG.Atoms (fun XV=>?_)
     rcases jA with _|⟨jo,jA⟩
     · have I9:=dn hd38
       rw[oC]at hF
       refine dh ?_
       refine dI ?_
       exact ze hF
     obtain⟨I9,kY,I_⟩:=dC hd38
     rw[oC]at hF
     refine dh ?_
     refine dH ?_
     refine au ?_
     obtain⟨wM,Hm,ES⟩:=bind_some hF
     refine lu (fun f' cs'=>∃(Cr:List UInt8)(g:Fr),wM= .inr Cr/\f'=aH g [(1,(pz k1)),(3,(sv Cr)),(6,(zi (ig:Int)))]/\aF cs' [cu k1 59 (zg [ae.v,bA.v]),aC ae aG.Head,fQ bA aG.Atoms]) ?_ ?_
     · replace hF:=Hm
       refine bI (eu (ai (ni (off:=1) vQ.h (.tmp rfl rfl)) ?_))
       refine aI ?_
       refine Ai kY (fun pQ FJ=>?_)
       refine yl (vF jo) xy (fun p48=>?_)
       refine bnd hF fun kr yt hF=>aA (Ld yt) (fun _=>?_)
       refine aD ?_
       refine ai (uu (s:=kr) (t:=[]) (.tmp rfl rfl) (.sv _)) ?_
       refine au ?_
       refine Ci hF (fun Bc hF=>?_) (fun Bc hF=>?_)
       · refine aB ?_
         cases hF
         replace hF:=ES
         try dsimp only at hF
         exact ze hF
       refine bC ?_
       refine Ci hF (fun Br hF=>?_) (fun Br hF=>?_)
       · refine aI ?_
         refine bnd hF fun lQ rQ hF=>?_
         obtain⟨aaq,aar⟩:=bq rQ
         refine ai (bu (s:=c31) (t:=[32,97,110,100,32]) (u:=lQ) (.tmp rfl rfl) (.sv _) rQ) ?_
         refine aD ?_
         refine bnd hF fun J_ yA hF=>?_
         obtain⟨ad5,ad6⟩:=bq yA
         refine ai (bu (s:=lQ) (t:=kr) (u:=J_) (.tmp rfl rfl) (.tmp rfl rfl) yA) ?_
         exact aP hF
       refine aB ?_
       refine bnd hF fun yJ PP hF=>?_
       obtain⟨ad7,ad8⟩:=bq PP
       refine ai (bu (s:=c31) (t:=kr) (u:=yJ) (.tmp rfl rfl) (.tmp rfl rfl) PP) ?_
       exact aP hF
     rintro _ _ ⟨Cr,g68,rfl,rfl,hE⟩
     replace hF:=ES
     try dsimp only at hF
     refine bz hE ?_
     refine aD ?_
     rw[wk ig]
     exact⟨_,cK _,_,ig+1,jA,_,rfl,aN,I_,aL,hF⟩
   obtain⟨aap,jL,hd24⟩:=dC yz
   rw[sP]at hF
   refine dh ?_
   refine dH ?_
   refine bU ?_
   refine Ai jL (fun k69 j70=>?_)
   refine Al dw ?_
   refine bnd hF fun QC aas hF=>cB (.cons .q4 .nil) (gL dm (fun _=>.nil) (bZ Ey.h bJ (Dn aas))) (fun _=>?_)
   refine aI ?_
   refine Ci hF (fun aat hF=>?_) (fun aat hF=>?_)
   · exact ze hF
   refine bC ?_
   rw[wk k18]
   exact⟨_,cK _,_,k18+1,qW,rfl,aN,hd24,aL,hF⟩
 refine ay ?_
 refine bnd hF fun ol Im hF=>dM (Gj Im) (fun Ka=>?_)
 refine bC ?_
 refine bI (bY (m:=aG.Head.length) (fun QD f' cs'=>∃(g:Fr)(sD:Nat)(qX:List Int),QD=qX.length/\f'=aH g [(1,(pz k1)),(3,(sv [121,101,115])),(4,Ka.1.v),(5,(zi (sD:Int)))]/\List.drop sD aG.Head=qX/\aF cs' [cu k1 59 (zg [ae.v,bA.v]),aC ae aG.Head,fQ bA aG.Atoms,bR Ka.2 Ka.1 ol]/\uY aG fuel ol qX sD=some R) ⟨_,0,_,rfl,aN,rfl,aL,hF⟩ ?_)
 rintro QD _ _ ⟨g81,sD,qX,rfl,rfl,PQ,hE,hF⟩
 refine Kb hE aG.Head (fun acz=>?_)
 rcases qX with _|⟨x84,qX⟩
 · have aau:=dn PQ
   rw[uY]at hF
   refine dh ?_
   refine dI ?_
   refine bC ?_
   refine bnd hF fun x91 ET hF=>?_
   obtain⟨ad9,ad_⟩:=bq ET
   refine ai (bu (s:=[121,101,115]) (t:=[32,105,102,32]) (u:=x91) (.tmp rfl rfl) (.sv _) ET) ?_
   refine bC ?_
   refine bI (bY (m:=aG.Atoms.length) (fun QE f' cs'=>∃(g:Fr)(oo:Nat)(qB:List aW)(pU:List UInt8),QE=qB.length/\f'=aH g [(1,(pz k1)),(3,(sv pU)),(6,(zi (oo:Int)))]/\List.drop oo aG.Atoms=qB/\aF cs' [cu k1 59 (zg [ae.v,bA.v]),aC ae aG.Head,fQ bA aG.Atoms]/\oD fuel qB oo pU=some R) ⟨_,0,_,_,rfl,aN,rfl,aL,hF⟩ ?_)
   rintro QE _ _ ⟨g98,oo,qB,pU,rfl,rfl,hd102,hE,hF⟩
   refine Kb hE aG.Atoms (fun abw=>?_)
   rcases qB with _|⟨x101,qB⟩
   · have XW:=dn hd102
     rw[oD]at hF
     refine dh ?_
     refine dI ?_
     exact ze hF
   obtain⟨XW,hx104,XX⟩:=dC hd102
   rw[oD]at hF
   refine dh ?_
   refine dH ?_
   refine au ?_
   obtain⟨I8,VQ,OZ⟩:=bind_some hF
   refine lu (fun f' cs'=>∃(c130:List UInt8)(g:Fr),I8= .inr c130/\f'=aH g [(1,(pz k1)),(3,(sv c130)),(6,(zi (oo:Int)))]/\aF cs' [cu k1 59 (zg [ae.v,bA.v]),aC ae aG.Head,fQ bA aG.Atoms]) ?_ ?_
   · replace hF:=VQ
     refine bI (eu (ai (ni (off:=1) vQ.h (.tmp rfl rfl)) ?_))
     refine aI ?_
     refine Ai hx104 (fun ad' aea=>?_)
     refine yl (vF x101) xy (fun aeb=>?_)
     refine bnd hF fun nU hx114 hF=>aA (Ld hx114) (fun _=>?_)
     refine aD ?_
     refine ai (uu (s:=nU) (t:=[]) (.tmp rfl rfl) (.sv _)) ?_
     refine au ?_
     refine Ci hF (fun XY hF=>?_) (fun XY hF=>?_)
     · refine aB ?_
       cases hF
       replace hF:=OZ
       try dsimp only at hF
       exact ze hF
     refine bC ?_
     refine Ci hF (fun XZ hF=>?_) (fun XZ hF=>?_)
     · refine aI ?_
       refine bnd hF fun rG Av hF=>?_
       obtain⟨Xm,Xn⟩:=bq Av
       refine ai (bu (s:=pU) (t:=[32,97,110,100,32]) (u:=rG) (.tmp rfl rfl) (.sv _) Av) ?_
       refine aD ?_
       refine bnd hF fun mM vT hF=>?_
       obtain⟨Xo,Xp⟩:=bq vT
       refine ai (bu (s:=rG) (t:=nU) (u:=mM) (.tmp rfl rfl) (.tmp rfl rfl) vT) ?_
       exact aP hF
     refine aB ?_
     refine bnd hF fun I7 Eo hF=>?_
     obtain⟨acA,acB⟩:=bq Eo
     refine ai (bu (s:=pU) (t:=nU) (u:=I7) (.tmp rfl rfl) (.tmp rfl rfl) Eo) ?_
     exact aP hF
   rintro _ _ ⟨c130,aec,rfl,rfl,hE⟩
   replace hF:=OZ
   try dsimp only at hF
   refine bz hE ?_
   refine aD ?_
   rw[wk oo]
   exact⟨_,cK _,_,oo+1,qB,_,rfl,aN,XX,aL,hF⟩
 obtain⟨aau,EK,aav⟩:=dC PQ
 rw[uY]at hF
 refine dh ?_
 refine dH ?_
 refine bU ?_
 refine Ai EK (fun aed aee=>?_)
 refine Al dw ?_
 refine bnd hF fun PO X0 hF=>cB (.cons .q4 .nil) (gL dm (fun _=>.nil) (bZ Ey.h bJ (Dn X0))) (fun _=>?_)
 refine aI ?_
 refine Ci hF (fun X3 hF=>?_) (fun X3 hF=>?_)
 · exact ze hF
 refine bC ?_
 rw[wk sD]
 exact⟨_,cK _,_,sD+1,qX,rfl,aN,aav,aL,hF⟩
def sV(aa:List Int)(aM:List UInt8)(r2:(List (List UInt8)))(fuel:Nat)(c148:List Int):Nat->(List aW)->Int->Option (bG×Bool)
 |0,_,_=>none
 |wo+1,nW,c210=>if (decide ((c210:Int)<(r2.length:Int)))then (
     (ix r2 c210).bind fun BH=>
     (oI fuel BH).bind fun EU=>
     (app nW ([EU]:List aW)).bind fun z229=>
     sV aa aM r2 fuel c148 wo z229 (IntKind.i64.wrap (c210+2)))
   else (
     ((xA aa ({Head:=c148,Atoms:=nW}:bG)).bind fun BI=>
       bif (!BI)then (some true)
       else ((wY fuel ({Head:=c148,Atoms:=nW}:bG)).bind fun EW=>
         some (!(EW==aM)))).bind fun Ja=>
     match Ja with
     |yB=>if yB then (
         some (({Head:=[],Atoms:=[]}:bG),false))
       else (
         some (({Head:=c148,Atoms:=nW}:bG),true)))
def sW(aa:List Int)(aM:List UInt8)(r2:(List (List UInt8)))(fuel:Nat):List (List UInt8)->Nat->(List Int)->Option (bG×Bool)
 |[],iA,c148=>sV aa aM r2 fuel c148 (((r2.length:Int)-2).toNat+2) ([]:List aW) 2
 |BJ::qC,iA,c148=>(oH fuel BJ).bind fun EX=>
   (app c148 ([EX]:List Int)).bind fun PR=>
   sW aa aM r2 fuel qC (iA+1) PR
def uZ(aa:List Int)(aM:List UInt8)(r2:(List (List UInt8)))(fuel:Nat):Nat->(List aW)->Int->Option (bG×Bool)
 |0,_,_=>none
 |wu+1,nX,lI=>if (decide ((lI:Int)<(r2.length:Int)))then (
     (ix r2 lI).bind fun BK=>
     (oI fuel BK).bind fun EY=>
     (app nX ([EY]:List aW)).bind fun PS=>
     uZ aa aM r2 fuel wu PS (IntKind.i64.wrap (lI+2)))
   else (
     ((xA aa ({Head:=[],Atoms:=nX}:bG)).bind fun BL=>
       bif (!BL)then (some true)
       else ((wY fuel ({Head:=[],Atoms:=nX}:bG)).bind fun EZ=>
         some (!(EZ==aM)))).bind fun Jb=>
     match Jb with
     |yC=>if yC then (
         some (({Head:=[],Atoms:=[]}:bG),false))
       else (
         some (({Head:=[],Atoms:=nX}:bG),true)))
def w_(fuel:Nat)(aa:List Int)(aM:List UInt8):Option (bG×Bool):=
 (oN aM (32:UInt8)).bind fun r2=>
 (ix r2 0).bind fun x9=>
 if (!(x9==[121,101,115]))then (
   (ix r2 0).bind fun kv=>
   (oN kv (44:UInt8)).bind fun fE=>
   sW aa aM r2 fuel fE 0 ([]:List Int))
 else (
   uZ aa aM r2 fuel (((r2.length:Int)-2).toNat+2) ([]:List aW) 2)
theorem Le{fuel:Nat}{aa:List Int}{ae:Sv}{aM:List UInt8}{R:bG×Bool}(hF:w_ fuel aa aM=some R):
   Fw.Spec Tryz.prog 26 [ae.v,(sv aM)] [eF (cO 3 aY) ae.v aa] (fun p:Sv×List Nat×Sv×List Nat=>(.tuple [(.agg [p.1.v,p.2.2.1.v].toArray),(.bool R.2)].toArray)) (fun p=>[bP (bL 3 (aR aY)) p.2.1 p.1.v R.1.Head,bP (bL 83 fJ) p.2.2.2 p.2.2.1.v R.1.Atoms]):=by
 refine Gt (n:=66) Tryz.func26 rfl rfl (rs:=[.cell 4 59,.tmp 5]) rfl rfl rfl ?_
 intro H0 F0
 unfold w_ at hF
 refine eu (fI rfl (zQ (g:=true) ek.h rfl rfl) (fun k1=>?_))
 refine ai (jU (v:=(.bool false)) (.bool _)) ?_
 refine fH (eu (Cm (sv aM) rfl rfl ?_))
 obtain⟨r2,hx3,hF⟩:=bind_some hF
 refine cB .nil (bZ O_.h (.cons (.tmp rfl rfl) (.cons (.int _ _) .nil)) (@vC aM (32:UInt8) _ hx3)) (fun p4=>?_)
 refine Ca p4.1.v rfl rfl ?_
 refine fH (eu (ai (fM ek.h rfl (vs:=[]) .nil (cells:=[(.slice none 0 0),(.slice none 0 0)]) rfl) ?_))
 refine fI rfl (zQ (g:=true) ek.h rfl rfl) (fun k5=>?_)
 refine cB (.cons .h .nil) (jV (e':=(.agg ([(.slice none 0 0),(.slice none 0 0)]:List Value).toArray)) (v:=(.agg ([(.slice none 0 0),(.slice none 0 0)]:List Value).toArray)) ek.h.sz (.tmp rfl rfl) (.tmp rfl rfl) rfl rfl rfl rfl rfl) (fun _=>?_)
 refine fH (jY (eu (Cm p4.1.v rfl rfl ?_)))
 obtain⟨x9,jg,hF⟩:=bind_some hF
 have hi8:=Ad jg
 obtain⟨aaw,lc⟩:=qy jg
 refine xU gY.h iF.h.sz (.tmp rfl rfl) (.int _ _) (.t .h) hi8 (fun k6 hk7=>?_)
 refine Ap (w:=(sv x9)) Cb.h (.tmp rfl rfl) (.t .h) hk7 lc OU ?_
 refine ai (jI (s:=x9) (t:=[121,101,115]) (.tmp rfl rfl) (.sv _)) ?_
 refine fH (mo (b:=(!(x9==[121,101,115]))) (.tmp rfl rfl) (fun Ho=>?_) (fun Ho=>?_))
 · rw[if_pos Ho]at hF
   refine eu (Cm p4.1.v rfl rfl ?_)
   obtain⟨kv,jf,hF⟩:=bind_some hF
   have aax:=Ad jf
   obtain⟨ZT,mK⟩:=qy jf
   refine xU gY.h iF.h.sz (.tmp rfl rfl) (.int _ _) (.t .h) aax (fun k13 aay=>?_)
   refine Ap (w:=(sv kv)) Cb.h (.tmp rfl rfl) (.t .h) aay mK OU ?_
   obtain⟨fE,j3,hF⟩:=bind_some hF
   refine cB .nil (bZ O_.h (.cons (.tmp rfl rfl) (.cons (.int _ _) .nil)) (@vC kv (44:UInt8) _ j3)) (fun pW=>?_)
   refine Ca pW.1.v rfl rfl ?_
   refine fH (eu (ai (jU (v:=(.int .i64 0)) (.int _ _)) ?_))
   refine fH (bI (nI .h dm ?_))
   refine bY (m:=fE.length) (fun PT f' cs'=>∃(g:Fr)(iA:Nat)(qC:List (List UInt8))(c148:List Int)(lJ:Sv)(BM:List Nat),PT=qC.length/\f'=aH g [(0,ae.v),(1,(sv aM)),(4,(.pointer (some ⟨k1,0,some 0⟩))),(6,p4.1.v),(7,(.pointer (some ⟨k5,0,some 0⟩))),(8,pW.1.v),(9,(.int .i64 (iA:Int)))]/\List.drop iA fE=qC/\aF cs' [eF (cO 3 aY) ae.v aa,bV k1 59 (.agg ([(.slice none 0 0),(.slice none 0 0)]:List Value).toArray),bP (bL 9 (aR rdStr)) p4.2 p4.1.v r2,bV k5 59 (.agg [lJ.v,(.slice none 0 0)].toArray),bP (bL 3 (aR aY)) BM lJ.v c148,eF (cO 9 rdStr) pW.1.v fE]/\sW aa aM r2 fuel qC iA c148=some R) ⟨_,0,_,_,⟨none,0,0⟩,[],rfl,(bF.cons rfl (bF.cons rfl (bF.cons rfl (bF.cons rfl (bF.cons rfl (bF.cons rfl (bF.cons rfl (bF.nil)))))))).eq,rfl,(.conv .nil (dK (Ro:=(aR aY)) (E:=3)) (.cons .nil) (.sel (.rd (.t (.t (.t (.t (.t .h))))) rfl (.cons (.t (.t (.t (.t .h)))) (.cons (.t (.t (.t .h))) (.cons (.t (.t .h)) (.cons .h (.rd .h rfl .nil)))))))),hF⟩ ?_
   clear hF
   rintro PT _ _ ⟨aef,iA,qC,c148,lJ,BM,rfl,rfl,hd157,hE,hF⟩
   refine bz hE ?_
   clear hE
   refine Od (c:=eF (cO 9 rdStr) pW.1.v fE) (.t (.t (.t (.t (.t .h))))) MV (fun abx=>?_)
   rcases qC with _|⟨BJ,qC⟩
   · have X4:=List.drop_eq_nil_iff.1 hd157
     have G5:(decide (((iA:Int):Int)<(fE.length:Int)))=false:=decide_eq_false (by omega)
     rw[sW]at hF
     refine jY (eu (Cm (.int .i64 (iA:Int)) rfl rfl ?_))
     refine Cm pW.1.v rfl rfl ?_
     refine jc (.t (.t (.t (.t (.t .h))))) (fun hp=>qJ (l:=fE.length) gY.h (.tmp rfl rfl) (xL hp)) ?_
     refine ai (xY (i:=(iA:Int)) (j:=(fE.length:Int)) (.tmp rfl rfl) (.tmp rfl rfl)) ?_
     refine fH (mo (b:=(decide (((iA:Int):Int)<(fE.length:Int)))) (.tmp rfl rfl) (fun hb=>absurd (G5.symm.trans hb) (by decide)) (fun _=>?_))
     refine DU ?_
     iterate 2 refine Dj ?_
     refine Dz (jY (eu (ai (jU (v:=(.int .i64 2)) (.int _ _)) ?_)))
     refine fH (bI (nI (.t (.t .h)) dm ?_))
     refine bY (m:=(((r2.length:Int)-2).toNat+2)) (fun wo f' cs'=>∃(g:Fr)(nW:List aW)(c210:Int)(v208:Sv)(E5:List Nat),f'=aH g [(0,ae.v),(1,(sv aM)),(4,(.pointer (some ⟨k1,0,some 0⟩))),(6,p4.1.v),(7,(.pointer (some ⟨k5,0,some 0⟩))),(10,(.int .i64 c210))]/\aF cs' [eF (cO 3 aY) ae.v aa,bV k1 59 (.agg ([(.slice none 0 0),(.slice none 0 0)]:List Value).toArray),eF (cO 9 rdStr) p4.1.v r2,bV k5 59 (.agg [lJ.v,v208.v].toArray),bP (bL 3 (aR aY)) BM lJ.v c148,bP (bL 83 fJ) E5 v208.v nW]/\sV aa aM r2 fuel c148 wo nW c210=some R) ⟨_,_,_,⟨none,0,0⟩,[],(bF.cons rfl (bF.cons rfl (bF.cons rfl (bF.cons rfl (bF.cons rfl (bF.cons rfl (bF.nil))))))).eq,(.conv .nil (dK (Ro:=fJ) (E:=83)) (.cons .nil) (.sel (.rd (.t (.t .h)) rfl (.cons (.t (.t (.t .h))) (.rd (.t .h) rfl (.cons (.t (.t (.t .h))) (.cons (.t (.t (.t .h))) (.cons .h .nil)))))))),hF⟩ ?_
     clear hF
     rintro wo _ _ ⟨aeg,nW,c210,v208,E5,rfl,hE,hF⟩
     refine bz hE ?_
     clear hE
     rcases wo with _|wo
     · rw[sV]at hF
       exact absurd hF (by simp)
     rw[sV]at hF
     refine jY (eu (Cm (.int .i64 c210) rfl rfl ?_))
     refine Cm p4.1.v rfl rfl ?_
     refine jc (.t (.t .h)) (fun hp=>qJ (l:=r2.length) gY.h (.tmp rfl rfl) (xL hp)) ?_
     refine ai (xY (i:=c210) (j:=(r2.length:Int)) (.tmp rfl rfl) (.tmp rfl rfl)) ?_
     refine fH (mo (b:=(decide ((c210:Int)<(r2.length:Int)))) (.tmp rfl rfl) (fun Hq=>?_) (fun Hq=>?_))
     · rw[if_pos Hq]at hF
       refine uj (DV (uk [0,1,2,3,4,5,6,7,8,9,10] [0,1,0,0,12,28,60,124,255,511,1023] [6,8,10] mixed (by decide+kernel) ?_))
       refine bg rfl .no (fun ha=>ni (off:=1) vQ.h (EN ha (.tmp rfl rfl) rfl)) ?_
       refine oU rfl .no (.t (.t (.t .h))) (fun ha hp=>lm (v:=v208.v) Ph.h (EN ha (.tmp rfl rfl) rfl) hp.2 rfl rfl) ?_
       refine Dm p4.1.v rfl rfl rfl rfl ?_
       refine Dm (.int .i64 c210) rfl rfl rfl rfl ?_
       obtain⟨BH,X5,hF⟩:=bind_some hF
       obtain⟨X6,X7⟩:=qy X5
       refine Eg (a:=BH) gY.h iF.h.sz rfl .no (.tmp rfl rfl) (.tmp rfl rfl) rfl rfl (.t (.t .h)) X6 X7 (fun aeh aei=>?_)
       refine Eh (w:=(sv BH)) Cb.h rfl .no (.tmp rfl rfl) rfl .h eZ ?_
       obtain⟨EU,X8,hF⟩:=bind_some hF
       refine iw rfl rfl .no .nil (.own (.t (.t (.t (.t .h)))) (fun _ h=>h) .nil) (fun ha=>bZ Pi.h (.cons (EN ha (.tmp rfl rfl) rfl) .nil) (@K6 fuel BH _ X8)) (fun PU=>?_)
       refine q8 rfl .no rfl (fun ha=>eH (g:=true) (len:=1) (parts:=[(0,.tmp 50)]) rD.h mJ.h (.cons (EN ha (.tmp rfl rfl) rfl) .nil) (vs:=[(.agg [(.int .i64 EU.Rel),PU.1.v].toArray)]) rfl rfl rfl (by intro v hv; simp at hv; rcases hv with rfl<;>rfl)) (fun aej=>?_)
       refine D8 (.cons .h (.cons .h .nil)) (eT (Ro:=fJ) (E:=83) (F:=(PU.2++[])) (xs:=([EU]:List aW)) (fK Ew eQ dE) rfl rfl) dE ?_
       obtain⟨z229,X9,hF⟩:=bind_some hF
       refine iw rfl rfl .no (.cons (.t (.t (.t (.t (.t (.t (.t .h))))))) (.cons .h .nil)) (.dep rfl (.dep rfl .nil)) (fun ha=>iJ (Ro:=fJ) rD.h Ex mJ.h rfl rfl rfl (EN ha (.tmp rfl rfl) rfl) (EN ha (.tmp rfl rfl) rfl) X9 iM) (fun Jc=>?_)
       refine bg rfl .no (fun ha=>ni (off:=1) vQ.h (EN ha (.tmp rfl rfl) rfl)) ?_
       refine iw rfl rfl .no (.cons (.t (.t (.t (.t (.t .h))))) .nil) (.dep rfl (.dep rfl .nil)) (fun ha=>jV (e':=(.agg [lJ.v,Jc.1.v].toArray)) Pj.h.sz (EN ha (.tmp rfl rfl) rfl) (EN ha (.tmp rfl rfl) rfl) rfl rfl rfl rfl rfl) (fun _=>?_)
       refine Ef (zK (Cm (.int .i64 c210) rfl rfl ?_))
       refine ai (Aj (i:=c210) (j:=2) (.tmp rfl rfl) (.int _ _)) ?_
       refine Ca (.int .i64 (IntKind.i64.wrap (c210+2))) rfl rfl ?_
       refine fH ?_
       exact⟨wo,Nat.lt_succ_self _,_,_,_,Jc.1,Jc.2,(bF.cons rfl (bF.cons rfl (bF.cons rfl (bF.cons rfl (bF.cons rfl (bF.cons rfl (bF.nil))))))).eq,(.sel (.rd (.t (.t (.t .h))) rfl (.cons (.t (.t (.t (.t .h)))) (.rd (.t (.t (.t (.t .h)))) rfl (.cons .h (.cons (.t (.t (.t (.t .h)))) (.cons .h .nil))))))),hF⟩
     rw[if_neg (by rw[Hq]; exact Bool.false_ne_true)]at hF
     refine DU ?_
     iterate 2 refine Dj ?_
     refine Dz (jY ?_)
     obtain⟨Ja,VR,O0⟩:=bind_some hF
     refine eu (b_ (fun f' cs'=>∃(yB:Bool)(g:Fr),yB=Ja/\f'=aH g [(4,(.pointer (some ⟨k1,0,some 0⟩))),(7,(.pointer (some ⟨k5,0,some 0⟩))),(63,(.bool yB))]/\aF cs' [bV k1 59 (.agg ([(.slice none 0 0),(.slice none 0 0)]:List Value).toArray),bV k5 59 (.agg [lJ.v,v208.v].toArray),bP (bL 3 (aR aY)) BM lJ.v c148,bP (bL 83 fJ) E5 v208.v nW]) ?_ ?_)
     · replace hF:=VR
       refine Cm ae.v rfl rfl ?_
       refine jc (.t (.t (.t .h))) (fun hp=>nu jd.h ek.h.sz rfl (.tmp rfl rfl) hp.2 rfl) ?_
       obtain⟨BI,X_,hF⟩:=bind_some hF
       refine AY (.cons (.t (.t (.t (.t (.t .h))))) (.cons (.t (.t (.t (.t .h)))) (.rd .h rfl .nil))) (z_ (pre:=_) (.cons dm (.cons dm .nil)) (fun _=>.nil) (nE (.rd (.t (.t .h)) rfl (.rd .h rfl (.rd (.t .h) rfl .nil))) (bZ Pk.h (.cons (.tmp rfl rfl) (.cons (.tmp rfl rfl) .nil)) (@L_ aa ae ({Head:=c148,Atoms:=nW}:bG) lJ v208 _ X_)))) (fun _=>?_)
       refine ai (Ak (b:=BI) (.tmp rfl rfl)) ?_
       refine Cm (.bool (!BI)) rfl rfl ?_
       rcases Bool.eq_false_or_eq_true (!BI)with AL|AL
       · rw[AL]
         try rw[AL]at hF; dsimp only[cond_true,cond_false]at hF
         iterate 4 refine xZ (t:=58) rfl rfl rfl ?_
         refine ai (qF (b:=true) (u:=(.bool true)) (v:=undef) (.tmp rfl rfl) (.bool _) (.tmp rfl rfl)) ?_
         refine fH ?_
         obtain rfl:=Option.some.inj hF
         exact⟨_,_,rfl,(bF.cons rfl (bF.cons rfl (bF.cons rfl (bF.nil)))).eq,(.sel (.cons (.t (.t (.t .h))) (.cons (.t (.t (.t (.t .h)))) (.cons (.t .h) (.cons .h .nil)))))⟩
       rw[AL]
       try rw[AL]at hF; dsimp only[cond_true,cond_false]at hF
       refine kJ (t:=58) rfl rfl rfl ?_
       refine jc (.t (.t (.t (.t (.t .h))))) (fun hp=>nu jd.h ek.h.sz rfl (.tmp rfl rfl) hp.2 rfl) ?_
       refine kJ (t:=58) rfl rfl rfl ?_
       obtain⟨EW,Ya,hF⟩:=bind_some hF
       refine AY (.cons .h (.cons .h .nil)) (z_ (pre:=[]) (.cons dm (.cons dm .nil)) (fun _=>.nil) (bZ Pm.h (.cons (.tmp rfl rfl) .nil) (@K7 fuel ({Head:=c148,Atoms:=nW}:bG) lJ v208 _ Ya))) (fun _=>?_)
       refine kJ (t:=58) rfl rfl rfl ?_
       refine Cm (sv aM) rfl rfl ?_
       refine kJ (t:=58) rfl rfl rfl ?_
       refine ai (jI (s:=EW) (t:=aM) (.tmp rfl rfl) (.tmp rfl rfl)) ?_
       refine ai (qF (b:=false) (u:=(.bool true)) (v:=(.bool (!(EW==aM)))) (.tmp rfl rfl) (.bool _) (.tmp rfl rfl)) ?_
       refine fH ?_
       obtain rfl:=Option.some.inj hF
       exact⟨_,_,rfl,(bF.cons rfl (bF.cons rfl (bF.cons rfl (bF.nil)))).eq,(.sel (.cons (.t (.t (.t .h))) (.cons (.t (.t (.t (.t .h)))) (.cons (.t .h) (.cons .h .nil)))))⟩
     rintro _ _ ⟨yB,aek,rfl,rfl,hE⟩
     replace hF:=O0
     clear O0
     try dsimp only at hF
     refine bz hE ?_
     refine mo (b:=yB) (.tmp rfl rfl) (fun Hr=>?_) (fun Hr=>?_)
     · rw[if_pos Hr]at hF
       refine eu (ai (fM ek.h rfl (vs:=[]) .nil (cells:=[(.slice none 0 0),(.slice none 0 0)]) rfl) ?_)
       refine cB (.cons .h .nil) (jV (e':=(.agg ([(.slice none 0 0),(.slice none 0 0)]:List Value).toArray)) (v:=(.agg ([(.slice none 0 0),(.slice none 0 0)]:List Value).toArray)) ek.h.sz (.tmp rfl rfl) (.tmp rfl rfl) rfl rfl rfl rfl rfl) (fun _=>?_)
       refine ai (jU (v:=(.bool false)) (.bool _)) ?_
       refine fH (vO ?_)
       obtain rfl:=Option.some.inj hF
       exact dO (⟨none,0,0⟩,[],⟨none,0,0⟩,[]) (.cellA rfl rfl .h rfl jd.h ek.h.sz rfl rfl (.tmp rfl rfl .nil)) rfl (.conv .nil (dK (Ro:=(aR aY)) (E:=3)) (.cons .nil) (.conv .nil (dK (Ro:=fJ) (E:=83)) (.cons .nil) (.sel (.cons (.t .h) (.cons .h .nil)))))
     rw[if_neg (by rw[Hr]; exact Bool.false_ne_true)]at hF
     refine uj (eu (jc (.t .h) (fun hp=>nu jd.h ek.h.sz rfl (.tmp rfl rfl) hp.2 rfl) ?_))
     refine cB (.cons .h .nil) (jV (e':=(.agg [lJ.v,v208.v].toArray)) (v:=(.agg [lJ.v,v208.v].toArray)) ek.h.sz (.tmp rfl rfl) (.tmp rfl rfl) rfl rfl rfl rfl rfl) (fun _=>?_)
     refine ai (jU (v:=(.bool true)) (.bool _)) ?_
     refine fH (vO ?_)
     obtain rfl:=Option.some.inj hF
     exact dO (lJ,BM,v208,E5) (.cellA rfl rfl .h rfl jd.h ek.h.sz rfl rfl (.tmp rfl rfl .nil)) rfl (.sel (.cons (.t (.t .h)) (.cons (.t (.t .h)) .nil)))
   obtain⟨X4,hx159,hd160⟩:=dC hd157
   have G5:(decide (((iA:Int):Int)<(fE.length:Int)))=true:=decide_eq_true (by omega)
   rw[sW]at hF
   refine jY (eu (Cm (.int .i64 (iA:Int)) rfl rfl ?_))
   refine Cm pW.1.v rfl rfl ?_
   refine jc (.t (.t (.t (.t (.t .h))))) (fun hp=>qJ (l:=fE.length) gY.h (.tmp rfl rfl) (xL hp)) ?_
   refine ai (xY (i:=(iA:Int)) (j:=(fE.length:Int)) (.tmp rfl rfl) (.tmp rfl rfl)) ?_
   refine fH (mo (b:=(decide (((iA:Int):Int)<(fE.length:Int)))) (.tmp rfl rfl) (fun _=>?_) (fun hb=>absurd (G5.symm.trans hb) (by decide)))
   refine uj (DV (uk [0,1,2,3,4,5,6,7,8,9,10] [0,1,0,0,12,28,60,124,255,511,1023] [6,8,10] mixed (by decide+kernel) ?_))
   refine bg rfl .no (fun ha=>ni (off:=0) Oo.h (EN ha (.tmp rfl rfl) rfl)) ?_
   refine oU rfl .no (.t (.t (.t .h))) (fun ha hp=>lm (v:=lJ.v) uC.h (EN ha (.tmp rfl rfl) rfl) hp.2 rfl rfl) ?_
   refine Dm pW.1.v rfl rfl rfl rfl ?_
   refine Dm (.int .i64 (iA:Int)) rfl rfl rfl rfl ?_
   refine Eg (a:=BJ) gY.h iF.h.sz rfl .no (.tmp rfl rfl) (.tmp rfl rfl) rfl rfl (.t (.t (.t (.t (.t .h))))) (Int.natCast_nonneg iA) hx159 (fun ael aem=>?_)
   refine Eh (w:=(sv BJ)) Cb.h rfl .no (.tmp rfl rfl) rfl .h eZ ?_
   obtain⟨EX,Yb,hF⟩:=bind_some hF
   refine mD rfl rfl .no .nil (.own (.t (.t (.t (.t .h)))) (fun _ h=>h) .nil) (fun ha=>bZ Pf.h (.cons (EN ha (.tmp rfl rfl) rfl) .nil) (@K5 fuel BJ _ Yb)) (fun _=>?_)
   refine q8 rfl .no rfl (fun ha=>eH (g:=true) (len:=1) (parts:=[(0,.tmp 34)]) eB.h dU.h (.cons (EN ha (.tmp rfl rfl) rfl) .nil) (vs:=[(.int .i64 EX)]) rfl rfl rfl (by intro v hv; simp at hv; rcases hv with rfl<;>rfl)) (fun aen=>?_)
   refine D8 (.cons .h .nil) (eT (Ro:=(aR aY)) (E:=3) (F:=([]++[])) (xs:=([EX]:List Int)) (fK (iL (fun _=>rfl)) eQ dE) rfl rfl) dE ?_
   obtain⟨PR,Yc,hF⟩:=bind_some hF
   refine iw rfl rfl .no (.cons (.t (.t (.t (.t (.t (.t .h)))))) (.cons .h .nil)) (.dep rfl (.dep rfl .nil)) (fun ha=>iJ (Ro:=(aR aY)) eB.h lY dU.h rfl rfl rfl (EN ha (.tmp rfl rfl) rfl) (EN ha (.tmp rfl rfl) rfl) Yc iM) (fun Jd=>?_)
   refine bg rfl .no (fun ha=>ni (off:=0) Oo.h (EN ha (.tmp rfl rfl) rfl)) ?_
   refine iw rfl rfl .no (.cons (.t (.t (.t (.t (.t .h))))) .nil) (.dep rfl (.dep rfl .nil)) (fun ha=>jV (e':=(.agg [Jd.1.v,(.slice none 0 0)].toArray)) A8.h.sz (EN ha (.tmp rfl rfl) rfl) (EN ha (.tmp rfl rfl) rfl) rfl rfl rfl rfl rfl) (fun _=>?_)
   refine Ef (zK (Cm (.int .i64 (iA:Int)) rfl rfl ?_))
   refine ai (Aj (i:=(iA:Int)) (j:=1) (.tmp rfl rfl) (.int _ _)) ?_
   refine Ca (.int .i64 (IntKind.i64.wrap ((iA:Int)+1))) rfl rfl ?_
   refine fH ?_
   have Yd:IntKind.i64.wrap ((iA:Int)+1)=((iA+1:Nat):Int):=by rw[eP (by omega) (by omega)]; rfl
   rw[Yd]
   exact⟨_,Nat.lt_succ_self _,_,iA+1,qC,_,Jd.1,Jd.2,rfl,(bF.cons rfl (bF.cons rfl (bF.cons rfl (bF.cons rfl (bF.cons rfl (bF.cons rfl (bF.cons rfl (bF.nil)))))))).eq,hd160,(.sel (.rd (.t (.t (.t .h))) rfl (.cons (.t (.t (.t (.t .h)))) (.cons (.t (.t (.t (.t .h)))) (.cons .h (.cons .h (.rd (.t (.t .h)) rfl .nil))))))),hF⟩
 rw[if_neg (by rw[Ho]; exact Bool.false_ne_true)]at hF
 refine uj (jY (eu (ai (jU (v:=(.int .i64 2)) (.int _ _)) ?_)))
 refine fH (bI (nI (.t .h) dm ?_))
 refine bY (m:=(((r2.length:Int)-2).toNat+2)) (fun wu f' cs'=>∃(g:Fr)(nX:List aW)(lI:Int)(nY:Sv)(E8:List Nat),f'=aH g [(0,ae.v),(1,(sv aM)),(4,(.pointer (some ⟨k1,0,some 0⟩))),(6,p4.1.v),(7,(.pointer (some ⟨k5,0,some 0⟩))),(10,(.int .i64 lI))]/\aF cs' [eF (cO 3 aY) ae.v aa,bV k1 59 (.agg ([(.slice none 0 0),(.slice none 0 0)]:List Value).toArray),eF (cO 9 rdStr) p4.1.v r2,bV k5 59 (.agg [(.slice none 0 0),nY.v].toArray),bP (bL 83 fJ) E8 nY.v nX]/\uZ aa aM r2 fuel wu nX lI=some R) ⟨_,_,_,⟨none,0,0⟩,[],(bF.cons rfl (bF.cons rfl (bF.cons rfl (bF.cons rfl (bF.cons rfl (bF.cons rfl (bF.nil))))))).eq,(.conv .nil (dK (Ro:=fJ) (E:=83)) (.cons .nil) (.sel (.rd (.t (.t (.t (.t .h)))) rfl (.cons (.t (.t (.t .h))) (.rd (.t .h) rfl (.cons (.t (.t .h)) (.cons .h .nil))))))),hF⟩ ?_
 clear hF
 rintro wu _ _ ⟨aeo,nX,lI,nY,E8,rfl,hE,hF⟩
 refine bz hE ?_
 clear hE
 rcases wu with _|wu
 · rw[uZ]at hF
   exact absurd hF (by simp)
 rw[uZ]at hF
 refine jY (eu (Cm (.int .i64 lI) rfl rfl ?_))
 refine Cm p4.1.v rfl rfl ?_
 refine jc (.t (.t .h)) (fun hp=>qJ (l:=r2.length) gY.h (.tmp rfl rfl) (xL hp)) ?_
 refine ai (xY (i:=lI) (j:=(r2.length:Int)) (.tmp rfl rfl) (.tmp rfl rfl)) ?_
 refine fH (mo (b:=(decide ((lI:Int)<(r2.length:Int)))) (.tmp rfl rfl) (fun Ht=>?_) (fun Ht=>?_))
 · rw[if_pos Ht]at hF
   refine uj (DV (uk [0,1,2,3,4,5,6,7,8,9,10] [0,1,0,0,12,28,60,124,255,511,1023] [6,8,10] mixed (by decide+kernel) ?_))
   refine bg rfl .no (fun ha=>ni (off:=1) vQ.h (EN ha (.tmp rfl rfl) rfl)) ?_
   refine oU rfl .no (.t (.t (.t .h))) (fun ha hp=>lm (v:=nY.v) Ph.h (EN ha (.tmp rfl rfl) rfl) hp.2 rfl rfl) ?_
   refine Dm p4.1.v rfl rfl rfl rfl ?_
   refine Dm (.int .i64 lI) rfl rfl rfl rfl ?_
   obtain⟨BK,Ye,hF⟩:=bind_some hF
   obtain⟨Yf,Yg⟩:=qy Ye
   refine Eg (a:=BK) gY.h iF.h.sz rfl .no (.tmp rfl rfl) (.tmp rfl rfl) rfl rfl (.t (.t .h)) Yf Yg (fun aep aeq=>?_)
   refine Eh (w:=(sv BK)) Cb.h rfl .no (.tmp rfl rfl) rfl .h eZ ?_
   obtain⟨EY,Yh,hF⟩:=bind_some hF
   refine iw rfl rfl .no .nil (.own (.t (.t (.t (.t .h)))) (fun _ h=>h) .nil) (fun ha=>bZ Pi.h (.cons (EN ha (.tmp rfl rfl) rfl) .nil) (@K6 fuel BK _ Yh)) (fun PV=>?_)
   refine q8 rfl .no rfl (fun ha=>eH (g:=true) (len:=1) (parts:=[(0,.tmp 50)]) rD.h mJ.h (.cons (EN ha (.tmp rfl rfl) rfl) .nil) (vs:=[(.agg [(.int .i64 EY.Rel),PV.1.v].toArray)]) rfl rfl rfl (by intro v hv; simp at hv; rcases hv with rfl<;>rfl)) (fun aer=>?_)
   refine D8 (.cons .h (.cons .h .nil)) (eT (Ro:=fJ) (E:=83) (F:=(PV.2++[])) (xs:=([EY]:List aW)) (fK Ew eQ dE) rfl rfl) dE ?_
   obtain⟨PS,Yi,hF⟩:=bind_some hF
   refine iw rfl rfl .no (.cons (.t (.t (.t (.t (.t (.t .h)))))) (.cons .h .nil)) (.dep rfl (.dep rfl .nil)) (fun ha=>iJ (Ro:=fJ) rD.h Ex mJ.h rfl rfl rfl (EN ha (.tmp rfl rfl) rfl) (EN ha (.tmp rfl rfl) rfl) Yi iM) (fun Je=>?_)
   refine bg rfl .no (fun ha=>ni (off:=1) vQ.h (EN ha (.tmp rfl rfl) rfl)) ?_
   refine iw rfl rfl .no (.cons (.t (.t (.t (.t (.t .h))))) .nil) (.dep rfl (.dep rfl .nil)) (fun ha=>jV (e':=(.agg [(.slice none 0 0),Je.1.v].toArray)) Pj.h.sz (EN ha (.tmp rfl rfl) rfl) (EN ha (.tmp rfl rfl) rfl) rfl rfl rfl rfl rfl) (fun _=>?_)
   refine Ef (zK (Cm (.int .i64 lI) rfl rfl ?_))
   refine ai (Aj (i:=lI) (j:=2) (.tmp rfl rfl) (.int _ _)) ?_
   refine Ca (.int .i64 (IntKind.i64.wrap (lI+2))) rfl rfl ?_
   refine fH ?_
   exact⟨wu,Nat.lt_succ_self _,_,_,_,Je.1,Je.2,(bF.cons rfl (bF.cons rfl (bF.cons rfl (bF.cons rfl (bF.cons rfl (bF.cons rfl (bF.nil))))))).eq,(.sel (.rd (.t (.t (.t .h))) rfl (.cons (.t (.t (.t (.t .h)))) (.rd (.t (.t (.t (.t .h)))) rfl (.cons .h (.cons .h .nil)))))),hF⟩
 rw[if_neg (by rw[Ht]; exact Bool.false_ne_true)]at hF
 refine DU ?_
 iterate 2 refine Dj ?_
 refine Dz (jY ?_)
 obtain⟨Jb,VS,O1⟩:=bind_some hF
 refine eu (b_ (fun f' cs'=>∃(yC:Bool)(g:Fr),yC=Jb/\f'=aH g [(4,(.pointer (some ⟨k1,0,some 0⟩))),(7,(.pointer (some ⟨k5,0,some 0⟩))),(63,(.bool yC))]/\aF cs' [bV k1 59 (.agg ([(.slice none 0 0),(.slice none 0 0)]:List Value).toArray),bV k5 59 (.agg [(.slice none 0 0),nY.v].toArray),bP (bL 83 fJ) E8 nY.v nX]) ?_ ?_)
 · replace hF:=VS
   refine Cm ae.v rfl rfl ?_
   refine jc (.t (.t (.t .h))) (fun hp=>nu jd.h ek.h.sz rfl (.tmp rfl rfl) hp.2 rfl) ?_
   refine Oe .nil (xS (R:=aY) (E:=3)) dE ?_
   obtain⟨BL,Yj,hF⟩:=bind_some hF
   refine cB (.cons (.t (.t (.t (.t (.t .h))))) (.rd (.t .h) rfl (.rd .h rfl .nil))) (gL dm (fun _=>.nil) (nE (.rd (.t .h) rfl (.rd (.t (.t .h)) rfl (.rd .h rfl .nil))) (bZ Pk.h (.cons (.tmp rfl rfl) (.cons (.tmp rfl rfl) .nil)) (@L_ aa ae ({Head:=[],Atoms:=nX}:bG) (⟨none,0,0⟩) nY _ Yj)))) (fun _=>?_)
   refine ai (Ak (b:=BL) (.tmp rfl rfl)) ?_
   refine Cm (.bool (!BL)) rfl rfl ?_
   rcases Bool.eq_false_or_eq_true (!BL)with AO|AO
   · rw[AO]
     try rw[AO]at hF; dsimp only[cond_true,cond_false]at hF
     iterate 4 refine xZ (t:=58) rfl rfl rfl ?_
     refine ai (qF (b:=true) (u:=(.bool true)) (v:=undef) (.tmp rfl rfl) (.bool _) (.tmp rfl rfl)) ?_
     refine fH ?_
     obtain rfl:=Option.some.inj hF
     exact⟨_,_,rfl,(bF.cons rfl (bF.cons rfl (bF.cons rfl (bF.nil)))).eq,(.sel (.cons (.t (.t (.t .h))) (.cons (.t (.t (.t (.t .h)))) (.cons .h .nil))))⟩
   rw[AO]
   try rw[AO]at hF; dsimp only[cond_true,cond_false]at hF
   refine kJ (t:=58) rfl rfl rfl ?_
   refine jc (.t (.t (.t (.t (.t .h))))) (fun hp=>nu jd.h ek.h.sz rfl (.tmp rfl rfl) hp.2 rfl) ?_
   refine kJ (t:=58) rfl rfl rfl ?_
   obtain⟨EZ,Yk,hF⟩:=bind_some hF
   refine cB (.cons .h (.rd .h rfl .nil)) (gL dm (fun _=>.nil) (nE (.rd (.t .h) rfl (.rd .h rfl .nil)) (bZ Pm.h (.cons (.tmp rfl rfl) .nil) (@K7 fuel ({Head:=[],Atoms:=nX}:bG) (⟨none,0,0⟩) nY _ Yk)))) (fun _=>?_)
   refine kJ (t:=58) rfl rfl rfl ?_
   refine Cm (sv aM) rfl rfl ?_
   refine kJ (t:=58) rfl rfl rfl ?_
   refine ai (jI (s:=EZ) (t:=aM) (.tmp rfl rfl) (.tmp rfl rfl)) ?_
   refine ai (qF (b:=false) (u:=(.bool true)) (v:=(.bool (!(EZ==aM)))) (.tmp rfl rfl) (.bool _) (.tmp rfl rfl)) ?_
   refine fH ?_
   obtain rfl:=Option.some.inj hF
   exact⟨_,_,rfl,(bF.cons rfl (bF.cons rfl (bF.cons rfl (bF.nil)))).eq,(.sel (.cons (.t (.t (.t .h))) (.cons (.t (.t (.t (.t .h)))) (.cons .h .nil))))⟩
 rintro _ _ ⟨yC,aes,rfl,rfl,hE⟩
 replace hF:=O1
 clear O1
 try dsimp only at hF
 refine bz hE ?_
 refine mo (b:=yC) (.tmp rfl rfl) (fun Hu=>?_) (fun Hu=>?_)
 · rw[if_pos Hu]at hF
   refine eu (ai (fM ek.h rfl (vs:=[]) .nil (cells:=[(.slice none 0 0),(.slice none 0 0)]) rfl) ?_)
   refine cB (.cons .h .nil) (jV (e':=(.agg ([(.slice none 0 0),(.slice none 0 0)]:List Value).toArray)) (v:=(.agg ([(.slice none 0 0),(.slice none 0 0)]:List Value).toArray)) ek.h.sz (.tmp rfl rfl) (.tmp rfl rfl) rfl rfl rfl rfl rfl) (fun _=>?_)
   refine ai (jU (v:=(.bool false)) (.bool _)) ?_
   refine fH (vO ?_)
   obtain rfl:=Option.some.inj hF
   exact dO (⟨none,0,0⟩,[],⟨none,0,0⟩,[]) (.cellA rfl rfl .h rfl jd.h ek.h.sz rfl rfl (.tmp rfl rfl .nil)) rfl (.conv .nil (dK (Ro:=(aR aY)) (E:=3)) (.cons .nil) (.conv .nil (dK (Ro:=fJ) (E:=83)) (.cons .nil) (.sel (.cons (.t .h) (.cons .h .nil)))))
 rw[if_neg (by rw[Hu]; exact Bool.false_ne_true)]at hF
 refine uj (eu (jc (.t .h) (fun hp=>nu jd.h ek.h.sz rfl (.tmp rfl rfl) hp.2 rfl) ?_))
 refine cB (.cons .h .nil) (jV (e':=(.agg [(.slice none 0 0),nY.v].toArray)) (v:=(.agg [(.slice none 0 0),nY.v].toArray)) ek.h.sz (.tmp rfl rfl) (.tmp rfl rfl) rfl rfl rfl rfl rfl) (fun _=>?_)
 refine ai (jU (v:=(.bool true)) (.bool _)) ?_
 refine fH (vO ?_)
 obtain rfl:=Option.some.inj hF
 exact dO (⟨none,0,0⟩,[],nY,E8) (.cellA rfl rfl .h rfl jd.h ek.h.sz rfl rfl (.tmp rfl rfl .nil)) rfl (.conv .nil (dK (Ro:=(aR aY)) (E:=3)) (.cons .nil) (.sel (.cons .h (.cons (.t (.t .h)) .nil))))
def zL(fuel:Nat)(aa:List Int)(bT:Event):Option (Bool):=
 if ((bT.Kind:Int)==1)then (
   (zb fuel aa bT.Text).bind fun r2=>
   some r2.2)
 else (
   if ((bT.Kind:Int)==2)then (
     (zu fuel aa bT.Text).bind fun r5=>
     some r5.2)
   else (
     if ((bT.Kind:Int)==3)then (
       if ((bT.Kind:Int)==3)then (
         (xg fuel aa bT.Text).bind fun r8=>
         some r8.2)
       else (
         if ((bT.Kind:Int)==5)then (
           (oL fuel bT.Text).bind fun iQ=>
           (bif iQ.2 then ((dL iQ.1 1 100).bind fun fo=>
               some fo)
             else (some false)).bind fun ko=>
           match ko with
           |c20=>some c20)
         else (
           if ((bT.Kind:Int)==6)then (
             (w_ fuel aa bT.Text).bind fun ib=>
             some ib.2)
           else (
             some false))))
     else (
       if ((bT.Kind:Int)==4)then (
         (xg fuel aa bT.Text).bind fun mR=>
         some mR.2)
       else (
         if ((bT.Kind:Int)==5)then (
           (oL fuel bT.Text).bind fun jm=>
           (bif jm.2 then ((dL jm.1 1 100).bind fun QF=>
               some QF)
             else (some false)).bind fun Kc=>
           match Kc with
           |c40=>some c40)
         else (
           if ((bT.Kind:Int)==6)then (
             (w_ fuel aa bT.Text).bind fun yK=>
             some yK.2)
           else (
             some false))))))
theorem S_{fuel:Nat}{aa:List Int}{ae:Sv}{bT:Event}{R:Bool}(hF:zL fuel aa bT=some R):
   Fw.Spec Tryz.prog 7 [ae.v,(zg [(zi bT.Kind),(sv bT.Text)])] [aC ae aa] (fun _:Unit=>(.bool R)) (fun _=>[]):=by
 refine Se 61 Tryz.func7 [.tmp 4] ?_
 intro H0 F0
 unfold zL at hF
 refine au ?_
 refine fe (fun k1=>?_)
 refine kG ?_
 refine bI (eu (ai (Eb (i:=bT.Kind) (j:=1) (.tmp rfl rfl) (.int _ _)) ?_))
 refine aI ?_
 refine Ci hF (fun aaz hF=>?_) (fun aaz hF=>?_)
 · refine aB ?_
   refine bnd hF fun r2 hx3 hF=>dM (RI hx3) (fun p4=>?_)
   refine au ?_
   refine zx ?_
   refine zx ?_
   exact ze hF
 refine aB ?_
 refine Ci hF (fun Jf hF=>?_) (fun Jf hF=>?_)
 · refine aB ?_
   refine bnd hF fun r5 hx6 hF=>dM (Sj hx6) (fun p7=>?_)
   refine au ?_
   refine zx ?_
   refine zx ?_
   exact ze hF
 refine aD ?_
 refine Ci hF (fun hb48 hF=>?_) (fun hb48 hF=>?_)
 · refine au ?_
   refine Ci hF (fun Jg hF=>?_) (fun Jg hF=>?_)
   · refine aB ?_
     refine bnd hF fun r8 bQ hF=>dM (Li bQ) (fun p10=>?_)
     refine au ?_
     refine zx ?_
     refine zx ?_
     exact ze hF
   refine aB ?_
   refine Ci hF (fun BA hF=>?_) (fun BA hF=>?_)
   · refine ay ?_
     refine bnd hF fun iQ lc hF=>aA (Gb lc) (fun _=>?_)
     refine au ?_
     refine zx ?_
     refine zx ?_
     refine ay ?_
     obtain⟨ko,vS,vY⟩:=bind_some hF
     refine au ?_
     refine b_ (fun f' cs'=>∃(c20:Bool)(g:Fr),c20=ko/\f'=aH g [(5,(.bool c20))]/\aF cs' []) ?_ ?_
     · replace hF:=vS
       refine aI ?_
       rcases bi iQ.2 with gz|gz
       · rw[gz]
         try rw[gz]at hF; dsimp only[ak,aj]at hF
         refine ay ?_
         refine bnd hF fun fo jC hF=>aA (eX jC) (fun _=>?_)
         exact aP hF
       rw[gz]
       try rw[gz]at hF; dsimp only[ak,aj]at hF
       exact aP hF
     rintro _ _ ⟨c20,g21,rfl,rfl,hE⟩
     replace hF:=vY
     try dsimp only at hF
     refine bz hE ?_
     exact ze hF
   refine aB ?_
   refine Ci hF (fun BB hF=>?_) (fun BB hF=>?_)
   · refine aB ?_
     refine bnd hF fun ib jL hF=>BZ (Le jL) (fun JI=>?_)
     refine au ?_
     refine zx ?_
     refine zx ?_
     exact ze hF
   exact ze hF
 refine aB ?_
 refine Ci hF (fun Bq hF=>?_) (fun Bq hF=>?_)
 · refine aB ?_
   refine bnd hF fun mR hx29 hF=>dM (Li hx29) (fun p30=>?_)
   refine au ?_
   refine zx ?_
   refine zx ?_
   exact ze hF
 refine aB ?_
 refine Ci hF (fun aaA hF=>?_) (fun aaA hF=>?_)
 · refine ay ?_
   refine bnd hF fun jm hx32 hF=>aA (Gb hx32) (fun _=>?_)
   refine au ?_
   refine zx ?_
   refine zx ?_
   refine ay ?_
   obtain⟨Kc,Yl,aaB⟩:=bind_some hF
   refine au ?_
   refine b_ (fun f' cs'=>∃(c40:Bool)(g:Fr),c40=Kc/\f'=aH g [(5,(.bool c40))]/\aF cs' []) ?_ ?_
   · replace hF:=Yl
     refine aI ?_
     rcases bi jm.2 with BN|BN
     · rw[BN]
       try rw[BN]at hF; dsimp only[ak,aj]at hF
       refine ay ?_
       refine bnd hF fun QF hx38 hF=>aA (eX hx38) (fun _=>?_)
       exact aP hF
     rw[BN]
     try rw[BN]at hF; dsimp only[ak,aj]at hF
     exact aP hF
   rintro _ _ ⟨c40,JQ,rfl,rfl,hE⟩
   replace hF:=aaB
   try dsimp only at hF
   refine bz hE ?_
   exact ze hF
 refine aB ?_
 refine Ci hF (fun aaC hF=>?_) (fun aaC hF=>?_)
 · refine aB ?_
   refine bnd hF fun yK il hF=>BZ (Le il) (fun p44=>?_)
   refine au ?_
   refine zx ?_
   refine zx ?_
   exact ze hF
 exact ze hF
def CV(aa dX:List UInt8)(E9 bX:Int):Option (List (List UInt8)):=
 if E9=0/\bX= -1/\aa.length<4294967281/\1<=dX.length/\(Lib.split aa dX).length<4294967296 then some (Lib.split aa dX)else none
theorem Rq{aa dX:List UInt8}{E9 bX:Int}{R:List (List UInt8)}(hF:CV aa dX E9 bX=some R):
   Fw.Spec Tryz.prog 68 [sv aa,sv dX,.int .i64 E9,.int .i64 bX] [] (fun p:Sv=>p.v) (fun p=>[iY p R]):=by
 unfold CV at hF
 split at hF
 · rename_i h
   obtain⟨rfl,rfl,h1,h3,h2⟩:=h
   cases hF
   exact Tm VI iF.h.sz h2 fun w hv=>by
     obtain⟨m,hm⟩:=(iB.cellI (P:=Tryz.prog) (fun w0 (h:aV.V Tryz.prog w0)=>And.right (And.right (And.right h))) hv.choose_spec)
     exact SQ Vd hi9 aa dX m h1 h3 w hm
 · simp at hF
def lS(aa:List UInt8)(dX:List UInt8):Option ((List (List UInt8))):=
 (CV aa dX 0 (-1)).bind fun r1=>
 some r1
theorem sN{aa dX:List UInt8}{R:(List (List UInt8))}(hF:lS aa dX=some R):
   Fw.Spec Tryz.prog 34 [(sv aa),(sv dX)] [] (fun p:Sv=>p.v) (fun p=>[iY p R]):=by
 refine Se 8 Tryz.func34 [.tmp 4] ?_
 intro H0 F0
 unfold lS at hF
 refine bC ?_
 refine bnd hF fun r1 hx2 hF=>dM (Rq hx2) (fun p3=>?_)
 refine ay ?_
 cases hF
 exact Er p3
def C_(aa:List UInt8):Option (Int×Bool):=
 if aa.length<=281474976710656 then some (ru aa)else none
theorem RA{aa:List UInt8}{R:Int×Bool}(hF:C_ aa=some R):
   Fw.Spec Tryz.prog 90 [sv aa] [] (fun p:Nat=>(.tuple [(zi R.1),(pg 219 p R.2)].toArray)) (fun _=>[]):=by
 unfold C_ at hF
 split at hF
 · rename_i h
   cases hF
   exact Uf fun w hv=>TR UH aa h w (iB.varE (P:=Tryz.prog) (fun w0 (h:aV.V Tryz.prog w0)=>And.left (And.right h)) hv.choose_spec) (iB.varE (P:=Tryz.prog) (fun w0 (h:aV.V Tryz.prog w0)=>And.left (And.right (And.right h))) hv.choose_spec)
 · simp at hF
def gP(bX:Int)(lW:Int)(nH:Int):Option (Bool):=
 some ((decide ((lW:Int)<=bX))&&(decide ((bX:Int)<=nH)))
theorem jq{bX lW nH:Int}{R:Bool}(hF:gP bX lW nH=some R):
   Fw.Spec Tryz.prog 60 [(zi bX),(zi lW),(zi nH)] [] (fun _:Unit=>(.bool R)) (fun _=>[]):=by
 refine Se 15 Tryz.func60 [.tmp 6] ?_
 intro H0 F0
 unfold gP at hF
 refine aB ?_
 refine b_ (fun f' cs'=>∃(g:Fr),f'=aH g [(6,(.bool ((decide ((lW:Int)<=bX))&&(decide ((bX:Int)<=nH)))))]/\aF cs' []) ?_ ?_
 · refine aB ?_
   rcases bi (decide ((lW:Int)<=bX))with hg1|hg1
   · rw[hg1]
     try rw[hg1]at hF; dsimp only[ak,aj]at hF
     refine gq ?_
     exact⟨_,aN,aL⟩
   rw[hg1]
   try rw[hg1]at hF; dsimp only[ak,aj]at hF
   refine bC ?_
   exact⟨_,aN,aL⟩
 rintro _ _ ⟨g2,rfl,hE⟩
 refine bz hE ?_
 exact ze hF
def y9(bX:Int):Option (List UInt8):=
 if -9223372036854775808<=bX/\bX<=9223372036854775807 then some (Lib.itoa bX)else none
theorem RB{bX:Int}{R:List UInt8}(hF:y9 bX=some R):
   Fw.Spec Tryz.prog 135 [.int .i64 bX] [] (fun _:Unit=>(sv R)) (fun _=>[]):=by
 unfold y9 at hF
 split at hF
 · rename_i h
   cases hF
   exact Ud fun w hv=>Go.Proofs.Any.strconv_Itoa UI bX h.1 h.2 w (iB.var (fun w0 (h:aV.V Tryz.prog w0)=>And.left h) hv.choose_spec)
 · simp at hF
def iI(bX:Int):Option ((List UInt8)):=
 (y9 bX).bind fun r1=>
 some r1
theorem kC{bX:Int}{R:(List UInt8)}(hF:iI bX=some R):
   Fw.Spec Tryz.prog 91 [(zi bX)] [] (fun _:Unit=>(sv R)) (fun _=>[]):=by
 refine Se 5 Tryz.func91 [.tmp 2] ?_
 intro H0 F0
 unfold iI at hF
 refine aD ?_
 refine bnd hF fun r1 hx2 hF=>aA (RB hx2) (fun _=>?_)
 exact ze hF
end Go.Proofs.YtcjkjmnbdlnojaaGreatDoor
