/-
  Functions of the program as Lean functions, and that the calls return what these say: part 1. No conditions.
-/
import Derived.Test.YtcjkjmnbdlnojaaGreatDoorFc
import Derived.Shelf.Strconv.Itoa3
import Derived.Shelf.Strings.OnBuilder
import Derived.Shelf.Sort.Plain
import Derived.Shelf.Slices.In.SortNone
import Derived.Shelf.Slices.CompactI
import Derived.Test.YtcjkjmnbdlnojaaGreatDoorProg
import Derived.KernelRfl
set_option maxRecDepth 100000
set_option maxHeartbeats 1000000
set_option linter.unusedVariables false
namespace Go.Proofs.YtcjkjmnbdlnojaaGreatDoor
open Go Go.Fw

theorem ll{G:Prop}(h:G:=by (unfold FD; kernel_rfl)):G:=h
theorem oQ{G:Prop}(h:G:=by (unfold AG; kernel_rfl)):G:=h
theorem Ac{G:Prop}(h:G:=by (unfold SL; kernel_rfl)):G:=h
theorem nH{G:Prop}(h:G:=by (unfold TY; kernel_rfl)):G:=h
instance:aW Tryz.prog:=⟨fun w=>Lib.TabIs Tryz.prog w "internal/strconv.uint64pow10" .u64 Lib.pow10Tab/\(∃tp p,w.var? Tryz.prog "strconv.ErrSyntax" =some #[.iface tp p])/\(∃tp p,w.var? Tryz.prog "strconv.ErrRange" =some #[.iface tp p])/\ ∃m,w.cell? ⟨0,0,none⟩=some (.int .i64 m)⟩
instance eZ:pJ Tryz.prog 22 3:=⟨Ac⟩
theorem dG:Fw.ST Tryz.prog 9:=by unfold Fw.ST; kernel_rfl
instance cf8:aT Tryz.prog 8:=⟨Tryz.call8⟩
instance ek:iY Tryz.prog 3 1 8 (.int .i64 0):=⟨nH⟩
theorem dE{a:Int}:∀H e,aY H e a->e.cells.toList[0]?=some (.int .i64 a):=by
 intro H e h
 subst h
 rfl
instance LB:iX Tryz.prog 3 false:=⟨oQ⟩
instance abz:aT Tryz.prog 15:=⟨Tryz.call15⟩
structure Event where
 Kind:Int
 Text:List UInt8
instance qE:pJ Tryz.prog 36 28:=⟨Ac⟩
instance jy:iY Tryz.prog 28 2 24 (.agg [(.int .i64 0),(.string ⟨[].toArray⟩)].toArray):=⟨nH⟩
def ib(_:ag)(v:Value)(a:Event):Prop:=v= .agg [(.int .i64 a.Kind),(sv a.Text)].toArray
instance:Pure ib:=⟨fun h=>h⟩
instance:Cells ib 2:=⟨fun h=>by
 subst h
 exact⟨rfl,rfl⟩⟩
instance JU:aT Tryz.prog 33:=⟨Tryz.call33⟩
instance fI:pJ Tryz.prog 68 9:=⟨Ac⟩
instance gy:iY Tryz.prog 9 1 16 (.string ⟨[].toArray⟩):=⟨nH⟩
theorem Db:xG Tryz.prog 68:=.inr ⟨9,by kernel_rfl⟩
instance uD:iX Tryz.prog 9 false:=⟨oQ⟩
theorem zX{a:List UInt8}:∀F H e,(aK rdStr) F H e a->e.cells.toList[0]?=some (sv a):=by
 intro F H e h
 obtain⟨-,h⟩:=h
 subst h
 rfl
instance abA:aT Tryz.prog 12:=⟨Tryz.call12⟩
instance ae9:aT Tryz.prog 28:=⟨Tryz.call28⟩
instance ae_:aT Tryz.prog 25:=⟨Tryz.call25⟩
instance Dc:iX Tryz.prog 28 true:=⟨oQ⟩
instance cf7:aT Tryz.prog 7:=⟨Tryz.call7⟩
instance adG:kv Tryz.prog 28 0 0:=⟨ll⟩
instance adH:kv Tryz.prog 28 1 1:=⟨ll⟩
instance ae':aT Tryz.prog 21:=⟨Tryz.call21⟩
structure Method where
 Rel:Int
 Inputs:List Int
 Limit:Int
 Cost:Int
 Quota:Int
instance jh:iY Tryz.prog 43 5 56 (.agg [(.int .i64 0),(.slice none 0 0),(.int .i64 0),(.int .i64 0),(.int .i64 0)].toArray):=⟨nH⟩
instance oU:iX Tryz.prog 43 true:=⟨oQ⟩
theorem mixed:Tryz.prog.follows .mixedOrders=true:=by kernel_rfl
theorem fw{a:List UInt8}:∀H e,rdStr H e a->e.cells.toList[0]?=some (sv a):=by
 intro H e h
 subst h
 rfl
instance JV:aT Tryz.prog 36:=⟨Tryz.call36⟩
instance Ad:aT Tryz.prog 37:=⟨Tryz.call37⟩
instance afa:aT Tryz.prog 24:=⟨Tryz.call24⟩
theorem yt:IK Tryz.prog 5 .u8:=by unfold IK; kernel_rfl
theorem G_:IK Tryz.prog 3 .i64:=by unfold IK; kernel_rfl
instance afb:aT Tryz.prog 45:=⟨Tryz.call45⟩
instance zY:pJ Tryz.prog 108 5:=⟨Ac⟩
instance Aw:iY Tryz.prog 5 1 1 (.int .u8 0):=⟨nH⟩
theorem JW:Tryz.prog.underlying 9=some .string:=by kernel_rfl
instance adI:kv Tryz.prog 43 1 1:=⟨ll⟩
instance wh:iX Tryz.prog 22 false:=⟨oQ⟩
theorem mQ:xG Tryz.prog 22:=.inr ⟨3,by kernel_rfl⟩
instance De:iY Tryz.prog 22 1 24 (.slice none 0 0):=⟨nH⟩
instance abB:aT Tryz.prog 38:=⟨Tryz.call38⟩
instance afc:aT Tryz.prog 69:=⟨Tryz.call69⟩
instance adJ:kv Tryz.prog 43 0 0:=⟨ll⟩
instance adK:kv Tryz.prog 43 2 2:=⟨ll⟩
instance adL:kv Tryz.prog 43 3 3:=⟨ll⟩
instance adM:kv Tryz.prog 43 4 4:=⟨ll⟩
instance abC:aT Tryz.prog 39:=⟨Tryz.call39⟩
instance afd:aT Tryz.prog 70:=⟨Tryz.call70⟩
instance afe:aT Tryz.prog 22:=⟨Tryz.call22⟩
structure fA where
 From:Int
 To:Int
 Map:List Int
instance mi:iY Tryz.prog 47 3 40 (.agg [(.int .i64 0),(.int .i64 0),(.slice none 0 0)].toArray):=⟨nH⟩
instance Ae:iX Tryz.prog 47 true:=⟨oQ⟩
instance adN:kv Tryz.prog 47 2 2:=⟨ll⟩
instance abD:aT Tryz.prog 40:=⟨Tryz.call40⟩
instance adO:kv Tryz.prog 47 0 0:=⟨ll⟩
instance adP:kv Tryz.prog 47 1 1:=⟨ll⟩
instance abE:aT Tryz.prog 41:=⟨Tryz.call41⟩
instance aff:aT Tryz.prog 23:=⟨Tryz.call23⟩
structure Fact where
 Rel:Int
 Values:List Int
instance wm:iY Tryz.prog 51 2 32 (.agg [(.int .i64 0),(.slice none 0 0)].toArray):=⟨nH⟩
instance afg:aT Tryz.prog 42:=⟨Tryz.call42⟩
instance adQ:kv Tryz.prog 51 1 1:=⟨ll⟩
instance Gh:iX Tryz.prog 51 true:=⟨oQ⟩
instance abF:aT Tryz.prog 43:=⟨Tryz.call43⟩
instance adR:kv Tryz.prog 51 0 0:=⟨ll⟩
instance abG:aT Tryz.prog 44:=⟨Tryz.call44⟩
instance afh:aT Tryz.prog 26:=⟨Tryz.call26⟩
structure aX where
 Rel:Int
 Terms:List Int
structure bJ where
 Head:List Int
 Atoms:List aX
instance fe:iY Tryz.prog 59 2 48 (.agg [(.slice none 0 0),(.slice none 0 0)].toArray):=⟨nH⟩
instance QC:kv Tryz.prog 59 0 0:=⟨ll⟩
instance Ri:aT Tryz.prog 46:=⟨Tryz.call46⟩
instance xI:kv Tryz.prog 59 1 1:=⟨ll⟩
instance Rj:iX Tryz.prog 57 false:=⟨oQ⟩
instance Rk:aT Tryz.prog 47:=⟨Tryz.call47⟩
instance nI:iY Tryz.prog 83 2 32 (.agg [(.int .i64 0),(.slice none 0 0)].toArray):=⟨nH⟩
instance adS:kv Tryz.prog 83 1 1:=⟨ll⟩
instance abH:iX Tryz.prog 83 true:=⟨oQ⟩
instance tY:pJ Tryz.prog 57 83:=⟨Ac⟩
def Af(H:ag)(v:Value)(a:aX):Prop:=∃v0:Sv,v= .agg [(.int .i64 a.Rel),v0.v].toArray/\(b_ 3 aY) H v0.v a.Terms
instance:dA Af:=⟨fun h hi=>by
 obtain⟨v0,h,h0⟩:=h
 exact⟨v0,h,dA.up h0 hi⟩⟩
instance:Cells Af 2:=⟨fun h=>by
 obtain⟨v0,rfl,h0⟩:=h
 exact⟨rfl,rfl⟩⟩
def gu:eU aX:=fun F H v a=>∃(v0:Sv)(F0:List Nat),v= .agg [(.int .i64 a.Rel),v0.v].toArray/\F0=F/\(bL 3 (aK aY)) F0 H v0.v a.Terms
instance:gq gu:=⟨fun h hi hg=>by
 obtain⟨v0,F0,rfl,rfl,h0⟩:=h
 exact⟨v0,F0,rfl,rfl,gq.keep h0 hi (fun k hk=>hg k (by simp[hk]))⟩⟩
instance:Local gu:=⟨fun h hg=>by
 obtain⟨v0,F0,rfl,rfl,h0⟩:=h
 exact⟨v0,F0,rfl,rfl,Local.keep h0 (fun k hk=>hg k (by simp[hk]))⟩⟩
instance:tV gu:=⟨fun h k hk=>by
 obtain⟨v0,F0,rfl,rfl,h0⟩:=h
 exact tV.owns h0 k hk
⟩
instance:sH gu 2:=⟨fun h=>by
 obtain⟨v0,F0,rfl,rfl,h0⟩:=h
 exact⟨rfl,rfl⟩⟩
instance:uB gu Af:=⟨fun h hg=>by
 obtain⟨v0,F0,rfl,rfl,h0⟩:=h
 exact⟨v0,rfl,uB.frz h0 (fun k hk=>hg k (by simp[hk]))⟩⟩
theorem Gi{a:aX}{v0:Sv}{F0:List Nat}:Mk gu F0 (.agg [(.int .i64 a.Rel),v0.v].toArray) a [bN (bL 3 (aK aY)) F0 v0.v a.Terms]:=
 ⟨fun H h=>⟨v0,F0,rfl,rfl,h (bN (bL 3 (aK aY)) F0 v0.v a.Terms) (by simp)⟩,by simp[bN]⟩
theorem Gj:xG Tryz.prog 57:=.inr ⟨83,by kernel_rfl⟩
instance Rl:iY Tryz.prog 57 1 24 (.slice none 0 0):=⟨nH⟩
instance jJ:iX Tryz.prog 59 true:=⟨oQ⟩
instance Rm:aT Tryz.prog 48:=⟨Tryz.call48⟩
instance afi:aT Tryz.prog 72:=⟨Tryz.call72⟩
theorem Jl{a:aX}:∀H e,Af H e a-> ∃w:Sv,e.cells.toList[1]?=some w.v/\(b_ 3 aY) H w.v a.Terms:=by
 intro H e h
 obtain⟨v0,rfl,h0⟩:=h
 exact⟨v0,rfl,h0⟩
instance ad1:aT Tryz.prog 102:=⟨Tryz.call102⟩
instance ad2:aT Tryz.prog 103:=⟨Tryz.call103⟩
instance Gl:aT Tryz.prog 73:=⟨Tryz.call73⟩
theorem Jw{a:Int}:∀F H e,(aK aY) F H e a->e.cells.toList[0]?=some (.int .i64 a):=by
 intro F H e h
 obtain⟨-,h⟩:=h
 subst h
 rfl
def xq(a:aX)(p:Sv):List Value:=[(.int .i64 a.Rel),p.v]
theorem zt{a:aX}:∀H e,Af H e a-> ∃i:Sv,0+2<=e.cells.size/\(e.cells.toList.drop 0).take 2=xq a i/\ ∀c∈([dR (b_ 3 aY) i.v a.Terms]:List ah),c.P H/\c.F=[]:=by
 intro H e h
 obtain⟨v0,rfl,h0⟩:=h
 refine⟨v0,Nat.le_of_ble_eq_true rfl,rfl,fun c hc=>by
   simp only[List.mem_cons,List.not_mem_nil,or_false]at hc
   rcases hc with rfl
   · exact⟨h0,rfl⟩
⟩
instance afj:aT Tryz.prog 71:=⟨Tryz.call71⟩
instance adT:kv Tryz.prog 83 0 0:=⟨ll⟩
instance ad3:aT Tryz.prog 101:=⟨Tryz.call101⟩
instance Rn:aT Tryz.prog 49:=⟨Tryz.call49⟩
instance afk:aT Tryz.prog 74:=⟨Tryz.call74⟩
instance ad4:aT Tryz.prog 104:=⟨Tryz.call104⟩
instance afl:aT Tryz.prog 75:=⟨Tryz.call75⟩
theorem Rp:xG Tryz.prog 36:=.inr ⟨28,by kernel_rfl⟩
instance Rq:aT Tryz.prog 16:=⟨Tryz.call16⟩
instance afm:aT Tryz.prog 34:=⟨Tryz.call34⟩
instance afn:aT Tryz.prog 68:=⟨Tryz.call68⟩
def VO:Go.Shelf.Ren:=⟨fun|221=>68|268=>98|138=>99|143=>100|195=>159|197=>160|218=>161|219=>97|260=>227|217=>155|225=>156|224=>157|267=>158|266=>225|314=>226|n=>n,fun|9=>9|3=>3|31=>68|4=>4|0=>0|105=>196|21=>21|5=>5|46=>195|119=>279|139=>282|138=>281|146=>243|51=>242|n=>n,fun|1=>0|3=>3|4=>4|n=>n⟩
theorem XI:Go.Proofs.Lays.n221 Tryz.prog VO:={
 mixed:=by kernel_rfl
 f138:=Tryz.func99.trans (congrArg some (by kernel_rfl))
 f143:=Tryz.func100.trans (congrArg some (by kernel_rfl))
 f195:=Tryz.func159.trans (congrArg some (by kernel_rfl))
 f197:=Tryz.func160.trans (congrArg some (by kernel_rfl))
 f217:=Tryz.func155.trans (congrArg some (by kernel_rfl))
 f218:=Tryz.func161.trans (congrArg some (by kernel_rfl))
 f219:=Tryz.func97.trans (congrArg some (by kernel_rfl))
 f221:=Tryz.func68.trans (congrArg some (by kernel_rfl))
 f224:=Tryz.func157.trans (congrArg some (by kernel_rfl))
 f225:=Tryz.func156.trans (congrArg some (by kernel_rfl))
 f260:=Tryz.func227.trans (congrArg some (by kernel_rfl))
 f266:=Tryz.func225.trans (congrArg some (by kernel_rfl))
 f267:=Tryz.func158.trans (congrArg some (by kernel_rfl))
 f268:=Tryz.func98.trans (congrArg some (by kernel_rfl))
 f314:=Tryz.func226.trans (congrArg some (by kernel_rfl))
 t0:=Tryz.underlying0
 a0:=Tryz.isAgg0
 z0:=Tryz.sizeOf0
 v0:=Tryz.zeroValue0
 t3:=Tryz.underlying3
 a3:=Tryz.isAgg3
 z3:=Tryz.sizeOf3
 v3:=Tryz.zeroValue3
 t4:=Tryz.underlying4
 a4:=Tryz.isAgg4
 z4:=Tryz.sizeOf4
 v4:=Tryz.zeroValue4
 t5:=Tryz.underlying5
 a5:=Tryz.isAgg5
 z5:=Tryz.sizeOf5
 v5:=Tryz.zeroValue5
 t9:=Tryz.underlying9
 a9:=Tryz.isAgg9
 z9:=Tryz.sizeOf9
 v9:=Tryz.zeroValue9
 t21:=Tryz.underlying21
 a21:=Tryz.isAgg21
 z21:=Tryz.sizeOf21
 v21:=Tryz.zeroValue21
 t31:=Tryz.underlying68
 a31:=Tryz.isAgg68
 z31:=Tryz.sizeOf68
 v31:=Tryz.zeroValue68
 t46:=Tryz.underlying195
 a46:=Tryz.isAgg195
 z46:=Tryz.sizeOf195
 v46:=Tryz.zeroValue195
 t51:=Tryz.underlying242
 a51:=Tryz.isAgg242
 z51:=Tryz.sizeOf242
 v51:=Tryz.zeroValue242
 t105:=Tryz.underlying196
 a105:=Tryz.isAgg196
 z105:=Tryz.sizeOf196
 v105:=Tryz.zeroValue196
 t119:=Tryz.underlying279
 a119:=Tryz.isAgg279
 z119:=Tryz.sizeOf279
 t138:=Tryz.underlying281
 a138:=Tryz.isAgg281
 z138:=Tryz.sizeOf281
 v138:=Tryz.zeroValue281
 t139:=Tryz.underlying282
 a139:=Tryz.isAgg282
 z139:=Tryz.sizeOf282
 v139:=Tryz.zeroValue282
 t146:=Tryz.underlying243
 a146:=Tryz.isAgg243
 z146:=Tryz.sizeOf243
 v146:=Tryz.zeroValue243
 g1:=by kernel_rfl
 g3:=by kernel_rfl
 g4:=by kernel_rfl}
theorem hi9:(Tryz.prog.info? 9).map (fun i=>(i.zero,i.size,i.bytes))=some (some (.string ByteArray.empty),1,16):=by kernel_rfl
instance afo:aT Tryz.prog 13:=⟨Tryz.call13⟩
instance afp:aT Tryz.prog 29:=⟨Tryz.call29⟩
instance afq:aT Tryz.prog 66:=⟨Tryz.call66⟩
instance afr:aT Tryz.prog 97:=⟨Tryz.call97⟩
def VP:Go.Shelf.Ren:=⟨fun|219=>97|217=>155|225=>156|224=>157|267=>158|266=>225|314=>226|n=>n,fun|9=>9|3=>3|4=>4|5=>5|46=>195|146=>243|51=>242|n=>n,fun|1=>0|n=>n⟩
theorem XJ:Go.Proofs.Lays.n219 Tryz.prog VP:={
 mixed:=by kernel_rfl
 f217:=Tryz.func155.trans (congrArg some (by kernel_rfl))
 f219:=Tryz.func97.trans (congrArg some (by kernel_rfl))
 f224:=Tryz.func157.trans (congrArg some (by kernel_rfl))
 f225:=Tryz.func156.trans (congrArg some (by kernel_rfl))
 f266:=Tryz.func225.trans (congrArg some (by kernel_rfl))
 f267:=Tryz.func158.trans (congrArg some (by kernel_rfl))
 f314:=Tryz.func226.trans (congrArg some (by kernel_rfl))
 t3:=Tryz.underlying3
 a3:=Tryz.isAgg3
 z3:=Tryz.sizeOf3
 v3:=Tryz.zeroValue3
 t4:=Tryz.underlying4
 a4:=Tryz.isAgg4
 z4:=Tryz.sizeOf4
 v4:=Tryz.zeroValue4
 t5:=Tryz.underlying5
 a5:=Tryz.isAgg5
 z5:=Tryz.sizeOf5
 v5:=Tryz.zeroValue5
 t9:=Tryz.underlying9
 a9:=Tryz.isAgg9
 z9:=Tryz.sizeOf9
 v9:=Tryz.zeroValue9
 t46:=Tryz.underlying195
 a46:=Tryz.isAgg195
 z46:=Tryz.sizeOf195
 v46:=Tryz.zeroValue195
 t51:=Tryz.underlying242
 a51:=Tryz.isAgg242
 z51:=Tryz.sizeOf242
 v51:=Tryz.zeroValue242
 t146:=Tryz.underlying243
 a146:=Tryz.isAgg243
 z146:=Tryz.sizeOf243
 v146:=Tryz.zeroValue243
 g1:=by kernel_rfl}
instance afs:aT Tryz.prog 31:=⟨Tryz.call31⟩
instance abI:aT Tryz.prog 30:=⟨Tryz.call30⟩
instance aft:aT Tryz.prog 10:=⟨Tryz.call10⟩
instance afu:aT Tryz.prog 27:=⟨Tryz.call27⟩
instance afv:aT Tryz.prog 50:=⟨Tryz.call50⟩
instance afw:aT Tryz.prog 76:=⟨Tryz.call76⟩
instance afx:aT Tryz.prog 59:=⟨Tryz.call59⟩
instance abJ:aT Tryz.prog 90:=⟨Tryz.call90⟩
def Vz:Go.Shelf.Ren:=⟨fun|172=>90|244=>133|245=>134|247=>194|279=>195|280=>196|281=>197|282=>198|287=>238|316=>239|171=>135|205=>240|321=>269|322=>270|243=>199|246=>241|283=>271|284=>272|285=>273|286=>274|129=>293|317=>292|318=>294|319=>295|320=>296|337=>308|338=>309|n=>n,fun|9=>9|3=>3|75=>128|76=>129|4=>4|5=>5|167=>216|37=>108|0=>0|85=>217|2=>2|168=>219|53=>256|175=>257|46=>195|210=>261|127=>283|145=>288|143=>286|21=>21|171=>289|173=>292|212=>311|51=>242|20=>20|213=>312|232=>333|233=>334|80=>250|n=>n,fun|15=>1|16=>2|17=>5|18=>6|19=>7|n=>n⟩
theorem Xd:Go.Proofs.LaysC.n172 Tryz.prog Vz:={
 mixed:=by kernel_rfl
 f129:=Tryz.func293.trans (congrArg some (by kernel_rfl))
 f171:=Tryz.func135.trans (congrArg some (by kernel_rfl))
 f172:=Tryz.func90.trans (congrArg some (by kernel_rfl))
 f205:=Tryz.func240.trans (congrArg some (by kernel_rfl))
 f243:=Tryz.func199.trans (congrArg some (by kernel_rfl))
 f244:=Tryz.func133.trans (congrArg some (by kernel_rfl))
 f245:=Tryz.func134.trans (congrArg some (by kernel_rfl))
 f246:=Tryz.func241.trans (congrArg some (by kernel_rfl))
 f247:=Tryz.func194.trans (congrArg some (by kernel_rfl))
 f279:=Tryz.func195.trans (congrArg some (by kernel_rfl))
 f280:=Tryz.func196.trans (congrArg some (by kernel_rfl))
 f281:=Tryz.func197.trans (congrArg some (by kernel_rfl))
 f282:=Tryz.func198.trans (congrArg some (by kernel_rfl))
 f283:=Tryz.func271.trans (congrArg some (by kernel_rfl))
 f284:=Tryz.func272.trans (congrArg some (by kernel_rfl))
 f285:=Tryz.func273.trans (congrArg some (by kernel_rfl))
 f286:=Tryz.func274.trans (congrArg some (by kernel_rfl))
 f287:=Tryz.func238.trans (congrArg some (by kernel_rfl))
 f316:=Tryz.func239.trans (congrArg some (by kernel_rfl))
 f317:=Tryz.func292.trans (congrArg some (by kernel_rfl))
 f318:=Tryz.func294.trans (congrArg some (by kernel_rfl))
 f319:=Tryz.func295.trans (congrArg some (by kernel_rfl))
 f320:=Tryz.func296.trans (congrArg some (by kernel_rfl))
 f321:=Tryz.func269.trans (congrArg some (by kernel_rfl))
 f322:=Tryz.func270.trans (congrArg some (by kernel_rfl))
 f337:=Tryz.func308.trans (congrArg some (by kernel_rfl))
 f338:=Tryz.func309.trans (congrArg some (by kernel_rfl))
 t0:=Tryz.underlying0
 a0:=Tryz.isAgg0
 z0:=Tryz.sizeOf0
 v0:=Tryz.zeroValue0
 t2:=Tryz.underlying2
 a2:=Tryz.isAgg2
 z2:=Tryz.sizeOf2
 v2:=Tryz.zeroValue2
 t3:=Tryz.underlying3
 a3:=Tryz.isAgg3
 z3:=Tryz.sizeOf3
 v3:=Tryz.zeroValue3
 t4:=Tryz.underlying4
 a4:=Tryz.isAgg4
 z4:=Tryz.sizeOf4
 v4:=Tryz.zeroValue4
 t5:=Tryz.underlying5
 a5:=Tryz.isAgg5
 z5:=Tryz.sizeOf5
 v5:=Tryz.zeroValue5
 t9:=Tryz.underlying9
 a9:=Tryz.isAgg9
 z9:=Tryz.sizeOf9
 v9:=Tryz.zeroValue9
 t20:=Tryz.underlying20
 a20:=Tryz.isAgg20
 z20:=Tryz.sizeOf20
 v20:=Tryz.zeroValue20
 t21:=Tryz.underlying21
 a21:=Tryz.isAgg21
 z21:=Tryz.sizeOf21
 v21:=Tryz.zeroValue21
 t37:=Tryz.underlying108
 a37:=Tryz.isAgg108
 z37:=Tryz.sizeOf108
 v37:=Tryz.zeroValue108
 t46:=Tryz.underlying195
 a46:=Tryz.isAgg195
 z46:=Tryz.sizeOf195
 v46:=Tryz.zeroValue195
 t51:=Tryz.underlying242
 a51:=Tryz.isAgg242
 z51:=Tryz.sizeOf242
 v51:=Tryz.zeroValue242
 t53:=Tryz.underlying256
 a53:=Tryz.isAgg256
 z53:=Tryz.sizeOf256
 v53:=Tryz.zeroValue256
 t75:=Tryz.underlying128
 a75:=Tryz.isAgg128
 z75:=Tryz.sizeOf128
 v75:=Tryz.zeroValue128
 t76:=Tryz.underlying129
 a76:=Tryz.isAgg129
 z76:=Tryz.sizeOf129
 v76:=Tryz.zeroValue129
 t85:=Tryz.underlying217
 a85:=Tryz.isAgg217
 z85:=Tryz.sizeOf217
 v85:=Tryz.zeroValue217
 t127:=Tryz.underlying283
 a127:=Tryz.isAgg283
 z127:=Tryz.sizeOf283
 v127:=Tryz.zeroValue283
 t143:=Tryz.underlying286
 a143:=Tryz.isAgg286
 z143:=Tryz.sizeOf286
 v143:=Tryz.zeroValue286
 t145:=Tryz.underlying288
 a145:=Tryz.isAgg288
 z145:=Tryz.sizeOf288
 v145:=Tryz.zeroValue288
 t167:=Tryz.underlying216
 a167:=Tryz.isAgg216
 z167:=Tryz.sizeOf216
 v167:=Tryz.zeroValue216
 t168:=Tryz.underlying219
 a168:=Tryz.isAgg219
 z168:=Tryz.sizeOf219
 v168:=Tryz.zeroValue219
 t171:=Tryz.underlying289
 a171:=Tryz.isAgg289
 z171:=Tryz.sizeOf289
 v171:=Tryz.zeroValue289
 t173:=Tryz.underlying292
 a173:=Tryz.isAgg292
 z173:=Tryz.sizeOf292
 v173:=Tryz.zeroValue292
 t175:=Tryz.underlying257
 a175:=Tryz.isAgg257
 z175:=Tryz.sizeOf257
 v175:=Tryz.zeroValue257
 t210:=Tryz.underlying261
 a210:=Tryz.isAgg261
 z210:=Tryz.sizeOf261
 v210:=Tryz.zeroValue261
 t212:=Tryz.underlying311
 a212:=Tryz.isAgg311
 z212:=Tryz.sizeOf311
 v212:=Tryz.zeroValue311
 t213:=Tryz.underlying312
 a213:=Tryz.isAgg312
 z213:=Tryz.sizeOf312
 t232:=Tryz.underlying333
 a232:=Tryz.isAgg333
 z232:=Tryz.sizeOf333
 v232:=Tryz.zeroValue333
 t233:=Tryz.underlying334
 a233:=Tryz.isAgg334
 z233:=Tryz.sizeOf334
 v233:=Tryz.zeroValue334
 g15:=by kernel_rfl
 g16:=by kernel_rfl
 g17:=by kernel_rfl
 g18:=by kernel_rfl
 g19:=by kernel_rfl
 t80:=Tryz.underlying250
 a80:=Tryz.isAgg250
 z80:=Tryz.sizeOf250
 v80:=Tryz.zeroValue250
 i0:=by kernel_rfl
 i2:=by kernel_rfl
 i3:=by kernel_rfl
 i4:=by kernel_rfl
 i5:=by kernel_rfl
 i9:=by kernel_rfl
 i20:=by kernel_rfl
 i21:=by kernel_rfl
 i37:=by kernel_rfl
 i46:=by kernel_rfl
 i51:=by kernel_rfl
 i53:=by kernel_rfl
 i75:=by kernel_rfl
 i76:=by kernel_rfl
 i80:=by kernel_rfl
 i85:=by kernel_rfl
 i127:=by kernel_rfl
 i143:=by kernel_rfl
 i145:=by kernel_rfl
 i167:=by kernel_rfl
 i168:=by kernel_rfl
 i171:=by kernel_rfl
 i173:=by kernel_rfl
 i175:=by kernel_rfl
 i210:=by kernel_rfl
 i212:=by kernel_rfl
 i232:=by kernel_rfl
 i233:=by kernel_rfl
 m15:=by kernel_rfl
 m16:=by kernel_rfl
 m17:=by kernel_rfl
 m18:=by kernel_rfl
 m19:=by kernel_rfl
 c0:=by kernel_rfl
 c2:=by kernel_rfl
 c3:=by kernel_rfl
 c4:=by kernel_rfl
 c5:=by kernel_rfl
 c9:=by kernel_rfl
 c20:=by kernel_rfl
 c21:=by kernel_rfl
 c37:=by kernel_rfl
 c46:=by kernel_rfl
 c51:=by kernel_rfl
 c53:=by kernel_rfl
 c75:=by kernel_rfl
 c76:=by kernel_rfl
 c80:=by kernel_rfl
 c85:=by kernel_rfl
 c127:=by kernel_rfl
 c143:=by kernel_rfl
 c145:=by kernel_rfl
 c167:=by kernel_rfl
 c168:=by kernel_rfl
 c171:=by kernel_rfl
 c173:=by kernel_rfl
 c175:=by kernel_rfl
 c210:=by kernel_rfl
 c212:=by kernel_rfl
 c213:=by kernel_rfl
 c232:=by kernel_rfl
 c233:=by kernel_rfl}
theorem Yk:Tryz.prog.underlying 128=some (.interface (Tryz.prog.methodsAt 128)):=by kernel_rfl
instance abK:aT Tryz.prog 60:=⟨Tryz.call60⟩
instance abL:aT Tryz.prog 91:=⟨Tryz.call91⟩
instance ad5:aT Tryz.prog 135:=⟨Tryz.call135⟩
def VA:Go.Shelf.Ren:=⟨fun|171=>135|243=>199|246=>241|283=>271|284=>272|285=>273|286=>274|129=>293|317=>292|318=>294|319=>295|320=>296|337=>308|338=>309|n=>n,fun|3=>3|9=>9|2=>2|4=>4|171=>289|0=>0|53=>256|37=>108|5=>5|173=>292|212=>311|51=>242|20=>20|213=>312|46=>195|232=>333|233=>334|n=>n,fun|17=>5|18=>6|19=>7|n=>n⟩
theorem Xe:Go.Proofs.LaysM.n171 Tryz.prog VA:={
 mixed:=by kernel_rfl
 f129:=Tryz.func293.trans (congrArg some (by kernel_rfl))
 f171:=Tryz.func135.trans (congrArg some (by kernel_rfl))
 f243:=Tryz.func199.trans (congrArg some (by kernel_rfl))
 f246:=Tryz.func241.trans (congrArg some (by kernel_rfl))
 f283:=Tryz.func271.trans (congrArg some (by kernel_rfl))
 f284:=Tryz.func272.trans (congrArg some (by kernel_rfl))
 f285:=Tryz.func273.trans (congrArg some (by kernel_rfl))
 f286:=Tryz.func274.trans (congrArg some (by kernel_rfl))
 f317:=Tryz.func292.trans (congrArg some (by kernel_rfl))
 f318:=Tryz.func294.trans (congrArg some (by kernel_rfl))
 f319:=Tryz.func295.trans (congrArg some (by kernel_rfl))
 f320:=Tryz.func296.trans (congrArg some (by kernel_rfl))
 f337:=Tryz.func308.trans (congrArg some (by kernel_rfl))
 f338:=Tryz.func309.trans (congrArg some (by kernel_rfl))
 t0:=Tryz.underlying0
 a0:=Tryz.isAgg0
 z0:=Tryz.sizeOf0
 v0:=Tryz.zeroValue0
 t2:=Tryz.underlying2
 a2:=Tryz.isAgg2
 z2:=Tryz.sizeOf2
 v2:=Tryz.zeroValue2
 t3:=Tryz.underlying3
 a3:=Tryz.isAgg3
 z3:=Tryz.sizeOf3
 v3:=Tryz.zeroValue3
 t4:=Tryz.underlying4
 a4:=Tryz.isAgg4
 z4:=Tryz.sizeOf4
 v4:=Tryz.zeroValue4
 t5:=Tryz.underlying5
 a5:=Tryz.isAgg5
 z5:=Tryz.sizeOf5
 v5:=Tryz.zeroValue5
 t9:=Tryz.underlying9
 a9:=Tryz.isAgg9
 z9:=Tryz.sizeOf9
 v9:=Tryz.zeroValue9
 t20:=Tryz.underlying20
 a20:=Tryz.isAgg20
 z20:=Tryz.sizeOf20
 v20:=Tryz.zeroValue20
 t37:=Tryz.underlying108
 a37:=Tryz.isAgg108
 z37:=Tryz.sizeOf108
 v37:=Tryz.zeroValue108
 t46:=Tryz.underlying195
 a46:=Tryz.isAgg195
 z46:=Tryz.sizeOf195
 v46:=Tryz.zeroValue195
 t51:=Tryz.underlying242
 a51:=Tryz.isAgg242
 z51:=Tryz.sizeOf242
 v51:=Tryz.zeroValue242
 t53:=Tryz.underlying256
 a53:=Tryz.isAgg256
 z53:=Tryz.sizeOf256
 v53:=Tryz.zeroValue256
 t171:=Tryz.underlying289
 a171:=Tryz.isAgg289
 z171:=Tryz.sizeOf289
 v171:=Tryz.zeroValue289
 t173:=Tryz.underlying292
 a173:=Tryz.isAgg292
 z173:=Tryz.sizeOf292
 v173:=Tryz.zeroValue292
 t212:=Tryz.underlying311
 a212:=Tryz.isAgg311
 z212:=Tryz.sizeOf311
 v212:=Tryz.zeroValue311
 t213:=Tryz.underlying312
 a213:=Tryz.isAgg312
 z213:=Tryz.sizeOf312
 t232:=Tryz.underlying333
 a232:=Tryz.isAgg333
 z232:=Tryz.sizeOf333
 v232:=Tryz.zeroValue333
 t233:=Tryz.underlying334
 a233:=Tryz.isAgg334
 z233:=Tryz.sizeOf334
 v233:=Tryz.zeroValue334
 g17:=by kernel_rfl
 g18:=by kernel_rfl
 g19:=by kernel_rfl
 i0:=by kernel_rfl
 i2:=by kernel_rfl
 i3:=by kernel_rfl
 i4:=by kernel_rfl
 i5:=by kernel_rfl
 i9:=by kernel_rfl
 i20:=by kernel_rfl
 i37:=by kernel_rfl
 i46:=by kernel_rfl
 i51:=by kernel_rfl
 i53:=by kernel_rfl
 i171:=by kernel_rfl
 i173:=by kernel_rfl
 i212:=by kernel_rfl
 i232:=by kernel_rfl
 i233:=by kernel_rfl
 m17:=by kernel_rfl
 m18:=by kernel_rfl
 m19:=by kernel_rfl}
instance afy:aT Tryz.prog 77:=⟨Tryz.call77⟩
instance ad6:aT Tryz.prog 105:=⟨Tryz.call105⟩
instance ad7:aT Tryz.prog 162:=⟨Tryz.call162⟩
instance qA:pJ Tryz.prog 119 118:=⟨Ac⟩
instance vY:iY Tryz.prog 118 1 8 (.pointer none):=⟨nH⟩
instance ad8:iX Tryz.prog 118 false:=⟨oQ⟩
instance abM:aT Tryz.prog 78:=⟨Tryz.call78⟩
instance ad9:aT Tryz.prog 106:=⟨Tryz.call106⟩
instance ad_:aT Tryz.prog 142:=⟨Tryz.call142⟩
instance ad':aT Tryz.prog 164:=⟨Tryz.call164⟩
instance aea:aT Tryz.prog 228:=⟨Tryz.call228⟩
instance Zp:aT Tryz.prog 204:=⟨Tryz.call204⟩
instance aeb:aT Tryz.prog 107:=⟨Tryz.call107⟩
instance aec:aT Tryz.prog 163:=⟨Tryz.call163⟩
instance Zq:aT Tryz.prog 165:=⟨Tryz.call165⟩
instance aed:aT Tryz.prog 166:=⟨Tryz.call166⟩
instance abN:aT Tryz.prog 79:=⟨Tryz.call79⟩
instance aee:aT Tryz.prog 108:=⟨Tryz.call108⟩
instance aef:aT Tryz.prog 109:=⟨Tryz.call109⟩
instance F_:aT Tryz.prog 167:=⟨Tryz.call167⟩
def Oz:Go.Shelf.Ren:=⟨fun|156=>167|165=>229|166=>230|169=>231|240=>266|241=>267|276=>289|277=>290|n=>n,fun|31=>68|9=>9|3=>3|4=>4|0=>0|20=>20|72=>248|76=>129|70=>246|37=>108|75=>128|127=>283|164=>306|5=>5|80=>250|n=>n,fun|n=>n⟩
theorem Qj:Go.Proofs.Lays.n156 Tryz.prog Oz:={
 mixed:=by kernel_rfl
 f156:=Tryz.func167.trans (congrArg some (by kernel_rfl))
 f165:=Tryz.func229.trans (congrArg some (by kernel_rfl))
 f166:=Tryz.func230.trans (congrArg some (by kernel_rfl))
 f169:=Tryz.func231.trans (congrArg some (by kernel_rfl))
 f240:=Tryz.func266.trans (congrArg some (by kernel_rfl))
 f241:=Tryz.func267.trans (congrArg some (by kernel_rfl))
 f276:=Tryz.func289.trans (congrArg some (by kernel_rfl))
 f277:=Tryz.func290.trans (congrArg some (by kernel_rfl))
 t0:=Tryz.underlying0
 a0:=Tryz.isAgg0
 z0:=Tryz.sizeOf0
 v0:=Tryz.zeroValue0
 t3:=Tryz.underlying3
 a3:=Tryz.isAgg3
 z3:=Tryz.sizeOf3
 v3:=Tryz.zeroValue3
 t4:=Tryz.underlying4
 a4:=Tryz.isAgg4
 z4:=Tryz.sizeOf4
 v4:=Tryz.zeroValue4
 t9:=Tryz.underlying9
 a9:=Tryz.isAgg9
 z9:=Tryz.sizeOf9
 v9:=Tryz.zeroValue9
 t20:=Tryz.underlying20
 a20:=Tryz.isAgg20
 z20:=Tryz.sizeOf20
 v20:=Tryz.zeroValue20
 t31:=Tryz.underlying68
 a31:=Tryz.isAgg68
 z31:=Tryz.sizeOf68
 v31:=Tryz.zeroValue68
 t37:=Tryz.underlying108
 a37:=Tryz.isAgg108
 z37:=Tryz.sizeOf108
 v37:=Tryz.zeroValue108
 t70:=Tryz.underlying246
 a70:=Tryz.isAgg246
 z70:=Tryz.sizeOf246
 v70:=Tryz.zeroValue246
 t72:=Tryz.underlying248
 a72:=Tryz.isAgg248
 z72:=Tryz.sizeOf248
 v72:=Tryz.zeroValue248
 t75:=Tryz.underlying128
 a75:=Tryz.isAgg128
 z75:=Tryz.sizeOf128
 v75:=Tryz.zeroValue128
 t76:=Tryz.underlying129
 a76:=Tryz.isAgg129
 z76:=Tryz.sizeOf129
 v76:=Tryz.zeroValue129
 t127:=Tryz.underlying283
 a127:=Tryz.isAgg283
 z127:=Tryz.sizeOf283
 v127:=Tryz.zeroValue283
 t164:=Tryz.underlying306
 a164:=Tryz.isAgg306
 z164:=Tryz.sizeOf306
 v164:=Tryz.zeroValue306}
theorem extra:Go.Proofs.Builder.Extra Tryz.prog Oz:={
 sizeBuilder:=by kernel_rfl
 liesBuilder:=by kernel_rfl
 t5:=Tryz.underlying5
 a5:=Tryz.isAgg5
 z5:=Tryz.sizeOf5
 v5:=Tryz.zeroValue5
 infoByte:=by kernel_rfl
 cellsByte:=by kernel_rfl
 sizeByte:=by kernel_rfl
 neB5:=by decide}
instance afz:aT Tryz.prog 53:=⟨Tryz.call53⟩
instance abO:aT Tryz.prog 83:=⟨Tryz.call83⟩
instance aeg:aT Tryz.prog 124:=⟨Tryz.call124⟩
instance Zr:aT Tryz.prog 180:=⟨Tryz.call180⟩
instance abP:aT Tryz.prog 84:=⟨Tryz.call84⟩
instance afA:aT Tryz.prog 56:=⟨Tryz.call56⟩
instance afB:aT Tryz.prog 86:=⟨Tryz.call86⟩
instance aeh:aT Tryz.prog 125:=⟨Tryz.call125⟩
instance aei:aT Tryz.prog 181:=⟨Tryz.call181⟩
instance aej:aT Tryz.prog 126:=⟨Tryz.call126⟩
instance aek:aT Tryz.prog 182:=⟨Tryz.call182⟩
instance abQ:aT Tryz.prog 87:=⟨Tryz.call87⟩
instance ael:aT Tryz.prog 127:=⟨Tryz.call127⟩
instance Zt:aT Tryz.prog 183:=⟨Tryz.call183⟩
instance aem:aT Tryz.prog 184:=⟨Tryz.call184⟩
instance abR:aT Tryz.prog 88:=⟨Tryz.call88⟩
instance afC:aT Tryz.prog 63:=⟨Tryz.call63⟩
instance afD:aT Tryz.prog 93:=⟨Tryz.call93⟩
instance aen:aT Tryz.prog 139:=⟨Tryz.call139⟩
instance QZ:aT Tryz.prog 141:=⟨Tryz.call141⟩
instance Zu:aT Tryz.prog 202:=⟨Tryz.call202⟩
instance aeo:aT Tryz.prog 146:=⟨Tryz.call146⟩
instance aep:aT Tryz.prog 207:=⟨Tryz.call207⟩
instance aeq:aT Tryz.prog 245:=⟨Tryz.call245⟩
instance aer:aT Tryz.prog 275:=⟨Tryz.call275⟩
def VQ:Go.Shelf.Ren:=⟨fun|189=>275|125=>298|257=>297|128=>318|129=>293|294=>310|295=>311|296=>312|297=>313|298=>314|299=>315|216=>234|300=>316|301=>317|328=>324|329=>325|330=>326|331=>327|332=>328|215=>237|343=>330|n=>n,fun|28=>22|3=>3|46=>195|0=>0|51=>242|53=>256|4=>4|183=>324|182=>323|131=>54|5=>5|9=>9|218=>335|222=>118|228=>340|229=>341|n=>n,fun|n=>n⟩
theorem Qk:Go.Proofs.Lays.n189 Tryz.prog VQ:={
 mixed:=by kernel_rfl
 f125:=Tryz.func298.trans (congrArg some (by kernel_rfl))
 f128:=Tryz.func318.trans (congrArg some (by kernel_rfl))
 f129:=Tryz.func293.trans (congrArg some (by kernel_rfl))
 f189:=Tryz.func275.trans (congrArg some (by kernel_rfl))
 f215:=Tryz.func237.trans (congrArg some (by kernel_rfl))
 f216:=Tryz.func234.trans (congrArg some (by kernel_rfl))
 f257:=Tryz.func297.trans (congrArg some (by kernel_rfl))
 f294:=Tryz.func310.trans (congrArg some (by kernel_rfl))
 f295:=Tryz.func311.trans (congrArg some (by kernel_rfl))
 f296:=Tryz.func312.trans (congrArg some (by kernel_rfl))
 f297:=Tryz.func313.trans (congrArg some (by kernel_rfl))
 f298:=Tryz.func314.trans (congrArg some (by kernel_rfl))
 f299:=Tryz.func315.trans (congrArg some (by kernel_rfl))
 f300:=Tryz.func316.trans (congrArg some (by kernel_rfl))
 f301:=Tryz.func317.trans (congrArg some (by kernel_rfl))
 f328:=Tryz.func324.trans (congrArg some (by kernel_rfl))
 f329:=Tryz.func325.trans (congrArg some (by kernel_rfl))
 f330:=Tryz.func326.trans (congrArg some (by kernel_rfl))
 f331:=Tryz.func327.trans (congrArg some (by kernel_rfl))
 f332:=Tryz.func328.trans (congrArg some (by kernel_rfl))
 f343:=Tryz.func330.trans (congrArg some (by kernel_rfl))
 t0:=Tryz.underlying0
 a0:=Tryz.isAgg0
 z0:=Tryz.sizeOf0
 v0:=Tryz.zeroValue0
 t3:=Tryz.underlying3
 a3:=Tryz.isAgg3
 z3:=Tryz.sizeOf3
 v3:=Tryz.zeroValue3
 t4:=Tryz.underlying4
 a4:=Tryz.isAgg4
 z4:=Tryz.sizeOf4
 v4:=Tryz.zeroValue4
 t5:=Tryz.underlying5
 a5:=Tryz.isAgg5
 z5:=Tryz.sizeOf5
 v5:=Tryz.zeroValue5
 t9:=Tryz.underlying9
 a9:=Tryz.isAgg9
 z9:=Tryz.sizeOf9
 v9:=Tryz.zeroValue9
 t28:=Tryz.underlying22
 a28:=Tryz.isAgg22
 z28:=Tryz.sizeOf22
 v28:=Tryz.zeroValue22
 t46:=Tryz.underlying195
 a46:=Tryz.isAgg195
 z46:=Tryz.sizeOf195
 v46:=Tryz.zeroValue195
 t51:=Tryz.underlying242
 a51:=Tryz.isAgg242
 z51:=Tryz.sizeOf242
 v51:=Tryz.zeroValue242
 t53:=Tryz.underlying256
 a53:=Tryz.isAgg256
 z53:=Tryz.sizeOf256
 v53:=Tryz.zeroValue256
 t131:=Tryz.underlying54
 a131:=Tryz.isAgg54
 z131:=Tryz.sizeOf54
 v131:=Tryz.zeroValue54
 t182:=Tryz.underlying323
 a182:=Tryz.isAgg323
 z182:=Tryz.sizeOf323
 v182:=Tryz.zeroValue323
 t183:=Tryz.underlying324
 a183:=Tryz.isAgg324
 z183:=Tryz.sizeOf324
 v183:=Tryz.zeroValue324
 t218:=Tryz.underlying335
 a218:=Tryz.isAgg335
 z218:=Tryz.sizeOf335
 v218:=Tryz.zeroValue335
 t222:=Tryz.underlying118
 a222:=Tryz.isAgg118
 z222:=Tryz.sizeOf118
 v222:=Tryz.zeroValue118
 t228:=Tryz.underlying340
 a228:=Tryz.isAgg340
 z228:=Tryz.sizeOf340
 v228:=Tryz.zeroValue340
 t229:=Tryz.underlying341
 a229:=Tryz.isAgg341
 z229:=Tryz.sizeOf341
 v229:=Tryz.zeroValue341}
instance aes:aT Tryz.prog 276:=⟨Tryz.call276⟩
def VB:Go.Shelf.Ren:=⟨fun|20=>276|n=>n,fun|22=>22|3=>3|4=>4|0=>0|n=>n,fun|n=>n⟩
theorem PP:Go.Proofs.Lays2.n20 Tryz.prog VB:={
 mixed:=by kernel_rfl
 f20:=Tryz.func276.trans (congrArg some (by kernel_rfl))
 t0:=Tryz.underlying0
 a0:=Tryz.isAgg0
 z0:=Tryz.sizeOf0
 v0:=Tryz.zeroValue0
 t3:=Tryz.underlying3
 a3:=Tryz.isAgg3
 z3:=Tryz.sizeOf3
 v3:=Tryz.zeroValue3
 t4:=Tryz.underlying4
 a4:=Tryz.isAgg4
 z4:=Tryz.sizeOf4
 v4:=Tryz.zeroValue4
 t22:=Tryz.underlying22
 a22:=Tryz.isAgg22
 z22:=Tryz.sizeOf22
 v22:=Tryz.zeroValue22
 i3:=by kernel_rfl}
instance Zv:aT Tryz.prog 246:=⟨Tryz.call246⟩
instance Zw:aT Tryz.prog 208:=⟨Tryz.call208⟩
instance aet:aT Tryz.prog 209:=⟨Tryz.call209⟩
instance aeu:aT Tryz.prog 247:=⟨Tryz.call247⟩
instance aev:aT Tryz.prog 203:=⟨Tryz.call203⟩
instance aew:aT Tryz.prog 242:=⟨Tryz.call242⟩
instance aex:aT Tryz.prog 201:=⟨Tryz.call201⟩
instance aey:aT Tryz.prog 206:=⟨Tryz.call206⟩
instance Zx:aT Tryz.prog 243:=⟨Tryz.call243⟩
instance aez:aT Tryz.prog 244:=⟨Tryz.call244⟩
instance aeA:aT Tryz.prog 140:=⟨Tryz.call140⟩
instance abS:aT Tryz.prog 94:=⟨Tryz.call94⟩
instance aeB:aT Tryz.prog 143:=⟨Tryz.call143⟩
instance aeC:aT Tryz.prog 205:=⟨Tryz.call205⟩
instance Zy:aT Tryz.prog 144:=⟨Tryz.call144⟩
instance aeD:aT Tryz.prog 145:=⟨Tryz.call145⟩
theorem Zz:Tryz.prog.underlying 62=some (.func #[98] #[98,4] false):=by kernel_rfl
instance afE:aT Tryz.prog 32:=⟨Tryz.call32⟩
instance afF:aT Tryz.prog 67:=⟨Tryz.call67⟩
instance JX:aT Tryz.prog 17:=⟨Tryz.call17⟩
def IP(a:Event)(_:Unit):List Value:=[(.int .i64 a.Kind),(sv a.Text)]
theorem Pi{a:Event}:∀H e,ib H e a-> ∃i:Unit,0+2<=e.cells.size/\(e.cells.toList.drop 0).take 2=IP a i/\ ∀c∈([]:List ah),c.P H/\c.F=[]:=by
 intro H e h
 subst h
 refine⟨(),Nat.le_of_ble_eq_true rfl,rfl,fun c hc=>by simp at hc⟩
instance afG:aT Tryz.prog 14:=⟨Tryz.call14⟩
instance abT:aT Tryz.prog 11:=⟨Tryz.call11⟩
instance afH:aT Tryz.prog 18:=⟨Tryz.call18⟩
instance afI:aT Tryz.prog 19:=⟨Tryz.call19⟩
theorem Yl{a:Event}{d:Int}:∀F H e,(aK ib) F H e a->(aK ib) F H (lM e 0 (Value.cells (.int .i64 d)).toList) {a with Kind:=d}:=by
 intro F H e h
 obtain⟨rfl,h⟩:=h
 subst h
 exact⟨rfl,rfl⟩
theorem XK{a:Event}:∀F H e,(aK ib) F H e a->0+1<=e.cells.size:=by
 intro F H e h
 obtain⟨rfl,h⟩:=h
 subst h
 exact Nat.le_of_ble_eq_true rfl
instance afJ:aT Tryz.prog 35:=⟨Tryz.call35⟩
theorem Ym{a:Event}{d:List UInt8}:∀F H e,(aK ib) F H e a->(aK ib) F H (lM e 1 (Value.cells (sv d)).toList) {a with Text:=d}:=by
 intro F H e h
 obtain⟨rfl,h⟩:=h
 subst h
 exact⟨rfl,rfl⟩
theorem XL{a:Event}:∀F H e,(aK ib) F H e a->1+1<=e.cells.size:=by
 intro F H e h
 obtain⟨rfl,h⟩:=h
 subst h
 exact Nat.le_of_ble_eq_true rfl
instance Rs:aT Tryz.prog 20:=⟨Tryz.call20⟩
theorem Yn{a:Event}:∀H e,ib H e a->e.cells.toList[0]?=some (.int .i64 a.Kind):=by
 intro H e h
 subst h
 rfl
theorem Yo{a:Event}:∀H e,ib H e a->e.cells.toList[1]?=some (sv a.Text):=by
 intro H e h
 subst h
 rfl
theorem zI{α β:Type}{l:List α}{i:Int}{f:α->Option β}{R:β}{G:Prop}(hF:(ix l i).bind f=some R)(k:∀x,0<=i->l[i.toNat]?=some x->f x=some R->G):G:=by
 obtain⟨x,h,e⟩:=Option.bind_eq_some_iff.1 hF
 obtain⟨h1,h2⟩:=lQ h
 exact k x h1 h2 e
theorem jT{G N:Prop}(k:N)(h:N->G:=by (intro k; (iterate 10 refine au ?_); exact k)):G:=h k
theorem tN{G N:Prop}(k:N)(h:N->G:=by (intro k; (iterate 11 refine au ?_); exact k)):G:=h k
theorem ZA{G N:Prop}(k:N)(h:N->G:=by (intro k; (iterate 12 refine au ?_); exact k)):G:=h k
theorem Q0{G N:Prop}(k:N)(h:N->G:=by (intro k; (iterate 14 refine au ?_); exact k)):G:=h k
theorem aG{G N:Prop}(k:N)(h:N->G:=by (intro k; (iterate 2 refine au ?_); exact k)):G:=h k
theorem ax{G N:Prop}(k:N)(h:N->G:=by (intro k; (iterate 3 refine au ?_); exact k)):G:=h k
theorem aA{G N:Prop}(k:N)(h:N->G:=by (intro k; (iterate 4 refine au ?_); exact k)):G:=h k
theorem aC{G N:Prop}(k:N)(h:N->G:=by (intro k; (iterate 5 refine au ?_); exact k)):G:=h k
theorem bz{G N:Prop}(k:N)(h:N->G:=by (intro k; (iterate 6 refine au ?_); exact k)):G:=h k
theorem bK{G N:Prop}(k:N)(h:N->G:=by (intro k; (iterate 7 refine au ?_); exact k)):G:=h k
theorem dB{G N:Prop}(k:N)(h:N->G:=by (intro k; (iterate 8 refine au ?_); exact k)):G:=h k
theorem fU{G N:Prop}(k:N)(h:N->G:=by (intro k; (iterate 9 refine au ?_); exact k)):G:=h k
theorem a_(b:Bool):b=true\/b=false:=Bool.eq_false_or_eq_true b
theorem aj{α:Sort _}{a b:α}:cond false a b=b:=rfl
theorem ak{α:Sort _}{a b:α}:cond true a b=a:=rfl
theorem fD{G N:Prop}(k:N)(h:N->G:=by (intro k; (iterate 2 refine du ?_); exact k)):G:=h k
theorem iD{G N:Prop}(k:N)(h:N->G:=by (intro k; (iterate 3 refine du ?_); exact k)):G:=h k
theorem tZ{G N:Prop}(k:N)(h:N->G:=by (intro k; (iterate 4 refine du ?_); exact k)):G:=h k
theorem Df{G N:Prop}(k:N)(h:N->G:=by (intro k; (iterate 5 refine du ?_); exact k)):G:=h k
theorem wo{G N:Prop}(k:N)(h:N->G:=by (intro k; (iterate 6 refine du ?_); exact k)):G:=h k
theorem Gm{G N:Prop}(k:N)(h:N->G:=by (intro k; (iterate 9 refine du ?_); exact k)):G:=h k
theorem ze{G P:Prop}(hF:P)(h:P->G:=by (intro hF; (repeat refine au ?_); cases hF; exact Er ())):G:=h hF
theorem aO{G P:Prop}(hF:P)(h:P->G:=by (intro hF; (repeat refine au ?_); cases hF; exact⟨_,_,rfl,aJ,aI⟩)):G:=h hF
theorem Gn{G P:Prop}(hF:P)(h:P->G:=by (intro hF; (repeat refine au ?_); cases hF; exact⟨_,_,_,rfl,aJ,aI⟩)):G:=h hF
theorem gH{G P:Prop}(hF:P)(h:P->G:=by (intro hF; (repeat refine du ?_); cases hF; exact⟨_,_,rfl,aJ,aI⟩)):G:=h hF
abbrev zg(l:List Value):Value:=.agg l.toArray
abbrev zi(n:Int):Value:=.int .i64 n
theorem cz(n:Nat):n<n.succ:=Nat.lt_succ_self n
abbrev xS(F:List Nat)(v:Sv):=bN (bL 83 gu) F v.v
abbrev qF(F:List Nat)(v:Sv):=bN (bL 28 (aK ib)) F v.v
abbrev bV(F:List Nat)(v:Sv):=bN (bL 3 (aK aY)) F v.v
abbrev uE(F:List Nat)(v:Sv):=bN (bL 9 (aK rdStr)) F v.v
abbrev Ag(v:Sv):=dR (b_ 28 ib) v.v
abbrev aD(v:Sv):=dR (b_ 3 aY) v.v
abbrev gI(v:Sv):=dR (b_ 83 Af) v.v
abbrev jl(v:Sv):=dR (b_ 9 rdStr) v.v
theorem zx{G N:Prop}(k:N)(h:N->G:=by (intro k; exact ai (BR (.tmp rfl rfl) rfl) k)):G:=h k
theorem _root_.Go.Fw.Mem.q2{c d0 d1:ah}{l:List ah}:Fw.Mem c (d0::d1::c::l):=.t (.t .h)
theorem _root_.Go.Fw.Mem.q3{c d0 d1 d2:ah}{l:List ah}:Fw.Mem c (d0::d1::d2::c::l):=.t (.t (.t .h))
theorem _root_.Go.Fw.Mem.q4{c d0 d1 d2 d3:ah}{l:List ah}:Fw.Mem c (d0::d1::d2::d3::c::l):=.t (.t (.t (.t .h)))
theorem _root_.Go.Fw.Mem.q5{c d0 d1 d2 d3 d4:ah}{l:List ah}:Fw.Mem c (d0::d1::d2::d3::d4::c::l):=.t (.t (.t (.t (.t .h))))
theorem _root_.Go.Fw.Mem.q6{c d0 d1 d2 d3 d4 d5:ah}{l:List ah}:Fw.Mem c (d0::d1::d2::d3::d4::d5::c::l):=.t (.t (.t (.t (.t (.t .h)))))
theorem _root_.Go.Fw.Mem.q7{c d0 d1 d2 d3 d4 d5 d6:ah}{l:List ah}:Fw.Mem c (d0::d1::d2::d3::d4::d5::d6::c::l):=.t (.t (.t (.t (.t (.t (.t .h))))))
theorem _root_.Go.Fw.Mem.q9{c d0 d1 d2 d3 d4 d5 d6 d7 d8:ah}{l:List ah}:Fw.Mem c (d0::d1::d2::d3::d4::d5::d6::d7::d8::c::l):=.t (.t (.t (.t (.t (.t (.t (.t (.t .h))))))))
theorem _root_.Go.Fw.Mem.q11{c d0 d1 d2 d3 d4 d5 d6 d7 d8 d9 Ha:ah}{l:List ah}:Fw.Mem c (d0::d1::d2::d3::d4::d5::d6::d7::d8::d9::Ha::c::l):=.t (.t (.t (.t (.t (.t (.t (.t (.t (.t (.t .h))))))))))
theorem _root_.Go.Fw.Sel.q2{c d0 d1:ah}{l:List ah}:Fw.Sel (d0::d1::c::l) c (d0::d1::l):=.t (.t .h)
theorem _root_.Go.Fw.Sel.q3{c d0 d1 d2:ah}{l:List ah}:Fw.Sel (d0::d1::d2::c::l) c (d0::d1::d2::l):=.t (.t (.t .h))
theorem _root_.Go.Fw.Sel.q4{c d0 d1 d2 d3:ah}{l:List ah}:Fw.Sel (d0::d1::d2::d3::c::l) c (d0::d1::d2::d3::l):=.t (.t (.t (.t .h)))
theorem _root_.Go.Fw.Sel.q5{c d0 d1 d2 d3 d4:ah}{l:List ah}:Fw.Sel (d0::d1::d2::d3::d4::c::l) c (d0::d1::d2::d3::d4::l):=.t (.t (.t (.t (.t .h))))
theorem _root_.Go.Fw.Sel.q6{c d0 d1 d2 d3 d4 d5:ah}{l:List ah}:Fw.Sel (d0::d1::d2::d3::d4::d5::c::l) c (d0::d1::d2::d3::d4::d5::l):=.t (.t (.t (.t (.t (.t .h)))))
theorem _root_.Go.Fw.Sel.q7{c d0 d1 d2 d3 d4 d5 d6:ah}{l:List ah}:Fw.Sel (d0::d1::d2::d3::d4::d5::d6::c::l) c (d0::d1::d2::d3::d4::d5::d6::l):=.t (.t (.t (.t (.t (.t (.t .h))))))
theorem _root_.Go.Fw.Sel.q9{c d0 d1 d2 d3 d4 d5 d6 d7 d8:ah}{l:List ah}:Fw.Sel (d0::d1::d2::d3::d4::d5::d6::d7::d8::c::l) c (d0::d1::d2::d3::d4::d5::d6::d7::d8::l):=.t (.t (.t (.t (.t (.t (.t (.t (.t .h))))))))
theorem _root_.Go.Fw.Sel.q11{c d0 d1 d2 d3 d4 d5 d6 d7 d8 d9 Ha:ah}{l:List ah}:Fw.Sel (d0::d1::d2::d3::d4::d5::d6::d7::d8::d9::Ha::c::l) c (d0::d1::d2::d3::d4::d5::d6::d7::d8::d9::Ha::l):=.t (.t (.t (.t (.t (.t (.t (.t (.t (.t (.t .h))))))))))
def y9:List Int->Nat->(List Int)->Option ((List Int))
 |[],mE,jN=>some jN
 |x34::sK,mE,jN=>(jD (decide (0<=(mE:Int))&&decide ((mE:Int)<(jN.length:Int)))).bind fun u46=>
   (some (jN.set ((mE:Int)).toNat x34)).bind fun z48=>
   y9 sK (mE+1) z48
def xw(aR:List Int):Option ((List Int)):=
 (yn (aR.length:Int) (0:Int)).bind fun z1=>
 y9 aR 0 z1
theorem E9{aR:List Int}{ae:Sv}{R:(List Int)}(hF:xw aR=some R):
   Fw.Spec Tryz.prog 8 [ae.v] [aD ae aR] (fun p:Sv×List Nat=>p.1.v) (fun p=>[bV p.2 p.1 R]):=by
 refine Se 22 Tryz.func8 [.tmp 2] ?_
 intro H0 F0
 unfold xw at hF
 refine bz ?_
 refine bnd hF fun z1 hx2 hF=>?_
 have SE:=PG hx2
 refine eF rfl (VL (g:=true) (c:=(aR.length:Int)) eZ.h ek.h rfl rfl (by decide) (.tmp rfl rfl) SE.2.1 SE.2.2) (fun k4=>?_)
 refine fF (.cons .h .nil) (WY (Ro:=(aK aY)) (E:=3) (a:=(0:Int)) hx2 (fun _=>⟨rfl,rfl⟩)) ?_
 refine bz ?_
 refine bF (bU (m:=aR.length) (fun SF f' cs'=>∃(g:Fr)(mE:Nat)(sK jN:List Int)(LC:List Nat),SF=sK.length/\f'=aH g [(0,ae.v),(3,(.slice (some ⟨k4,0,none⟩) (aR.length:Int).toNat 1)),(4,(zi (mE:Int)))]/\List.drop mE aR=sK/\aF cs' [aD ae aR,bN (bL 3 (aK aY)) LC (.slice (some ⟨k4,0,none⟩) (aR.length:Int).toNat 1) jN]/\y9 sK mE jN=some R) ⟨_,0,_,_,[k4],rfl,aJ,rfl,aI,hF⟩ ?_)
 rintro SF _ _ ⟨g31,mE,sK,jN,LC,rfl,rfl,Rt,hE,hF⟩
 refine Kb hE aR (fun aeE=>?_)
 rcases sK with _|⟨x34,sK⟩
 · have JY:=dn Rt
   rw[y9]at hF
   refine bK ?_
   refine dJ ?_
   refine fU ?_
   cases hF
   exact Er (⟨(some ⟨k4,0,none⟩),(aR.length:Int).toNat,1⟩,LC)
 obtain⟨JY,t_,hd38⟩:=dD Rt
 rw[y9]at hF
 refine bK ?_
 refine dI ?_
 refine bK ?_
 refine Ai t_ (fun mZ SG=>?_)
 refine Al dE ?_
 refine bnd hF fun u46 j_ hF=>?_
 have Ru:=kV j_
 refine mJ eZ.h ek.h.sz (.tmp rfl rfl) (.tmp rfl rfl) .q2 Ru (fun k43 abU=>?_)
 refine bnd hF fun z48 mo hF=>?_
 replace mo:=Option.some.inj mo
 refine bX (.cons .q2 .nil) (Pz (Ro:=(aK aY)) (a:=x34) (i:=(mE:Int)) ek.h.sz rfl (.tmp rfl rfl) (.tmp rfl rfl) abU Ru (eP (fun _=>rfl)) (fun _ _ _ _ h=>by obtain⟨-,h⟩:=h; cases h; rfl)) (fun F50=>?_)
 rw[mo]
 refine bz ?_
 rw[wk mE]
 exact⟨_,cz _,_,mE+1,sK,_,F50,rfl,aJ,hd38,aI,hF⟩
def vH(aa:List UInt8)(jK:UInt8):Nat->(List (List UInt8))->(List UInt8)->Int->Option ((List (List UInt8)))
 |0,_,_,_=>none
 |m7+1,c2,c5,c6=>if (decide ((c6:Int)<(aa.length:Int)))then (
     ((ix aa c6).bind fun yu=>
       if (((yu.toNat:Int):Int)==(jK.toNat:Int))then (
         (app c2 ([c5]:List (List UInt8))).bind fun z22=>
         some (z22,[]))
       else (
         (jD (decide (0<=c6)&&decide (c6<=(IntKind.i64.wrap (c6+1)))&&decide ((IntKind.i64.wrap (c6+1))<=((aa).length:Int)))).bind fun u26=>
         (aP c5 ((aa.take ((IntKind.i64.wrap (c6+1))).toNat).drop (c6).toNat)).bind fun x28=>
         some (c2,x28))).bind fun LD=>
     match LD with
     |(El,pK)=>vH aa jK m7 El pK (IntKind.i64.wrap (c6+1)))
   else (
     (app c2 ([c5]:List (List UInt8))).bind fun z39=>
     some z39)
def oq(aa:List UInt8)(jK:UInt8):Option ((List (List UInt8))):=
 vH aa jK (((aa.length:Int)-0).toNat+2) ([]:List (List UInt8)) [] 0
theorem vI{aa:List UInt8}{jK:UInt8}{R:(List (List UInt8))}(hF:oq aa jK=some R):
   Fw.Spec Tryz.prog 33 [(sv aa),(.int .u8 (jK.toNat:Int))] [] (fun p:Sv×List Nat=>p.1.v) (fun p=>[uE p.2 p.1 R]):=by
 refine Se 35 Tryz.func33 [.tmp 4] ?_
 intro H0 F0
 unfold oq at hF
 refine aA ?_
 refine eF rfl (dN (g:=true) fI.h gy.h .nil (vs:=[]) rfl rfl rfl (by simp)) (fun k1=>?_)
 refine fF (.cons .h .nil) (dP (Ro:=(aK rdStr)) (E:=9) (F:=[]) (xs:=([]:List (List UInt8))) dO rfl rfl) ?_
 refine fU ?_
 refine bF (bU (m:=(((aa.length:Int)-0).toNat+2)) (fun m7 f' cs'=>∃(g:Fr)(c2:List (List UInt8))(c5:List UInt8)(c6:Int)(v3:Sv)(F4:List Nat),f'=aH g [(0,(sv aa)),(1,(.int .u8 (jK.toNat:Int))),(5,v3.v),(6,(sv c5)),(7,(zi c6))]/\aF cs' [uE F4 v3 c2]/\vH aa jK m7 c2 c5 c6=some R) ⟨_,_,_,_,⟨(some ⟨k1,0,none⟩),0,1⟩,(k1::[]),aJ,aI,hF⟩ ?_)
 rintro m7 _ _ ⟨g8,c2,c5,c6,v3,F4,rfl,hE,hF⟩
 refine bg hE ?_
 rcases m7 with _|m7
 · rw[vH]at hF
   exact absurd hF (by simp)
 rw[vH]at hF
 refine aA ?_
 refine ai (ig (s:=aa) dG (.tmp rfl rfl)) ?_
 refine aG ?_
 refine Ci hF (fun uf hF=>?_) (fun uf hF=>?_)
 · refine au ?_
   obtain⟨LD,ZB,abV⟩:=bind_some hF
   refine kY (fun f' cs'=>∃(El:List (List UInt8))(pK:List UInt8)(v34:Sv)(LF:List Nat)(g:Fr),LD=(El,pK)/\f'=aH g [(0,(sv aa)),(1,(.int .u8 (jK.toNat:Int))),(5,v34.v),(6,(sv pK)),(7,(zi c6))]/\aF cs' [uE LF v34 El]) ?_ ?_
   · replace hF:=ZB
     refine bF (dw (Cm (sv aa) rfl rfl ?_))
     refine au ?_
     refine zI hF fun yu Dg iK hF=>?_
     refine ai (rW (u:=yu) dG (.tmp rfl rfl) (.tmp rfl rfl) Dg iK) ?_
     refine ax ?_
     refine Ci hF (fun Dh hF=>?_) (fun Dh hF=>?_)
     · refine ax ?_
       refine eF rfl (dN (g:=true) fI.h gy.h bG (vs:=[(sv c5)]) rfl rfl rfl (by intro v hv; simp at hv; rcases hv with rfl<;>rfl)) (fun k21=>?_)
       refine fF (.cons .h .nil) (dP (Ro:=(aK rdStr)) (E:=9) (F:=([]++[])) (xs:=([c5]:List (List UInt8))) (dM (eP (fun _=>rfl)) dO bP) rfl rfl) ?_
       refine bnd hF fun z22 jL hF=>bX (.cons (.t .h) (.cons .h .nil)) (iH (Ro:=(aK rdStr)) fI.h Db gy.h rfl rfl rfl (.tmp rfl rfl) (.tmp rfl rfl) jL iI) (fun LG=>?_)
       refine aC ?_
       cases hF
       exact⟨_,_,LG.1,LG.2,_,rfl,aJ,aI⟩
     refine bz ?_
     refine bnd hF fun u26 hx27 hF=>?_
     have hc25:=kV hx27
     simp only[Bool.and_eq_true,decide_eq_true_eq]at hc25
     refine ai (Pt (s:=aa) (i:=c6) (j:=(IntKind.i64.wrap (c6+1))) dG (.tmp rfl rfl) (.tmp rfl rfl) (.tmp rfl rfl) hc25.1.1 hc25.1.2 hc25.2) ?_
     refine bnd hF fun x28 hx29 hF=>?_
     obtain⟨afK,afL⟩:=bq hx29
     refine ai (bu (s:=c5) (t:=((aa.take ((IntKind.i64.wrap (c6+1))).toNat).drop (c6).toNat)) (u:=x28) (.tmp rfl rfl) (.tmp rfl rfl) hx29) ?_
     refine aG ?_
     cases hF
     exact⟨_,_,v3,F4,_,rfl,aJ,aI⟩
   rintro _ _ ⟨El,pK,v34,LF,SH,rfl,rfl,hE⟩
   replace hF:=abV
   try dsimp only at hF
   refine bg hE ?_
   refine aC ?_
   exact⟨m7,cz _,_,_,_,_,v34,LF,aJ,aI,hF⟩
 refine bK ?_
 refine eF rfl (dN (g:=true) fI.h gy.h bG (vs:=[(sv c5)]) rfl rfl rfl (by intro v hv; simp at hv; rcases hv with rfl<;>rfl)) (fun k38=>?_)
 refine fF (.cons .h .nil) (dP (Ro:=(aK rdStr)) (E:=9) (F:=([]++[])) (xs:=([c5]:List (List UInt8))) (dM (eP (fun _=>rfl)) dO bP) rfl rfl) ?_
 refine bnd hF fun z39 kG hF=>bX (.cons (.t .h) (.cons .h .nil)) (iH (Ro:=(aK rdStr)) fI.h Db gy.h rfl rfl rfl (.tmp rfl rfl) (.tmp rfl rfl) kG iI) (fun p41=>?_)
 refine ax ?_
 cases hF
 exact Er (p41.1,p41.2)
def dZ(dK:Int)(mM:Int)(oG:Int):Option (Bool):=
 some ((decide ((mM:Int)<=dK))&&(decide ((dK:Int)<=oG)))
theorem fq{dK mM oG:Int}{R:Bool}(hF:dZ dK mM oG=some R):
   Fw.Spec Tryz.prog 25 [(zi dK),(zi mM),(zi oG)] [] (fun _:Unit=>(.bool R)) (fun _=>[]):=by
 refine Se 15 Tryz.func25 [.tmp 6] ?_
 intro H0 F0
 unfold dZ at hF
 refine aA ?_
 refine bZ (fun f' cs'=>∃(g:Fr),f'=aH g [(6,(.bool ((decide ((mM:Int)<=dK))&&(decide ((dK:Int)<=oG)))))]/\aF cs' []) ?_ ?_
 · refine aA ?_
   rcases a_ (decide ((mM:Int)<=dK))with hg1|hg1
   · rw[hg1]
     try rw[hg1]at hF; dsimp only[ak,aj]at hF
     refine fU ?_
     exact⟨_,aJ,aI⟩
   rw[hg1]
   try rw[hg1]at hF; dsimp only[ak,aj]at hF
   refine bz ?_
   exact⟨_,aJ,aI⟩
 rintro _ _ ⟨g2,rfl,hE⟩
 refine bg hE ?_
 exact ze hF
def BC(oH:Int):Option ((List UInt8)):=
 (dZ oH 1 6).bind fun r1=>
 if (!r1)then (
   some [])
 else (
   (ix ([[109,101,116,104,111,100],[114,117,108,101],[97,100,100],[100,114,111,112],[119,97,105,116],[97,115,107]]:List (List UInt8)) (IntKind.i64.wrap (oH-1))).bind fun x8=>
   some x8)
theorem U9{oH:Int}{R:(List UInt8)}(hF:BC oH=some R):
   Fw.Spec Tryz.prog 28 [(zi oH)] [] (fun _:Unit=>(sv R)) (fun _=>[]):=by
 refine Se 11 Tryz.func28 [.tmp 2] ?_
 intro H0 F0
 unfold BC at hF
 refine bz ?_
 refine bnd hF fun r1 hx2 hF=>aB (fq hx2) (fun _=>?_)
 refine aG ?_
 refine Ci hF (fun abW hF=>?_) (fun abW hF=>?_)
 · exact ze hF
 refine aG ?_
 refine eF rfl (dN (g:=true) fI.h gy.h (.cons (.sv _) (.cons (.sv _) (.cons (.sv _) (.cons (.sv _) (.cons (.sv _) (.cons (.sv _) .nil)))))) (vs:=[(sv [109,101,116,104,111,100]),(sv [114,117,108,101]),(sv [97,100,100]),(sv [100,114,111,112]),(sv [119,97,105,116]),(sv [97,115,107])]) rfl rfl rfl (by intro v hv; simp at hv; rcases hv with rfl|rfl|rfl|rfl|rfl|rfl<;>rfl)) (fun k4=>?_)
 refine fF (.cons .h .nil) (dP (Ro:=(aK rdStr)) (E:=9) (F:=([]++([]++([]++([]++([]++([]++[]))))))) (xs:=([[109,101,116,104,111,100],[114,117,108,101],[97,100,100],[100,114,111,112],[119,97,105,116],[97,115,107]]:List (List UInt8))) (dM (eP (fun _=>rfl)) (dM (eP (fun _=>rfl)) (dM (eP (fun _=>rfl)) (dM (eP (fun _=>rfl)) (dM (eP (fun _=>rfl)) (dM (eP (fun _=>rfl)) dO bP) bP) bP) bP) bP) bP) rfl rfl) ?_
 refine aG ?_
 refine bnd hF fun x8 bS hF=>?_
 have hi7:=oD bS
 obtain⟨JZ,lm⟩:=lQ bS
 refine mJ fI.h gy.h.sz (.tmp rfl rfl) (.tmp rfl rfl) .h hi7 (fun k5 hk6=>?_)
 refine tF (w:=(sv x8)) uD.h (.tmp rfl rfl) .h hk6 lm zX ?_
 exact ze hF
def qd:Nat->Int->(List UInt8)->Option ((List UInt8))
 |0,_,_=>none
 |m5+1,c3,c4=>if ((c3:Int)!=0)then (
     if (decide (((Int.tmod c3 10):Int)<0))then (
       (aP [(jf (IntKind.i64.wrap (48+(IntKind.i64.wrap (-(Int.tmod c3 10))))))] c4).bind fun yw=>
       qd m5 (IntKind.i64.wrap (Int.tdiv c3 10)) yw)
     else (
       (aP [(jf (IntKind.i64.wrap (48+(Int.tmod c3 10))))] c4).bind fun lD=>
       qd m5 (IntKind.i64.wrap (Int.tdiv c3 10)) lD))
   else (
     some c4)
def fZ(fuel:Nat)(cO:Int):Option ((List UInt8)):=
 if ((cO:Int)==0)then (
   some [48])
 else (
   (qd fuel cO []).bind fun o1=>
   match o1 with
   |yx=>if (decide ((cO:Int)<0))then (
       (aP [45] yx).bind fun mF=>
       some mF)
     else (
       some yx))
theorem j4{fuel:Nat}{cO:Int}{R:(List UInt8)}(hF:fZ fuel cO=some R):
   Fw.Spec Tryz.prog 45 [(zi cO)] [] (fun _:Unit=>(sv R)) (fun _=>[]):=by
 refine Se 31 Tryz.func45 [.tmp 2] ?_
 intro H0 F0
 unfold fZ at hF
 refine dB ?_
 refine Ci hF (fun Dh hF=>?_) (fun Dh hF=>?_)
 · exact ze hF
 refine fU ?_
 obtain⟨o1,jW,hO2⟩:=bind_some hF
 refine kY (fun f' cs'=>∃(yx:List UInt8)(g:Fr),yx=o1/\f'=aH g [(3,(sv yx)),(4,(.bool (decide ((cO:Int)<0))))]/\aF cs' []) ?_ ?_
 · replace hF:=jW
   refine bF (bU (m:=fuel) (fun m5 f' cs'=>∃(g:Fr)(c3:Int)(c4:List UInt8),f'=aH g [(0,(zi c3)),(3,(sv c4)),(4,(.bool (decide ((cO:Int)<0))))]/\aF cs' []/\qd m5 c3 c4=some o1) ⟨_,_,_,aJ,aI,hF⟩ ?_)
   rintro m5 _ _ ⟨g6,c3,c4,rfl,hE,hF⟩
   refine bg hE ?_
   rcases m5 with _|m5
   · rw[qd]at hF
     exact absurd hF (by simp)
   rw[qd]at hF
   refine aC ?_
   refine Ci hF (fun J2 hF=>?_) (fun J2 hF=>?_)
   · refine au ?_
     refine bF (dw (Cm (zi c3) rfl rfl ?_))
     refine ai (QQ (i:=c3) (j:=10) (.tmp rfl rfl) (.int _ _) (by decide)) ?_
     refine bK ?_
     refine Ci hF (fun Dj hF=>?_) (fun Dj hF=>?_)
     · refine aG ?_
       refine ai (QX (i:=(Int.tmod c3 10)) (.tmp rfl rfl)) ?_
       refine aC ?_
       refine ai (IW (i:=(IntKind.i64.wrap (48+(IntKind.i64.wrap (-(Int.tmod c3 10)))))) G_ yt (.tmp rfl rfl)) ?_
       refine eF rfl (dN (g:=true) zY.h Aw.h bG (vs:=[(.int .u8 ((jf (IntKind.i64.wrap (48+(IntKind.i64.wrap (-(Int.tmod c3 10)))))).toNat:Int))]) rfl rfl rfl (by intro v hv; simp at hv; rcases hv with rfl<;>rfl)) (fun k13=>?_)
       refine fF (.cons .h .nil) (dP (Ro:=(aK tT)) (E:=5) (F:=([]++[])) (xs:=([(jf (IntKind.i64.wrap (48+(IntKind.i64.wrap (-(Int.tmod c3 10))))))]:List UInt8)) (dM (eP (fun _=>rfl)) dO bP) rfl rfl) ?_
       refine iJ .h (fun hp=>IZ (u:=(jf (IntKind.i64.wrap (48+(IntKind.i64.wrap (-(Int.tmod c3 10))))))) zY.h yt JW Aw.h.sz (.tmp rfl rfl) hp) ?_
       refine au ?_
       refine bnd hF fun yw jA hF=>?_
       obtain⟨abX,abY⟩:=bq jA
       refine ai (bu (s:=[(jf (IntKind.i64.wrap (48+(IntKind.i64.wrap (-(Int.tmod c3 10))))))]) (t:=c4) (u:=yw) (.tmp rfl rfl) (.tmp rfl rfl) jA) ?_
       refine aA ?_
       refine ai (Jp (i:=c3) (j:=10) (.tmp rfl rfl) (.int _ _) (by decide)) ?_
       refine aG ?_
       exact⟨m5,cz _,_,_,_,aJ,aI,hF⟩
     refine aA ?_
     refine ai (IW (i:=(IntKind.i64.wrap (48+(Int.tmod c3 10)))) G_ yt (.tmp rfl rfl)) ?_
     refine eF rfl (dN (g:=true) zY.h Aw.h bG (vs:=[(.int .u8 ((jf (IntKind.i64.wrap (48+(Int.tmod c3 10)))).toNat:Int))]) rfl rfl rfl (by intro v hv; simp at hv; rcases hv with rfl<;>rfl)) (fun k18=>?_)
     refine fF (.cons .h .nil) (dP (Ro:=(aK tT)) (E:=5) (F:=([]++[])) (xs:=([(jf (IntKind.i64.wrap (48+(Int.tmod c3 10))))]:List UInt8)) (dM (eP (fun _=>rfl)) dO bP) rfl rfl) ?_
     refine iJ .h (fun hp=>IZ (u:=(jf (IntKind.i64.wrap (48+(Int.tmod c3 10))))) zY.h yt JW Aw.h.sz (.tmp rfl rfl) hp) ?_
     refine au ?_
     refine bnd hF fun lD iK hF=>?_
     obtain⟨Rv,Rw⟩:=bq iK
     refine ai (bu (s:=[(jf (IntKind.i64.wrap (48+(Int.tmod c3 10))))]) (t:=c4) (u:=lD) (.tmp rfl rfl) (.tmp rfl rfl) iK) ?_
     refine aA ?_
     refine ai (Jp (i:=c3) (j:=10) (.tmp rfl rfl) (.int _ _) (by decide)) ?_
     refine aG ?_
     exact⟨m5,cz _,_,_,_,aJ,aI,hF⟩
   exact aO hF
 rintro _ _ ⟨yx,g31,rfl,rfl,hE⟩
 replace hF:=hO2
 try dsimp only at hF
 refine bg hE ?_
 refine aA ?_
 refine Ci hF (fun abZ hF=>?_) (fun abZ hF=>?_)
 · refine aG ?_
   refine bnd hF fun mF hx27 hF=>?_
   obtain⟨ab0,ab1⟩:=bq hx27
   refine ai (bu (s:=[45]) (t:=yx) (u:=mF) (.sv _) (.tmp rfl rfl) hx27) ?_
   exact ze hF
 exact ze hF
def qf(aa:List UInt8)(fuel:Nat):Nat->Int->Int->Int->Option (Int×Bool)
 |0,_,_,_=>none
 |m4+1,c1,c2,c3=>if ((decide ((c3:Int)<(aa.length:Int)))&&(decide ((c3:Int)<11)))then (
     (((ix aa c3).bind fun Hd=>
         bif (decide ((48:Int)<=(Hd.toNat:Int)))then ((ix aa c3).bind fun u23=>
           some (decide (((u23.toNat:Int):Int)<=57)))
         else (some false)).bind fun o16=>
       match o16 with
       |jN=>if jN then (
           (ix aa c3).bind fun u28=>
           some ((IntKind.i64.wrap ((IntKind.i64.wrap (c1*10))+(IntKind.i64.wrap (IntKind.u8.wrap ((u28.toNat:Int)-48))))),(IntKind.i64.wrap (c2+1))))
         else (
           some (c1,c2))).bind fun kL=>
     match kL with
     |(c34,kw)=>qf aa fuel m4 c34 kw (IntKind.i64.wrap (c3+1)))
   else (
     (bif (decide ((0:Int)<(aa.length:Int)))then ((ix aa 0).bind fun u40=>
         some (((u40.toNat:Int):Int)==45))
       else (some false)).bind fun LH=>
     match LH with
     |wG=>if wG then (
         (bif (decide ((9:Int)<c2))then (some true)
           else (bif (decide ((10:Int)<(aa.length:Int)))then (some true)
             else ((fZ fuel (IntKind.i64.wrap (-c1))).bind fun kM=>
               some (!(kM==aa))))).bind fun LJ=>
         match LJ with
         |kN=>if kN then (
             some (0,false))
           else (
             some ((IntKind.i64.wrap (-c1)),true)))
       else (
         (bif (decide ((9:Int)<c2))then (some true)
           else (bif (decide ((10:Int)<(aa.length:Int)))then (some true)
             else ((fZ fuel c1).bind fun wH=>
               some (!(wH==aa))))).bind fun LK=>
         match LK with
         |jZ=>if jZ then (
             some (0,false))
           else (
             some (c1,true))))
def ql(fuel:Nat)(aa:List UInt8):Option (Int×Bool):=
 qf aa fuel (((aa.length:Int)-0).toNat+2) 0 0 0
theorem Ik{fuel:Nat}{aa:List UInt8}{R:Int×Bool}(hF:ql fuel aa=some R):
   Fw.Spec Tryz.prog 24 [(sv aa)] [] (fun _:Unit=>(.tuple [(zi R.1),(.bool R.2)].toArray)) (fun _=>[]):=by
 refine Se 61 Tryz.func24 [.tmp 2,.tmp 3] ?_
 intro H0 F0
 unfold ql at hF
 refine Q0 ?_
 refine bF (bU (m:=(((aa.length:Int)-0).toNat+2)) (fun m4 f' cs'=>∃(g:Fr)(c1 c2 c3:Int),f'=aH g [(0,(sv aa)),(4,(zi c1)),(5,(zi c2)),(6,(zi c3))]/\aF cs' []/\qf aa fuel m4 c1 c2 c3=some R) ⟨_,_,_,_,aJ,aI,hF⟩ ?_)
 rintro m4 _ _ ⟨g5,c1,c2,c3,rfl,hE,hF⟩
 refine bg hE ?_
 rcases m4 with _|m4
 · rw[qf]at hF
   exact absurd hF (by simp)
 rw[qf]at hF
 refine aG ?_
 refine bZ (fun f' cs'=>∃(g:Fr),f'=aH g [(0,(sv aa)),(4,(zi c1)),(5,(zi c2)),(6,(zi c3)),(14,(.bool ((decide ((c3:Int)<(aa.length:Int)))&&(decide ((c3:Int)<11)))))]/\aF cs' []) ?_ ?_
 · refine aG ?_
   refine ai (ig (s:=aa) dG (.tmp rfl rfl)) ?_
   refine aG ?_
   rcases a_ (decide ((c3:Int)<(aa.length:Int)))with gM|gM
   · rw[gM]
     try rw[gM]at hF; dsimp only[ak,aj]at hF
     refine bz ?_
     exact⟨_,aJ,aI⟩
   rw[gM]
   try rw[gM]at hF; dsimp only[ak,aj]at hF
   refine aA ?_
   exact⟨_,aJ,aI⟩
 rintro _ _ ⟨g13,rfl,hE⟩
 refine bg hE ?_
 refine Ci hF (fun J3 hF=>?_) (fun J3 hF=>?_)
 · refine au ?_
   obtain⟨kL,xO,xU⟩:=bind_some hF
   refine kY (fun f' cs'=>∃(c34 kw:Int)(g:Fr),kL=(c34,kw)/\f'=aH g [(0,(sv aa)),(4,(zi c34)),(5,(zi kw)),(6,(zi c3))]/\aF cs' []) ?_ ?_
   · replace hF:=xO
     refine bF ?_
     obtain⟨o16,ZC,ab2⟩:=bind_some hF
     refine au ?_
     refine bZ (fun f' cs'=>∃(jN:Bool)(g:Fr),jN=o16/\f'=aH g [(0,(sv aa)),(4,(zi c1)),(5,(zi c2)),(6,(zi c3)),(26,(.bool jN))]/\aF cs' []) ?_ ?_
     · replace hF:=ZC
       refine aG ?_
       refine zI hF fun Hd J4 iR hF=>?_
       refine ai (rW (u:=Hd) dG (.tmp rfl rfl) (.tmp rfl rfl) J4 iR) ?_
       refine aG ?_
       rcases a_ (decide ((48:Int)<=(Hd.toNat:Int)))with kH|kH
       · rw[kH]
         try rw[kH]at hF; dsimp only[ak,aj]at hF
         refine aC ?_
         refine zI hF fun u23 Rx mR hF=>?_
         refine ai (rW (u:=u23) dG (.tmp rfl rfl) (.tmp rfl rfl) Rx mR) ?_
         exact aO hF
       rw[kH]
       try rw[kH]at hF; dsimp only[ak,aj]at hF
       exact aO hF
     rintro _ _ ⟨jN,g33,rfl,rfl,hE⟩
     replace hF:=ab2
     try dsimp only at hF
     refine bg hE ?_
     refine Ci hF (fun Dh hF=>?_) (fun Dh hF=>?_)
     · refine aC ?_
       refine zI hF fun u28 ab3 hx31 hF=>?_
       refine ai (rW (u:=u28) dG (.tmp rfl rfl) (.tmp rfl rfl) ab3 hx31) ?_
       refine au ?_
       refine ai (O_ (i:=(IntKind.u8.wrap ((u28.toNat:Int)-48))) yt G_ (.tmp rfl rfl)) ?_
       exact Gn hF
     exact Gn hF
   rintro _ _ ⟨c34,kw,g36,rfl,rfl,hE⟩
   replace hF:=xU
   try dsimp only at hF
   refine bg hE ?_
   refine aC ?_
   exact⟨m4,cz _,_,_,_,_,aJ,aI,hF⟩
 refine aC ?_
 obtain⟨LH,ZE,ab4⟩:=bind_some hF
 refine au ?_
 refine bZ (fun f' cs'=>∃(wG:Bool)(g:Fr),wG=LH/\f'=aH g [(0,(sv aa)),(4,(zi c1)),(5,(zi c2)),(44,(.bool wG))]/\aF cs' []) ?_ ?_
 · replace hF:=ZE
   refine au ?_
   refine ai (ig (s:=aa) dG (.tmp rfl rfl)) ?_
   refine aG ?_
   rcases a_ (decide ((0:Int)<(aa.length:Int)))with Dk|Dk
   · rw[Dk]
     try rw[Dk]at hF; dsimp only[ak,aj]at hF
     refine ax ?_
     refine zI hF fun u40 J5 iL hF=>?_
     refine ai (rW (u:=u40) dG (.tmp rfl rfl) (.int _ _) J5 iL) ?_
     exact aO hF
   rw[Dk]
   try rw[Dk]at hF; dsimp only[ak,aj]at hF
   exact aO hF
 rintro _ _ ⟨wG,g66,rfl,rfl,hE⟩
 replace hF:=ab4
 try dsimp only at hF
 refine bg hE ?_
 refine Ci hF (fun ug hF=>?_) (fun ug hF=>?_)
 · refine aG ?_
   refine ai (QX (i:=c1) (.tmp rfl rfl)) ?_
   refine ax ?_
   obtain⟨LJ,ZF,ab5⟩:=bind_some hF
   refine au ?_
   refine bZ (fun f' cs'=>∃(kN:Bool)(g:Fr),kN=LJ/\f'=aH g [(4,(zi (IntKind.i64.wrap (-c1)))),(59,(.bool kN))]/\aF cs' []) ?_ ?_
   · replace hF:=ZF
     refine ax ?_
     rcases a_ (decide ((9:Int)<c2))with oV|oV
     · rw[oV]
       try rw[oV]at hF; dsimp only[ak,aj]at hF
       exact aO hF
     rw[oV]
     try rw[oV]at hF; dsimp only[ak,aj]at hF
     refine ax ?_
     refine ai (ig (s:=aa) dG (.tmp rfl rfl)) ?_
     refine aA ?_
     rcases a_ (decide ((10:Int)<(aa.length:Int)))with Dn|Dn
     · rw[Dn]
       try rw[Dn]at hF; dsimp only[ak,aj]at hF
       exact aO hF
     rw[Dn]
     try rw[Dn]at hF; dsimp only[ak,aj]at hF
     refine ax ?_
     refine bnd hF fun kM wu hF=>aB (j4 wu) (fun _=>?_)
     refine ax ?_
     refine ai (iP (s:=kM) (t:=aa) (.tmp rfl rfl) (.tmp rfl rfl)) ?_
     exact aO hF
   rintro _ _ ⟨kN,SI,rfl,rfl,hE⟩
   replace hF:=ab5
   try dsimp only at hF
   refine bg hE ?_
   refine Ci hF (fun Dp hF=>?_) (fun Dp hF=>?_)
   · exact ze hF
   exact ze hF
 refine aG ?_
 obtain⟨LK,ZG,ab6⟩:=bind_some hF
 refine au ?_
 refine bZ (fun f' cs'=>∃(jZ:Bool)(g:Fr),jZ=LK/\f'=aH g [(4,(zi c1)),(59,(.bool jZ))]/\aF cs' []) ?_ ?_
 · replace hF:=ZG
   refine ax ?_
   rcases a_ (decide ((9:Int)<c2))with Dq|Dq
   · rw[Dq]
     try rw[Dq]at hF; dsimp only[ak,aj]at hF
     exact aO hF
   rw[Dq]
   try rw[Dq]at hF; dsimp only[ak,aj]at hF
   refine ax ?_
   refine ai (ig (s:=aa) dG (.tmp rfl rfl)) ?_
   refine aA ?_
   rcases a_ (decide ((10:Int)<(aa.length:Int)))with Dr|Dr
   · rw[Dr]
     try rw[Dr]at hF; dsimp only[ak,aj]at hF
     exact aO hF
   rw[Dr]
   try rw[Dr]at hF; dsimp only[ak,aj]at hF
   refine ax ?_
   refine bnd hF fun wH uh hF=>aB (j4 uh) (fun _=>?_)
   refine ax ?_
   refine ai (iP (s:=wH) (t:=aa) (.tmp rfl rfl) (.tmp rfl rfl)) ?_
   exact aO hF
 rintro _ _ ⟨jZ,g64,rfl,rfl,hE⟩
 replace hF:=ab6
 try dsimp only at hF
 refine bg hE ?_
 refine Ci hF (fun ui hF=>?_) (fun ui hF=>?_)
 · exact ze hF
 exact ze hF
def kE(fuel:Nat)(aa:List UInt8):Option (Int):=
 (ql fuel aa).bind fun r1=>
 if (!r1.2)then (
   some (-100000))
 else (
   some r1.1)
theorem rO{fuel:Nat}{aa:List UInt8}{R:Int}(hF:kE fuel aa=some R):
   Fw.Spec Tryz.prog 37 [(sv aa)] [] (fun _:Unit=>(zi R)) (fun _=>[]):=by
 refine Se 13 Tryz.func37 [.tmp 2] ?_
 intro H0 F0
 unfold kE at hF
 refine aC ?_
 refine bnd hF fun r1 hx2 hF=>aB (Ik hx2) (fun _=>?_)
 refine au ?_
 refine zx ?_
 refine zx ?_
 refine dB ?_
 refine Ci hF (fun hb4 hF=>?_) (fun hb4 hF=>?_)
 · exact ze hF
 exact ze hF
def ou(fuel:Nat)(oI:List UInt8):Option (Int):=
 (bif (decide (((oI.length:Int):Int)<2))then (some true)
   else ((ix oI 0).bind fun u4=>
     some (((u4.toNat:Int):Int)!=114))).bind fun o1=>
 match o1 with
 |c8=>if c8 then (
     some (-1))
   else (
     (jD (decide (0<=(1:Int))&&decide ((1:Int)<=((oI).length:Int)))).bind fun LM=>
     (kE fuel (oI.drop ((1:Int)).toNat)).bind fun bY=>
     some bY)
theorem BM{fuel:Nat}{oI:List UInt8}{R:Int}(hF:ou fuel oI=some R):
   Fw.Spec Tryz.prog 36 [(sv oI)] [] (fun _:Unit=>(zi R)) (fun _=>[]):=by
 refine Se 14 Tryz.func36 [.tmp 2] ?_
 intro H0 F0
 unfold ou at hF
 refine aA ?_
 obtain⟨o1,jW,hO2⟩:=bind_some hF
 refine au ?_
 refine bZ (fun f' cs'=>∃(c8:Bool)(g:Fr),c8=o1/\f'=aH g [(0,(sv oI)),(10,(.bool c8))]/\aF cs' []) ?_ ?_
 · replace hF:=jW
   refine au ?_
   refine ai (ig (s:=oI) dG (.tmp rfl rfl)) ?_
   refine aG ?_
   rcases a_ (decide (((oI.length:Int):Int)<2))with hg3|hg3
   · rw[hg3]
     try rw[hg3]at hF; dsimp only[ak,aj]at hF
     exact aO hF
   rw[hg3]
   try rw[hg3]at hF; dsimp only[ak,aj]at hF
   refine ax ?_
   refine zI hF fun u4 He hx7 hF=>?_
   refine ai (rW (u:=u4) dG (.tmp rfl rfl) (.int _ _) He hx7) ?_
   exact aO hF
 rintro _ _ ⟨c8,g16,rfl,rfl,hE⟩
 replace hF:=hO2
 try dsimp only at hF
 refine bg hE ?_
 refine Ci hF (fun xV hF=>?_) (fun xV hF=>?_)
 · exact ze hF
 refine ax ?_
 refine bnd hF fun LM lm hF=>?_
 have yz:=kV lm
 simp only[Bool.and_eq_true,decide_eq_true_eq]at yz
 refine ai (zq (s:=oI) (i:=(1:Int)) dG (.tmp rfl rfl) (.int _ _) yz.1 yz.2) ?_
 refine bnd hF fun bY eY hF=>aB (rO eY) (fun _=>?_)
 exact ze hF
def wX(aa:List Int):List Int->Nat->Option (Bool)
 |[],k4=>(dZ (aa.length:Int) 1 3).bind fun ky=>
   some ky
 |x6::aM,k4=>(dZ x6 1 3).bind fun fG=>
   if (!fG)then (
     some false)
   else (
     wX aa aM (k4+1))
def rP(aa:List Int):Option (Bool):=
 wX aa aa 0
theorem Bj{aa:List Int}{ae:Sv}{R:Bool}(hF:rP aa=some R):
   Fw.Spec Tryz.prog 69 [ae.v] [aD ae aa] (fun _:Unit=>(.bool R)) (fun _=>[]):=by
 refine Se 19 Tryz.func69 [.tmp 2] ?_
 intro H0 F0
 unfold rP at hF
 refine bK ?_
 refine bF (bU (m:=aa.length) (fun m2 f' cs'=>∃(g:Fr)(k4:Nat)(aM:List Int),m2=aM.length/\f'=aH g [(0,ae.v),(3,(zi (k4:Int)))]/\List.drop k4 aa=aM/\aF cs' [aD ae aa]/\wX aa aM k4=some R) ⟨_,0,_,rfl,aJ,rfl,aI,hF⟩ ?_)
 rintro m2 _ _ ⟨g3,k4,aM,rfl,rfl,hd7,hE,hF⟩
 refine Kb hE aa (fun mO=>?_)
 rcases aM with _|⟨x6,aM⟩
 · have gQ:=dn hd7
   rw[wX]at hF
   refine bK ?_
   refine dJ ?_
   refine bK ?_
   refine bnd hF fun ky jB hF=>aB (fq jB) (fun _=>?_)
   exact ze hF
 obtain⟨gQ,bS,ic⟩:=dD hd7
 rw[wX]at hF
 refine bK ?_
 refine dI ?_
 refine aC ?_
 refine Ai bS (fun k16 Em=>?_)
 refine Al dE ?_
 refine bnd hF fun fG lq hF=>aB (fq lq) (fun _=>?_)
 refine aG ?_
 refine Ci hF (fun xW hF=>?_) (fun xW hF=>?_)
 · exact ze hF
 refine bz ?_
 rw[wk k4]
 exact⟨_,cz _,_,k4+1,aM,rfl,aJ,ic,aI,hF⟩
def rF(aa:List Int)(aQ:Method):List Int->Nat->Option (Bool)
 |[],k27=>some true
 |x29::sM,k27=>((ix aa aQ.Rel).bind fun x40=>
     (dZ x29 0 (IntKind.i64.wrap (x40-1))).bind fun pM=>
     bif (!pM)then (some true)
     else (bif (decide ((0:Int)<(k27:Int)))then ((ix aQ.Inputs (IntKind.i64.wrap ((k27:Int)-1))).bind fun qP=>
         some (decide ((x29:Int)<=qP)))
       else (some false))).bind fun LP=>
   match LP with
   |c59=>if c59 then (
       some false)
     else (
       rF aa aQ sM (k27+1))
def zk(aa:List Int)(aQ:Method):Option (Bool):=
 ((rP aa).bind fun r4=>
   bif (!r4)then (some true)
   else ((dZ aQ.Rel 0 (IntKind.i64.wrap ((aa.length:Int)-1))).bind fun r8=>
     bif (!r8)then (some true)
     else ((dZ aQ.Limit 0 9).bind fun bY=>
       bif (!bY)then (some true)
       else ((dZ aQ.Cost 0 99).bind fun r16=>
         bif (!r16)then (some true)
         else ((dZ aQ.Quota 1 99).bind fun gz=>
           some (!gz)))))).bind fun o2=>
 match o2 with
 |c23=>if c23 then (
     some false)
   else (
     rF aa aQ aQ.Inputs 0)
theorem NY{aa:List Int}{ae:Sv}{aQ:Method}{eG:Sv}{R:Bool}(hF:zk aa aQ=some R):
   Fw.Spec Tryz.prog 38 [ae.v,(zg [(zi aQ.Rel),eG.v,(zi aQ.Limit),(zi aQ.Cost),(zi aQ.Quota)])] [aD ae aa,aD eG aQ.Inputs] (fun _:Unit=>(.bool R)) (fun _=>[]):=by
 refine Se 74 Tryz.func38 [.tmp 4] ?_
 intro H0 F0
 unfold zk at hF
 refine au ?_
 refine fJ (fun k1=>?_)
 refine ax ?_
 obtain⟨o2,fP,hO3⟩:=bind_some hF
 refine au ?_
 refine bZ (fun f' cs'=>∃(c23:Bool)(g:Fr),c23=o2/\f'=aH g [(0,ae.v),(3,(pz k1)),(35,(.bool c23))]/\aF cs' [aD ae aa,cZ k1 43 (zg [(zi aQ.Rel),eG.v,(zi aQ.Limit),(zi aQ.Cost),(zi aQ.Quota)]),aD eG aQ.Inputs]) ?_ ?_
 · replace hF:=fP
   refine au ?_
   refine bnd hF fun r4 hx5 hF=>aB (Bj hx5) (fun _=>?_)
   refine aG ?_
   rcases a_ (!r4)with bf|bf
   · rw[bf]
     try rw[bf]at hF; dsimp only[ak,aj]at hF
     exact aO hF
   rw[bf]
   try rw[bf]at hF; dsimp only[ak,aj]at hF
   refine tN ?_
   refine bnd hF fun r8 bS hF=>aB (fq bS) (fun _=>?_)
   refine aA ?_
   rcases a_ (!r8)with bQ|bQ
   · rw[bQ]
     try rw[bQ]at hF; dsimp only[ak,aj]at hF
     exact aO hF
   rw[bQ]
   try rw[bQ]at hF; dsimp only[ak,aj]at hF
   refine aC ?_
   refine bnd hF fun bY eY hF=>aB (fq eY) (fun _=>?_)
   refine aA ?_
   rcases a_ (!bY)with gN|gN
   · rw[gN]
     try rw[gN]at hF; dsimp only[ak,aj]at hF
     exact aO hF
   rw[gN]
   try rw[gN]at hF; dsimp only[ak,aj]at hF
   refine aC ?_
   refine bnd hF fun r16 iT hF=>aB (fq iT) (fun _=>?_)
   refine aA ?_
   rcases a_ (!r16)with Dt|Dt
   · rw[Dt]
     try rw[Dt]at hF; dsimp only[ak,aj]at hF
     exact aO hF
   rw[Dt]
   try rw[Dt]at hF; dsimp only[ak,aj]at hF
   refine aC ?_
   refine bnd hF fun gz iR hF=>aB (fq iR) (fun _=>?_)
   exact aO hF
 rintro _ _ ⟨c23,g64,rfl,rfl,hE⟩
 replace hF:=hO3
 try dsimp only at hF
 refine bg hE ?_
 refine Ci hF (fun ui hF=>?_) (fun ui hF=>?_)
 · exact ze hF
 refine aC ?_
 refine bF (bU (m:=aQ.Inputs.length) (fun SK f' cs'=>∃(g:Fr)(k27:Nat)(sM:List Int),SK=sM.length/\f'=aH g [(0,ae.v),(3,(pz k1)),(5,(zi (k27:Int)))]/\List.drop k27 aQ.Inputs=sM/\aF cs' [aD ae aa,cZ k1 43 (zg [(zi aQ.Rel),eG.v,(zi aQ.Limit),(zi aQ.Cost),(zi aQ.Quota)]),aD eG aQ.Inputs]/\rF aa aQ sM k27=some R) ⟨_,0,_,rfl,aJ,rfl,aI,hF⟩ ?_)
 rintro SK _ _ ⟨g26,k27,sM,rfl,rfl,Ry,hE,hF⟩
 refine Kb hE aQ.Inputs (fun aeF=>?_)
 rcases sM with _|⟨x29,sM⟩
 · have hk31:=dn Ry
   rw[rF]at hF
   refine dB ?_
   refine dJ ?_
   exact ze hF
 obtain⟨hk31,hx32,ab7⟩:=dD Ry
 rw[rF]at hF
 refine dB ?_
 refine dI ?_
 refine aG ?_
 obtain⟨LP,ZH,ab8⟩:=bind_some hF
 refine gF [0,1,2,3,4,5,6,7,8,9,10,11,12,13,14,15,16,17,18,19,20,21,22,23,24,25,26,27,28,29,30] [0,1,0,7,15,0,0,64,224,480,992,2047,4095,8191,16383,32767,65535,131071,262143,131071,1048575,2097151,131071,4325375,131071,16908287,63045631,130154495,268435455,536870911,1073741823] [11] mixed (by decide+kernel) ?_
 refine qz (fun f' cs'=>∃(c59:Bool)(g:Fr),c59=LP/\f'=aH g [(0,ae.v),(3,(pz k1)),(5,(zi (k27:Int))),(73,(.bool c59))]/\aF cs' [aD ae aa,cZ k1 43 (zg [(zi aQ.Rel),eG.v,(zi aQ.Limit),(zi aQ.Cost),(zi aQ.Quota)]),aD eG aQ.Inputs]) ?_ ?_
 · replace hF:=ZH
   refine iD ?_
   refine Di hx32 (fun k38 j39=>?_)
   refine Dl dE ?_
   refine iD ?_
   refine zI hF fun x40 J5 iL hF=>?_
   refine Di iL (fun SN j45=>?_)
   refine Dl dE ?_
   refine du ?_
   refine bnd hF fun pM j_ hF=>dm (fq j_) (fun _=>?_)
   refine fD ?_
   rcases a_ (!pM)with oW|oW
   · rw[oW]
     try rw[oW]at hF; dsimp only[ak,aj]at hF
     exact gH hF
   rw[oW]
   try rw[oW]at hF; dsimp only[ak,aj]at hF
   refine iD ?_
   rcases a_ (decide ((0:Int)<(k27:Int)))with Du|Du
   · rw[Du]
     try rw[Du]at hF; dsimp only[ak,aj]at hF
     refine iD ?_
     refine Di hx32 (fun k51 j52=>?_)
     refine Dl dE ?_
     refine tZ ?_
     refine zI hF fun qP afM ab9 hF=>?_
     refine Di ab9 (fun k57 j58=>?_)
     refine Dl dE ?_
     exact gH hF
   rw[Du]
   try rw[Du]at hF; dsimp only[ak,aj]at hF
   exact gH hF
 rintro _ _ ⟨c59,g62,rfl,rfl,hE⟩
 replace hF:=ab8
 try dsimp only at hF
 refine bg hE ?_
 refine Ci hF (fun xX hF=>?_) (fun xX hF=>?_)
 · exact ze hF
 refine bz ?_
 rw[wk k27]
 exact⟨_,cz _,_,k27+1,sM,rfl,aJ,ab7,aI,hF⟩
def rJ(fuel:Nat):List Int->Nat->(List UInt8)->Option ((List UInt8))
 |[],k5,c1=>some c1
 |x7::eQ,k5,c1=>(if (decide ((0:Int)<(k5:Int)))then (
       (aP c1 [44]).bind fun eB=>
       (fZ fuel x7).bind fun iF=>
       (aP eB iF).bind fun x25=>
       some x25)
     else (
       (fZ fuel x7).bind fun ja=>
       (aP c1 ja).bind fun x34=>
       some x34)).bind fun kL=>
   match kL with
   |kP=>rJ fuel eQ (k5+1) kP
def xx(fuel:Nat)(bi:List Int):Option ((List UInt8)):=
 rJ fuel bi 0 []
theorem Ir{fuel:Nat}{bi:List Int}{ae:Sv}{R:(List UInt8)}(hF:xx fuel bi=some R):
   Fw.Spec Tryz.prog 70 [ae.v] [aD ae bi] (fun _:Unit=>(sv R)) (fun _=>[]):=by
 refine Se 23 Tryz.func70 [.tmp 2] ?_
 intro H0 F0
 unfold xx at hF
 refine jT ?_
 refine bF (bU (m:=bi.length) (fun m3 f' cs'=>∃(g:Fr)(k5:Nat)(eQ:List Int)(c1:List UInt8),m3=eQ.length/\f'=aH g [(0,ae.v),(3,(sv c1)),(4,(zi (k5:Int)))]/\List.drop k5 bi=eQ/\aF cs' [aD ae bi]/\rJ fuel eQ k5 c1=some R) ⟨_,0,_,_,rfl,aJ,rfl,aI,hF⟩ ?_)
 rintro m3 _ _ ⟨g4,k5,eQ,c1,rfl,rfl,pO,hE,hF⟩
 refine Kb hE bi (fun Jy=>?_)
 rcases eQ with _|⟨x7,eQ⟩
 · have yA:=dn pO
   rw[rJ]at hF
   refine bK ?_
   refine dJ ?_
   exact ze hF
 obtain⟨yA,iU,ji⟩:=dD pO
 rw[rJ]at hF
 refine bK ?_
 refine dI ?_
 refine au ?_
 obtain⟨kL,xO,xU⟩:=bind_some hF
 refine kY (fun f' cs'=>∃(kP:List UInt8)(g:Fr),kP=kL/\f'=aH g [(0,ae.v),(3,(sv kP)),(4,(zi (k5:Int)))]/\aF cs' [aD ae bi]) ?_ ?_
 · replace hF:=xO
   refine bF (jw (dw (Cm (zi (k5:Int)) rfl rfl ?_)))
   refine aG ?_
   refine Ci hF (fun mU hF=>?_) (fun mU hF=>?_)
   · refine aG ?_
     refine bnd hF fun eB iT hF=>?_
     obtain⟨Rz,RA⟩:=bq iT
     refine ai (bu (s:=c1) (t:=[44]) (u:=eB) (.tmp rfl rfl) (.sv _) iT) ?_
     refine bz ?_
     refine Ai iU (fun k20 Hf=>?_)
     refine Al dE ?_
     refine bnd hF fun iF jL hF=>aB (j4 jL) (fun _=>?_)
     refine bnd hF fun x25 mR hF=>?_
     obtain⟨ab_,ab'⟩:=bq mR
     refine ai (bu (s:=eB) (t:=iF) (u:=x25) (.tmp rfl rfl) (.tmp rfl rfl) mR) ?_
     exact aO hF
   refine aC ?_
   refine Ai iU (fun uF j30=>?_)
   refine Al dE ?_
   refine bnd hF fun ja hx32 hF=>aB (j4 hx32) (fun _=>?_)
   refine bnd hF fun x34 kg hF=>?_
   obtain⟨Gp,Gq⟩:=bq kg
   refine ai (bu (s:=c1) (t:=ja) (u:=x34) (.tmp rfl rfl) (.tmp rfl rfl) kg) ?_
   exact aO hF
 rintro _ _ ⟨kP,LQ,rfl,rfl,hE⟩
 replace hF:=xU
 try dsimp only at hF
 refine bg hE ?_
 refine aC ?_
 rw[wk k5]
 exact⟨_,cz _,_,k5+1,eQ,_,rfl,aJ,ji,aI,hF⟩
def rA(aQ:Method)(fuel:Nat):List Int->Nat->Option ((List UInt8))
 |[],k23=>if (decide ((0:Int)<(aQ.Inputs.length:Int)))then (
     (xx fuel aQ.Inputs).bind fun r32=>
     (fZ fuel aQ.Rel).bind fun kz=>
     (aP [114] kz).bind fun x38=>
     (aP x38 [32,105,110,32]).bind fun iG=>
     (aP iG r32).bind fun mG=>
     (aP mG [32,108,105,109,105,116,32]).bind fun yB=>
     (fZ fuel aQ.Limit).bind fun qQ=>
     (aP yB qQ).bind fun Hg=>
     (aP Hg [32,99,111,115,116,32]).bind fun Hl=>
     (fZ fuel aQ.Cost).bind fun LU=>
     (aP Hl LU).bind fun Hm=>
     (aP Hm [32,113,117,111,116,97,32]).bind fun yC=>
     (fZ fuel aQ.Quota).bind fun pQ=>
     (aP yC pQ).bind fun LV=>
     some LV)
   else (
     (fZ fuel aQ.Rel).bind fun LW=>
     (aP [114] LW).bind fun x86=>
     (aP x86 [32,105,110,32]).bind fun x90=>
     (aP x90 [102,114,101,101]).bind fun Ho=>
     (aP Ho [32,108,105,109,105,116,32]).bind fun x98=>
     (fZ fuel aQ.Limit).bind fun J6=>
     (aP x98 J6).bind fun x105=>
     (aP x105 [32,99,111,115,116,32]).bind fun Gr=>
     (fZ fuel aQ.Cost).bind fun oZ=>
     (aP Gr oZ).bind fun uj=>
     (aP uj [32,113,117,111,116,97,32]).bind fun nJ=>
     (fZ fuel aQ.Quota).bind fun J7=>
     (aP nJ J7).bind fun J8=>
     some J8)
 |x25::sN,k23=>((dZ x25 0 2).bind fun J9=>
     bif (!J9)then (some true)
     else (bif (decide ((0:Int)<(k23:Int)))then ((ix aQ.Inputs (IntKind.i64.wrap ((k23:Int)-1))).bind fun RB=>
         some (decide ((x25:Int)<=RB)))
       else (some false))).bind fun J_=>
   match J_ with
   |Dv=>if Dv then (
       some [])
     else (
       rA aQ fuel sN (k23+1))
def yS(fuel:Nat)(aQ:Method):Option ((List UInt8)):=
 ((dZ aQ.Rel 0 2).bind fun r4=>
   bif (!r4)then (some true)
   else ((dZ aQ.Limit 0 9).bind fun r8=>
     bif (!r8)then (some true)
     else ((dZ aQ.Cost 0 99).bind fun bY=>
       bif (!bY)then (some true)
       else ((dZ aQ.Quota 1 99).bind fun r16=>
         some (!r16))))).bind fun o2=>
 match o2 with
 |c19=>if c19 then (
     some [])
   else (
     rA aQ fuel aQ.Inputs 0)
theorem Na{fuel:Nat}{aQ:Method}{bC:Sv}{R:(List UInt8)}(hF:yS fuel aQ=some R):
   Fw.Spec Tryz.prog 39 [(zg [(zi aQ.Rel),bC.v,(zi aQ.Limit),(zi aQ.Cost),(zi aQ.Quota)])] [aD bC aQ.Inputs] (fun _:Unit=>(sv R)) (fun _=>[]):=by
 refine Se 88 Tryz.func39 [.tmp 2] ?_
 intro H0 F0
 unfold yS at hF
 refine au ?_
 refine fJ (fun k1=>?_)
 refine ax ?_
 obtain⟨o2,fP,hO3⟩:=bind_some hF
 refine au ?_
 refine bZ (fun f' cs'=>∃(c19:Bool)(g:Fr),c19=o2/\f'=aH g [(1,(pz k1)),(26,(.bool c19))]/\aF cs' [cZ k1 43 (zg [(zi aQ.Rel),bC.v,(zi aQ.Limit),(zi aQ.Cost),(zi aQ.Quota)]),aD bC aQ.Inputs]) ?_ ?_
 · replace hF:=fP
   refine aG ?_
   refine bnd hF fun r4 hx5 hF=>aB (fq hx5) (fun _=>?_)
   refine aG ?_
   rcases a_ (!r4)with bf|bf
   · rw[bf]
     try rw[bf]at hF; dsimp only[ak,aj]at hF
     exact aO hF
   rw[bf]
   try rw[bf]at hF; dsimp only[ak,aj]at hF
   refine aC ?_
   refine bnd hF fun r8 bS hF=>aB (fq bS) (fun _=>?_)
   refine aA ?_
   rcases a_ (!r8)with bQ|bQ
   · rw[bQ]
     try rw[bQ]at hF; dsimp only[ak,aj]at hF
     exact aO hF
   rw[bQ]
   try rw[bQ]at hF; dsimp only[ak,aj]at hF
   refine aC ?_
   refine bnd hF fun bY eY hF=>aB (fq eY) (fun _=>?_)
   refine aA ?_
   rcases a_ (!bY)with gN|gN
   · rw[gN]
     try rw[gN]at hF; dsimp only[ak,aj]at hF
     exact aO hF
   rw[gN]
   try rw[gN]at hF; dsimp only[ak,aj]at hF
   refine aC ?_
   refine bnd hF fun r16 iT hF=>aB (fq iT) (fun _=>?_)
   exact aO hF
 rintro _ _ ⟨c19,afN,rfl,rfl,hE⟩
 replace hF:=hO3
 try dsimp only at hF
 refine bg hE ?_
 refine Ci hF (fun ZI hF=>?_) (fun ZI hF=>?_)
 · exact ze hF
 refine aC ?_
 refine bF (bU (m:=aQ.Inputs.length) (fun m21 f' cs'=>∃(g:Fr)(k23:Nat)(sN:List Int),m21=sN.length/\f'=aH g [(1,(pz k1)),(3,(zi (k23:Int)))]/\List.drop k23 aQ.Inputs=sN/\aF cs' [cZ k1 43 (zg [(zi aQ.Rel),bC.v,(zi aQ.Limit),(zi aQ.Cost),(zi aQ.Quota)]),aD bC aQ.Inputs]/\rA aQ fuel sN k23=some R) ⟨_,0,_,rfl,aJ,rfl,aI,hF⟩ ?_)
 rintro m21 _ _ ⟨g22,k23,sN,rfl,rfl,Gs,hE,hF⟩
 refine Kb hE aQ.Inputs (fun aeG=>?_)
 rcases sN with _|⟨x25,sN⟩
 · have aca:=dn Gs
   rw[rA]at hF
   refine dB ?_
   refine dJ ?_
   refine Q0 ?_
   refine Ci hF (fun ZJ hF=>?_) (fun ZJ hF=>?_)
   · refine ax ?_
     refine bnd hF fun r32 mV hF=>aB (Ir mV) (fun _=>?_)
     refine aG ?_
     refine gF [0,1,5,8,9,13,14,18,19,2,3,4,6,7,10,11,12,15,16,17,20,21,22] [0,1,3,7,15,0,63,127,0,256,775,2047,4095,0,8192,26375,65535,131071,0,262144,845575,2097151,4194303] [2,10,15,20] mixed (by decide+kernel) ?_
     refine Gm ?_
     refine bnd hF fun kz lV hF=>dm (j4 lV) (fun _=>?_)
     refine bnd hF fun x38 hx39 hF=>?_
     obtain⟨Ka,Kc⟩:=bq hx39
     refine bn rfl .no (fun ha=>bu (s:=[114]) (t:=kz) (u:=x38) (EN ha (.sv _) rfl) (EN ha (.tmp rfl rfl) rfl) hx39) ?_
     refine bnd hF fun iG iL hF=>?_
     obtain⟨Gt,Gu⟩:=bq iL
     refine bn rfl .no (fun ha=>bu (s:=x38) (t:=[32,105,110,32]) (u:=iG) (EN ha (.tmp rfl rfl) rfl) (EN ha (.sv _) rfl) iL) ?_
     refine bnd hF fun mG j_ hF=>?_
     obtain⟨RD,RF⟩:=bq j_
     refine bn rfl .no (fun ha=>bu (s:=iG) (t:=r32) (u:=mG) (EN ha (.tmp rfl rfl) rfl) (EN ha (.tmp rfl rfl) rfl) j_) ?_
     refine bnd hF fun yB nK hF=>?_
     obtain⟨afO,afP⟩:=bq nK
     refine bn rfl .no (fun ha=>bu (s:=mG) (t:=[32,108,105,109,105,116,32]) (u:=yB) (EN ha (.tmp rfl rfl) rfl) (EN ha (.sv _) rfl) nK) ?_
     refine bnd hF fun qQ xY hF=>dm (j4 xY) (fun _=>?_)
     refine bnd hF fun Hg Ah hF=>?_
     obtain⟨afQ,afR⟩:=bq Ah
     refine bn rfl .no (fun ha=>bu (s:=yB) (t:=qQ) (u:=Hg) (EN ha (.tmp rfl rfl) rfl) (EN ha (.tmp rfl rfl) rfl) Ah) ?_
     refine bnd hF fun Hl Aj hF=>?_
     obtain⟨afS,afT⟩:=bq Aj
     refine bn rfl .no (fun ha=>bu (s:=Hg) (t:=[32,99,111,115,116,32]) (u:=Hl) (EN ha (.tmp rfl rfl) rfl) (EN ha (.sv _) rfl) Aj) ?_
     refine bnd hF fun LU Ke hF=>dm (j4 Ke) (fun _=>?_)
     refine bnd hF fun Hm Ak hF=>?_
     obtain⟨afU,afV⟩:=bq Ak
     refine bn rfl .no (fun ha=>bu (s:=Hl) (t:=LU) (u:=Hm) (EN ha (.tmp rfl rfl) rfl) (EN ha (.tmp rfl rfl) rfl) Ak) ?_
     refine bnd hF fun yC Gv hF=>?_
     obtain⟨afW,afX⟩:=bq Gv
     refine bn rfl .no (fun ha=>bu (s:=Hm) (t:=[32,113,117,111,116,97,32]) (u:=yC) (EN ha (.tmp rfl rfl) rfl) (EN ha (.sv _) rfl) Gv) ?_
     refine bnd hF fun pQ Kg hF=>dm (j4 Kg) (fun _=>?_)
     refine bnd hF fun LV RG hF=>?_
     obtain⟨afY,afZ⟩:=bq RG
     refine bn rfl .no (fun ha=>bu (s:=yC) (t:=pQ) (u:=LV) (EN ha (.tmp rfl rfl) rfl) (EN ha (.tmp rfl rfl) rfl) RG) ?_
     refine fD ?_
     exact ze hF
   refine au ?_
   refine gF [0,1,5,8,9,13,14,18,19,2,3,4,6,7,10,11,12,15,16,17,20,21,22] [0,1,3,7,15,0,63,127,0,256,775,2047,4095,0,8192,26375,65535,131071,0,262144,845575,2097151,4194303] [2,10,15,20] mixed (by decide+kernel) ?_
   refine Gm ?_
   refine bnd hF fun LW acb hF=>dm (j4 acb) (fun _=>?_)
   refine bnd hF fun x86 Gw hF=>?_
   obtain⟨af0,af1⟩:=bq Gw
   refine bn rfl .no (fun ha=>bu (s:=[114]) (t:=LW) (u:=x86) (EN ha (.sv _) rfl) (EN ha (.tmp rfl rfl) rfl) Gw) ?_
   refine bnd hF fun x90 hx91 hF=>?_
   obtain⟨af2,hz92⟩:=bq hx91
   refine bn rfl .no (fun ha=>bu (s:=x86) (t:=[32,105,110,32]) (u:=x90) (EN ha (.tmp rfl rfl) rfl) (EN ha (.sv _) rfl) hx91) ?_
   refine bnd hF fun Ho hx95 hF=>?_
   obtain⟨af3,af4⟩:=bq hx95
   refine bn rfl .no (fun ha=>bu (s:=x90) (t:=[102,114,101,101]) (u:=Ho) (EN ha (.tmp rfl rfl) rfl) (EN ha (.tmp rfl rfl) rfl) hx95) ?_
   refine bnd hF fun x98 hx99 hF=>?_
   obtain⟨aeH,aeI⟩:=bq hx99
   refine bn rfl .no (fun ha=>bu (s:=Ho) (t:=[32,108,105,109,105,116,32]) (u:=x98) (EN ha (.tmp rfl rfl) rfl) (EN ha (.sv _) rfl) hx99) ?_
   refine bnd hF fun J6 ZK hF=>dm (j4 ZK) (fun _=>?_)
   refine bnd hF fun x105 Ga hF=>?_
   obtain⟨aeJ,aeK⟩:=bq Ga
   refine bn rfl .no (fun ha=>bu (s:=x98) (t:=J6) (u:=x105) (EN ha (.tmp rfl rfl) rfl) (EN ha (.tmp rfl rfl) rfl) Ga) ?_
   refine bnd hF fun Gr Gb hF=>?_
   obtain⟨aeL,aeM⟩:=bq Gb
   refine bn rfl .no (fun ha=>bu (s:=x105) (t:=[32,99,111,115,116,32]) (u:=Gr) (EN ha (.tmp rfl rfl) rfl) (EN ha (.sv _) rfl) Gb) ?_
   refine bnd hF fun oZ hx114 hF=>dm (j4 hx114) (fun _=>?_)
   refine bnd hF fun uj CK hF=>?_
   obtain⟨ZL,ZM⟩:=bq CK
   refine bn rfl .no (fun ha=>bu (s:=Gr) (t:=oZ) (u:=uj) (EN ha (.tmp rfl rfl) rfl) (EN ha (.tmp rfl rfl) rfl) CK) ?_
   refine bnd hF fun nJ xP hF=>?_
   obtain⟨ZN,ZO⟩:=bq xP
   refine bn rfl .no (fun ha=>bu (s:=uj) (t:=[32,113,117,111,116,97,32]) (u:=nJ) (EN ha (.tmp rfl rfl) rfl) (EN ha (.sv _) rfl) xP) ?_
   refine bnd hF fun J7 Gc hF=>dm (j4 Gc) (fun _=>?_)
   refine bnd hF fun J8 hx128 hF=>?_
   obtain⟨aeN,aeO⟩:=bq hx128
   refine bn rfl .no (fun ha=>bu (s:=nJ) (t:=J7) (u:=J8) (EN ha (.tmp rfl rfl) rfl) (EN ha (.tmp rfl rfl) rfl) hx128) ?_
   refine fD ?_
   exact ze hF
 obtain⟨aca,hx28,hd29⟩:=dD Gs
 rw[rA]at hF
 refine dB ?_
 refine dI ?_
 refine aG ?_
 obtain⟨J_,Yp,ZP⟩:=bind_some hF
 refine gF [0,1,2,3,4,5,6,7,8,9,10,11,12,13,14,15,16,17,18,19,20,21,22,23,24] [0,1,0,7,15,31,63,127,255,511,1023,2047,4095,2047,16383,32767,2047,67583,2047,264191,985087,2033663,4194303,8388607,16777215] [5] mixed (by decide+kernel) ?_
 refine qz (fun f' cs'=>∃(Dv:Bool)(g:Fr),Dv=J_/\f'=aH g [(1,(pz k1)),(3,(zi (k23:Int))),(58,(.bool Dv))]/\aF cs' [cZ k1 43 (zg [(zi aQ.Rel),bC.v,(zi aQ.Limit),(zi aQ.Cost),(zi aQ.Quota)]),aD bC aQ.Inputs]) ?_ ?_
 · replace hF:=Yp
   refine iD ?_
   refine Di hx28 (fun af5 af6=>?_)
   refine Dl dE ?_
   refine bnd hF fun J9 ZQ hF=>dm (fq ZQ) (fun _=>?_)
   refine fD ?_
   rcases a_ (!J9)with CL|CL
   · rw[CL]
     try rw[CL]at hF; dsimp only[ak,aj]at hF
     exact gH hF
   rw[CL]
   try rw[CL]at hF; dsimp only[ak,aj]at hF
   refine iD ?_
   rcases a_ (decide ((0:Int)<(k23:Int)))with CO|CO
   · rw[CO]
     try rw[CO]at hF; dsimp only[ak,aj]at hF
     refine iD ?_
     refine Di hx28 (fun af7 af8=>?_)
     refine Dl dE ?_
     refine tZ ?_
     refine zI hF fun RB aeP Jz hF=>?_
     refine Di Jz (fun af9 af_=>?_)
     refine Dl dE ?_
     exact gH hF
   rw[CO]
   try rw[CO]at hF; dsimp only[ak,aj]at hF
   exact gH hF
 rintro _ _ ⟨Dv,af',rfl,rfl,hE⟩
 replace hF:=ZP
 try dsimp only at hF
 refine bg hE ?_
 refine Ci hF (fun ZR hF=>?_) (fun ZR hF=>?_)
 · exact ze hF
 refine bz ?_
 rw[wk k23]
 exact⟨_,cz _,_,k23+1,sN,rfl,aJ,hd29,aI,hF⟩
def rC(aa:List Int)(aL:List UInt8)(fuel:Nat)(fQ:Int)(gT:Int)(iq:Int)(fo:Int):List (List UInt8)->Nat->(List Int)->Option (Method×Bool)
 |[],uk,ko=>((zk aa (⟨fQ,ko,gT,iq,fo⟩:Method)).bind fun Kh=>
     bif (!Kh)then (some true)
     else ((yS fuel (⟨fQ,ko,gT,iq,fo⟩:Method)).bind fun Ki=>
       some (!(Ki==aL)))).bind fun Kk=>
   match Kk with
   |Dw=>if Dw then (
       some ((⟨0,[],0,0,0⟩:Method),false))
     else (
       some ((⟨fQ,ko,gT,iq,fo⟩:Method),true))
 |nJ::r_,uk,ko=>(kE fuel nJ).bind fun Gx=>
   (app ko ([Gx]:List Int)).bind fun z145=>
   rC aa aL fuel fQ gT iq fo r_ (uk+1) z145
def Bl(fuel:Nat)(aa:List Int)(aL:List UInt8):Option (Method×Bool):=
 (oq aL (32:UInt8)).bind fun r2=>
 if (((r2.length:Int):Int)!=9)then (
   some ((⟨0,[],0,0,0⟩:Method),false))
 else (
   (ix r2 0).bind fun x5=>
   (ix r2 4).bind fun iw=>
   (ix r2 6).bind fun nM=>
   (ix r2 8).bind fun jE=>
   (ou fuel x5).bind fun fQ=>
   (kE fuel iw).bind fun gT=>
   (kE fuel nM).bind fun iq=>
   (kE fuel jE).bind fun fo=>
   (ix r2 2).bind fun iG=>
   if (!(iG==[102,114,101,101]))then (
     (ix r2 2).bind fun uG=>
     (oq uG (44:UInt8)).bind fun qQ=>
     rC aa aL fuel fQ gT iq fo qQ 0 ([]:List Int))
   else (
     ((zk aa (⟨fQ,[],gT,iq,fo⟩:Method)).bind fun Kl=>
       bif (!Kl)then (some true)
       else ((yS fuel (⟨fQ,[],gT,iq,fo⟩:Method)).bind fun Km=>
         some (!(Km==aL)))).bind fun Kn=>
     match Kn with
     |Dx=>if Dx then (
         some ((⟨0,[],0,0,0⟩:Method),false))
       else (
         some ((⟨fQ,[],gT,iq,fo⟩:Method),true))))
theorem Ux{fuel:Nat}{aa:List Int}{ae:Sv}{aL:List UInt8}{R:Method×Bool}(hF:Bl fuel aa aL=some R):
   Fw.Spec Tryz.prog 21 [ae.v,(sv aL)] [aD ae aa] (fun p:Sv×List Nat=>(.tuple [(zg [(zi R.1.Rel),p.1.v,(zi R.1.Limit),(zi R.1.Cost),(zi R.1.Quota)]),(.bool R.2)].toArray)) (fun p=>[bV p.2 p.1 R.1.Inputs]):=by
 refine Se 69 Tryz.func21 [.cell 4 43,.tmp 5] ?_
 intro H0 F0
 unfold Bl at hF
 refine au ?_
 refine fE (fun k1=>?_)
 refine aA ?_
 refine bnd hF fun r2 hx3 hF=>dC (vI hx3) (fun p4=>?_)
 refine dB ?_
 refine Ci hF (fun ZT hF=>?_) (fun ZT hF=>?_)
 · refine au ?_
   refine ai (fH jh.h rfl (vs:=[]) .nil (cells:=[(zi 0),(.slice none 0 0),(zi 0),(zi 0),(zi 0)]) rfl) ?_
   refine As (zg [(zi 0),(.slice none 0 0),(zi 0),(zi 0),(zi 0)]) ?_
   refine ax ?_
   cases hF
   exact dx (⟨none,0,0⟩,[]) (.cellA rfl rfl .h rfl oU.h jh.h.sz rfl rfl (.tmp rfl rfl .nil)) rfl (.conv .nil (dV (Ro:=(aK aY)) (E:=3)) (.cons .nil) (.sel (.cons .h .nil)))
 refine au ?_
 refine oK .h cu ?_
 refine gF [0,1,2,4,5,6,8,9,10,12,13,14,17,3,7,11,15,16,18] [0,1,3,7,0,16,48,127,0,256,768,2047,0,4096,12288,32767,65535,0,262143] [3,7,11,15,18] mixed (by decide+kernel) ?_
 refine du ?_
 refine zI hF fun x5 hp7 gZ hF=>?_
 refine Di gZ (fun k9 j10=>?_)
 refine Dl fw ?_
 refine du ?_
 refine zI hF fun iw acd jB hF=>?_
 refine Di jB (fun k15 j16=>?_)
 refine Dl fw ?_
 refine du ?_
 refine zI hF fun nM Dg iK hF=>?_
 refine Di iK (fun k21 j22=>?_)
 refine Dl fw ?_
 refine du ?_
 refine zI hF fun jE Rx mR hF=>?_
 refine Di mR (fun k27 j28=>?_)
 refine Dl fw ?_
 refine tJ rfl .no rfl (fun ha=>zB (g:=true) jh.h rfl rfl) (fun uF=>?_)
 refine bnd hF fun fQ hx31 hF=>nD rfl rfl .no .nil (.own .h (fun _ h=>h) .nil) (fun ha=>bT JV.h (.cons (EN ha (.tmp rfl rfl) rfl) .nil) (@BM fuel x5 _ hx31)) (fun _=>?_)
 refine bnd hF fun gT hx34 hF=>nD rfl rfl .no .nil (.own .h (fun _ h=>h) .nil) (fun ha=>bT Ad.h (.cons (EN ha (.tmp rfl rfl) rfl) .nil) (@rO fuel iw _ hx34)) (fun _=>?_)
 refine bnd hF fun iq t_ hF=>nD rfl rfl .no .nil (.own .h (fun _ h=>h) .nil) (fun ha=>bT Ad.h (.cons (EN ha (.tmp rfl rfl) rfl) .nil) (@rO fuel nM _ t_)) (fun _=>?_)
 refine bnd hF fun fo kG hF=>nD rfl rfl .no .nil (.own .h (fun _ h=>h) .nil) (fun ha=>bT Ad.h (.cons (EN ha (.tmp rfl rfl) rfl) .nil) (@rO fuel jE _ kG)) (fun _=>?_)
 refine bn rfl .no (fun ha=>fH jh.h rfl (vs:=[(zi fQ),(zi gT),(zi iq),(zi fo)]) (.cons (EN ha (.tmp rfl rfl) rfl) (.cons (EN ha (.tmp rfl rfl) rfl) (.cons (EN ha (.tmp rfl rfl) rfl) (.cons (EN ha (.tmp rfl rfl) rfl) .nil)))) (cells:=[(zi fQ),(.slice none 0 0),(zi gT),(zi iq),(zi fo)]) rfl) ?_
 refine je rfl rfl .no (.cons .h .nil) (.dep rfl .nil) (fun ha=>j5 (e':=(zg [(zi fQ),(.slice none 0 0),(zi gT),(zi iq),(zi fo)])) (v:=(zg [(zi fQ),(.slice none 0 0),(zi gT),(zi iq),(zi fo)])) jh.h.sz (EN ha (.tmp rfl rfl) rfl) (EN ha (.tmp rfl rfl) rfl) rfl rfl rfl rfl rfl) (fun _=>?_)
 refine du ?_
 refine ax ?_
 refine zI hF fun iG aga Ko hF=>?_
 refine Ai Ko (fun qR Hq=>?_)
 refine Al fw ?_
 refine ai (iP (s:=iG) (t:=[102,114,101,101]) (.tmp rfl rfl) (.sv _)) ?_
 refine au ?_
 refine Ci hF (fun ZU hF=>?_) (fun ZU hF=>?_)
 · refine aG ?_
   refine zI hF fun uG agb nK hF=>?_
   refine Ai nK (fun k52 j53=>?_)
   refine Al fw ?_
   refine bnd hF fun qQ xY hF=>dC (vI xY) (fun p56=>?_)
   refine aC ?_
   refine bF (oK .h cu ?_)
   refine bU (m:=qQ.length) (fun RH f' cs'=>∃(g:Fr)(uk:Nat)(r_:List (List UInt8))(ko:List Int)(qG:Sv)(Gy:List Nat),RH=r_.length/\f'=aH g [(0,ae.v),(1,(sv aL)),(4,(pz k1)),(7,(pz uF)),(8,p56.1.v),(9,(zi (uk:Int)))]/\List.drop uk qQ=r_/\aF cs' [aD ae aa,bW k1 43 (zg [(zi 0),(.slice none 0 0),(zi 0),(zi 0),(zi 0)]),bW uF 43 (zg [(zi fQ),qG.v,(zi gT),(zi iq),(zi fo)]),bV Gy qG ko,jl p56.1 qQ]/\rC aa aL fuel fQ gT iq fo r_ uk ko=some R) ⟨_,0,_,_,⟨none,0,0⟩,[],rfl,aJ,rfl,(.conv .nil (dV (Ro:=(aK aY)) (E:=3)) (.cons .nil) aI),hF⟩ ?_
   rintro RH _ _ ⟨agc,uk,r_,ko,qG,Gy,rfl,rfl,Q3,hE,hF⟩
   refine Kb hE qQ (fun adU=>?_)
   rcases r_ with _|⟨nJ,r_⟩
   · have ZV:=dn Q3
     rw[rC]at hF
     refine bK ?_
     refine dJ ?_
     refine aC ?_
     obtain⟨Kk,Yq,ZW⟩:=bind_some hF
     refine au ?_
     refine bZ (fun f' cs'=>∃(Dw:Bool)(g:Fr),Dw=Kk/\f'=aH g [(4,(pz k1)),(7,(pz uF)),(66,(.bool Dw))]/\aF cs' [bW k1 43 (zg [(zi 0),(.slice none 0 0),(zi 0),(zi 0),(zi 0)]),bW uF 43 (zg [(zi fQ),qG.v,(zi gT),(zi iq),(zi fo)]),bV Gy qG ko]) ?_ ?_
     · replace hF:=Yq
       refine aG ?_
       refine bnd hF fun Kh ZX hF=>bX (.cons .q3 (.rd .h rfl .nil)) (gm cu (fun _=>.nil) (oF (.rd (.t .h) rfl (.rd .h rfl .nil)) (bT abB.h bG (@NY aa ae (⟨fQ,ko,gT,iq,fo⟩:Method) qG _ ZX)))) (fun _=>?_)
       refine aG ?_
       rcases a_ (!Kh)with CP|CP
       · rw[CP]
         try rw[CP]at hF; dsimp only[ak,aj]at hF
         exact aO hF
       rw[CP]
       try rw[CP]at hF; dsimp only[ak,aj]at hF
       refine ax ?_
       refine bnd hF fun Ki ZY hF=>bX (.cons .h .nil) (gm cu (fun _=>.nil) (bT abC.h bG (@Na fuel (⟨fQ,ko,gT,iq,fo⟩:Method) qG _ ZY))) (fun _=>?_)
       refine ax ?_
       refine ai (iP (s:=Ki) (t:=aL) (.tmp rfl rfl) (.tmp rfl rfl)) ?_
       exact aO hF
     rintro _ _ ⟨Dw,agd,rfl,rfl,hE⟩
     replace hF:=ZW
     try dsimp only at hF
     refine bg hE ?_
     refine Ci hF (fun JA hF=>?_) (fun JA hF=>?_)
     · refine au ?_
       refine ai (fH jh.h rfl (vs:=[]) .nil (cells:=[(zi 0),(.slice none 0 0),(zi 0),(zi 0),(zi 0)]) rfl) ?_
       refine As (zg [(zi 0),(.slice none 0 0),(zi 0),(zi 0),(zi 0)]) ?_
       refine ax ?_
       cases hF
       exact dx (⟨none,0,0⟩,[]) (.cellA rfl rfl .h rfl oU.h jh.h.sz rfl rfl (.tmp rfl rfl .nil)) rfl (.conv .nil (dV (Ro:=(aK aY)) (E:=3)) (.cons .nil) (.sel (.cons .h .nil)))
     refine ax ?_
     refine As (zg [(zi fQ),qG.v,(zi gT),(zi iq),(zi fo)]) ?_
     refine ax ?_
     cases hF
     exact dx (qG,Gy) (.cellA rfl rfl .h rfl oU.h jh.h.sz rfl rfl (.tmp rfl rfl .nil)) rfl (.sel (.cons .q2 .nil))
   obtain⟨ZV,ZZ,Z0⟩:=dD Q3
   rw[rC]at hF
   refine bK ?_
   refine dI ?_
   refine aG ?_
   refine vR [0,1,2,3,4,5,6,7,8,9,10] [0,1,0,0,12,28,60,124,255,511,1023] [6,8,10] mixed (by decide+kernel) ?_
   refine du ?_
   refine qy rfl .no .q2 (fun ha hp=>l9 (v:=qG.v) wh.h (EN ha (.tmp rfl rfl) rfl) hp.2 rfl rfl) ?_
   refine fD ?_
   refine Di ZZ (fun age agf=>?_)
   refine Dl fw ?_
   refine bnd hF fun Gx Z4 hF=>nD rfl rfl .no .nil (.own .q3 (fun _ h=>h) .nil) (fun ha=>bT Ad.h (.cons (EN ha (.tmp rfl rfl) rfl) .nil) (@rO fuel nJ _ Z4)) (fun _=>?_)
   refine tJ rfl .no rfl (fun ha=>dN (g:=true) (len:=1) (parts:=[(0,.tmp 53)]) eZ.h ek.h (.cons (EN ha (.tmp rfl rfl) rfl) .nil) (vs:=[(zi Gx)]) rfl rfl rfl (by intro v hv; simp at hv; rcases hv with rfl<;>rfl)) (fun agh=>?_)
   refine Ej (.cons .h .nil) (dP (Ro:=(aK aY)) (E:=3) (F:=([]++[])) (xs:=([Gx]:List Int)) (dM (eP (fun _=>rfl)) dO bP) rfl rfl) ?_
   refine bnd hF fun z145 Jz hF=>je rfl rfl .no (.cons .q5 (.cons .h .nil)) (.dep rfl (.dep rfl .nil)) (fun ha=>iH (Ro:=(aK aY)) eZ.h mQ ek.h rfl rfl rfl (EN ha (.tmp rfl rfl) rfl) (EN ha (.tmp rfl rfl) rfl) Jz iI) (fun Kq=>?_)
   refine du ?_
   refine je rfl rfl .no (.cons .q4 .nil) (.dep rfl (.dep rfl .nil)) (fun ha=>j5 (e':=(zg [(zi fQ),Kq.1.v,(zi gT),(zi iq),(zi fo)])) De.h.sz (EN ha (.tmp rfl rfl) rfl) (EN ha (.tmp rfl rfl) rfl) rfl rfl rfl rfl rfl) (fun _=>?_)
   refine du ?_
   refine aC ?_
   rw[wk uk]
   exact⟨_,cz _,_,uk+1,r_,_,Kq.1,Kq.2,rfl,aJ,Z0,aI,hF⟩
 refine aG ?_
 obtain⟨Kn,Yr,Z5⟩:=bind_some hF
 refine au ?_
 refine bZ (fun f' cs'=>∃(Dx:Bool)(g:Fr),Dx=Kn/\f'=aH g [(4,(pz k1)),(7,(pz uF)),(66,(.bool Dx))]/\aF cs' [bW k1 43 (zg [(zi 0),(.slice none 0 0),(zi 0),(zi 0),(zi 0)]),bW uF 43 (zg [(zi fQ),(.slice none 0 0),(zi gT),(zi iq),(zi fo)])]) ?_ ?_
 · replace hF:=Yr
   refine aG ?_
   refine fF .nil (zR (R:=aY) (E:=3)) ?_
   refine bnd hF fun Kl hx152 hF=>aB (@NY _ _ _ (⟨none,0,0⟩) _ hx152) (fun _=>?_)
   refine aG ?_
   rcases a_ (!Kl)with CQ|CQ
   · rw[CQ]
     try rw[CQ]at hF; dsimp only[ak,aj]at hF
     exact aO hF
   rw[CQ]
   try rw[CQ]at hF; dsimp only[ak,aj]at hF
   refine ax ?_
   refine bnd hF fun Km Z6 hF=>aB (@Na _ _ (⟨none,0,0⟩) _ Z6) (fun _=>?_)
   refine ax ?_
   refine ai (iP (s:=Km) (t:=aL) (.tmp rfl rfl) (.tmp rfl rfl)) ?_
   exact aO hF
 rintro _ _ ⟨Dx,agi,rfl,rfl,hE⟩
 replace hF:=Z5
 try dsimp only at hF
 refine bg hE ?_
 refine Ci hF (fun Z7 hF=>?_) (fun Z7 hF=>?_)
 · refine au ?_
   refine ai (fH jh.h rfl (vs:=[]) .nil (cells:=[(zi 0),(.slice none 0 0),(zi 0),(zi 0),(zi 0)]) rfl) ?_
   refine As (zg [(zi 0),(.slice none 0 0),(zi 0),(zi 0),(zi 0)]) ?_
   refine ax ?_
   cases hF
   exact dx (⟨none,0,0⟩,[]) (.cellA rfl rfl .h rfl oU.h jh.h.sz rfl rfl (.tmp rfl rfl .nil)) rfl (.conv .nil (dV (Ro:=(aK aY)) (E:=3)) (.cons .nil) (.sel (.cons .h .nil)))
 refine ax ?_
 refine As (zg [(zi fQ),(.slice none 0 0),(zi gT),(zi iq),(zi fo)]) ?_
 refine ax ?_
 cases hF
 exact dx (⟨none,0,0⟩,[]) (.cellA rfl rfl .h rfl oU.h jh.h.sz rfl rfl (.tmp rfl rfl .nil)) rfl (.conv .nil (dV (Ro:=(aK aY)) (E:=3)) (.cons .nil) (.sel (.cons .h .nil)))
def vC(aa:List Int)(bI:fA):List Int->Nat->Option (Bool)
 |[],k26=>some true
 |x28::sO,k26=>(ix aa bI.From).bind fun iy=>
   (dZ x28 0 (IntKind.i64.wrap (iy-1))).bind fun l8=>
   if (!l8)then (
     some false)
   else (
     vC aa bI sO (k26+1))
def Ce(aa:List Int)(bI:fA):Option (Bool):=
 ((rP aa).bind fun r4=>
   bif (!r4)then (some true)
   else ((dZ bI.From 0 (IntKind.i64.wrap ((aa.length:Int)-1))).bind fun r8=>
     bif (!r8)then (some true)
     else ((dZ bI.To 0 (IntKind.i64.wrap ((aa.length:Int)-1))).bind fun bY=>
       bif (!bY)then (some true)
       else ((ix aa bI.To).bind fun eB=>
         some (((bI.Map.length:Int):Int)!=eB))))).bind fun o2=>
 match o2 with
 |lF=>if lF then (
     some false)
   else (
     vC aa bI bI.Map 0)
theorem VR{aa:List Int}{ae:Sv}{bI:fA}{um:Sv}{R:Bool}(hF:Ce aa bI=some R):
   Fw.Spec Tryz.prog 40 [ae.v,(zg [(zi bI.From),(zi bI.To),um.v])] [aD ae aa,aD um bI.Map] (fun _:Unit=>(.bool R)) (fun _=>[]):=by
 refine Se 58 Tryz.func40 [.tmp 4] ?_
 intro H0 F0
 unfold Ce at hF
 refine au ?_
 refine fJ (fun k1=>?_)
 refine ax ?_
 obtain⟨o2,fP,hO3⟩:=bind_some hF
 refine gF [0,1,2,3,4,5,6,7,8,9,10,11,12,13,14,15,16,17,18,19,20,21,22,23,24,25,26,27,28,29,30,31] [0,1,3,7,15,31,15,79,207,511,1023,2047,4095,8191,16383,8191,40959,106495,262143,524287,1048575,2097151,4194303,8388607,16777215,4194303,4194303,71303167,239075327,507510783,1073741823,2147483647] [1,9,18] mixed (by decide+kernel) ?_
 refine qz (fun f' cs'=>∃(lF:Bool)(g:Fr),lF=o2/\f'=aH g [(0,ae.v),(3,(pz k1)),(37,(.bool lF))]/\aF cs' [aD ae aa,cZ k1 47 (zg [(zi bI.From),(zi bI.To),um.v]),aD um bI.Map]) ?_ ?_
 · replace hF:=fP
   refine du ?_
   refine bnd hF fun r4 hx5 hF=>dm (Bj hx5) (fun _=>?_)
   refine fD ?_
   rcases a_ (!r4)with bf|bf
   · rw[bf]
     try rw[bf]at hF; dsimp only[ak,aj]at hF
     exact gH hF
   rw[bf]
   try rw[bf]at hF; dsimp only[ak,aj]at hF
   refine Df ?_
   refine bnd hF fun r8 bS hF=>dm (fq bS) (fun _=>?_)
   refine iD ?_
   rcases a_ (!r8)with bQ|bQ
   · rw[bQ]
     try rw[bQ]at hF; dsimp only[ak,aj]at hF
     exact gH hF
   rw[bQ]
   try rw[bQ]at hF; dsimp only[ak,aj]at hF
   refine Df ?_
   refine bnd hF fun bY eY hF=>dm (fq eY) (fun _=>?_)
   refine iD ?_
   rcases a_ (!bY)with gN|gN
   · rw[gN]
     try rw[gN]at hF; dsimp only[ak,aj]at hF
     exact gH hF
   rw[gN]
   try rw[gN]at hF; dsimp only[ak,aj]at hF
   refine wo ?_
   refine zI hF fun eB ace lq hF=>?_
   refine Di lq (fun k20 Hf=>?_)
   refine Dl dE ?_
   exact gH hF
 rintro _ _ ⟨lF,g49,rfl,rfl,hE⟩
 replace hF:=hO3
 try dsimp only at hF
 refine bg hE ?_
 refine Ci hF (fun hb48 hF=>?_) (fun hb48 hF=>?_)
 · exact ze hF
 refine aC ?_
 refine bF (bU (m:=bI.Map.length) (fun m24 f' cs'=>∃(g:Fr)(k26:Nat)(sO:List Int),m24=sO.length/\f'=aH g [(0,ae.v),(3,(pz k1)),(5,(zi (k26:Int)))]/\List.drop k26 bI.Map=sO/\aF cs' [aD ae aa,cZ k1 47 (zg [(zi bI.From),(zi bI.To),um.v]),aD um bI.Map]/\vC aa bI sO k26=some R) ⟨_,0,_,rfl,aJ,rfl,aI,hF⟩ ?_)
 rintro m24 _ _ ⟨SQ,k26,sO,rfl,rfl,hd29,hE,hF⟩
 refine Kb hE bI.Map (fun aeQ=>?_)
 rcases sO with _|⟨x28,sO⟩
 · have acf:=dn hd29
   rw[vC]at hF
   refine dB ?_
   refine dJ ?_
   exact ze hF
 obtain⟨acf,hx31,hd32⟩:=dD hd29
 rw[vC]at hF
 refine dB ?_
 refine dI ?_
 refine aG ?_
 refine gF [0,1,2,3,4,5,6,7,8,9,10,11,12] [0,1,0,7,15,0,0,64,224,480,992,2047,4095] [11] mixed (by decide+kernel) ?_
 refine iD ?_
 refine Di hx31 (fun iA j36=>?_)
 refine Dl dE ?_
 refine iD ?_
 refine zI hF fun iy acg kG hF=>?_
 refine Di kG (fun mZ SG=>?_)
 refine Dl dE ?_
 refine du ?_
 refine bnd hF fun l8 uo hF=>dm (fq uo) (fun _=>?_)
 refine fD ?_
 refine Ci hF (fun Dy hF=>?_) (fun Dy hF=>?_)
 · exact ze hF
 refine bz ?_
 rw[wk k26]
 exact⟨_,cz _,_,k26+1,sO,rfl,aJ,hd32,aI,hF⟩
def uY(bI:fA)(fuel:Nat):List Int->Nat->Option ((List UInt8))
 |[],k19=>(fZ fuel bI.From).bind fun nN=>
   (aP [114] nN).bind fun x31=>
   (aP x31 [32,103,105,118,101,115,32,114]).bind fun uH=>
   (fZ fuel bI.To).bind fun fo=>
   (aP uH fo).bind fun iG=>
   (aP iG [32]).bind fun mG=>
   (xx fuel bI.Map).bind fun iN=>
   (aP mG iN).bind fun qP=>
   some qP
 |SS::sP,k19=>(dZ SS 0 2).bind fun wH=>
   if (!wH)then (
     some [])
   else (
     uY bI fuel sP (k19+1))
def Br(fuel:Nat)(bI:fA):Option ((List UInt8)):=
 ((dZ bI.From 0 2).bind fun r4=>
   bif (!r4)then (some true)
   else ((dZ bI.To 0 2).bind fun r8=>
     bif (!r8)then (some true)
     else ((dZ (bI.Map.length:Int) 1 3).bind fun bY=>
       some (!bY)))).bind fun o2=>
 match o2 with
 |c15=>if c15 then (
     some [])
   else (
     uY bI fuel bI.Map 0)
theorem UG{fuel:Nat}{bI:fA}{o5:Sv}{R:(List UInt8)}(hF:Br fuel bI=some R):
   Fw.Spec Tryz.prog 41 [(zg [(zi bI.From),(zi bI.To),o5.v])] [aD o5 bI.Map] (fun _:Unit=>(sv R)) (fun _=>[]):=by
 refine Se 49 Tryz.func41 [.tmp 2] ?_
 intro H0 F0
 unfold Br at hF
 refine au ?_
 refine fJ (fun k1=>?_)
 refine ax ?_
 obtain⟨o2,fP,hO3⟩:=bind_some hF
 refine au ?_
 refine bZ (fun f' cs'=>∃(c15:Bool)(g:Fr),c15=o2/\f'=aH g [(1,(pz k1)),(20,(.bool c15))]/\aF cs' [cZ k1 47 (zg [(zi bI.From),(zi bI.To),o5.v]),aD o5 bI.Map]) ?_ ?_
 · replace hF:=fP
   refine aG ?_
   refine bnd hF fun r4 hx5 hF=>aB (fq hx5) (fun _=>?_)
   refine aG ?_
   rcases a_ (!r4)with bf|bf
   · rw[bf]
     try rw[bf]at hF; dsimp only[ak,aj]at hF
     exact aO hF
   rw[bf]
   try rw[bf]at hF; dsimp only[ak,aj]at hF
   refine aC ?_
   refine bnd hF fun r8 bS hF=>aB (fq bS) (fun _=>?_)
   refine aA ?_
   rcases a_ (!r8)with bQ|bQ
   · rw[bQ]
     try rw[bQ]at hF; dsimp only[ak,aj]at hF
     exact aO hF
   rw[bQ]
   try rw[bQ]at hF; dsimp only[ak,aj]at hF
   refine bK ?_
   refine bnd hF fun bY eY hF=>aB (fq eY) (fun _=>?_)
   exact aO hF
 rintro _ _ ⟨c15,SV,rfl,rfl,hE⟩
 replace hF:=hO3
 try dsimp only at hF
 refine bg hE ?_
 refine Ci hF (fun xZ hF=>?_) (fun xZ hF=>?_)
 · exact ze hF
 refine aC ?_
 refine bF (bU (m:=bI.Map.length) (fun m17 f' cs'=>∃(g:Fr)(k19:Nat)(sP:List Int),m17=sP.length/\f'=aH g [(1,(pz k1)),(3,(zi (k19:Int)))]/\List.drop k19 bI.Map=sP/\aF cs' [cZ k1 47 (zg [(zi bI.From),(zi bI.To),o5.v]),aD o5 bI.Map]/\uY bI fuel sP k19=some R) ⟨_,0,_,rfl,aJ,rfl,aI,hF⟩ ?_)
 rintro m17 _ _ ⟨g18,k19,sP,rfl,rfl,RI,hE,hF⟩
 refine Kb hE bI.Map (fun aeR=>?_)
 rcases sP with _|⟨SS,sP⟩
 · have ach:=dn RI
   rw[uY]at hF
   refine dB ?_
   refine dJ ?_
   refine aA ?_
   refine gF [0,1,5,6,10,11,2,3,4,7,8,9,12,13,14] [0,1,3,7,15,0,32,103,255,511,0,1024,3303,8191,16383] [2,7,12] mixed (by decide+kernel) ?_
   refine wo ?_
   refine bnd hF fun nN hx29 hF=>dm (j4 hx29) (fun _=>?_)
   refine bnd hF fun x31 hx32 hF=>?_
   obtain⟨RJ,RL⟩:=bq hx32
   refine bn rfl .no (fun ha=>bu (s:=[114]) (t:=nN) (u:=x31) (EN ha (.sv _) rfl) (EN ha (.tmp rfl rfl) rfl) hx32) ?_
   refine bnd hF fun uH lV hF=>?_
   obtain⟨aci,acj⟩:=bq lV
   refine bn rfl .no (fun ha=>bu (s:=x31) (t:=[32,103,105,118,101,115,32,114]) (u:=uH) (EN ha (.tmp rfl rfl) rfl) (EN ha (.sv _) rfl) lV) ?_
   refine bnd hF fun fo kG hF=>dm (j4 kG) (fun _=>?_)
   refine bnd hF fun iG iL hF=>?_
   obtain⟨Gt,Gu⟩:=bq iL
   refine bn rfl .no (fun ha=>bu (s:=uH) (t:=fo) (u:=iG) (EN ha (.tmp rfl rfl) rfl) (EN ha (.tmp rfl rfl) rfl) iL) ?_
   refine bnd hF fun mG j_ hF=>?_
   obtain⟨RD,RF⟩:=bq j_
   refine bn rfl .no (fun ha=>bu (s:=iG) (t:=[32]) (u:=mG) (EN ha (.tmp rfl rfl) rfl) (EN ha (.sv _) rfl) j_) ?_
   refine bnd hF fun iN nK hF=>dm (Ir nK) (fun _=>?_)
   refine bnd hF fun qP x_ hF=>?_
   obtain⟨ack,acl⟩:=bq x_
   refine bn rfl .no (fun ha=>bu (s:=mG) (t:=iN) (u:=qP) (EN ha (.tmp rfl rfl) rfl) (EN ha (.tmp rfl rfl) rfl) x_) ?_
   refine fD ?_
   exact ze hF
 obtain⟨ach,hx24,hd25⟩:=dD RI
 rw[uY]at hF
 refine dB ?_
 refine dI ?_
 refine bz ?_
 refine Ai hx24 (fun k57 j58=>?_)
 refine Al dE ?_
 refine bnd hF fun wH uh hF=>aB (fq uh) (fun _=>?_)
 refine aG ?_
 refine Ci hF (fun ui hF=>?_) (fun ui hF=>?_)
 · exact ze hF
 refine bz ?_
 rw[wk k19]
 exact⟨_,cz _,_,k19+1,sP,rfl,aJ,hd25,aI,hF⟩
def ve(aa:List Int)(aL:List UInt8)(fuel:Nat)(fG:Int)(fV:Int):List (List UInt8)->Nat->(List Int)->Option (fA×Bool)
 |[],uI,lG=>((Ce aa (⟨fG,fV,lG⟩:fA)).bind fun Kr=>
     bif (!Kr)then (some true)
     else ((Br fuel (⟨fG,fV,lG⟩:fA)).bind fun Kt=>
       some (!(Kt==aL)))).bind fun Ku=>
   match Ku with
   |ko=>if ko then (
       some ((⟨0,0,[]⟩:fA),false))
     else (
       some ((⟨fG,fV,lG⟩:fA),true))
 |x96::sQ,uI,lG=>(kE fuel x96).bind fun Gz=>
   (app lG ([Gz]:List Int)).bind fun RN=>
   ve aa aL fuel fG fV sQ (uI+1) RN
def BD(fuel:Nat)(aa:List Int)(aL:List UInt8):Option (fA×Bool):=
 (oq aL (32:UInt8)).bind fun r2=>
 if (((r2.length:Int):Int)!=4)then (
   some ((⟨0,0,[]⟩:fA),false))
 else (
   (ix r2 0).bind fun x5=>
   (ix r2 2).bind fun iw=>
   (ou fuel x5).bind fun fG=>
   (ou fuel iw).bind fun fV=>
   (ix r2 3).bind fun x24=>
   (oq x24 (44:UInt8)).bind fun fQ=>
   ve aa aL fuel fG fV fQ 0 ([]:List Int))
theorem U_{fuel:Nat}{aa:List Int}{ae:Sv}{aL:List UInt8}{R:fA×Bool}(hF:BD fuel aa aL=some R):
   Fw.Spec Tryz.prog 22 [ae.v,(sv aL)] [aD ae aa] (fun p:Sv×List Nat=>(.tuple [(zg [(zi R.1.From),(zi R.1.To),p.1.v]),(.bool R.2)].toArray)) (fun p=>[bV p.2 p.1 R.1.Map]):=by
 refine Se 57 Tryz.func22 [.cell 4 47,.tmp 5] ?_
 intro H0 F0
 unfold BD at hF
 refine au ?_
 refine fE (fun k1=>?_)
 refine aA ?_
 refine bnd hF fun r2 hx3 hF=>dC (vI hx3) (fun p4=>?_)
 refine dB ?_
 refine Ci hF (fun Z8 hF=>?_) (fun Z8 hF=>?_)
 · refine au ?_
   refine ai (fH mi.h rfl (vs:=[]) .nil (cells:=[(zi 0),(zi 0),(.slice none 0 0)]) rfl) ?_
   refine As (zg [(zi 0),(zi 0),(.slice none 0 0)]) ?_
   refine ax ?_
   cases hF
   exact dx (⟨none,0,0⟩,[]) (.cellA rfl rfl .h rfl Ae.h mi.h.sz rfl rfl (.tmp rfl rfl .nil)) rfl (.conv .nil (dV (Ro:=(aK aY)) (E:=3)) (.cons .nil) (.sel (.cons .h .nil)))
 refine au ?_
 refine oK .h cu ?_
 refine gF [0,1,2,4,5,6,9,3,7,8,10] [0,1,3,7,0,16,48,127,255,0,1023] [3,7,10] mixed (by decide+kernel) ?_
 refine du ?_
 refine zI hF fun x5 hp7 gZ hF=>?_
 refine Di gZ (fun k9 j10=>?_)
 refine Dl fw ?_
 refine du ?_
 refine zI hF fun iw acd jB hF=>?_
 refine Di jB (fun k15 j16=>?_)
 refine Dl fw ?_
 refine tJ rfl .no rfl (fun ha=>zB (g:=true) mi.h rfl rfl) (fun k17=>?_)
 refine bnd hF fun fG lq hF=>nD rfl rfl .no .nil (.own .h (fun _ h=>h) .nil) (fun ha=>bT JV.h (.cons (EN ha (.tmp rfl rfl) rfl) .nil) (BM lq)) (fun _=>?_)
 refine bnd hF fun fV o7 hF=>nD rfl rfl .no .nil (.own .h (fun _ h=>h) .nil) (fun ha=>bT JV.h (.cons (EN ha (.tmp rfl rfl) rfl) .nil) (BM o7)) (fun _=>?_)
 refine bn rfl .no (fun ha=>fH mi.h rfl (vs:=[(zi fG),(zi fV)]) (.cons (EN ha (.tmp rfl rfl) rfl) (.cons (EN ha (.tmp rfl rfl) rfl) .nil)) (cells:=[(zi fG),(zi fV),(.slice none 0 0)]) rfl) ?_
 refine je rfl rfl .no (.cons .h .nil) (.dep rfl .nil) (fun ha=>j5 (e':=(zg [(zi fG),(zi fV),(.slice none 0 0)])) (v:=(zg [(zi fG),(zi fV),(.slice none 0 0)])) mi.h.sz (EN ha (.tmp rfl rfl) rfl) (EN ha (.tmp rfl rfl) rfl) rfl rfl rfl rfl rfl) (fun _=>?_)
 refine du ?_
 refine aG ?_
 refine zI hF fun x24 agj hx27 hF=>?_
 refine Ai hx27 (fun k28 j29=>?_)
 refine Al fw ?_
 refine bnd hF fun fQ hx31 hF=>dC (vI hx31) (fun p32=>?_)
 refine bz ?_
 refine bF (oK .h cu ?_)
 refine bU (m:=fQ.length) (fun SX f' cs'=>∃(g:Fr)(uI:Nat)(sQ:List (List UInt8))(lG:List Int)(v89:Sv)(Hr:List Nat),SX=sQ.length/\f'=aH g [(0,ae.v),(1,(sv aL)),(4,(pz k1)),(7,(pz k17)),(8,p32.1.v),(9,(zi (uI:Int)))]/\List.drop uI fQ=sQ/\aF cs' [aD ae aa,bW k1 47 (zg [(zi 0),(zi 0),(.slice none 0 0)]),bW k17 47 (zg [(zi fG),(zi fV),v89.v]),bV Hr v89 lG,jl p32.1 fQ]/\ve aa aL fuel fG fV sQ uI lG=some R) ⟨_,0,_,_,⟨none,0,0⟩,[],rfl,aJ,rfl,(.conv .nil (dV (Ro:=(aK aY)) (E:=3)) (.cons .nil) aI),hF⟩ ?_
 rintro SX _ _ ⟨g93,uI,sQ,lG,v89,Hr,rfl,rfl,RO,hE,hF⟩
 refine Kb hE fQ (fun adV=>?_)
 rcases sQ with _|⟨x96,sQ⟩
 · have acm:=dn RO
   rw[ve]at hF
   refine bK ?_
   refine dJ ?_
   refine aC ?_
   obtain⟨Ku,Yt,Z9⟩:=bind_some hF
   refine au ?_
   refine bZ (fun f' cs'=>∃(ko:Bool)(g:Fr),ko=Ku/\f'=aH g [(4,(pz k1)),(7,(pz k17)),(54,(.bool ko))]/\aF cs' [bW k1 47 (zg [(zi 0),(zi 0),(.slice none 0 0)]),bW k17 47 (zg [(zi fG),(zi fV),v89.v]),bV Hr v89 lG]) ?_ ?_
   · replace hF:=Yt
     refine aG ?_
     refine bnd hF fun Kr Ga hF=>bX (.cons .q3 (.rd .h rfl .nil)) (gm cu (fun _=>.nil) (oF (.rd (.t .h) rfl (.rd .h rfl .nil)) (bT abD.h bG (VR Ga)))) (fun _=>?_)
     refine aG ?_
     rcases a_ (!Kr)with CR|CR
     · rw[CR]
       try rw[CR]at hF; dsimp only[ak,aj]at hF
       exact aO hF
     rw[CR]
     try rw[CR]at hF; dsimp only[ak,aj]at hF
     refine ax ?_
     refine bnd hF fun Kt Gb hF=>bX (.cons .h .nil) (gm cu (fun _=>.nil) (bT abE.h bG (UG Gb))) (fun _=>?_)
     refine ax ?_
     refine ai (iP (s:=Kt) (t:=aL) (.tmp rfl rfl) (.tmp rfl rfl)) ?_
     exact aO hF
   rintro _ _ ⟨ko,agk,rfl,rfl,hE⟩
   replace hF:=Z9
   try dsimp only at hF
   refine bg hE ?_
   refine Ci hF (fun Z_ hF=>?_) (fun Z_ hF=>?_)
   · refine au ?_
     refine ai (fH mi.h rfl (vs:=[]) .nil (cells:=[(zi 0),(zi 0),(.slice none 0 0)]) rfl) ?_
     refine As (zg [(zi 0),(zi 0),(.slice none 0 0)]) ?_
     refine ax ?_
     cases hF
     exact dx (⟨none,0,0⟩,[]) (.cellA rfl rfl .h rfl Ae.h mi.h.sz rfl rfl (.tmp rfl rfl .nil)) rfl (.conv .nil (dV (Ro:=(aK aY)) (E:=3)) (.cons .nil) (.sel (.cons .h .nil)))
   refine ax ?_
   refine As (zg [(zi fG),(zi fV),v89.v]) ?_
   refine ax ?_
   cases hF
   exact dx (v89,Hr) (.cellA rfl rfl .h rfl Ae.h mi.h.sz rfl rfl (.tmp rfl rfl .nil)) rfl (.sel (.cons .q2 .nil))
 obtain⟨acm,hx99,aaa⟩:=dD RO
 rw[ve]at hF
 refine bK ?_
 refine dI ?_
 refine aG ?_
 refine vR [0,1,2,3,4,5,6,7,8,9,10] [0,1,0,0,12,28,60,124,255,511,1023] [6,8,10] mixed (by decide+kernel) ?_
 refine du ?_
 refine qy rfl .no .q2 (fun ha hp=>l9 (v:=v89.v) wh.h (EN ha (.tmp rfl rfl) rfl) hp.2 rfl rfl) ?_
 refine fD ?_
 refine Di hx99 (fun agl agm=>?_)
 refine Dl fw ?_
 refine bnd hF fun Gz JB hF=>nD rfl rfl .no .nil (.own .q3 (fun _ h=>h) .nil) (fun ha=>bT Ad.h (.cons (EN ha (.tmp rfl rfl) rfl) .nil) (rO JB)) (fun _=>?_)
 refine tJ rfl .no rfl (fun ha=>dN (g:=true) (len:=1) (parts:=[(0,.tmp 41)]) eZ.h ek.h (.cons (EN ha (.tmp rfl rfl) rfl) .nil) (vs:=[(zi Gz)]) rfl rfl rfl (by intro v hv; simp at hv; rcases hv with rfl<;>rfl)) (fun agn=>?_)
 refine Ej (.cons .h .nil) (dP (Ro:=(aK aY)) (E:=3) (F:=([]++[])) (xs:=([Gz]:List Int)) (dM (eP (fun _=>rfl)) dO bP) rfl rfl) ?_
 refine bnd hF fun RN JC hF=>je rfl rfl .no (.cons .q5 (.cons .h .nil)) (.dep rfl (.dep rfl .nil)) (fun ha=>iH (Ro:=(aK aY)) eZ.h mQ ek.h rfl rfl rfl (EN ha (.tmp rfl rfl) rfl) (EN ha (.tmp rfl rfl) rfl) JC iI) (fun Kv=>?_)
 refine du ?_
 refine je rfl rfl .no (.cons .q4 .nil) (.dep rfl (.dep rfl .nil)) (fun ha=>j5 (e':=(zg [(zi fG),(zi fV),Kv.1.v])) De.h.sz (EN ha (.tmp rfl rfl) rfl) (EN ha (.tmp rfl rfl) rfl) rfl rfl rfl rfl rfl) (fun _=>?_)
 refine du ?_
 refine aC ?_
 rw[wk uI]
 exact⟨_,cz _,_,uI+1,sQ,_,Kv.1,Kv.2,rfl,aJ,aaa,aI,hF⟩
def qi(aa:List UInt8):Nat->Int->Option ((List UInt8)×(List (List UInt8)))
 |0,_=>none
 |m2+1,c1=>if (decide ((c1:Int)<(aa.length:Int)))then (
     ((ix aa c1).bind fun Ay=>
       bif (((Ay.toNat:Int):Int)==40)then ((ix aa (IntKind.i64.wrap ((aa.length:Int)-1))).bind fun yu=>
         some (((yu.toNat:Int):Int)==41))
       else (some false)).bind fun yD=>
     match yD with
     |c21=>if c21 then (
         (jD (decide (0<=c1)&&decide (c1<=((aa).length:Int)))).bind fun u23=>
         (jD (decide (0<=(IntKind.i64.wrap (c1+1)))&&decide ((IntKind.i64.wrap (c1+1))<=(IntKind.i64.wrap ((aa.length:Int)-1)))&&decide ((IntKind.i64.wrap ((aa.length:Int)-1))<=((aa).length:Int)))).bind fun u26=>
         (oq ((aa.take ((IntKind.i64.wrap ((aa.length:Int)-1))).toNat).drop ((IntKind.i64.wrap (c1+1))).toNat) (44:UInt8)).bind fun nN=>
         some ((aa.take (c1).toNat),nN))
       else (
         qi aa m2 (IntKind.i64.wrap (c1+1))))
   else (
     some ([],([]:List (List UInt8))))
def zD(aa:List UInt8):Option ((List UInt8)×(List (List UInt8))):=
 qi aa (((aa.length:Int)-0).toNat+2) 0
theorem OA{aa:List UInt8}{R:(List UInt8)×(List (List UInt8))}(hF:zD aa=some R):
   Fw.Spec Tryz.prog 42 [(sv aa)] [] (fun p:Sv×List Nat=>(.tuple [(sv R.1),p.1.v].toArray)) (fun p=>[uE p.2 p.1 R.2]):=by
 refine Se 35 Tryz.func42 [.tmp 2,.tmp 3] ?_
 intro H0 F0
 unfold zD at hF
 refine dB ?_
 refine bF (bU (m:=(((aa.length:Int)-0).toNat+2)) (fun m2 f' cs'=>∃(g:Fr)(c1:Int),f'=aH g [(0,(sv aa)),(4,(zi c1))]/\aF cs' []/\qi aa m2 c1=some R) ⟨_,_,aJ,aI,hF⟩ ?_)
 rintro m2 _ _ ⟨g3,c1,rfl,hE,hF⟩
 refine bg hE ?_
 rcases m2 with _|m2
 · rw[qi]at hF
   exact absurd hF (by simp)
 rw[qi]at hF
 refine aA ?_
 refine ai (ig (s:=aa) dG (.tmp rfl rfl)) ?_
 refine aG ?_
 refine Ci hF (fun Dz hF=>?_) (fun Dz hF=>?_)
 · refine aG ?_
   obtain⟨yD,JD,Kw⟩:=bind_some hF
   refine au ?_
   refine bZ (fun f' cs'=>∃(c21:Bool)(g:Fr),c21=yD/\f'=aH g [(0,(sv aa)),(4,(zi c1)),(22,(.bool c21))]/\aF cs' []) ?_ ?_
   · replace hF:=JD
     refine aG ?_
     refine zI hF fun Ay GA jA hF=>?_
     refine ai (rW (u:=Ay) dG (.tmp rfl rfl) (.tmp rfl rfl) GA jA) ?_
     refine aG ?_
     rcases a_ (((Ay.toNat:Int):Int)==40)with gP|gP
     · rw[gP]
       try rw[gP]at hF; dsimp only[ak,aj]at hF
       refine aC ?_
       refine ai (ig (s:=aa) dG (.tmp rfl rfl)) ?_
       refine ax ?_
       refine zI hF fun yu Dg iK hF=>?_
       refine ai (rW (u:=yu) dG (.tmp rfl rfl) (.tmp rfl rfl) Dg iK) ?_
       exact aO hF
     rw[gP]
     try rw[gP]at hF; dsimp only[ak,aj]at hF
     exact aO hF
   rintro _ _ ⟨c21,g32,rfl,rfl,hE⟩
   replace hF:=Kw
   try dsimp only at hF
   refine bg hE ?_
   refine Ci hF (fun acn hF=>?_) (fun acn hF=>?_)
   · refine gF [0,1,2,3,4,5,6,7,8,9,10,11,12] [0,0,3,0,0,16,0,64,192,504,1016,2047,4095] [10] mixed (by decide+kernel) ?_
     refine fD ?_
     refine bnd hF fun u23 hx24 hF=>?_
     have hc22:=kV hx24
     simp only[Bool.and_eq_true,decide_eq_true_eq]at hc22
     refine bn rfl .no (fun ha=>BS (s:=aa) (j:=c1) dG (EN ha (.tmp rfl rfl) rfl) (EN ha (.tmp rfl rfl) rfl) hc22.1 hc22.2) ?_
     refine tZ ?_
     refine bn rfl .no (fun ha=>ig (s:=aa) dG (EN ha (.tmp rfl rfl) rfl)) ?_
     refine du ?_
     refine bnd hF fun u26 hx27 hF=>?_
     have hc25:=kV hx27
     simp only[Bool.and_eq_true,decide_eq_true_eq]at hc25
     refine bn rfl .no (fun ha=>Pt (s:=aa) (i:=(IntKind.i64.wrap (c1+1))) (j:=(IntKind.i64.wrap ((aa.length:Int)-1))) dG (EN ha (.tmp rfl rfl) rfl) (EN ha (.tmp rfl rfl) rfl) (EN ha (.tmp rfl rfl) rfl) hc25.1.1 hc25.1.2 hc25.2) ?_
     refine bnd hF fun nN hx29 hF=>Dx1 (vI hx29) (fun p30=>?_)
     refine iD ?_
     refine au ?_
     cases hF
     exact Er (p30.1,p30.2)
   refine bz ?_
   exact⟨m2,cz _,_,_,aJ,aI,hF⟩
 refine aC ?_
 refine eF rfl (dN (g:=true) fI.h gy.h .nil (vs:=[]) rfl rfl rfl (by simp)) (fun Az=>?_)
 refine fF (.cons .h .nil) (dP (Ro:=(aK rdStr)) (E:=9) (F:=[]) (xs:=([]:List (List UInt8))) dO rfl rfl) ?_
 refine aA ?_
 cases hF
 exact Er (⟨(some ⟨Az,0,none⟩),0,1⟩,(Az::[]))
def w_:List Int->Nat->Option (Bool)
 |[],k22=>some true
 |x24::jP,k22=>(dZ x24 0 9).bind fun gT=>
   if (!gT)then (
     some false)
   else (
     w_ jP (k22+1))
def Cf(aa:List Int)(cB:Fact):Option (Bool):=
 ((rP aa).bind fun r4=>
   bif (!r4)then (some true)
   else ((dZ cB.Rel 0 (IntKind.i64.wrap ((aa.length:Int)-1))).bind fun r8=>
     bif (!r8)then (some true)
     else ((ix aa cB.Rel).bind fun uJ=>
       some (((cB.Values.length:Int):Int)!=uJ)))).bind fun o2=>
 match o2 with
 |c18=>if c18 then (
     some false)
   else (
     w_ cB.Values 0)
theorem VS{aa:List Int}{ae:Sv}{cB:Fact}{eG:Sv}{R:Bool}(hF:Cf aa cB=some R):
   Fw.Spec Tryz.prog 43 [ae.v,(zg [(zi cB.Rel),eG.v])] [aD ae aa,aD eG cB.Values] (fun _:Unit=>(.bool R)) (fun _=>[]):=by
 refine Se 43 Tryz.func43 [.tmp 4] ?_
 intro H0 F0
 unfold Cf at hF
 refine au ?_
 refine fJ (fun k1=>?_)
 refine ax ?_
 obtain⟨o2,fP,hO3⟩:=bind_some hF
 refine gF [0,1,2,3,4,5,6,7,8,9,10,11,12,13,14,15,16,17,18,19,20,21,22] [0,1,3,7,15,31,15,79,207,511,1023,2047,4095,8191,16383,32767,8191,8191,139263,466943,991231,2097151,4194303] [1,9] mixed (by decide+kernel) ?_
 refine qz (fun f' cs'=>∃(c18:Bool)(g:Fr),c18=o2/\f'=aH g [(3,(pz k1)),(28,(.bool c18))]/\aF cs' [cZ k1 51 (zg [(zi cB.Rel),eG.v]),aD eG cB.Values]) ?_ ?_
 · replace hF:=fP
   refine du ?_
   refine bnd hF fun r4 hx5 hF=>dm (Bj hx5) (fun _=>?_)
   refine fD ?_
   rcases a_ (!r4)with bf|bf
   · rw[bf]
     try rw[bf]at hF; dsimp only[ak,aj]at hF
     exact gH hF
   rw[bf]
   try rw[bf]at hF; dsimp only[ak,aj]at hF
   refine Df ?_
   refine bnd hF fun r8 bS hF=>dm (fq bS) (fun _=>?_)
   refine iD ?_
   rcases a_ (!r8)with bQ|bQ
   · rw[bQ]
     try rw[bQ]at hF; dsimp only[ak,aj]at hF
     exact gH hF
   rw[bQ]
   try rw[bQ]at hF; dsimp only[ak,aj]at hF
   refine wo ?_
   refine zI hF fun uJ GA jA hF=>?_
   refine Di jA (fun k16 Em=>?_)
   refine Dl dE ?_
   exact gH hF
 rintro _ _ ⟨c18,LX,rfl,rfl,hE⟩
 replace hF:=hO3
 try dsimp only at hF
 refine bg hE ?_
 refine Ci hF (fun mU hF=>?_) (fun mU hF=>?_)
 · exact ze hF
 refine aC ?_
 refine bF (bU (m:=cB.Values.length) (fun m20 f' cs'=>∃(g:Fr)(k22:Nat)(jP:List Int),m20=jP.length/\f'=aH g [(3,(pz k1)),(5,(zi (k22:Int)))]/\List.drop k22 cB.Values=jP/\aF cs' [cZ k1 51 (zg [(zi cB.Rel),eG.v]),aD eG cB.Values]/\w_ jP k22=some R) ⟨_,0,_,rfl,aJ,rfl,aI,hF⟩ ?_)
 rintro m20 _ _ ⟨g21,k22,jP,rfl,rfl,hd25,hE,hF⟩
 refine Kb hE cB.Values (fun aab=>?_)
 rcases jP with _|⟨x24,jP⟩
 · have Ky:=dn hd25
   rw[w_]at hF
   refine dB ?_
   refine dJ ?_
   exact ze hF
 obtain⟨Ky,hx27,hd28⟩:=dD hd25
 rw[w_]at hF
 refine dB ?_
 refine dI ?_
 refine bz ?_
 refine Ai hx27 (fun Ht j32=>?_)
 refine Al dE ?_
 refine bnd hF fun gT hx34 hF=>aB (fq hx34) (fun _=>?_)
 refine aG ?_
 refine Ci hF (fun DD hF=>?_) (fun DD hF=>?_)
 · exact ze hF
 refine bz ?_
 rw[wk k22]
 exact⟨_,cz _,_,k22+1,jP,rfl,aJ,hd28,aI,hF⟩
def uZ(cB:Fact)(fuel:Nat):List Int->Nat->Option ((List UInt8))
 |[],k15=>(fZ fuel cB.Rel).bind fun dh=>
   (aP [114] dh).bind fun x27=>
   (aP x27 [40]).bind fun x31=>
   (xx fuel cB.Values).bind fun kz=>
   (aP x31 kz).bind fun x38=>
   (aP x38 [41]).bind fun iG=>
   some iG
 |nM::jQ,k15=>(dZ nM 0 9).bind fun nO=>
   if (!nO)then (
     some [])
   else (
     uZ cB fuel jQ (k15+1))
def Bt(fuel:Nat)(cB:Fact):Option ((List UInt8)):=
 ((dZ cB.Rel 0 2).bind fun r4=>
   bif (!r4)then (some true)
   else ((dZ (cB.Values.length:Int) 1 3).bind fun r8=>
     some (!r8))).bind fun o2=>
 match o2 with
 |c11=>if c11 then (
     some [])
   else (
     uZ cB fuel cB.Values 0)
theorem UH{fuel:Nat}{cB:Fact}{bC:Sv}{R:(List UInt8)}(hF:Bt fuel cB=some R):
   Fw.Spec Tryz.prog 44 [(zg [(zi cB.Rel),bC.v])] [aD bC cB.Values] (fun _:Unit=>(sv R)) (fun _=>[]):=by
 refine Se 39 Tryz.func44 [.tmp 2] ?_
 intro H0 F0
 unfold Bt at hF
 refine au ?_
 refine fJ (fun k1=>?_)
 refine ax ?_
 obtain⟨o2,fP,hO3⟩:=bind_some hF
 refine au ?_
 refine bZ (fun f' cs'=>∃(c11:Bool)(g:Fr),c11=o2/\f'=aH g [(1,(pz k1)),(14,(.bool c11))]/\aF cs' [cZ k1 51 (zg [(zi cB.Rel),bC.v]),aD bC cB.Values]) ?_ ?_
 · replace hF:=fP
   refine aG ?_
   refine bnd hF fun r4 hx5 hF=>aB (fq hx5) (fun _=>?_)
   refine aG ?_
   rcases a_ (!r4)with bf|bf
   · rw[bf]
     try rw[bf]at hF; dsimp only[ak,aj]at hF
     exact aO hF
   rw[bf]
   try rw[bf]at hF; dsimp only[ak,aj]at hF
   refine bK ?_
   refine bnd hF fun r8 bS hF=>aB (fq bS) (fun _=>?_)
   exact aO hF
 rintro _ _ ⟨c11,SI,rfl,rfl,hE⟩
 replace hF:=hO3
 try dsimp only at hF
 refine bg hE ?_
 refine Ci hF (fun Dp hF=>?_) (fun Dp hF=>?_)
 · exact ze hF
 refine aC ?_
 refine bF (bU (m:=cB.Values.length) (fun m13 f' cs'=>∃(g:Fr)(k15:Nat)(jQ:List Int),m13=jQ.length/\f'=aH g [(1,(pz k1)),(3,(zi (k15:Int)))]/\List.drop k15 cB.Values=jQ/\aF cs' [cZ k1 51 (zg [(zi cB.Rel),bC.v]),aD bC cB.Values]/\uZ cB fuel jQ k15=some R) ⟨_,0,_,rfl,aJ,rfl,aI,hF⟩ ?_)
 rintro m13 _ _ ⟨g14,k15,jQ,rfl,rfl,DF,hE,hF⟩
 refine Kb hE cB.Values (fun aac=>?_)
 rcases jQ with _|⟨nM,jQ⟩
 · have Kz:=dn DF
   rw[uZ]at hF
   refine dB ?_
   refine dJ ?_
   refine aA ?_
   refine gF [0,1,5,6,2,3,4,7,8,9,10] [0,1,3,7,15,0,32,103,255,511,1023] [2,7] mixed (by decide+kernel) ?_
   refine tZ ?_
   refine bnd hF fun dh hx25 hF=>dm (j4 hx25) (fun _=>?_)
   refine bnd hF fun x27 hx28 hF=>?_
   obtain⟨KA,KC⟩:=bq hx28
   refine bn rfl .no (fun ha=>bu (s:=[114]) (t:=dh) (u:=x27) (EN ha (.sv _) rfl) (EN ha (.tmp rfl rfl) rfl) hx28) ?_
   refine bnd hF fun x31 hx32 hF=>?_
   obtain⟨RJ,RL⟩:=bq hx32
   refine bn rfl .no (fun ha=>bu (s:=x27) (t:=[40]) (u:=x31) (EN ha (.tmp rfl rfl) rfl) (EN ha (.sv _) rfl) hx32) ?_
   refine bnd hF fun kz lV hF=>dm (Ir lV) (fun _=>?_)
   refine bnd hF fun x38 hx39 hF=>?_
   obtain⟨Ka,Kc⟩:=bq hx39
   refine bn rfl .no (fun ha=>bu (s:=x31) (t:=kz) (u:=x38) (EN ha (.tmp rfl rfl) rfl) (EN ha (.tmp rfl rfl) rfl) hx39) ?_
   refine bnd hF fun iG iL hF=>?_
   obtain⟨Gt,Gu⟩:=bq iL
   refine bn rfl .no (fun ha=>bu (s:=x38) (t:=[41]) (u:=iG) (EN ha (.tmp rfl rfl) rfl) (EN ha (.sv _) rfl) iL) ?_
   refine fD ?_
   exact ze hF
 obtain⟨Kz,iK,Am⟩:=dD DF
 rw[uZ]at hF
 refine dB ?_
 refine dI ?_
 refine bz ?_
 refine Ai iK (fun qR Hq=>?_)
 refine Al dE ?_
 refine bnd hF fun nO mo hF=>aB (fq mo) (fun _=>?_)
 refine aG ?_
 refine Ci hF (fun DI hF=>?_) (fun DI hF=>?_)
 · exact ze hF
 refine bz ?_
 rw[wk k15]
 exact⟨_,cz _,_,k15+1,jQ,rfl,aJ,Am,aI,hF⟩
def vg(aa:List Int)(aL:List UInt8)(fuel:Nat)(r5:Int):List (List UInt8)->Nat->(List Int)->Option (Fact×Bool)
 |[],qU,c64=>((Cf aa (⟨r5,c64⟩:Fact)).bind fun LY=>
     bif (!LY)then (some true)
     else ((Bt fuel (⟨r5,c64⟩:Fact)).bind fun LZ=>
       some (!(LZ==aL)))).bind fun L6=>
   match L6 with
   |lG=>if lG then (
       some ((⟨0,[]⟩:Fact),false))
     else (
       some ((⟨r5,c64⟩:Fact),true))
 |yC::sS,qU,c64=>(kE fuel yC).bind fun wI=>
   (app c64 ([wI]:List Int)).bind fun SY=>
   vg aa aL fuel r5 sS (qU+1) SY
def y_(fuel:Nat)(aa:List Int)(aL:List UInt8):Option (Fact×Bool):=
 (zD aL).bind fun r2=>
 (ou fuel r2.1).bind fun r5=>
 vg aa aL fuel r5 r2.2 0 ([]:List Int)
theorem NE{fuel:Nat}{aa:List Int}{ae:Sv}{aL:List UInt8}{R:Fact×Bool}(hF:y_ fuel aa aL=some R):
   Fw.Spec Tryz.prog 23 [ae.v,(sv aL)] [aD ae aa] (fun p:Sv×List Nat=>(.tuple [(zg [(zi R.1.Rel),p.1.v]),(.bool R.2)].toArray)) (fun p=>[bV p.2 p.1 R.1.Values]):=by
 refine Se 46 Tryz.func23 [.cell 4 51,.tmp 5] ?_
 intro H0 F0
 unfold y_ at hF
 refine au ?_
 refine fE (fun k1=>?_)
 refine aA ?_
 refine bnd hF fun r2 hx3 hF=>dC (OA hx3) (fun p4=>?_)
 refine au ?_
 refine zx ?_
 refine zx ?_
 refine aC ?_
 refine bnd hF fun r5 hx6 hF=>aB (BM hx6) (fun _=>?_)
 refine ai (fH wm.h rfl (vs:=[(zi r5)]) bG (cells:=[(zi r5),(.slice none 0 0)]) rfl) ?_
 refine fE (fun k8=>?_)
 refine As (zg [(zi r5),(.slice none 0 0)]) ?_
 refine aC ?_
 refine bF (oK (.t .h) cu ?_)
 refine bU (m:=r2.2.length) (fun S9 f' cs'=>∃(g:Fr)(qU:Nat)(sS:List (List UInt8))(c64:List Int)(v65:Sv)(Hu:List Nat),S9=sS.length/\f'=aH g [(0,ae.v),(1,(sv aL)),(4,(pz k1)),(7,p4.1.v),(8,(pz k8)),(9,(zi (qU:Int)))]/\List.drop qU r2.2=sS/\aF cs' [aD ae aa,bW k1 51 (zg [(zi 0),(.slice none 0 0)]),jl p4.1 r2.2,bW k8 51 (zg [(zi r5),v65.v]),bV Hu v65 c64]/\vg aa aL fuel r5 sS qU c64=some R) ⟨_,0,_,_,⟨none,0,0⟩,[],rfl,aJ,rfl,(.conv .nil (dV (Ro:=(aK aY)) (E:=3)) (.cons .nil) aI),hF⟩ ?_
 rintro S9 _ _ ⟨g69,qU,sS,c64,v65,Hu,rfl,rfl,RP,hE,hF⟩
 refine Kb hE r2.2 (fun aeS=>?_)
 rcases sS with _|⟨yC,sS⟩
 · have aco:=dn RP
   rw[vg]at hF
   refine bK ?_
   refine dJ ?_
   refine aC ?_
   obtain⟨L6,aad,acp⟩:=bind_some hF
   refine au ?_
   refine bZ (fun f' cs'=>∃(lG:Bool)(g:Fr),lG=L6/\f'=aH g [(4,(pz k1)),(8,(pz k8)),(43,(.bool lG))]/\aF cs' [bW k1 51 (zg [(zi 0),(.slice none 0 0)]),bW k8 51 (zg [(zi r5),v65.v]),bV Hu v65 c64]) ?_ ?_
   · replace hF:=aad
     refine aG ?_
     refine bnd hF fun LY acr hF=>bX (.cons .q4 (.rd .h rfl .nil)) (gm cu (fun _=>.nil) (oF (.rd (.t .h) rfl (.rd .h rfl .nil)) (bT abF.h bG (VS acr)))) (fun _=>?_)
     refine aG ?_
     rcases a_ (!LY)with DJ|DJ
     · rw[DJ]
       try rw[DJ]at hF; dsimp only[ak,aj]at hF
       exact aO hF
     rw[DJ]
     try rw[DJ]at hF; dsimp only[ak,aj]at hF
     refine ax ?_
     refine bnd hF fun LZ GD hF=>bX (.cons .h .nil) (gm cu (fun _=>.nil) (bT abG.h bG (UH GD))) (fun _=>?_)
     refine ax ?_
     refine ai (iP (s:=LZ) (t:=aL) (.tmp rfl rfl) (.tmp rfl rfl)) ?_
     exact aO hF
   rintro _ _ ⟨lG,g90,rfl,rfl,hE⟩
   replace hF:=acp
   try dsimp only at hF
   refine bg hE ?_
   refine Ci hF (fun acu hF=>?_) (fun acu hF=>?_)
   · refine au ?_
     refine ai (fH wm.h rfl (vs:=[]) .nil (cells:=[(zi 0),(.slice none 0 0)]) rfl) ?_
     refine As (zg [(zi 0),(.slice none 0 0)]) ?_
     refine ax ?_
     cases hF
     exact dx (⟨none,0,0⟩,[]) (.cellA rfl rfl .h rfl Gh.h wm.h.sz rfl rfl (.tmp rfl rfl .nil)) rfl (.conv .nil (dV (Ro:=(aK aY)) (E:=3)) (.cons .nil) (.sel (.cons .h .nil)))
   refine ax ?_
   refine As (zg [(zi r5),v65.v]) ?_
   refine ax ?_
   cases hF
   exact dx (v65,Hu) (.cellA rfl rfl .h rfl Gh.h wm.h.sz rfl rfl (.tmp rfl rfl .nil)) rfl (.sel (.cons .q2 .nil))
 obtain⟨aco,GG,acv⟩:=dD RP
 rw[vg]at hF
 refine bK ?_
 refine dI ?_
 refine aG ?_
 refine vR [0,1,2,3,4,5,6,7,8,9,10] [0,1,0,0,12,28,60,124,255,511,1023] [6,8,10] mixed (by decide+kernel) ?_
 refine du ?_
 refine qy rfl .no .q3 (fun ha hp=>l9 (v:=v65.v) wh.h (EN ha (.tmp rfl rfl) rfl) hp.2 rfl rfl) ?_
 refine fD ?_
 refine Di GG (fun k91 j92=>?_)
 refine Dl fw ?_
 refine bnd hF fun wI KD hF=>nD rfl rfl .no .nil (.own .q4 (fun _ h=>h) .nil) (fun ha=>bT Ad.h (.cons (EN ha (.tmp rfl rfl) rfl) .nil) (rO KD)) (fun _=>?_)
 refine tJ rfl .no rfl (fun ha=>dN (g:=true) (len:=1) (parts:=[(0,.tmp 30)]) eZ.h ek.h (.cons (EN ha (.tmp rfl rfl) rfl) .nil) (vs:=[(zi wI)]) rfl rfl rfl (by intro v hv; simp at hv; rcases hv with rfl<;>rfl)) (fun k96=>?_)
 refine Ej (.cons .h .nil) (dP (Ro:=(aK aY)) (E:=3) (F:=([]++[])) (xs:=([wI]:List Int)) (dM (eP (fun _=>rfl)) dO bP) rfl rfl) ?_
 refine bnd hF fun SY hx98 hF=>je rfl rfl .no (.cons .q6 (.cons .h .nil)) (.dep rfl (.dep rfl .nil)) (fun ha=>iH (Ro:=(aK aY)) eZ.h mQ ek.h rfl rfl rfl (EN ha (.tmp rfl rfl) rfl) (EN ha (.tmp rfl rfl) rfl) hx98 iI) (fun L8=>?_)
 refine du ?_
 refine je rfl rfl .no (.cons .q5 .nil) (.dep rfl (.dep rfl .nil)) (fun ha=>j5 (e':=(zg [(zi r5),L8.1.v])) De.h.sz (EN ha (.tmp rfl rfl) rfl) (EN ha (.tmp rfl rfl) rfl) rfl rfl rfl rfl rfl) (fun _=>?_)
 refine du ?_
 refine aC ?_
 rw[wk qU]
 exact⟨_,cz _,_,qU+1,sS,_,L8.1,L8.2,rfl,aJ,acv,aI,hF⟩
def qg(fuel:Nat)(aa:List UInt8):Option (Int):=
 (bif (decide ((1:Int)<(aa.length:Int)))then ((ix aa 0).bind fun u4=>
     some (((u4.toNat:Int):Int)==120))
   else (some false)).bind fun o1=>
 match o1 with
 |c8=>if c8 then (
     (jD (decide (0<=(1:Int))&&decide ((1:Int)<=((aa).length:Int)))).bind fun LM=>
     (kE fuel (aa.drop ((1:Int)).toNat)).bind fun bY=>
     (dZ bY 0 7).bind fun dY=>
     if dY then (
       some (IntKind.i64.wrap (10+bY)))
     else (
       some (-1)))
   else (
     (kE fuel aa).bind fun nP=>
     (dZ nP 0 9).bind fun iF=>
     if (!iF)then (
       some (-1))
     else (
       some nP))
theorem Nn{fuel:Nat}{aa:List UInt8}{R:Int}(hF:qg fuel aa=some R):
   Fw.Spec Tryz.prog 46 [(sv aa)] [] (fun _:Unit=>(zi R)) (fun _=>[]):=by
 refine Se 26 Tryz.func46 [.tmp 2] ?_
 intro H0 F0
 unfold qg at hF
 refine aA ?_
 obtain⟨o1,jW,hO2⟩:=bind_some hF
 refine au ?_
 refine bZ (fun f' cs'=>∃(c8:Bool)(g:Fr),c8=o1/\f'=aH g [(0,(sv aa)),(12,(.bool c8))]/\aF cs' []) ?_ ?_
 · replace hF:=jW
   refine au ?_
   refine ai (ig (s:=aa) dG (.tmp rfl rfl)) ?_
   refine aG ?_
   rcases a_ (decide ((1:Int)<(aa.length:Int)))with hg3|hg3
   · rw[hg3]
     try rw[hg3]at hF; dsimp only[ak,aj]at hF
     refine ax ?_
     refine zI hF fun u4 He hx7 hF=>?_
     refine ai (rW (u:=u4) dG (.tmp rfl rfl) (.int _ _) He hx7) ?_
     exact aO hF
   rw[hg3]
   try rw[hg3]at hF; dsimp only[ak,aj]at hF
   exact aO hF
 rintro _ _ ⟨c8,g27,rfl,rfl,hE⟩
 replace hF:=hO2
 try dsimp only at hF
 refine bg hE ?_
 refine Ci hF (fun yc hF=>?_) (fun yc hF=>?_)
 · refine aG ?_
   refine bnd hF fun LM lm hF=>?_
   have yz:=kV lm
   simp only[Bool.and_eq_true,decide_eq_true_eq]at yz
   refine ai (zq (s:=aa) (i:=(1:Int)) dG (.tmp rfl rfl) (.int _ _) yz.1 yz.2) ?_
   refine bnd hF fun bY eY hF=>aB (rO eY) (fun _=>?_)
   refine aC ?_
   refine bnd hF fun dY hx16 hF=>aB (fq hx16) (fun _=>?_)
   refine au ?_
   refine Ci hF (fun KE hF=>?_) (fun KE hF=>?_)
   · exact ze hF
   exact ze hF
 refine ax ?_
 refine bnd hF fun nP iK hF=>aB (rO iK) (fun _=>?_)
 refine aC ?_
 refine bnd hF fun iF jL hF=>aB (fq jL) (fun _=>?_)
 refine aG ?_
 refine Ci hF (fun uq hF=>?_) (fun uq hF=>?_)
 · exact ze hF
 exact ze hF
def uW(fuel:Nat)(r5:Int):List (List UInt8)->Nat->(List Int)->Option (aX)
 |[],uK,kN=>some (⟨r5,kN⟩:aX)
 |AA::sU,uK,kN=>(qg fuel AA).bind fun Hw=>
   (app kN ([Hw]:List Int)).bind fun z73=>
   uW fuel r5 sU (uK+1) z73
def qh(fuel:Nat)(aa:List UInt8):Option (aX):=
 (zD aa).bind fun r2=>
 (ou fuel r2.1).bind fun r5=>
 uW fuel r5 r2.2 0 ([]:List Int)
theorem Np{fuel:Nat}{aa:List UInt8}{R:aX}(hF:qh fuel aa=some R):
   Fw.Spec Tryz.prog 47 [(sv aa)] [] (fun p:Sv×List Nat=>(zg [(zi R.Rel),p.1.v])) (fun p=>[bV p.2 p.1 R.Terms]):=by
 refine Se 32 Tryz.func47 [.cell 2 83] ?_
 intro H0 F0
 unfold qh at hF
 refine au ?_
 refine fE (fun k1=>?_)
 refine ax ?_
 refine bnd hF fun r2 hx3 hF=>dC (OA hx3) (fun p4=>?_)
 refine au ?_
 refine zx ?_
 refine zx ?_
 refine aC ?_
 refine bnd hF fun r5 hx6 hF=>aB (BM hx6) (fun _=>?_)
 refine ai (fH nI.h rfl (vs:=[(zi r5)]) bG (cells:=[(zi r5),(.slice none 0 0)]) rfl) ?_
 refine fE (fun k8=>?_)
 refine As (zg [(zi r5),(.slice none 0 0)]) ?_
 refine aC ?_
 refine bF (oK (.t .h) cu ?_)
 refine bU (m:=r2.2.length) (fun S_ f' cs'=>∃(g:Fr)(uK:Nat)(sU:List (List UInt8))(kN:List Int)(v53:Sv)(L9:List Nat),S_=sU.length/\f'=aH g [(2,(pz k1)),(4,p4.1.v),(5,(pz k8)),(6,(zi (uK:Int)))]/\List.drop uK r2.2=sU/\aF cs' [bW k1 83 (zg [(zi 0),(.slice none 0 0)]),jl p4.1 r2.2,bW k8 83 (zg [(zi r5),v53.v]),bV L9 v53 kN]/\uW fuel r5 sU uK kN=some R) ⟨_,0,_,_,⟨none,0,0⟩,[],rfl,aJ,rfl,(.conv .nil (dV (Ro:=(aK aY)) (E:=3)) (.cons .nil) aI),hF⟩ ?_
 rintro S_ _ _ ⟨g57,uK,sU,kN,v53,L9,rfl,rfl,RQ,hE,hF⟩
 refine Kb hE r2.2 (fun aeT=>?_)
 rcases sU with _|⟨AA,sU⟩
 · have acw:=dn RQ
   rw[uW]at hF
   refine bK ?_
   refine dJ ?_
   refine bz ?_
   refine As (zg [(zi r5),v53.v]) ?_
   refine aG ?_
   cases hF
   exact Er (v53,L9)
 obtain⟨acw,KF,acx⟩:=dD RQ
 rw[uW]at hF
 refine bK ?_
 refine dI ?_
 refine aG ?_
 refine vR [0,1,2,3,4,5,6,7,8,9,10] [0,1,0,0,12,28,60,124,255,511,1023] [6,8,10] mixed (by decide+kernel) ?_
 refine du ?_
 refine qy rfl .no .q2 (fun ha hp=>l9 (v:=v53.v) wh.h (EN ha (.tmp rfl rfl) rfl) hp.2 rfl rfl) ?_
 refine fD ?_
 refine Di KF (fun k67 j68=>?_)
 refine Dl fw ?_
 refine bnd hF fun Hw KG hF=>nD rfl rfl .no .nil (.own .q3 (fun _ h=>h) .nil) (fun ha=>bT Ri.h (.cons (EN ha (.tmp rfl rfl) rfl) .nil) (Nn KG)) (fun _=>?_)
 refine tJ rfl .no rfl (fun ha=>dN (g:=true) (len:=1) (parts:=[(0,.tmp 27)]) eZ.h ek.h (.cons (EN ha (.tmp rfl rfl) rfl) .nil) (vs:=[(zi Hw)]) rfl rfl rfl (by intro v hv; simp at hv; rcases hv with rfl<;>rfl)) (fun k72=>?_)
 refine Ej (.cons .h .nil) (dP (Ro:=(aK aY)) (E:=3) (F:=([]++[])) (xs:=([Hw]:List Int)) (dM (eP (fun _=>rfl)) dO bP) rfl rfl) ?_
 refine bnd hF fun z73 acy hF=>je rfl rfl .no (.cons .q5 (.cons .h .nil)) (.dep rfl (.dep rfl .nil)) (fun ha=>iH (Ro:=(aK aY)) eZ.h mQ ek.h rfl rfl rfl (EN ha (.tmp rfl rfl) rfl) (EN ha (.tmp rfl rfl) rfl) acy iI) (fun p75=>?_)
 refine du ?_
 refine je rfl rfl .no (.cons .q4 .nil) (.dep rfl (.dep rfl .nil)) (fun ha=>j5 (e':=(zg [(zi r5),p75.1.v])) De.h.sz (EN ha (.tmp rfl rfl) rfl) (EN ha (.tmp rfl rfl) rfl) rfl rfl rfl rfl rfl) (fun _=>?_)
 refine du ?_
 refine aC ?_
 rw[wk uK]
 exact⟨_,cz _,_,uK+1,sU,_,p75.1,p75.2,rfl,aJ,acx,aI,hF⟩
def zL(dS:Int):Option (Bool):=
 (dZ dS 10 17).bind fun r1=>
 some r1
theorem IJ{dS:Int}{R:Bool}(hF:zL dS=some R):
   Fw.Spec Tryz.prog 102 [(zi dS)] [] (fun _:Unit=>(.bool R)) (fun _=>[]):=by
 refine Se 5 Tryz.func102 [.tmp 2] ?_
 intro H0 F0
 unfold zL at hF
 refine aC ?_
 refine bnd hF fun r1 hx2 hF=>aB (fq hx2) (fun _=>?_)
 exact ze hF
def zl(dK:Int):List Int->Nat->Option (Bool)
 |[],k4=>some false
 |x6::aM,k4=>if ((x6:Int)==dK)then (
     some true)
   else (
     zl dK aM (k4+1))
def vT(bi:List Int)(dK:Int):Option (Bool):=
 zl dK bi 0
theorem Fg{bi:List Int}{ae:Sv}{dK:Int}{R:Bool}(hF:vT bi dK=some R):
   Fw.Spec Tryz.prog 73 [ae.v,(zi dK)] [aD ae bi] (fun _:Unit=>(.bool R)) (fun _=>[]):=by
 refine Se 18 Tryz.func73 [.tmp 4] ?_
 intro H0 F0
 unfold vT at hF
 refine bK ?_
 refine bF (bU (m:=bi.length) (fun m2 f' cs'=>∃(g:Fr)(k4:Nat)(aM:List Int),m2=aM.length/\f'=aH g [(0,ae.v),(1,(zi dK)),(5,(zi (k4:Int)))]/\List.drop k4 bi=aM/\aF cs' [aD ae bi]/\zl dK aM k4=some R) ⟨_,0,_,rfl,aJ,rfl,aI,hF⟩ ?_)
 rintro m2 _ _ ⟨g3,k4,aM,rfl,rfl,hd7,hE,hF⟩
 refine Kb hE bi (fun mO=>?_)
 rcases aM with _|⟨x6,aM⟩
 · have gQ:=dn hd7
   rw[zl]at hF
   refine bK ?_
   refine dJ ?_
   exact ze hF
 obtain⟨gQ,bS,ic⟩:=dD hd7
 rw[zl]at hF
 refine bK ?_
 refine dI ?_
 refine aC ?_
 refine Ai bS (fun k13 nQ=>?_)
 refine Al dE ?_
 refine ax ?_
 refine Ci hF (fun yf hF=>?_) (fun yf hF=>?_)
 · exact ze hF
 refine bz ?_
 rw[wk k4]
 exact⟨_,cz _,_,k4+1,aM,rfl,aJ,ic,aI,hF⟩
def xk(bi:List Int)(dK:Int):Nat->(List Int)->Bool->Int->Option ((List Int))
 |0,_,_,_=>none
 |m10+1,c5,c8,c9=>if (decide ((c9:Int)<(bi.length:Int)))then (
     ((bif (!c8)then ((ix bi c9).bind fun mF=>
           some (decide ((dK:Int)<mF)))
         else (some false)).bind fun yE=>
       match yE with
       |En=>if En then (
           (app c5 ([dK]:List Int)).bind fun z32=>
           (ix bi c9).bind fun x38=>
           (app z32 ([x38]:List Int)).bind fun z43=>
           some (z43,true))
         else (
           (ix bi c9).bind fun Eo=>
           (app c5 ([Eo]:List Int)).bind fun z54=>
           some (z54,c8))).bind fun nR=>
     match nR with
     |(c59,jZ)=>xk bi dK m10 c59 jZ (IntKind.i64.wrap (c9+1)))
   else (
     if (!c8)then (
       (app c5 ([dK]:List Int)).bind fun z65=>
       some z65)
     else (
       some c5))
def Ct(bi:List Int)(dK:Int):Option ((List Int)):=
 (vT bi dK).bind fun r1=>
 if r1 then (
   some bi)
 else (
   xk bi dK (((bi.length:Int)-0).toNat+2) ([]:List Int) false 0)
theorem Ws{bi:List Int}{ae:Sv}{lW:List Nat}{dK:Int}{R:(List Int)}(hF:Ct bi dK=some R):
   Fw.Spec Tryz.prog 103 [ae.v,(zi dK)] [bV lW ae bi] (fun p:Sv×List Nat=>p.1.v) (fun p=>[bV p.2 p.1 R]):=by
 refine Se 47 Tryz.func103 [.tmp 4] ?_
 intro H0 F0
 unfold Ct at hF
 refine bK ?_
 refine bnd hF fun r1 hx2 hF=>bX (.cons .h .nil) (gm cu (fun _=>.nil) (bT Gl.h bG (Fg hx2))) (fun _=>?_)
 refine au ?_
 refine Ci hF (fun KH hF=>?_) (fun KH hF=>?_)
 · refine aC ?_
   cases hF
   exact Er (ae,lW)
 refine aG ?_
 refine eF rfl (dN (g:=true) eZ.h ek.h .nil (vs:=[]) rfl rfl rfl (by simp)) (fun k4=>?_)
 refine fF (.cons .h .nil) (dP (Ro:=(aK aY)) (E:=3) (F:=[]) (xs:=([]:List Int)) dO rfl rfl) ?_
 refine fU ?_
 refine bF (bU (m:=(((bi.length:Int)-0).toNat+2)) (fun m10 f' cs'=>∃(g:Fr)(c5:List Int)(c8:Bool)(c9:Int)(v6:Sv)(F7:List Nat),f'=aH g [(0,ae.v),(1,(zi dK)),(5,v6.v),(6,(.bool c8)),(7,(zi c9))]/\aF cs' [bV lW ae bi,bV F7 v6 c5]/\xk bi dK m10 c5 c8 c9=some R) ⟨_,_,_,_,⟨(some ⟨k4,0,none⟩),0,1⟩,(k4::[]),aJ,aI,hF⟩ ?_)
 rintro m10 _ _ ⟨g11,c5,c8,c9,v6,F7,rfl,hE,hF⟩
 refine bg hE ?_
 rcases m10 with _|m10
 · rw[xk]at hF
   exact absurd hF (by simp)
 rw[xk]at hF
 refine bK ?_
 refine Ci hF (fun acz hF=>?_) (fun acz hF=>?_)
 · refine au ?_
   obtain⟨nR,CS,DK⟩:=bind_some hF
   refine kY (fun f' cs'=>∃(c59:List Int)(jZ:Bool)(v60:Sv)(L_:List Nat)(g:Fr),nR=(c59,jZ)/\f'=aH g [(0,ae.v),(1,(zi dK)),(5,v60.v),(6,(.bool jZ)),(7,(zi c9))]/\aF cs' [bV lW ae bi,bV L_ v60 c59]) ?_ ?_
   · replace hF:=CS
     refine bF (jw ?_)
     obtain⟨yE,JE,KI⟩:=bind_some hF
     refine au ?_
     refine bZ (fun f' cs'=>∃(En:Bool)(g:Fr),En=yE/\f'=aH g [(0,ae.v),(1,(zi dK)),(5,v6.v),(6,(.bool c8)),(7,(zi c9)),(28,(.bool En))]/\aF cs' [bV lW ae bi,bV F7 v6 c5]) ?_ ?_
     · replace hF:=JE
       refine ax ?_
       rcases a_ (!c8)with kH|kH
       · rw[kH]
         try rw[kH]at hF; dsimp only[ak,aj]at hF
         refine aC ?_
         refine bnd hF fun mF hx27 hF=>?_
         have acA:=oD hx27
         obtain⟨agp,hx29⟩:=lQ hx27
         refine mJ eZ.h ek.h.sz (.tmp rfl rfl) (.tmp rfl rfl) .h acA (fun k23 KJ=>?_)
         refine au ?_
         refine tF (w:=(zi mF)) LB.h (.tmp rfl rfl) .h KJ hx29 Jw ?_
         exact aO hF
       rw[kH]
       try rw[kH]at hF; dsimp only[ak,aj]at hF
       exact aO hF
     rintro _ _ ⟨En,g58,rfl,rfl,hE⟩
     replace hF:=KI
     try dsimp only at hF
     refine bg hE ?_
     refine Ci hF (fun KL hF=>?_) (fun KL hF=>?_)
     · refine ax ?_
       refine eF rfl (dN (g:=true) eZ.h ek.h bG (vs:=[(zi dK)]) rfl rfl rfl (by intro v hv; simp at hv; rcases hv with rfl<;>rfl)) (fun Ht=>?_)
       refine fF (.cons .h .nil) (dP (Ro:=(aK aY)) (E:=3) (F:=([]++[])) (xs:=([dK]:List Int)) (dM (eP (fun _=>rfl)) dO bP) rfl rfl) ?_
       refine bnd hF fun z32 mV hF=>bX (.cons .q2 (.cons .h .nil)) (iH (Ro:=(aK aY)) eZ.h mQ ek.h rfl rfl rfl (.tmp rfl rfl) (.tmp rfl rfl) mV iI) (fun p34=>?_)
       refine fU ?_
       refine bnd hF fun x38 hx39 hF=>?_
       have acB:=oD hx39
       obtain⟨agq,KM⟩:=lQ hx39
       refine mJ eZ.h ek.h.sz (.tmp rfl rfl) (.tmp rfl rfl) (.t .h) acB (fun iA JY=>?_)
       refine tF (w:=(zi x38)) LB.h (.tmp rfl rfl) (.t .h) JY KM Jw ?_
       refine eF rfl (dN (g:=true) eZ.h ek.h bG (vs:=[(zi x38)]) rfl rfl rfl (by intro v hv; simp at hv; rcases hv with rfl<;>rfl)) (fun k42=>?_)
       refine fF (.cons .h .nil) (dP (Ro:=(aK aY)) (E:=3) (F:=([]++[])) (xs:=([x38]:List Int)) (dM (eP (fun _=>rfl)) dO bP) rfl rfl) ?_
       refine bnd hF fun z43 uo hF=>bX (.cons (.t .h) (.cons .h .nil)) (iH (Ro:=(aK aY)) eZ.h mQ ek.h rfl rfl rfl (.tmp rfl rfl) (.tmp rfl rfl) uo iI) (fun p45=>?_)
       refine aG ?_
       cases hF
       exact⟨_,_,p45.1,p45.2,_,rfl,aJ,aI⟩
     refine aC ?_
     refine bnd hF fun Eo wu hF=>?_
     have acC:=oD wu
     obtain⟨ags,ut⟩:=lQ wu
     refine mJ eZ.h ek.h.sz (.tmp rfl rfl) (.tmp rfl rfl) .h acC (fun qR acD=>?_)
     refine tF (w:=(zi Eo)) LB.h (.tmp rfl rfl) .h acD ut Jw ?_
     refine eF rfl (dN (g:=true) eZ.h ek.h bG (vs:=[(zi Eo)]) rfl rfl rfl (by intro v hv; simp at hv; rcases hv with rfl<;>rfl)) (fun k53=>?_)
     refine fF (.cons .h .nil) (dP (Ro:=(aK aY)) (E:=3) (F:=([]++[])) (xs:=([Eo]:List Int)) (dM (eP (fun _=>rfl)) dO bP) rfl rfl) ?_
     refine bnd hF fun z54 xY hF=>bX (.cons .q2 (.cons .h .nil)) (iH (Ro:=(aK aY)) eZ.h mQ ek.h rfl rfl rfl (.tmp rfl rfl) (.tmp rfl rfl) xY iI) (fun p56=>?_)
     refine aG ?_
     cases hF
     exact⟨_,_,p56.1,p56.2,_,rfl,aJ,aI⟩
   rintro _ _ ⟨c59,jZ,v60,L_,g63,rfl,rfl,hE⟩
   replace hF:=DK
   try dsimp only at hF
   refine bg hE ?_
   refine aC ?_
   exact⟨m10,cz _,_,_,_,_,v60,L_,aJ,aI,hF⟩
 refine fU ?_
 refine Ci hF (fun KN hF=>?_) (fun KN hF=>?_)
 · refine ax ?_
   refine eF rfl (dN (g:=true) eZ.h ek.h bG (vs:=[(zi dK)]) rfl rfl rfl (by intro v hv; simp at hv; rcases hv with rfl<;>rfl)) (fun k64=>?_)
   refine fF (.cons .h .nil) (dP (Ro:=(aK aY)) (E:=3) (F:=([]++[])) (xs:=([dK]:List Int)) (dM (eP (fun _=>rfl)) dO bP) rfl rfl) ?_
   refine bnd hF fun z65 Ke hF=>bX (.cons .q2 (.cons .h .nil)) (iH (Ro:=(aK aY)) eZ.h mQ ek.h rfl rfl rfl (.tmp rfl rfl) (.tmp rfl rfl) Ke iI) (fun p67=>?_)
   refine bK ?_
   cases hF
   exact Er (p67.1,p67.2)
 refine bz ?_
 cases hF
 exact Er (v6,F7)
def vD(iw:aX):Nat->(List Int)->Int->Option ((List Int))
 |0,_,_=>none
 |m24+1,c20,c23=>if (decide ((c23:Int)<(iw.Terms.length:Int)))then (
     ((ix iw.Terms c23).bind fun x40=>
       (zL x40).bind fun pM=>
       if pM then (
         (ix iw.Terms c23).bind fun mH=>
         (Ct c20 mH).bind fun Ta=>
         some Ta)
       else (
         some c20)).bind fun Ma=>
     match Ma with
     |jZ=>vD iw m24 jZ (IntKind.i64.wrap (c23+1)))
   else (
     some c20)
def xc:List aX->Nat->(List Int)->Option ((List Int))
 |[],k9,c3=>some c3
 |iw::jR,k9,c3=>(vD iw (((iw.Terms.length:Int)-0).toNat+2) c3 0).bind fun nR=>
   match nR with
   |Ep=>xc jR (k9+1) Ep
def xy(aN:bJ):Option ((List Int)):=
 xc aN.Atoms 0 ([]:List Int)
theorem Iu{aN:bJ}{ae bC:Sv}{R:(List Int)}(hF:xy aN=some R):
   Fw.Spec Tryz.prog 72 [(zg [ae.v,bC.v])] [aD ae aN.Head,gI bC aN.Atoms] (fun p:Sv×List Nat=>p.1.v) (fun p=>[bV p.2 p.1 R]):=by
 refine Se 47 Tryz.func72 [.tmp 2] ?_
 intro H0 F0
 unfold xy at hF
 refine au ?_
 refine fJ (fun k1=>?_)
 refine ax ?_
 refine eF rfl (dN (g:=true) eZ.h ek.h .nil (vs:=[]) rfl rfl rfl (by simp)) (fun k2=>?_)
 refine fF (.cons .h .nil) (dP (Ro:=(aK aY)) (E:=3) (F:=[]) (xs:=([]:List Int)) dO rfl rfl) ?_
 refine bz ?_
 refine bF (bU (m:=aN.Atoms.length) (fun m7 f' cs'=>∃(g:Fr)(k9:Nat)(jR:List aX)(c3:List Int)(v4:Sv)(F5:List Nat),m7=jR.length/\f'=aH g [(1,(pz k1)),(3,v4.v),(4,(zi (k9:Int)))]/\List.drop k9 aN.Atoms=jR/\aF cs' [cZ k1 59 (zg [ae.v,bC.v]),aD ae aN.Head,gI bC aN.Atoms,bV F5 v4 c3]/\xc jR k9 c3=some R) ⟨_,0,_,_,⟨(some ⟨k2,0,none⟩),0,1⟩,(k2::[]),rfl,aJ,rfl,aI,hF⟩ ?_)
 rintro m7 _ _ ⟨g8,k9,jR,c3,v4,F5,rfl,rfl,DL,hE,hF⟩
 refine Kb hE aN.Atoms (fun aae=>?_)
 rcases jR with _|⟨iw,jR⟩
 · have KO:=dn DL
   rw[xc]at hF
   refine dB ?_
   refine dJ ?_
   refine fU ?_
   cases hF
   exact Er (v4,F5)
 obtain⟨KO,jB,KP⟩:=dD DL
 rw[xc]at hF
 refine dB ?_
 refine dI ?_
 refine au ?_
 obtain⟨nR,CS,DK⟩:=bind_some hF
 refine kY (fun f' cs'=>∃(Ep:List Int)(v68:Sv)(Mc:List Nat)(g:Fr),Ep=nR/\f'=aH g [(1,(pz k1)),(3,v68.v),(4,(zi (k9:Int)))]/\aF cs' [cZ k1 59 (zg [ae.v,bC.v]),aD ae aN.Head,gI bC aN.Atoms,bV Mc v68 Ep]) ?_ ?_
 · replace hF:=CS
   refine bF (dw (ai (iO (v:=(zi 0)) (.int _ _)) ?_))
   refine au ?_
   refine bF (bU (m:=(((iw.Terms.length:Int)-0).toNat+2)) (fun m24 f' cs'=>∃(g:Fr)(c20:List Int)(c23:Int)(v21:Sv)(Hy:List Nat),f'=aH g [(1,(pz k1)),(3,v21.v),(4,(zi (k9:Int))),(5,(zi c23))]/\aF cs' [cZ k1 59 (zg [ae.v,bC.v]),aD ae aN.Head,gI bC aN.Atoms,bV Hy v21 c20]/\vD iw m24 c20 c23=some nR) ⟨_,_,_,v4,F5,aJ,aI,hF⟩ ?_)
   rintro m24 _ _ ⟨SQ,c20,c23,v21,Hy,rfl,hE,hF⟩
   refine bg hE ?_
   rcases m24 with _|m24
   · rw[vD]at hF
     exact absurd hF (by simp)
   rw[vD]at hF
   refine bz ?_
   refine Ai jB (fun mE j33=>?_)
   refine au ?_
   refine Js (R':=(b_ 3 aY)) wh.h (.tmp rfl rfl) .h Jl (fun w34=>?_)
   refine ax ?_
   refine Ci hF (fun KQ hF=>?_) (fun KQ hF=>?_)
   · refine au ?_
     obtain⟨Ma,aaf,acE⟩:=bind_some hF
     refine kY (fun f' cs'=>∃(jZ:List Int)(v63:Sv)(Md:List Nat)(g:Fr),jZ=Ma/\f'=aH g [(1,(pz k1)),(3,v63.v),(4,(zi (k9:Int))),(5,(zi c23))]/\aF cs' [cZ k1 59 (zg [ae.v,bC.v]),aD ae aN.Head,gI bC aN.Atoms,bV Md v63 jZ]) ?_ ?_
     · replace hF:=aaf
       refine bF (dw (ai (n_ (off:=1) xI.h (.tmp rfl rfl)) ?_))
       refine aG ?_
       refine Ai jB (fun k37 j38=>?_)
       refine au ?_
       refine Js (R':=(b_ 3 aY)) wh.h (.tmp rfl rfl) .h Jl (fun w39=>?_)
       refine au ?_
       refine zI hF fun x40 J5 iL hF=>?_
       refine Ai iL (fun SN j45=>?_)
       refine Al dE ?_
       refine bnd hF fun pM j_ hF=>aB (IJ j_) (fun _=>?_)
       refine au ?_
       refine Ci hF (fun xX hF=>?_) (fun xX hF=>?_)
       · refine aC ?_
         refine Ai jB (fun k49 j50=>?_)
         refine au ?_
         refine Js (R':=(b_ 3 aY)) wh.h (.tmp rfl rfl) .h Jl (fun w51=>?_)
         refine au ?_
         refine zI hF fun mH agt xY hF=>?_
         refine Ai xY (fun k56 j57=>?_)
         refine Al dE ?_
         refine bnd hF fun Ta acF hF=>dC (Ws acF) (fun p60=>?_)
         refine aG ?_
         cases hF
         exact⟨_,p60.1,p60.2,_,rfl,aJ,aI⟩
       refine au ?_
       cases hF
       exact⟨_,v21,Hy,_,rfl,aJ,aI⟩
     rintro _ _ ⟨jZ,v63,Md,SV,rfl,rfl,hE⟩
     replace hF:=acE
     try dsimp only at hF
     refine bg hE ?_
     refine aC ?_
     exact⟨m24,cz _,_,_,_,v63,Md,aJ,aI,hF⟩
   refine aA ?_
   cases hF
   exact⟨_,v21,Hy,_,rfl,aJ,aI⟩
 rintro _ _ ⟨Ep,v68,Mc,g71,rfl,rfl,hE⟩
 replace hF:=DK
 try dsimp only at hF
 refine bg hE ?_
 refine aC ?_
 rw[wk k9]
 exact⟨_,cz _,_,k9+1,jR,_,v68,Mc,rfl,aJ,KP,aI,hF⟩
def xz(dS:Int):Option (Bool):=
 ((dZ dS 0 9).bind fun r3=>
   bif r3 then (some true)
   else ((zL dS).bind fun r7=>
     some r7)).bind fun o1=>
 match o1 with
 |c10=>some c10
theorem OB{dS:Int}{R:Bool}(hF:xz dS=some R):
   Fw.Spec Tryz.prog 101 [(zi dS)] [] (fun _:Unit=>(.bool R)) (fun _=>[]):=by
 refine Se 9 Tryz.func101 [.tmp 2] ?_
 intro H0 F0
 unfold xz at hF
 refine ax ?_
 obtain⟨o1,jW,hO2⟩:=bind_some hF
 refine au ?_
 refine bZ (fun f' cs'=>∃(c10:Bool)(g:Fr),c10=o1/\f'=aH g [(2,(.bool c10))]/\aF cs' []) ?_ ?_
 · replace hF:=jW
   refine au ?_
   refine bnd hF fun r3 hx4 hF=>aB (fq hx4) (fun _=>?_)
   refine au ?_
   rcases a_ r3 with gU|gU
   · rw[gU]
     try rw[gU]at hF; dsimp only[ak,aj]at hF
     exact aO hF
   rw[gU]
   try rw[gU]at hF; dsimp only[ak,aj]at hF
   refine ax ?_
   refine bnd hF fun r7 gZ hF=>aB (IJ gZ) (fun _=>?_)
   exact aO hF
 rintro _ _ ⟨c10,g11,rfl,rfl,hE⟩
 replace hF:=hO2
 try dsimp only at hF
 refine bg hE ?_
 exact ze hF
def xe:List Int->Nat->Option (Bool)
 |[],k22=>some true
 |x24::jP,k22=>(xz x24).bind fun gT=>
   if (!gT)then (
     some false)
   else (
     xe jP (k22+1))
def Cg(aa:List Int)(aR:aX):Option (Bool):=
 ((rP aa).bind fun r4=>
   bif (!r4)then (some true)
   else ((dZ aR.Rel 0 (IntKind.i64.wrap ((aa.length:Int)-1))).bind fun r8=>
     bif (!r8)then (some true)
     else ((ix aa aR.Rel).bind fun uJ=>
       some (((aR.Terms.length:Int):Int)!=uJ)))).bind fun o2=>
 match o2 with
 |c18=>if c18 then (
     some false)
   else (
     xe aR.Terms 0)
theorem VT{aa:List Int}{ae:Sv}{aR:aX}{eG:Sv}{R:Bool}(hF:Cg aa aR=some R):
   Fw.Spec Tryz.prog 71 [ae.v,(zg [(zi aR.Rel),eG.v])] [aD ae aa,aD eG aR.Terms] (fun _:Unit=>(.bool R)) (fun _=>[]):=by
 refine Se 43 Tryz.func71 [.tmp 4] ?_
 intro H0 F0
 unfold Cg at hF
 refine au ?_
 refine fJ (fun k1=>?_)
 refine ax ?_
 obtain⟨o2,fP,hO3⟩:=bind_some hF
 refine gF [0,1,2,3,4,5,6,7,8,9,10,11,12,13,14,15,16,17,18,19,20,21,22] [0,1,3,7,15,31,15,79,207,511,1023,2047,4095,8191,16383,32767,8191,8191,139263,466943,991231,2097151,4194303] [1,9] mixed (by decide+kernel) ?_
 refine qz (fun f' cs'=>∃(c18:Bool)(g:Fr),c18=o2/\f'=aH g [(3,(pz k1)),(28,(.bool c18))]/\aF cs' [cZ k1 83 (zg [(zi aR.Rel),eG.v]),aD eG aR.Terms]) ?_ ?_
 · replace hF:=fP
   refine du ?_
   refine bnd hF fun r4 hx5 hF=>dm (Bj hx5) (fun _=>?_)
   refine fD ?_
   rcases a_ (!r4)with bf|bf
   · rw[bf]
     try rw[bf]at hF; dsimp only[ak,aj]at hF
     exact gH hF
   rw[bf]
   try rw[bf]at hF; dsimp only[ak,aj]at hF
   refine Df ?_
   refine bnd hF fun r8 bS hF=>dm (fq bS) (fun _=>?_)
   refine iD ?_
   rcases a_ (!r8)with bQ|bQ
   · rw[bQ]
     try rw[bQ]at hF; dsimp only[ak,aj]at hF
     exact gH hF
   rw[bQ]
   try rw[bQ]at hF; dsimp only[ak,aj]at hF
   refine wo ?_
   refine zI hF fun uJ GA jA hF=>?_
   refine Di jA (fun k16 Em=>?_)
   refine Dl dE ?_
   exact gH hF
 rintro _ _ ⟨c18,LX,rfl,rfl,hE⟩
 replace hF:=hO3
 try dsimp only at hF
 refine bg hE ?_
 refine Ci hF (fun mU hF=>?_) (fun mU hF=>?_)
 · exact ze hF
 refine aC ?_
 refine bF (bU (m:=aR.Terms.length) (fun m20 f' cs'=>∃(g:Fr)(k22:Nat)(jP:List Int),m20=jP.length/\f'=aH g [(3,(pz k1)),(5,(zi (k22:Int)))]/\List.drop k22 aR.Terms=jP/\aF cs' [cZ k1 83 (zg [(zi aR.Rel),eG.v]),aD eG aR.Terms]/\xe jP k22=some R) ⟨_,0,_,rfl,aJ,rfl,aI,hF⟩ ?_)
 rintro m20 _ _ ⟨g21,k22,jP,rfl,rfl,hd25,hE,hF⟩
 refine Kb hE aR.Terms (fun aab=>?_)
 rcases jP with _|⟨x24,jP⟩
 · have Ky:=dn hd25
   rw[xe]at hF
   refine dB ?_
   refine dJ ?_
   exact ze hF
 obtain⟨Ky,hx27,hd28⟩:=dD hd25
 rw[xe]at hF
 refine dB ?_
 refine dI ?_
 refine bz ?_
 refine Ai hx27 (fun Ht j32=>?_)
 refine Al dE ?_
 refine bnd hF fun gT hx34 hF=>aB (OB hx34) (fun _=>?_)
 refine aG ?_
 refine Ci hF (fun DD hF=>?_) (fun DD hF=>?_)
 · exact ze hF
 refine bz ?_
 rw[wk k22]
 exact⟨_,cz _,_,k22+1,jP,rfl,aJ,hd28,aI,hF⟩
def vv(aa:List Int)(aN:bJ)(kQ:(List Int)):List Int->Nat->Option (Bool)
 |[],k20=>((rP aa).bind fun ja=>
     bif ja then ((dZ (aN.Atoms.length:Int) 1 4).bind fun kz=>
       bif kz then (some (decide (((aN.Head.length:Int):Int)<=3)))
       else (some false))
     else (some false)).bind fun yF=>
   match yF with
   |kP=>some kP
 |uL::sV,k20=>(vT kQ uL).bind fun l8=>
   if (!l8)then (
     some false)
   else (
     vv aa aN kQ sV (k20+1))
def vw(aa:List Int)(aN:bJ):List aX->Nat->Option (Bool)
 |[],k5=>(xy aN).bind fun kQ=>
   vv aa aN kQ aN.Head 0
 |x7::eQ,k5=>(Cg aa x7).bind fun AB=>
   if (!AB)then (
     some false)
   else (
     vw aa aN eQ (k5+1))
def zu(aa:List Int)(aN:bJ):Option (Bool):=
 vw aa aN aN.Atoms 0
theorem Oj{aa:List Int}{ae:Sv}{aN:bJ}{jk eG:Sv}{R:Bool}(hF:zu aa aN=some R):
   Fw.Spec Tryz.prog 48 [ae.v,(zg [jk.v,eG.v])] [aD ae aa,aD jk aN.Head,gI eG aN.Atoms] (fun _:Unit=>(.bool R)) (fun _=>[]):=by
 refine Se 54 Tryz.func48 [.tmp 4] ?_
 intro H0 F0
 unfold zu at hF
 refine au ?_
 refine fJ (fun k1=>?_)
 refine bz ?_
 refine bF (bU (m:=aN.Atoms.length) (fun m3 f' cs'=>∃(g:Fr)(k5:Nat)(eQ:List aX),m3=eQ.length/\f'=aH g [(0,ae.v),(3,(pz k1)),(5,(zi (k5:Int)))]/\List.drop k5 aN.Atoms=eQ/\aF cs' [aD ae aa,cZ k1 59 (zg [jk.v,eG.v]),aD jk aN.Head,gI eG aN.Atoms]/\vw aa aN eQ k5=some R) ⟨_,0,_,rfl,aJ,rfl,aI,hF⟩ ?_)
 rintro m3 _ _ ⟨g4,k5,eQ,rfl,rfl,pO,hE,hF⟩
 refine Kb hE aN.Atoms (fun Jy=>?_)
 rcases eQ with _|⟨x7,eQ⟩
 · have yA:=dn pO
   rw[vw]at hF
   refine dB ?_
   refine dJ ?_
   refine bz ?_
   refine bnd hF fun kQ jA hF=>dC (Iu jA) (fun p16=>?_)
   refine bz ?_
   refine bF (bU (m:=aN.Head.length) (fun m18 f' cs'=>∃(g:Fr)(k20:Nat)(sV:List Int),m18=sV.length/\f'=aH g [(0,ae.v),(3,(pz k1)),(6,p16.1.v),(7,(zi (k20:Int)))]/\List.drop k20 aN.Head=sV/\aF cs' [aD ae aa,cZ k1 59 (zg [jk.v,eG.v]),aD jk aN.Head,gI eG aN.Atoms,bV p16.2 p16.1 kQ]/\vv aa aN kQ sV k20=some R) ⟨_,0,_,rfl,aJ,rfl,aI,hF⟩ ?_)
   rintro m18 _ _ ⟨g19,k20,sV,rfl,rfl,RS,hE,hF⟩
   refine Kb hE aN.Head (fun aeU=>?_)
   rcases sV with _|⟨uL,sV⟩
   · have KJ:=dn RS
     rw[vv]at hF
     refine dB ?_
     refine dJ ?_
     refine aA ?_
     obtain⟨yF,JF,KR⟩:=bind_some hF
     refine au ?_
     refine bZ (fun f' cs'=>∃(kP:Bool)(g:Fr),kP=yF/\f'=aH g [(4,(.bool kP))]/\aF cs' []) ?_ ?_
     · replace hF:=JF
       refine au ?_
       refine bnd hF fun ja hx32 hF=>aB (Bj hx32) (fun _=>?_)
       refine au ?_
       rcases a_ ja with DN|DN
       · rw[DN]
         try rw[DN]at hF; dsimp only[ak,aj]at hF
         refine bK ?_
         refine bnd hF fun kz lV hF=>aB (fq lV) (fun _=>?_)
         refine aG ?_
         rcases a_ kz with DR|DR
         · rw[DR]
           try rw[DR]at hF; dsimp only[ak,aj]at hF
           exact aO hF
         rw[DR]
         try rw[DR]at hF; dsimp only[ak,aj]at hF
         exact aO hF
       rw[DN]
       try rw[DN]at hF; dsimp only[ak,aj]at hF
       exact aO hF
     rintro _ _ ⟨kP,g40,rfl,rfl,hE⟩
     replace hF:=KR
     try dsimp only at hF
     refine bg hE ?_
     exact ze hF
   obtain⟨KJ,hx25,Gs⟩:=dD RS
   rw[vv]at hF
   refine dB ?_
   refine dI ?_
   refine bK ?_
   refine Ai hx25 (fun mZ SG=>?_)
   refine Al dE ?_
   refine bnd hF fun l8 uo hF=>bX (.cons .q5 .nil) (gm cu (fun _=>.nil) (bT Gl.h bG (Fg uo))) (fun _=>?_)
   refine aG ?_
   refine Ci hF (fun Dy hF=>?_) (fun Dy hF=>?_)
   · exact ze hF
   refine bz ?_
   rw[wk k20]
   exact⟨_,cz _,_,k20+1,sV,rfl,aJ,Gs,aI,hF⟩
 obtain⟨yA,iU,ji⟩:=dD pO
 rw[vw]at hF
 refine dB ?_
 refine dI ?_
 refine bK ?_
 refine Ai iU (fun nT j49=>?_)
 refine Ab (xq x7) zt (fun p50=>?_)
 refine bnd hF fun AB ut hF=>aB (VT ut) (fun _=>?_)
 refine aG ?_
 refine Ci hF (fun KS hF=>?_) (fun KS hF=>?_)
 · exact ze hF
 refine bz ?_
 rw[wk k5]
 exact⟨_,cz _,_,k5+1,eQ,rfl,aJ,ji,aI,hF⟩
def zF(fuel:Nat)(dS:Int):Option ((List UInt8)):=
 (zL dS).bind fun r1=>
 if r1 then (
   (fZ fuel (IntKind.i64.wrap (dS-10))).bind fun r4=>
   (aP [120] r4).bind fun x7=>
   some x7)
 else (
   (fZ fuel dS).bind fun kC=>
   some kC)
theorem OC{fuel:Nat}{dS:Int}{R:(List UInt8)}(hF:zF fuel dS=some R):
   Fw.Spec Tryz.prog 104 [(zi dS)] [] (fun _:Unit=>(sv R)) (fun _=>[]):=by
 refine Se 11 Tryz.func104 [.tmp 2] ?_
 intro H0 F0
 unfold zF at hF
 refine bz ?_
 refine bnd hF fun r1 hx2 hF=>aB (IJ hx2) (fun _=>?_)
 refine au ?_
 refine Ci hF (fun DT hF=>?_) (fun DT hF=>?_)
 · refine ax ?_
   refine bnd hF fun r4 hx5 hF=>aB (j4 hx5) (fun _=>?_)
   refine bnd hF fun x7 gZ hF=>?_
   obtain⟨RU,Tc⟩:=bq gZ
   refine ai (bu (s:=[120]) (t:=r4) (u:=x7) (.sv _) (.tmp rfl rfl) gZ) ?_
   exact ze hF
 refine ax ?_
 refine bnd hF fun kC lu hF=>aB (j4 lu) (fun _=>?_)
 exact ze hF
def rH(fuel:Nat):List Int->Nat->(List UInt8)->Option ((List UInt8))
 |[],k5,c1=>some c1
 |x7::eQ,k5,c1=>(if (decide ((0:Int)<(k5:Int)))then (
       (aP c1 [44]).bind fun eB=>
       (zF fuel x7).bind fun iF=>
       (aP eB iF).bind fun x25=>
       some x25)
     else (
       (zF fuel x7).bind fun ja=>
       (aP c1 ja).bind fun x34=>
       some x34)).bind fun kL=>
   match kL with
   |kP=>rH fuel eQ (k5+1) kP
def zw(fuel:Nat)(bi:List Int):Option ((List UInt8)):=
 rH fuel bi 0 []
theorem Ol{fuel:Nat}{bi:List Int}{ae:Sv}{R:(List UInt8)}(hF:zw fuel bi=some R):
   Fw.Spec Tryz.prog 74 [ae.v] [aD ae bi] (fun _:Unit=>(sv R)) (fun _=>[]):=by
 refine Se 23 Tryz.func74 [.tmp 2] ?_
 intro H0 F0
 unfold zw at hF
 refine jT ?_
 refine bF (bU (m:=bi.length) (fun m3 f' cs'=>∃(g:Fr)(k5:Nat)(eQ:List Int)(c1:List UInt8),m3=eQ.length/\f'=aH g [(0,ae.v),(3,(sv c1)),(4,(zi (k5:Int)))]/\List.drop k5 bi=eQ/\aF cs' [aD ae bi]/\rH fuel eQ k5 c1=some R) ⟨_,0,_,_,rfl,aJ,rfl,aI,hF⟩ ?_)
 rintro m3 _ _ ⟨g4,k5,eQ,c1,rfl,rfl,pO,hE,hF⟩
 refine Kb hE bi (fun Jy=>?_)
 rcases eQ with _|⟨x7,eQ⟩
 · have yA:=dn pO
   rw[rH]at hF
   refine bK ?_
   refine dJ ?_
   exact ze hF
 obtain⟨yA,iU,ji⟩:=dD pO
 rw[rH]at hF
 refine bK ?_
 refine dI ?_
 refine au ?_
 obtain⟨kL,xO,xU⟩:=bind_some hF
 refine kY (fun f' cs'=>∃(kP:List UInt8)(g:Fr),kP=kL/\f'=aH g [(0,ae.v),(3,(sv kP)),(4,(zi (k5:Int)))]/\aF cs' [aD ae bi]) ?_ ?_
 · replace hF:=xO
   refine bF (jw (dw (Cm (zi (k5:Int)) rfl rfl ?_)))
   refine aG ?_
   refine Ci hF (fun mU hF=>?_) (fun mU hF=>?_)
   · refine aG ?_
     refine bnd hF fun eB iT hF=>?_
     obtain⟨Rz,RA⟩:=bq iT
     refine ai (bu (s:=c1) (t:=[44]) (u:=eB) (.tmp rfl rfl) (.sv _) iT) ?_
     refine bz ?_
     refine Ai iU (fun k20 Hf=>?_)
     refine Al dE ?_
     refine bnd hF fun iF jL hF=>aB (OC jL) (fun _=>?_)
     refine bnd hF fun x25 mR hF=>?_
     obtain⟨ab_,ab'⟩:=bq mR
     refine ai (bu (s:=eB) (t:=iF) (u:=x25) (.tmp rfl rfl) (.tmp rfl rfl) mR) ?_
     exact aO hF
   refine aC ?_
   refine Ai iU (fun uF j30=>?_)
   refine Al dE ?_
   refine bnd hF fun ja hx32 hF=>aB (OC hx32) (fun _=>?_)
   refine bnd hF fun x34 kg hF=>?_
   obtain⟨Gp,Gq⟩:=bq kg
   refine ai (bu (s:=c1) (t:=ja) (u:=x34) (.tmp rfl rfl) (.tmp rfl rfl) kg) ?_
   exact aO hF
 rintro _ _ ⟨kP,LQ,rfl,rfl,hE⟩
 replace hF:=xU
 try dsimp only at hF
 refine bg hE ?_
 refine aC ?_
 rw[wk k5]
 exact⟨_,cz _,_,k5+1,eQ,_,rfl,aJ,ji,aI,hF⟩
def u6(aR:aX)(fuel:Nat):List Int->Nat->Option ((List UInt8))
 |[],k15=>(fZ fuel aR.Rel).bind fun dh=>
   (aP [114] dh).bind fun x27=>
   (aP x27 [40]).bind fun x31=>
   (zw fuel aR.Terms).bind fun kz=>
   (aP x31 kz).bind fun x38=>
   (aP x38 [41]).bind fun iG=>
   some iG
 |nM::jQ,k15=>(xz nM).bind fun nO=>
   if (!nO)then (
     some [])
   else (
     u6 aR fuel jQ (k15+1))
def y5(fuel:Nat)(aR:aX):Option ((List UInt8)):=
 ((dZ aR.Rel 0 2).bind fun r4=>
   bif (!r4)then (some true)
   else ((dZ (aR.Terms.length:Int) 1 3).bind fun r8=>
     some (!r8))).bind fun o2=>
 match o2 with
 |c11=>if c11 then (
     some [])
   else (
     u6 aR fuel aR.Terms 0)
theorem Nw{fuel:Nat}{aR:aX}{bC:Sv}{R:(List UInt8)}(hF:y5 fuel aR=some R):
   Fw.Spec Tryz.prog 75 [(zg [(zi aR.Rel),bC.v])] [aD bC aR.Terms] (fun _:Unit=>(sv R)) (fun _=>[]):=by
 refine Se 39 Tryz.func75 [.tmp 2] ?_
 intro H0 F0
 unfold y5 at hF
 refine au ?_
 refine fJ (fun k1=>?_)
 refine ax ?_
 obtain⟨o2,fP,hO3⟩:=bind_some hF
 refine au ?_
 refine bZ (fun f' cs'=>∃(c11:Bool)(g:Fr),c11=o2/\f'=aH g [(1,(pz k1)),(14,(.bool c11))]/\aF cs' [cZ k1 83 (zg [(zi aR.Rel),bC.v]),aD bC aR.Terms]) ?_ ?_
 · replace hF:=fP
   refine aG ?_
   refine bnd hF fun r4 hx5 hF=>aB (fq hx5) (fun _=>?_)
   refine aG ?_
   rcases a_ (!r4)with bf|bf
   · rw[bf]
     try rw[bf]at hF; dsimp only[ak,aj]at hF
     exact aO hF
   rw[bf]
   try rw[bf]at hF; dsimp only[ak,aj]at hF
   refine bK ?_
   refine bnd hF fun r8 bS hF=>aB (fq bS) (fun _=>?_)
   exact aO hF
 rintro _ _ ⟨c11,SI,rfl,rfl,hE⟩
 replace hF:=hO3
 try dsimp only at hF
 refine bg hE ?_
 refine Ci hF (fun Dp hF=>?_) (fun Dp hF=>?_)
 · exact ze hF
 refine aC ?_
 refine bF (bU (m:=aR.Terms.length) (fun m13 f' cs'=>∃(g:Fr)(k15:Nat)(jQ:List Int),m13=jQ.length/\f'=aH g [(1,(pz k1)),(3,(zi (k15:Int)))]/\List.drop k15 aR.Terms=jQ/\aF cs' [cZ k1 83 (zg [(zi aR.Rel),bC.v]),aD bC aR.Terms]/\u6 aR fuel jQ k15=some R) ⟨_,0,_,rfl,aJ,rfl,aI,hF⟩ ?_)
 rintro m13 _ _ ⟨g14,k15,jQ,rfl,rfl,DF,hE,hF⟩
 refine Kb hE aR.Terms (fun aac=>?_)
 rcases jQ with _|⟨nM,jQ⟩
 · have Kz:=dn DF
   rw[u6]at hF
   refine dB ?_
   refine dJ ?_
   refine aA ?_
   refine gF [0,1,5,6,2,3,4,7,8,9,10] [0,1,3,7,15,0,32,103,255,511,1023] [2,7] mixed (by decide+kernel) ?_
   refine tZ ?_
   refine bnd hF fun dh hx25 hF=>dm (j4 hx25) (fun _=>?_)
   refine bnd hF fun x27 hx28 hF=>?_
   obtain⟨KA,KC⟩:=bq hx28
   refine bn rfl .no (fun ha=>bu (s:=[114]) (t:=dh) (u:=x27) (EN ha (.sv _) rfl) (EN ha (.tmp rfl rfl) rfl) hx28) ?_
   refine bnd hF fun x31 hx32 hF=>?_
   obtain⟨RJ,RL⟩:=bq hx32
   refine bn rfl .no (fun ha=>bu (s:=x27) (t:=[40]) (u:=x31) (EN ha (.tmp rfl rfl) rfl) (EN ha (.sv _) rfl) hx32) ?_
   refine bnd hF fun kz lV hF=>dm (Ol lV) (fun _=>?_)
   refine bnd hF fun x38 hx39 hF=>?_
   obtain⟨Ka,Kc⟩:=bq hx39
   refine bn rfl .no (fun ha=>bu (s:=x31) (t:=kz) (u:=x38) (EN ha (.tmp rfl rfl) rfl) (EN ha (.tmp rfl rfl) rfl) hx39) ?_
   refine bnd hF fun iG iL hF=>?_
   obtain⟨Gt,Gu⟩:=bq iL
   refine bn rfl .no (fun ha=>bu (s:=x38) (t:=[41]) (u:=iG) (EN ha (.tmp rfl rfl) rfl) (EN ha (.sv _) rfl) iL) ?_
   refine fD ?_
   exact ze hF
 obtain⟨Kz,iK,Am⟩:=dD DF
 rw[u6]at hF
 refine dB ?_
 refine dI ?_
 refine bz ?_
 refine Ai iK (fun qR Hq=>?_)
 refine Al dE ?_
 refine bnd hF fun nO mo hF=>aB (OB mo) (fun _=>?_)
 refine aG ?_
 refine Ci hF (fun DI hF=>?_) (fun DI hF=>?_)
 · exact ze hF
 refine bz ?_
 rw[wk k15]
 exact⟨_,cz _,_,k15+1,jQ,rfl,aJ,Am,aI,hF⟩
def qa(fuel:Nat):List aX->Nat->(List UInt8)->Option ((List UInt8))
 |[],iA,c31=>some c31
 |iy::jS,iA,c31=>(((y5 fuel iy).bind fun kM=>
     if (kM==[])then (
       some (.inl []))
     else (
       if (decide ((0:Int)<(iA:Int)))then (
         (aP c31 [32,97,110,100,32]).bind fun mH=>
         (aP mH kM).bind fun Me=>
         some (.inr Me))
       else (
         (aP c31 kM).bind fun AA=>
         some (.inr AA)))):Option (Sum ((List UInt8)) ((List UInt8)))).bind fun yG=>
   match yG with
   | .inl r=>some r
   | .inr Es=>qa fuel jS (iA+1) Es
def uX(aN:bJ)(fuel:Nat)(r9:(List UInt8))(bY:(List Int)):List Int->Nat->Option ((List UInt8))
 |[],k18=>(aP r9 [32,105,102,32]).bind fun x27=>
   qa fuel aN.Atoms 0 x27
 |x20::sW,k18=>(vT bY x20).bind fun Td=>
   if (!Td)then (
     some [])
   else (
     uX aN fuel r9 bY sW (k18+1))
def qb(fuel:Nat):List aX->Nat->(List UInt8)->Option ((List UInt8))
 |[],pR,qV=>some qV
 |x101::si,pR,qV=>(((y5 fuel x101).bind fun oZ=>
     if (oZ==[])then (
       some (.inl []))
     else (
       if (decide ((0:Int)<(pR:Int)))then (
         (aP qV [32,97,110,100,32]).bind fun uj=>
         (aP uj oZ).bind fun nJ=>
         some (.inr nJ))
       else (
         (aP qV oZ).bind fun KT=>
         some (.inr KT)))):Option (Sum ((List UInt8)) ((List UInt8)))).bind fun KU=>
   match KU with
   | .inl r=>some r
   | .inr c130=>qb fuel si (pR+1) c130
def wR(aN:bJ)(fuel:Nat)(pQ:(List Int)):List Int->Nat->Option ((List UInt8))
 |[],uM=>(aP [121,101,115] [32,105,102,32]).bind fun x91=>
   qb fuel aN.Atoms 0 x91
 |x84::sZ,uM=>(vT pQ x84).bind fun RV=>
   if (!RV)then (
     some [])
   else (
     wR aN fuel pQ sZ (uM+1))
def yX(fuel:Nat)(aN:bJ):Option ((List UInt8)):=
 ((dZ (aN.Atoms.length:Int) 1 4).bind fun r4=>
   bif (!r4)then (some true)
   else (some (decide ((3:Int)<(aN.Head.length:Int))))).bind fun o2=>
 match o2 with
 |c8=>if c8 then (
     some [])
   else (
     if (decide ((0:Int)<(aN.Head.length:Int)))then (
       (zw fuel aN.Head).bind fun r9=>
       (xy aN).bind fun bY=>
       uX aN fuel r9 bY aN.Head 0)
     else (
       (xy aN).bind fun pQ=>
       wR aN fuel pQ aN.Head 0))
theorem Nq{fuel:Nat}{aN:bJ}{ae bC:Sv}{R:(List UInt8)}(hF:yX fuel aN=some R):
   Fw.Spec Tryz.prog 49 [(zg [ae.v,bC.v])] [aD ae aN.Head,gI bC aN.Atoms] (fun _:Unit=>(sv R)) (fun _=>[]):=by
 refine Se 68 Tryz.func49 [.tmp 2] ?_
 intro H0 F0
 unfold yX at hF
 refine au ?_
 refine fJ (fun k1=>?_)
 refine ax ?_
 obtain⟨o2,fP,hO3⟩:=bind_some hF
 refine au ?_
 refine bZ (fun f' cs'=>∃(c8:Bool)(g:Fr),c8=o2/\f'=aH g [(1,(pz k1)),(18,(.bool c8))]/\aF cs' [cZ k1 59 (zg [ae.v,bC.v]),aD ae aN.Head,gI bC aN.Atoms]) ?_ ?_
 · replace hF:=fP
   refine ax ?_
   refine bnd hF fun r4 hx5 hF=>aB (fq hx5) (fun _=>?_)
   refine aG ?_
   rcases a_ (!r4)with bf|bf
   · rw[bf]
     try rw[bf]at hF; dsimp only[ak,aj]at hF
     exact aO hF
   rw[bf]
   try rw[bf]at hF; dsimp only[ak,aj]at hF
   exact aO hF
 rintro _ _ ⟨c8,agu,rfl,rfl,hE⟩
 replace hF:=hO3
 try dsimp only at hF
 refine bg hE ?_
 refine Ci hF (fun aag hF=>?_) (fun aag hF=>?_)
 · exact ze hF
 refine tN ?_
 refine Ci hF (fun aah hF=>?_) (fun aah hF=>?_)
 · refine ax ?_
   refine bnd hF fun r9 iU hF=>aB (Ol iU) (fun _=>?_)
   refine aA ?_
   refine bnd hF fun bY eY hF=>dC (Iu eY) (fun qW=>?_)
   refine bz ?_
   refine bF (bU (m:=aN.Head.length) (fun m16 f' cs'=>∃(g:Fr)(k18:Nat)(sW:List Int),m16=sW.length/\f'=aH g [(1,(pz k1)),(3,(sv r9)),(4,qW.1.v),(5,(zi (k18:Int)))]/\List.drop k18 aN.Head=sW/\aF cs' [cZ k1 59 (zg [ae.v,bC.v]),aD ae aN.Head,gI bC aN.Atoms,bV qW.2 qW.1 bY]/\uX aN fuel r9 bY sW k18=some R) ⟨_,0,_,rfl,aJ,rfl,aI,hF⟩ ?_)
   rintro m16 _ _ ⟨g17,k18,sW,rfl,rfl,Am,hE,hF⟩
   refine Kb hE aN.Head (fun aeV=>?_)
   rcases sW with _|⟨x20,sW⟩
   · have acG:=dn Am
     rw[uX]at hF
     refine dB ?_
     refine dJ ?_
     refine bz ?_
     refine bnd hF fun x27 hx28 hF=>?_
     obtain⟨KA,KC⟩:=bq hx28
     refine ai (bu (s:=r9) (t:=[32,105,102,32]) (u:=x27) (.tmp rfl rfl) (.sv _) hx28) ?_
     refine bz ?_
     refine bF (bU (m:=aN.Atoms.length) (fun Et f' cs'=>∃(g:Fr)(iA:Nat)(jS:List aX)(c31:List UInt8),Et=jS.length/\f'=aH g [(1,(pz k1)),(3,(sv c31)),(6,(zi (iA:Int)))]/\List.drop iA aN.Atoms=jS/\aF cs' [cZ k1 59 (zg [ae.v,bC.v]),aD ae aN.Head,gI bC aN.Atoms]/\qa fuel jS iA c31=some R) ⟨_,0,_,_,rfl,aJ,rfl,aI,hF⟩ ?_)
     rintro Et _ _ ⟨g34,iA,jS,c31,rfl,rfl,hd38,hE,hF⟩
     refine Kb hE aN.Atoms (fun aai=>?_)
     rcases jS with _|⟨iy,jS⟩
     · have KV:=dn hd38
       rw[qa]at hF
       refine dB ?_
       refine dJ ?_
       exact ze hF
     obtain⟨KV,kG,KW⟩:=dD hd38
     rw[qa]at hF
     refine dB ?_
     refine dI ?_
     refine au ?_
     obtain⟨yG,JG,GH⟩:=bind_some hF
     refine kY (fun f' cs'=>∃(Es:List UInt8)(g:Fr),yG= .inr Es/\f'=aH g [(1,(pz k1)),(3,(sv Es)),(6,(zi (iA:Int)))]/\aF cs' [cZ k1 59 (zg [ae.v,bC.v]),aD ae aN.Head,gI bC aN.Atoms]) ?_ ?_
     · replace hF:=JG
       refine bF (dw (ai (n_ (off:=1) xI.h (.tmp rfl rfl)) ?_))
       refine aG ?_
       refine Ai kG (fun qR Hq=>?_)
       refine Ab (xq iy) zt (fun p48=>?_)
       refine bnd hF fun kM wu hF=>aB (Nw wu) (fun _=>?_)
       refine aC ?_
       refine ai (oJ (s:=kM) (t:=[]) (.tmp rfl rfl) (.sv _)) ?_
       refine au ?_
       refine Ci hF (fun ug hF=>?_) (fun ug hF=>?_)
       · refine aA ?_
         cases hF
         replace hF:=GH
         try dsimp only at hF
         exact ze hF
       refine bz ?_
       refine Ci hF (fun xZ hF=>?_) (fun xZ hF=>?_)
       · refine aG ?_
         refine bnd hF fun mH uu hF=>?_
         obtain⟨acH,acI⟩:=bq uu
         refine ai (bu (s:=c31) (t:=[32,97,110,100,32]) (u:=mH) (.tmp rfl rfl) (.sv _) uu) ?_
         refine aC ?_
         refine bnd hF fun Me ww hF=>?_
         obtain⟨agv,agw⟩:=bq ww
         refine ai (bu (s:=mH) (t:=kM) (u:=Me) (.tmp rfl rfl) (.tmp rfl rfl) ww) ?_
         exact aO hF
       refine aA ?_
       refine bnd hF fun AA RX hF=>?_
       obtain⟨agx,agy⟩:=bq RX
       refine ai (bu (s:=c31) (t:=kM) (u:=AA) (.tmp rfl rfl) (.tmp rfl rfl) RX) ?_
       exact aO hF
     rintro _ _ ⟨Es,g68,rfl,rfl,hE⟩
     replace hF:=GH
     try dsimp only at hF
     refine bg hE ?_
     refine aC ?_
     rw[wk iA]
     exact⟨_,cz _,_,iA+1,jS,_,rfl,aJ,KW,aI,hF⟩
   obtain⟨acG,jL,hd24⟩:=dD Am
   rw[uX]at hF
   refine dB ?_
   refine dI ?_
   refine bK ?_
   refine Ai jL (fun k69 j70=>?_)
   refine Al dE ?_
   refine bnd hF fun Td acJ hF=>bX (.cons .q4 .nil) (gm cu (fun _=>.nil) (bT Gl.h bG (Fg acJ))) (fun _=>?_)
   refine aG ?_
   refine Ci hF (fun acK hF=>?_) (fun acK hF=>?_)
   · exact ze hF
   refine bz ?_
   rw[wk k18]
   exact⟨_,cz _,_,k18+1,sW,rfl,aJ,hd24,aI,hF⟩
 refine ax ?_
 refine bnd hF fun pQ Kg hF=>dC (Iu Kg) (fun Mf=>?_)
 refine bz ?_
 refine bF (bU (m:=aN.Head.length) (fun Te f' cs'=>∃(g:Fr)(uM:Nat)(sZ:List Int),Te=sZ.length/\f'=aH g [(1,(pz k1)),(3,(sv [121,101,115])),(4,Mf.1.v),(5,(zi (uM:Int)))]/\List.drop uM aN.Head=sZ/\aF cs' [cZ k1 59 (zg [ae.v,bC.v]),aD ae aN.Head,gI bC aN.Atoms,bV Mf.2 Mf.1 pQ]/\wR aN fuel pQ sZ uM=some R) ⟨_,0,_,rfl,aJ,rfl,aI,hF⟩ ?_)
 rintro Te _ _ ⟨g81,uM,sZ,rfl,rfl,RY,hE,hF⟩
 refine Kb hE aN.Head (fun aeW=>?_)
 rcases sZ with _|⟨x84,sZ⟩
 · have acL:=dn RY
   rw[wR]at hF
   refine dB ?_
   refine dJ ?_
   refine bz ?_
   refine bnd hF fun x91 GI hF=>?_
   obtain⟨agz,agA⟩:=bq GI
   refine ai (bu (s:=[121,101,115]) (t:=[32,105,102,32]) (u:=x91) (.tmp rfl rfl) (.sv _) GI) ?_
   refine bz ?_
   refine bF (bU (m:=aN.Atoms.length) (fun Tg f' cs'=>∃(g:Fr)(pR:Nat)(si:List aX)(qV:List UInt8),Tg=si.length/\f'=aH g [(1,(pz k1)),(3,(sv qV)),(6,(zi (pR:Int)))]/\List.drop pR aN.Atoms=si/\aF cs' [cZ k1 59 (zg [ae.v,bC.v]),aD ae aN.Head,gI bC aN.Atoms]/\qb fuel si pR qV=some R) ⟨_,0,_,_,rfl,aJ,rfl,aI,hF⟩ ?_)
   rintro Tg _ _ ⟨g98,pR,si,qV,rfl,rfl,hd102,hE,hF⟩
   refine Kb hE aN.Atoms (fun adW=>?_)
   rcases si with _|⟨x101,si⟩
   · have aaj:=dn hd102
     rw[qb]at hF
     refine dB ?_
     refine dJ ?_
     exact ze hF
   obtain⟨aaj,hx104,aak⟩:=dD hd102
   rw[qb]at hF
   refine dB ?_
   refine dI ?_
   refine au ?_
   obtain⟨KU,Yu,Q4⟩:=bind_some hF
   refine kY (fun f' cs'=>∃(c130:List UInt8)(g:Fr),KU= .inr c130/\f'=aH g [(1,(pz k1)),(3,(sv c130)),(6,(zi (pR:Int)))]/\aF cs' [cZ k1 59 (zg [ae.v,bC.v]),aD ae aN.Head,gI bC aN.Atoms]) ?_ ?_
   · replace hF:=Yu
     refine bF (dw (ai (n_ (off:=1) xI.h (.tmp rfl rfl)) ?_))
     refine aG ?_
     refine Ai hx104 (fun agB agC=>?_)
     refine Ab (xq x101) zt (fun agD=>?_)
     refine bnd hF fun oZ hx114 hF=>aB (Nw hx114) (fun _=>?_)
     refine aC ?_
     refine ai (oJ (s:=oZ) (t:=[]) (.tmp rfl rfl) (.sv _)) ?_
     refine au ?_
     refine Ci hF (fun aal hF=>?_) (fun aal hF=>?_)
     · refine aA ?_
       cases hF
       replace hF:=Q4
       try dsimp only at hF
       exact ze hF
     refine bz ?_
     refine Ci hF (fun aam hF=>?_) (fun aam hF=>?_)
     · refine aG ?_
       refine bnd hF fun uj CK hF=>?_
       obtain⟨ZL,ZM⟩:=bq CK
       refine ai (bu (s:=qV) (t:=[32,97,110,100,32]) (u:=uj) (.tmp rfl rfl) (.sv _) CK) ?_
       refine aC ?_
       refine bnd hF fun nJ xP hF=>?_
       obtain⟨ZN,ZO⟩:=bq xP
       refine ai (bu (s:=uj) (t:=oZ) (u:=nJ) (.tmp rfl rfl) (.tmp rfl rfl) xP) ?_
       exact aO hF
     refine aA ?_
     refine bnd hF fun KT Gc hF=>?_
     obtain⟨aeX,aeY⟩:=bq Gc
     refine ai (bu (s:=qV) (t:=oZ) (u:=KT) (.tmp rfl rfl) (.tmp rfl rfl) Gc) ?_
     exact aO hF
   rintro _ _ ⟨c130,agE,rfl,rfl,hE⟩
   replace hF:=Q4
   try dsimp only at hF
   refine bg hE ?_
   refine aC ?_
   rw[wk pR]
   exact⟨_,cz _,_,pR+1,si,_,rfl,aJ,aak,aI,hF⟩
 obtain⟨acL,Gw,acM⟩:=dD RY
 rw[wR]at hF
 refine dB ?_
 refine dI ?_
 refine bK ?_
 refine Ai Gw (fun agF agG=>?_)
 refine Al dE ?_
 refine bnd hF fun RV aan hF=>bX (.cons .q4 .nil) (gm cu (fun _=>.nil) (bT Gl.h bG (Fg aan))) (fun _=>?_)
 refine aG ?_
 refine Ci hF (fun aao hF=>?_) (fun aao hF=>?_)
 · exact ze hF
 refine bz ?_
 rw[wk uM]
 exact⟨_,cz _,_,uM+1,sZ,rfl,aJ,acM,aI,hF⟩
def u7(aa:List Int)(aL:List UInt8)(r2:(List (List UInt8)))(fuel:Nat)(c148:List Int):Nat->(List aX)->Int->Option (bJ×Bool)
 |0,_,_=>none
 |yg+1,o_,c210=>if (decide ((c210:Int)<(r2.length:Int)))then (
     (ix r2 c210).bind fun DU=>
     (qh fuel DU).bind fun GJ=>
     (app o_ ([GJ]:List aX)).bind fun z229=>
     u7 aa aL r2 fuel c148 yg z229 (IntKind.i64.wrap (c210+2)))
   else (
     ((zu aa ({Head:=c148,Atoms:=o_}:bJ)).bind fun DV=>
       bif (!DV)then (some true)
       else ((yX fuel ({Head:=c148,Atoms:=o_}:bJ)).bind fun GK=>
         some (!(GK==aL)))).bind fun KX=>
     match KX with
     |Ao=>if Ao then (
         some (({Head:=[],Atoms:=[]}:bJ),false))
       else (
         some (({Head:=c148,Atoms:=o_}:bJ),true)))
def u_(aa:List Int)(aL:List UInt8)(r2:(List (List UInt8)))(fuel:Nat):List (List UInt8)->Nat->(List Int)->Option (bJ×Bool)
 |[],iV,c148=>u7 aa aL r2 fuel c148 (((r2.length:Int)-2).toNat+2) ([]:List aX) 2
 |DW::sj,iV,c148=>(qg fuel DW).bind fun GL=>
   (app c148 ([GL]:List Int)).bind fun RZ=>
   u_ aa aL r2 fuel sj (iV+1) RZ
def wS(aa:List Int)(aL:List UInt8)(r2:(List (List UInt8)))(fuel:Nat):Nat->(List aX)->Int->Option (bJ×Bool)
 |0,_,_=>none
 |yh+1,pg,mq=>if (decide ((mq:Int)<(r2.length:Int)))then (
     (ix r2 mq).bind fun DX=>
     (qh fuel DX).bind fun GM=>
     (app pg ([GM]:List aX)).bind fun R3=>
     wS aa aL r2 fuel yh R3 (IntKind.i64.wrap (mq+2)))
   else (
     ((zu aa ({Head:=[],Atoms:=pg}:bJ)).bind fun DY=>
       bif (!DY)then (some true)
       else ((yX fuel ({Head:=[],Atoms:=pg}:bJ)).bind fun GN=>
         some (!(GN==aL)))).bind fun KY=>
     match KY with
     |Ap=>if Ap then (
         some (({Head:=[],Atoms:=[]}:bJ),false))
       else (
         some (({Head:=[],Atoms:=pg}:bJ),true)))
def y7(fuel:Nat)(aa:List Int)(aL:List UInt8):Option (bJ×Bool):=
 (oq aL (32:UInt8)).bind fun r2=>
 (ix r2 0).bind fun x9=>
 if (!(x9==[121,101,115]))then (
   (ix r2 0).bind fun eB=>
   (oq eB (44:UInt8)).bind fun gz=>
   u_ aa aL r2 fuel gz 0 ([]:List Int))
 else (
   wS aa aL r2 fuel (((r2.length:Int)-2).toNat+2) ([]:List aX) 2)
theorem Ny{fuel:Nat}{aa:List Int}{ae:Sv}{aL:List UInt8}{R:bJ×Bool}(hF:y7 fuel aa aL=some R):
   Fw.Spec Tryz.prog 26 [ae.v,(sv aL)] [dR (b_ 3 aY) ae.v aa] (fun p:Sv×List Nat×Sv×List Nat=>(.tuple [(.agg [p.1.v,p.2.2.1.v].toArray),(.bool R.2)].toArray)) (fun p=>[bN (bL 3 (aK aY)) p.2.1 p.1.v R.1.Head,bN (bL 83 gu) p.2.2.2 p.2.2.1.v R.1.Atoms]):=by
 refine Fe (n:=66) Tryz.func26 rfl rfl (rs:=[.cell 4 59,.tmp 5]) rfl rfl rfl ?_
 intro H0 F0
 unfold y7 at hF
 refine dw (eF rfl (zB (g:=true) fe.h rfl rfl) (fun k1=>?_))
 refine ai (iO (v:=(.bool false)) (.bool _)) ?_
 refine dW (dw (Cm (sv aL) rfl rfl ?_))
 obtain⟨r2,hx3,hF⟩:=bind_some hF
 refine bX .nil (bT JU.h (.cons (.tmp rfl rfl) (.cons (.int _ _) .nil)) (@vI aL (32:UInt8) _ hx3)) (fun p4=>?_)
 refine Ca p4.1.v rfl rfl ?_
 refine dW (dw (ai (fH fe.h rfl (vs:=[]) .nil (cells:=[(.slice none 0 0),(.slice none 0 0)]) rfl) ?_))
 refine eF rfl (zB (g:=true) fe.h rfl rfl) (fun k5=>?_)
 refine bX (.cons .h .nil) (j5 (e':=(.agg ([(.slice none 0 0),(.slice none 0 0)]:List Value).toArray)) (v:=(.agg ([(.slice none 0 0),(.slice none 0 0)]:List Value).toArray)) fe.h.sz (.tmp rfl rfl) (.tmp rfl rfl) rfl rfl rfl rfl rfl) (fun _=>?_)
 refine dW (jw (dw (Cm p4.1.v rfl rfl ?_)))
 obtain⟨x9,iU,hF⟩:=bind_some hF
 have hi8:=oD iU
 obtain⟨acN,lu⟩:=lQ iU
 refine mJ fI.h gy.h.sz (.tmp rfl rfl) (.int _ _) (.t .h) hi8 (fun k6 hk7=>?_)
 refine tF (w:=(sv x9)) uD.h (.tmp rfl rfl) (.t .h) hk7 lu zX ?_
 refine ai (iP (s:=x9) (t:=[121,101,115]) (.tmp rfl rfl) (.sv _)) ?_
 refine dW (lN (b:=(!(x9==[121,101,115]))) (.tmp rfl rfl) (fun JH=>?_) (fun JH=>?_))
 · rw[if_pos JH]at hF
   refine dw (Cm p4.1.v rfl rfl ?_)
   obtain⟨eB,iT,hF⟩:=bind_some hF
   have acO:=oD iT
   obtain⟨ace,lq⟩:=lQ iT
   refine mJ fI.h gy.h.sz (.tmp rfl rfl) (.int _ _) (.t .h) acO (fun k13 acP=>?_)
   refine tF (w:=(sv eB)) uD.h (.tmp rfl rfl) (.t .h) acP lq zX ?_
   obtain⟨gz,iR,hF⟩:=bind_some hF
   refine bX .nil (bT JU.h (.cons (.tmp rfl rfl) (.cons (.int _ _) .nil)) (@vI eB (44:UInt8) _ iR)) (fun pU=>?_)
   refine Ca pU.1.v rfl rfl ?_
   refine dW (dw (ai (iO (v:=(.int .i64 0)) (.int _ _)) ?_))
   refine dW (bF (oK .h cu ?_))
   refine bU (m:=gz.length) (fun R4 f' cs'=>∃(g:Fr)(iV:Nat)(sj:List (List UInt8))(c148:List Int)(mr:Sv)(DZ:List Nat),R4=sj.length/\f'=aH g [(0,ae.v),(1,(sv aL)),(4,(.pointer (some ⟨k1,0,some 0⟩))),(6,p4.1.v),(7,(.pointer (some ⟨k5,0,some 0⟩))),(8,pU.1.v),(9,(.int .i64 (iV:Int)))]/\List.drop iV gz=sj/\aF cs' [dR (b_ 3 aY) ae.v aa,bW k1 59 (.agg ([(.slice none 0 0),(.slice none 0 0)]:List Value).toArray),bN (bL 9 (aK rdStr)) p4.2 p4.1.v r2,bW k5 59 (.agg [mr.v,(.slice none 0 0)].toArray),bN (bL 3 (aK aY)) DZ mr.v c148,dR (b_ 9 rdStr) pU.1.v gz]/\u_ aa aL r2 fuel sj iV c148=some R) ⟨_,0,_,_,⟨none,0,0⟩,[],rfl,(bB.cons rfl (bB.cons rfl (bB.cons rfl (bB.cons rfl (bB.cons rfl (bB.cons rfl (bB.cons rfl (bB.nil)))))))).eq,rfl,(.conv .nil (dV (Ro:=(aK aY)) (E:=3)) (.cons .nil) (.sel (.rd (.t (.t (.t (.t (.t .h))))) rfl (.cons (.t (.t (.t (.t .h)))) (.cons (.t (.t (.t .h))) (.cons (.t (.t .h)) (.cons .h (.rd .h rfl .nil)))))))),hF⟩ ?_
   clear hF
   rintro R4 _ _ ⟨agH,iV,sj,c148,mr,DZ,rfl,rfl,hd157,hE,hF⟩
   refine bg hE ?_
   clear hE
   refine Qw (c:=dR (b_ 9 rdStr) pU.1.v gz) (.t (.t (.t (.t (.t .h))))) O8 (fun adX=>?_)
   rcases sj with _|⟨DW,sj⟩
   · have aap:=List.drop_eq_nil_iff.1 hd157
     have Jm:(decide (((iV:Int):Int)<(gz.length:Int)))=false:=decide_eq_false (by omega)
     rw[u_]at hF
     refine jw (dw (Cm (.int .i64 (iV:Int)) rfl rfl ?_))
     refine Cm pU.1.v rfl rfl ?_
     refine iJ (.t (.t (.t (.t (.t .h))))) (fun hp=>oC (l:=gz.length) fI.h (.tmp rfl rfl) (zJ hp)) ?_
     refine ai (xM (i:=(iV:Int)) (j:=(gz.length:Int)) (.tmp rfl rfl) (.tmp rfl rfl)) ?_
     refine dW (lN (b:=(decide (((iV:Int):Int)<(gz.length:Int)))) (.tmp rfl rfl) (fun hb=>absurd (Jm.symm.trans hb) (by decide)) (fun _=>?_))
     refine Cr ?_
     iterate 2 refine BL ?_
     refine B_ (jw (dw (ai (iO (v:=(.int .i64 2)) (.int _ _)) ?_)))
     refine dW (bF (oK (.t (.t .h)) cu ?_))
     refine bU (m:=(((r2.length:Int)-2).toNat+2)) (fun yg f' cs'=>∃(g:Fr)(o_:List aX)(c210:Int)(v208:Sv)(GQ:List Nat),f'=aH g [(0,ae.v),(1,(sv aL)),(4,(.pointer (some ⟨k1,0,some 0⟩))),(6,p4.1.v),(7,(.pointer (some ⟨k5,0,some 0⟩))),(10,(.int .i64 c210))]/\aF cs' [dR (b_ 3 aY) ae.v aa,bW k1 59 (.agg ([(.slice none 0 0),(.slice none 0 0)]:List Value).toArray),dR (b_ 9 rdStr) p4.1.v r2,bW k5 59 (.agg [mr.v,v208.v].toArray),bN (bL 3 (aK aY)) DZ mr.v c148,bN (bL 83 gu) GQ v208.v o_]/\u7 aa aL r2 fuel c148 yg o_ c210=some R) ⟨_,_,_,⟨none,0,0⟩,[],(bB.cons rfl (bB.cons rfl (bB.cons rfl (bB.cons rfl (bB.cons rfl (bB.cons rfl (bB.nil))))))).eq,(.conv .nil (dV (Ro:=gu) (E:=83)) (.cons .nil) (.sel (.rd (.t (.t .h)) rfl (.cons (.t (.t (.t .h))) (.rd (.t .h) rfl (.cons (.t (.t (.t .h))) (.cons (.t (.t (.t .h))) (.cons .h .nil)))))))),hF⟩ ?_
     clear hF
     rintro yg _ _ ⟨agI,o_,c210,v208,GQ,rfl,hE,hF⟩
     refine bg hE ?_
     clear hE
     rcases yg with _|yg
     · rw[u7]at hF
       exact absurd hF (by simp)
     rw[u7]at hF
     refine jw (dw (Cm (.int .i64 c210) rfl rfl ?_))
     refine Cm p4.1.v rfl rfl ?_
     refine iJ (.t (.t .h)) (fun hp=>oC (l:=r2.length) fI.h (.tmp rfl rfl) (zJ hp)) ?_
     refine ai (xM (i:=c210) (j:=(r2.length:Int)) (.tmp rfl rfl) (.tmp rfl rfl)) ?_
     refine dW (lN (b:=(decide ((c210:Int)<(r2.length:Int)))) (.tmp rfl rfl) (fun JI=>?_) (fun JI=>?_))
     · rw[if_pos JI]at hF
       refine om (Cs (vR [0,1,2,3,4,5,6,7,8,9,10] [0,1,0,0,12,28,60,124,255,511,1023] [6,8,10] mixed (by decide+kernel) ?_))
       refine bn rfl .no (fun ha=>n_ (off:=1) xI.h (EN ha (.tmp rfl rfl) rfl)) ?_
       refine qy rfl .no (.t (.t (.t .h))) (fun ha hp=>l9 (v:=v208.v) Rj.h (EN ha (.tmp rfl rfl) rfl) hp.2 rfl rfl) ?_
       refine Dm p4.1.v rfl rfl rfl rfl ?_
       refine Dm (.int .i64 c210) rfl rfl rfl rfl ?_
       obtain⟨DU,aaq,hF⟩:=bind_some hF
       obtain⟨aar,aas⟩:=lQ aaq
       refine F8 (a:=DU) fI.h gy.h.sz rfl .no (.tmp rfl rfl) (.tmp rfl rfl) rfl rfl (.t (.t .h)) aar aas (fun agJ agK=>?_)
       refine F9 (w:=(sv DU)) uD.h rfl .no (.tmp rfl rfl) rfl .h fw ?_
       obtain⟨GJ,aat,hF⟩:=bind_some hF
       refine je rfl rfl .no .nil (.own (.t (.t (.t (.t .h)))) (fun _ h=>h) .nil) (fun ha=>bT Rk.h (.cons (EN ha (.tmp rfl rfl) rfl) .nil) (@Np fuel DU _ aat)) (fun R5=>?_)
       refine tJ rfl .no rfl (fun ha=>dN (g:=true) (len:=1) (parts:=[(0,.tmp 50)]) tY.h nI.h (.cons (EN ha (.tmp rfl rfl) rfl) .nil) (vs:=[(.agg [(.int .i64 GJ.Rel),R5.1.v].toArray)]) rfl rfl rfl (by intro v hv; simp at hv; rcases hv with rfl<;>rfl)) (fun agL=>?_)
       refine FT (.cons .h (.cons .h .nil)) (dP (Ro:=gu) (E:=83) (F:=(R5.2++[])) (xs:=([GJ]:List aX)) (dM Gi dO bP) rfl rfl) bP ?_
       obtain⟨z229,aau,hF⟩:=bind_some hF
       refine je rfl rfl .no (.cons (.t (.t (.t (.t (.t (.t (.t .h))))))) (.cons .h .nil)) (.dep rfl (.dep rfl .nil)) (fun ha=>iH (Ro:=gu) tY.h Gj nI.h rfl rfl rfl (EN ha (.tmp rfl rfl) rfl) (EN ha (.tmp rfl rfl) rfl) aau iI) (fun KZ=>?_)
       refine bn rfl .no (fun ha=>n_ (off:=1) xI.h (EN ha (.tmp rfl rfl) rfl)) ?_
       refine je rfl rfl .no (.cons (.t (.t (.t (.t (.t .h))))) .nil) (.dep rfl (.dep rfl .nil)) (fun ha=>j5 (e':=(.agg [mr.v,KZ.1.v].toArray)) Rl.h.sz (EN ha (.tmp rfl rfl) rfl) (EN ha (.tmp rfl rfl) rfl) rfl rfl rfl rfl rfl) (fun _=>?_)
       refine F6 (xn (Cm (.int .i64 c210) rfl rfl ?_))
       refine ai (xL (i:=c210) (j:=2) (.tmp rfl rfl) (.int _ _)) ?_
       refine Ca (.int .i64 (IntKind.i64.wrap (c210+2))) rfl rfl ?_
       refine dW ?_
       exact⟨yg,Nat.lt_succ_self _,_,_,_,KZ.1,KZ.2,(bB.cons rfl (bB.cons rfl (bB.cons rfl (bB.cons rfl (bB.cons rfl (bB.cons rfl (bB.nil))))))).eq,(.sel (.rd (.t (.t (.t .h))) rfl (.cons (.t (.t (.t (.t .h)))) (.rd (.t (.t (.t (.t .h)))) rfl (.cons .h (.cons (.t (.t (.t (.t .h)))) (.cons .h .nil))))))),hF⟩
     rw[if_neg (by rw[JI]; exact Bool.false_ne_true)]at hF
     refine Cr ?_
     iterate 2 refine BL ?_
     refine B_ (jw ?_)
     obtain⟨KX,Yv,Q5⟩:=bind_some hF
     refine dw (bZ (fun f' cs'=>∃(Ao:Bool)(g:Fr),Ao=KX/\f'=aH g [(4,(.pointer (some ⟨k1,0,some 0⟩))),(7,(.pointer (some ⟨k5,0,some 0⟩))),(63,(.bool Ao))]/\aF cs' [bW k1 59 (.agg ([(.slice none 0 0),(.slice none 0 0)]:List Value).toArray),bW k5 59 (.agg [mr.v,v208.v].toArray),bN (bL 3 (aK aY)) DZ mr.v c148,bN (bL 83 gu) GQ v208.v o_]) ?_ ?_)
     · replace hF:=Yv
       refine Cm ae.v rfl rfl ?_
       refine iJ (.t (.t (.t .h))) (fun hp=>nz jJ.h fe.h.sz rfl (.tmp rfl rfl) hp.2 rfl) ?_
       obtain⟨DV,aav,hF⟩:=bind_some hF
       refine oO (.cons (.t (.t (.t (.t (.t .h))))) (.cons (.t (.t (.t (.t .h)))) (.rd .h rfl .nil))) (vS (pre:=_) (.cons cu (.cons cu .nil)) (fun _=>.nil) (oF (.rd (.t (.t .h)) rfl (.rd .h rfl (.rd (.t .h) rfl .nil))) (bT Rm.h (.cons (.tmp rfl rfl) (.cons (.tmp rfl rfl) .nil)) (@Oj aa ae ({Head:=c148,Atoms:=o_}:bJ) mr v208 _ aav)))) (fun _=>?_)
       refine ai (zU (b:=DV) (.tmp rfl rfl)) ?_
       refine Cm (.bool (!DV)) rfl rfl ?_
       rcases Bool.eq_false_or_eq_true (!DV)with CU|CU
       · rw[CU]
         try rw[CU]at hF; dsimp only[cond_true,cond_false]at hF
         iterate 4 refine zV (t:=58) rfl rfl rfl ?_
         refine ai (sD (b:=true) (u:=(.bool true)) (v:=undef) (.tmp rfl rfl) (.bool _) (.tmp rfl rfl)) ?_
         refine dW ?_
         obtain rfl:=Option.some.inj hF
         exact⟨_,_,rfl,(bB.cons rfl (bB.cons rfl (bB.cons rfl (bB.nil)))).eq,(.sel (.cons (.t (.t (.t .h))) (.cons (.t (.t (.t (.t .h)))) (.cons (.t .h) (.cons .h .nil)))))⟩
       rw[CU]
       try rw[CU]at hF; dsimp only[cond_true,cond_false]at hF
       refine lg (t:=58) rfl rfl rfl ?_
       refine iJ (.t (.t (.t (.t (.t .h))))) (fun hp=>nz jJ.h fe.h.sz rfl (.tmp rfl rfl) hp.2 rfl) ?_
       refine lg (t:=58) rfl rfl rfl ?_
       obtain⟨GK,aaw,hF⟩:=bind_some hF
       refine oO (.cons .h (.cons .h .nil)) (vS (pre:=[]) (.cons cu (.cons cu .nil)) (fun _=>.nil) (bT Rn.h (.cons (.tmp rfl rfl) .nil) (@Nq fuel ({Head:=c148,Atoms:=o_}:bJ) mr v208 _ aaw))) (fun _=>?_)
       refine lg (t:=58) rfl rfl rfl ?_
       refine Cm (sv aL) rfl rfl ?_
       refine lg (t:=58) rfl rfl rfl ?_
       refine ai (iP (s:=GK) (t:=aL) (.tmp rfl rfl) (.tmp rfl rfl)) ?_
       refine ai (sD (b:=false) (u:=(.bool true)) (v:=(.bool (!(GK==aL)))) (.tmp rfl rfl) (.bool _) (.tmp rfl rfl)) ?_
       refine dW ?_
       obtain rfl:=Option.some.inj hF
       exact⟨_,_,rfl,(bB.cons rfl (bB.cons rfl (bB.cons rfl (bB.nil)))).eq,(.sel (.cons (.t (.t (.t .h))) (.cons (.t (.t (.t (.t .h)))) (.cons (.t .h) (.cons .h .nil)))))⟩
     rintro _ _ ⟨Ao,agM,rfl,rfl,hE⟩
     replace hF:=Q5
     clear Q5
     try dsimp only at hF
     refine bg hE ?_
     refine lN (b:=Ao) (.tmp rfl rfl) (fun JJ=>?_) (fun JJ=>?_)
     · rw[if_pos JJ]at hF
       refine dw (ai (fH fe.h rfl (vs:=[]) .nil (cells:=[(.slice none 0 0),(.slice none 0 0)]) rfl) ?_)
       refine bX (.cons .h .nil) (j5 (e':=(.agg ([(.slice none 0 0),(.slice none 0 0)]:List Value).toArray)) (v:=(.agg ([(.slice none 0 0),(.slice none 0 0)]:List Value).toArray)) fe.h.sz (.tmp rfl rfl) (.tmp rfl rfl) rfl rfl rfl rfl rfl) (fun _=>?_)
       refine ai (iO (v:=(.bool false)) (.bool _)) ?_
       refine dW (qw ?_)
       obtain rfl:=Option.some.inj hF
       exact dx (⟨none,0,0⟩,[],⟨none,0,0⟩,[]) (.cellA rfl rfl .h rfl jJ.h fe.h.sz rfl rfl (.tmp rfl rfl .nil)) rfl (.conv .nil (dV (Ro:=(aK aY)) (E:=3)) (.cons .nil) (.conv .nil (dV (Ro:=gu) (E:=83)) (.cons .nil) (.sel (.cons (.t .h) (.cons .h .nil)))))
     rw[if_neg (by rw[JJ]; exact Bool.false_ne_true)]at hF
     refine om (dw (iJ (.t .h) (fun hp=>nz jJ.h fe.h.sz rfl (.tmp rfl rfl) hp.2 rfl) ?_))
     refine bX (.cons .h .nil) (j5 (e':=(.agg [mr.v,v208.v].toArray)) (v:=(.agg [mr.v,v208.v].toArray)) fe.h.sz (.tmp rfl rfl) (.tmp rfl rfl) rfl rfl rfl rfl rfl) (fun _=>?_)
     refine ai (iO (v:=(.bool true)) (.bool _)) ?_
     refine dW (qw ?_)
     obtain rfl:=Option.some.inj hF
     exact dx (mr,DZ,v208,GQ) (.cellA rfl rfl .h rfl jJ.h fe.h.sz rfl rfl (.tmp rfl rfl .nil)) rfl (.sel (.cons (.t (.t .h)) (.cons (.t (.t .h)) .nil)))
   obtain⟨aap,hx159,hd160⟩:=dD hd157
   have Jm:(decide (((iV:Int):Int)<(gz.length:Int)))=true:=decide_eq_true (by omega)
   rw[u_]at hF
   refine jw (dw (Cm (.int .i64 (iV:Int)) rfl rfl ?_))
   refine Cm pU.1.v rfl rfl ?_
   refine iJ (.t (.t (.t (.t (.t .h))))) (fun hp=>oC (l:=gz.length) fI.h (.tmp rfl rfl) (zJ hp)) ?_
   refine ai (xM (i:=(iV:Int)) (j:=(gz.length:Int)) (.tmp rfl rfl) (.tmp rfl rfl)) ?_
   refine dW (lN (b:=(decide (((iV:Int):Int)<(gz.length:Int)))) (.tmp rfl rfl) (fun _=>?_) (fun hb=>absurd (Jm.symm.trans hb) (by decide)))
   refine om (Cs (vR [0,1,2,3,4,5,6,7,8,9,10] [0,1,0,0,12,28,60,124,255,511,1023] [6,8,10] mixed (by decide+kernel) ?_))
   refine bn rfl .no (fun ha=>n_ (off:=0) QC.h (EN ha (.tmp rfl rfl) rfl)) ?_
   refine qy rfl .no (.t (.t (.t .h))) (fun ha hp=>l9 (v:=mr.v) wh.h (EN ha (.tmp rfl rfl) rfl) hp.2 rfl rfl) ?_
   refine Dm pU.1.v rfl rfl rfl rfl ?_
   refine Dm (.int .i64 (iV:Int)) rfl rfl rfl rfl ?_
   refine F8 (a:=DW) fI.h gy.h.sz rfl .no (.tmp rfl rfl) (.tmp rfl rfl) rfl rfl (.t (.t (.t (.t (.t .h))))) (Int.natCast_nonneg iV) hx159 (fun agN agO=>?_)
   refine F9 (w:=(sv DW)) uD.h rfl .no (.tmp rfl rfl) rfl .h fw ?_
   obtain⟨GL,aax,hF⟩:=bind_some hF
   refine nD rfl rfl .no .nil (.own (.t (.t (.t (.t .h)))) (fun _ h=>h) .nil) (fun ha=>bT Ri.h (.cons (EN ha (.tmp rfl rfl) rfl) .nil) (@Nn fuel DW _ aax)) (fun _=>?_)
   refine tJ rfl .no rfl (fun ha=>dN (g:=true) (len:=1) (parts:=[(0,.tmp 34)]) eZ.h ek.h (.cons (EN ha (.tmp rfl rfl) rfl) .nil) (vs:=[(.int .i64 GL)]) rfl rfl rfl (by intro v hv; simp at hv; rcases hv with rfl<;>rfl)) (fun agP=>?_)
   refine FT (.cons .h .nil) (dP (Ro:=(aK aY)) (E:=3) (F:=([]++[])) (xs:=([GL]:List Int)) (dM (eP (fun _=>rfl)) dO bP) rfl rfl) bP ?_
   obtain⟨RZ,aay,hF⟩:=bind_some hF
   refine je rfl rfl .no (.cons (.t (.t (.t (.t (.t (.t .h)))))) (.cons .h .nil)) (.dep rfl (.dep rfl .nil)) (fun ha=>iH (Ro:=(aK aY)) eZ.h mQ ek.h rfl rfl rfl (EN ha (.tmp rfl rfl) rfl) (EN ha (.tmp rfl rfl) rfl) aay iI) (fun K3=>?_)
   refine bn rfl .no (fun ha=>n_ (off:=0) QC.h (EN ha (.tmp rfl rfl) rfl)) ?_
   refine je rfl rfl .no (.cons (.t (.t (.t (.t (.t .h))))) .nil) (.dep rfl (.dep rfl .nil)) (fun ha=>j5 (e':=(.agg [K3.1.v,(.slice none 0 0)].toArray)) De.h.sz (EN ha (.tmp rfl rfl) rfl) (EN ha (.tmp rfl rfl) rfl) rfl rfl rfl rfl rfl) (fun _=>?_)
   refine F6 (xn (Cm (.int .i64 (iV:Int)) rfl rfl ?_))
   refine ai (xL (i:=(iV:Int)) (j:=1) (.tmp rfl rfl) (.int _ _)) ?_
   refine Ca (.int .i64 (IntKind.i64.wrap ((iV:Int)+1))) rfl rfl ?_
   refine dW ?_
   have aaz:IntKind.i64.wrap ((iV:Int)+1)=((iV+1:Nat):Int):=by rw[dU (by omega) (by omega)]; rfl
   rw[aaz]
   exact⟨_,Nat.lt_succ_self _,_,iV+1,sj,_,K3.1,K3.2,rfl,(bB.cons rfl (bB.cons rfl (bB.cons rfl (bB.cons rfl (bB.cons rfl (bB.cons rfl (bB.cons rfl (bB.nil)))))))).eq,hd160,(.sel (.rd (.t (.t (.t .h))) rfl (.cons (.t (.t (.t (.t .h)))) (.cons (.t (.t (.t (.t .h)))) (.cons .h (.cons .h (.rd (.t (.t .h)) rfl .nil))))))),hF⟩
 rw[if_neg (by rw[JH]; exact Bool.false_ne_true)]at hF
 refine om (jw (dw (ai (iO (v:=(.int .i64 2)) (.int _ _)) ?_)))
 refine dW (bF (oK (.t .h) cu ?_))
 refine bU (m:=(((r2.length:Int)-2).toNat+2)) (fun yh f' cs'=>∃(g:Fr)(pg:List aX)(mq:Int)(pq:Sv)(GR:List Nat),f'=aH g [(0,ae.v),(1,(sv aL)),(4,(.pointer (some ⟨k1,0,some 0⟩))),(6,p4.1.v),(7,(.pointer (some ⟨k5,0,some 0⟩))),(10,(.int .i64 mq))]/\aF cs' [dR (b_ 3 aY) ae.v aa,bW k1 59 (.agg ([(.slice none 0 0),(.slice none 0 0)]:List Value).toArray),dR (b_ 9 rdStr) p4.1.v r2,bW k5 59 (.agg [(.slice none 0 0),pq.v].toArray),bN (bL 83 gu) GR pq.v pg]/\wS aa aL r2 fuel yh pg mq=some R) ⟨_,_,_,⟨none,0,0⟩,[],(bB.cons rfl (bB.cons rfl (bB.cons rfl (bB.cons rfl (bB.cons rfl (bB.cons rfl (bB.nil))))))).eq,(.conv .nil (dV (Ro:=gu) (E:=83)) (.cons .nil) (.sel (.rd (.t (.t (.t (.t .h)))) rfl (.cons (.t (.t (.t .h))) (.rd (.t .h) rfl (.cons (.t (.t .h)) (.cons .h .nil))))))),hF⟩ ?_
 clear hF
 rintro yh _ _ ⟨agQ,pg,mq,pq,GR,rfl,hE,hF⟩
 refine bg hE ?_
 clear hE
 rcases yh with _|yh
 · rw[wS]at hF
   exact absurd hF (by simp)
 rw[wS]at hF
 refine jw (dw (Cm (.int .i64 mq) rfl rfl ?_))
 refine Cm p4.1.v rfl rfl ?_
 refine iJ (.t (.t .h)) (fun hp=>oC (l:=r2.length) fI.h (.tmp rfl rfl) (zJ hp)) ?_
 refine ai (xM (i:=mq) (j:=(r2.length:Int)) (.tmp rfl rfl) (.tmp rfl rfl)) ?_
 refine dW (lN (b:=(decide ((mq:Int)<(r2.length:Int)))) (.tmp rfl rfl) (fun JK=>?_) (fun JK=>?_))
 · rw[if_pos JK]at hF
   refine om (Cs (vR [0,1,2,3,4,5,6,7,8,9,10] [0,1,0,0,12,28,60,124,255,511,1023] [6,8,10] mixed (by decide+kernel) ?_))
   refine bn rfl .no (fun ha=>n_ (off:=1) xI.h (EN ha (.tmp rfl rfl) rfl)) ?_
   refine qy rfl .no (.t (.t (.t .h))) (fun ha hp=>l9 (v:=pq.v) Rj.h (EN ha (.tmp rfl rfl) rfl) hp.2 rfl rfl) ?_
   refine Dm p4.1.v rfl rfl rfl rfl ?_
   refine Dm (.int .i64 mq) rfl rfl rfl rfl ?_
   obtain⟨DX,aaA,hF⟩:=bind_some hF
   obtain⟨aaB,aaC⟩:=lQ aaA
   refine F8 (a:=DX) fI.h gy.h.sz rfl .no (.tmp rfl rfl) (.tmp rfl rfl) rfl rfl (.t (.t .h)) aaB aaC (fun agR agS=>?_)
   refine F9 (w:=(sv DX)) uD.h rfl .no (.tmp rfl rfl) rfl .h fw ?_
   obtain⟨GM,aaD,hF⟩:=bind_some hF
   refine je rfl rfl .no .nil (.own (.t (.t (.t (.t .h)))) (fun _ h=>h) .nil) (fun ha=>bT Rk.h (.cons (EN ha (.tmp rfl rfl) rfl) .nil) (@Np fuel DX _ aaD)) (fun R6=>?_)
   refine tJ rfl .no rfl (fun ha=>dN (g:=true) (len:=1) (parts:=[(0,.tmp 50)]) tY.h nI.h (.cons (EN ha (.tmp rfl rfl) rfl) .nil) (vs:=[(.agg [(.int .i64 GM.Rel),R6.1.v].toArray)]) rfl rfl rfl (by intro v hv; simp at hv; rcases hv with rfl<;>rfl)) (fun agT=>?_)
   refine FT (.cons .h (.cons .h .nil)) (dP (Ro:=gu) (E:=83) (F:=(R6.2++[])) (xs:=([GM]:List aX)) (dM Gi dO bP) rfl rfl) bP ?_
   obtain⟨R3,aaE,hF⟩:=bind_some hF
   refine je rfl rfl .no (.cons (.t (.t (.t (.t (.t (.t .h)))))) (.cons .h .nil)) (.dep rfl (.dep rfl .nil)) (fun ha=>iH (Ro:=gu) tY.h Gj nI.h rfl rfl rfl (EN ha (.tmp rfl rfl) rfl) (EN ha (.tmp rfl rfl) rfl) aaE iI) (fun K4=>?_)
   refine bn rfl .no (fun ha=>n_ (off:=1) xI.h (EN ha (.tmp rfl rfl) rfl)) ?_
   refine je rfl rfl .no (.cons (.t (.t (.t (.t (.t .h))))) .nil) (.dep rfl (.dep rfl .nil)) (fun ha=>j5 (e':=(.agg [(.slice none 0 0),K4.1.v].toArray)) Rl.h.sz (EN ha (.tmp rfl rfl) rfl) (EN ha (.tmp rfl rfl) rfl) rfl rfl rfl rfl rfl) (fun _=>?_)
   refine F6 (xn (Cm (.int .i64 mq) rfl rfl ?_))
   refine ai (xL (i:=mq) (j:=2) (.tmp rfl rfl) (.int _ _)) ?_
   refine Ca (.int .i64 (IntKind.i64.wrap (mq+2))) rfl rfl ?_
   refine dW ?_
   exact⟨yh,Nat.lt_succ_self _,_,_,_,K4.1,K4.2,(bB.cons rfl (bB.cons rfl (bB.cons rfl (bB.cons rfl (bB.cons rfl (bB.cons rfl (bB.nil))))))).eq,(.sel (.rd (.t (.t (.t .h))) rfl (.cons (.t (.t (.t (.t .h)))) (.rd (.t (.t (.t (.t .h)))) rfl (.cons .h (.cons .h .nil)))))),hF⟩
 rw[if_neg (by rw[JK]; exact Bool.false_ne_true)]at hF
 refine Cr ?_
 iterate 2 refine BL ?_
 refine B_ (jw ?_)
 obtain⟨KY,Yw,Q6⟩:=bind_some hF
 refine dw (bZ (fun f' cs'=>∃(Ap:Bool)(g:Fr),Ap=KY/\f'=aH g [(4,(.pointer (some ⟨k1,0,some 0⟩))),(7,(.pointer (some ⟨k5,0,some 0⟩))),(63,(.bool Ap))]/\aF cs' [bW k1 59 (.agg ([(.slice none 0 0),(.slice none 0 0)]:List Value).toArray),bW k5 59 (.agg [(.slice none 0 0),pq.v].toArray),bN (bL 83 gu) GR pq.v pg]) ?_ ?_)
 · replace hF:=Yw
   refine Cm ae.v rfl rfl ?_
   refine iJ (.t (.t (.t .h))) (fun hp=>nz jJ.h fe.h.sz rfl (.tmp rfl rfl) hp.2 rfl) ?_
   refine zQ .nil (zR (R:=aY) (E:=3)) bP ?_
   obtain⟨DY,aaF,hF⟩:=bind_some hF
   refine bX (.cons (.t (.t (.t (.t (.t .h))))) (.rd (.t .h) rfl (.rd .h rfl .nil))) (gm cu (fun _=>.nil) (oF (.rd (.t .h) rfl (.rd (.t (.t .h)) rfl (.rd .h rfl .nil))) (bT Rm.h (.cons (.tmp rfl rfl) (.cons (.tmp rfl rfl) .nil)) (@Oj aa ae ({Head:=[],Atoms:=pg}:bJ) (⟨none,0,0⟩) pq _ aaF)))) (fun _=>?_)
   refine ai (zU (b:=DY) (.tmp rfl rfl)) ?_
   refine Cm (.bool (!DY)) rfl rfl ?_
   rcases Bool.eq_false_or_eq_true (!DY)with CV|CV
   · rw[CV]
     try rw[CV]at hF; dsimp only[cond_true,cond_false]at hF
     iterate 4 refine zV (t:=58) rfl rfl rfl ?_
     refine ai (sD (b:=true) (u:=(.bool true)) (v:=undef) (.tmp rfl rfl) (.bool _) (.tmp rfl rfl)) ?_
     refine dW ?_
     obtain rfl:=Option.some.inj hF
     exact⟨_,_,rfl,(bB.cons rfl (bB.cons rfl (bB.cons rfl (bB.nil)))).eq,(.sel (.cons (.t (.t (.t .h))) (.cons (.t (.t (.t (.t .h)))) (.cons .h .nil))))⟩
   rw[CV]
   try rw[CV]at hF; dsimp only[cond_true,cond_false]at hF
   refine lg (t:=58) rfl rfl rfl ?_
   refine iJ (.t (.t (.t (.t (.t .h))))) (fun hp=>nz jJ.h fe.h.sz rfl (.tmp rfl rfl) hp.2 rfl) ?_
   refine lg (t:=58) rfl rfl rfl ?_
   obtain⟨GN,aaG,hF⟩:=bind_some hF
   refine bX (.cons .h (.rd .h rfl .nil)) (gm cu (fun _=>.nil) (oF (.rd (.t .h) rfl (.rd .h rfl .nil)) (bT Rn.h (.cons (.tmp rfl rfl) .nil) (@Nq fuel ({Head:=[],Atoms:=pg}:bJ) (⟨none,0,0⟩) pq _ aaG)))) (fun _=>?_)
   refine lg (t:=58) rfl rfl rfl ?_
   refine Cm (sv aL) rfl rfl ?_
   refine lg (t:=58) rfl rfl rfl ?_
   refine ai (iP (s:=GN) (t:=aL) (.tmp rfl rfl) (.tmp rfl rfl)) ?_
   refine ai (sD (b:=false) (u:=(.bool true)) (v:=(.bool (!(GN==aL)))) (.tmp rfl rfl) (.bool _) (.tmp rfl rfl)) ?_
   refine dW ?_
   obtain rfl:=Option.some.inj hF
   exact⟨_,_,rfl,(bB.cons rfl (bB.cons rfl (bB.cons rfl (bB.nil)))).eq,(.sel (.cons (.t (.t (.t .h))) (.cons (.t (.t (.t (.t .h)))) (.cons .h .nil))))⟩
 rintro _ _ ⟨Ap,agU,rfl,rfl,hE⟩
 replace hF:=Q6
 clear Q6
 try dsimp only at hF
 refine bg hE ?_
 refine lN (b:=Ap) (.tmp rfl rfl) (fun JL=>?_) (fun JL=>?_)
 · rw[if_pos JL]at hF
   refine dw (ai (fH fe.h rfl (vs:=[]) .nil (cells:=[(.slice none 0 0),(.slice none 0 0)]) rfl) ?_)
   refine bX (.cons .h .nil) (j5 (e':=(.agg ([(.slice none 0 0),(.slice none 0 0)]:List Value).toArray)) (v:=(.agg ([(.slice none 0 0),(.slice none 0 0)]:List Value).toArray)) fe.h.sz (.tmp rfl rfl) (.tmp rfl rfl) rfl rfl rfl rfl rfl) (fun _=>?_)
   refine ai (iO (v:=(.bool false)) (.bool _)) ?_
   refine dW (qw ?_)
   obtain rfl:=Option.some.inj hF
   exact dx (⟨none,0,0⟩,[],⟨none,0,0⟩,[]) (.cellA rfl rfl .h rfl jJ.h fe.h.sz rfl rfl (.tmp rfl rfl .nil)) rfl (.conv .nil (dV (Ro:=(aK aY)) (E:=3)) (.cons .nil) (.conv .nil (dV (Ro:=gu) (E:=83)) (.cons .nil) (.sel (.cons (.t .h) (.cons .h .nil)))))
 rw[if_neg (by rw[JL]; exact Bool.false_ne_true)]at hF
 refine om (dw (iJ (.t .h) (fun hp=>nz jJ.h fe.h.sz rfl (.tmp rfl rfl) hp.2 rfl) ?_))
 refine bX (.cons .h .nil) (j5 (e':=(.agg [(.slice none 0 0),pq.v].toArray)) (v:=(.agg [(.slice none 0 0),pq.v].toArray)) fe.h.sz (.tmp rfl rfl) (.tmp rfl rfl) rfl rfl rfl rfl rfl) (fun _=>?_)
 refine ai (iO (v:=(.bool true)) (.bool _)) ?_
 refine dW (qw ?_)
 obtain rfl:=Option.some.inj hF
 exact dx (⟨none,0,0⟩,[],pq,GR) (.cellA rfl rfl .h rfl jJ.h fe.h.sz rfl rfl (.tmp rfl rfl .nil)) rfl (.conv .nil (dV (Ro:=(aK aY)) (E:=3)) (.cons .nil) (.sel (.cons .h (.cons (.t (.t .h)) .nil))))
def zy(fuel:Nat)(aa:List Int)(bM:Event):Option (Bool):=
 if ((bM.Kind:Int)==1)then (
   (Bl fuel aa bM.Text).bind fun r2=>
   some r2.2)
 else (
   if ((bM.Kind:Int)==2)then (
     (BD fuel aa bM.Text).bind fun r5=>
     some r5.2)
   else (
     if ((bM.Kind:Int)==3)then (
       if ((bM.Kind:Int)==3)then (
         (y_ fuel aa bM.Text).bind fun r8=>
         some r8.2)
       else (
         if ((bM.Kind:Int)==5)then (
           (ql fuel bM.Text).bind fun kC=>
           (bif kC.2 then ((dZ kC.1 1 100).bind fun gB=>
               some gB)
             else (some false)).bind fun kL=>
           match kL with
           |c20=>some c20)
         else (
           if ((bM.Kind:Int)==6)then (
             (y7 fuel aa bM.Text).bind fun iF=>
             some iF.2)
           else (
             some false))))
     else (
       if ((bM.Kind:Int)==4)then (
         (y_ fuel aa bM.Text).bind fun nN=>
         some nN.2)
       else (
         if ((bM.Kind:Int)==5)then (
           (ql fuel bM.Text).bind fun ja=>
           (bif ja.2 then ((dZ ja.1 1 100).bind fun qX=>
               some qX)
             else (some false)).bind fun Mg=>
           match Mg with
           |c40=>some c40)
         else (
           if ((bM.Kind:Int)==6)then (
             (y7 fuel aa bM.Text).bind fun AJ=>
             some AJ.2)
           else (
             some false))))))
theorem VC{fuel:Nat}{aa:List Int}{ae:Sv}{bM:Event}{R:Bool}(hF:zy fuel aa bM=some R):
   Fw.Spec Tryz.prog 7 [ae.v,(zg [(zi bM.Kind),(sv bM.Text)])] [aD ae aa] (fun _:Unit=>(.bool R)) (fun _=>[]):=by
 refine Se 61 Tryz.func7 [.tmp 4] ?_
 intro H0 F0
 unfold zy at hF
 refine au ?_
 refine fJ (fun k1=>?_)
 refine jT ?_
 refine bF (dw (ai (FX (i:=bM.Kind) (j:=1) (.tmp rfl rfl) (.int _ _)) ?_))
 refine aG ?_
 refine Ci hF (fun acQ hF=>?_) (fun acQ hF=>?_)
 · refine aA ?_
   refine bnd hF fun r2 hx3 hF=>dC (Ux hx3) (fun p4=>?_)
   refine au ?_
   refine zx ?_
   refine zx ?_
   exact ze hF
 refine aA ?_
 refine Ci hF (fun K5 hF=>?_) (fun K5 hF=>?_)
 · refine aA ?_
   refine bnd hF fun r5 hx6 hF=>dC (U_ hx6) (fun p7=>?_)
   refine au ?_
   refine zx ?_
   refine zx ?_
   exact ze hF
 refine aC ?_
 refine Ci hF (fun hb48 hF=>?_) (fun hb48 hF=>?_)
 · refine au ?_
   refine Ci hF (fun K6 hF=>?_) (fun K6 hF=>?_)
   · refine aA ?_
     refine bnd hF fun r8 bS hF=>dC (NE bS) (fun p10=>?_)
     refine au ?_
     refine zx ?_
     refine zx ?_
     exact ze hF
   refine aA ?_
   refine Ci hF (fun yc hF=>?_) (fun yc hF=>?_)
   · refine ax ?_
     refine bnd hF fun kC lu hF=>aB (Ik lu) (fun _=>?_)
     refine au ?_
     refine zx ?_
     refine zx ?_
     refine ax ?_
     obtain⟨kL,xO,xU⟩:=bind_some hF
     refine au ?_
     refine bZ (fun f' cs'=>∃(c20:Bool)(g:Fr),c20=kL/\f'=aH g [(5,(.bool c20))]/\aF cs' []) ?_ ?_
     · replace hF:=xO
       refine aG ?_
       rcases a_ kC.2 with gP|gP
       · rw[gP]
         try rw[gP]at hF; dsimp only[ak,aj]at hF
         refine ax ?_
         refine bnd hF fun gB jX hF=>aB (fq jX) (fun _=>?_)
         exact aO hF
       rw[gP]
       try rw[gP]at hF; dsimp only[ak,aj]at hF
       exact aO hF
     rintro _ _ ⟨c20,g21,rfl,rfl,hE⟩
     replace hF:=xU
     try dsimp only at hF
     refine bg hE ?_
     exact ze hF
   refine aA ?_
   refine Ci hF (fun uq hF=>?_) (fun uq hF=>?_)
   · refine aA ?_
     refine bnd hF fun iF jL hF=>Ei (Ny jL) (fun LG=>?_)
     refine au ?_
     refine zx ?_
     refine zx ?_
     exact ze hF
   exact ze hF
 refine aA ?_
 refine Ci hF (fun Dy hF=>?_) (fun Dy hF=>?_)
 · refine aA ?_
   refine bnd hF fun nN hx29 hF=>dC (NE hx29) (fun p30=>?_)
   refine au ?_
   refine zx ?_
   refine zx ?_
   exact ze hF
 refine aA ?_
 refine Ci hF (fun acR hF=>?_) (fun acR hF=>?_)
 · refine ax ?_
   refine bnd hF fun ja hx32 hF=>aB (Ik hx32) (fun _=>?_)
   refine au ?_
   refine zx ?_
   refine zx ?_
   refine ax ?_
   obtain⟨Mg,aaH,acS⟩:=bind_some hF
   refine au ?_
   refine bZ (fun f' cs'=>∃(c40:Bool)(g:Fr),c40=Mg/\f'=aH g [(5,(.bool c40))]/\aF cs' []) ?_ ?_
   · replace hF:=aaH
     refine aG ?_
     rcases a_ ja.2 with D5|D5
     · rw[D5]
       try rw[D5]at hF; dsimp only[ak,aj]at hF
       refine ax ?_
       refine bnd hF fun qX hx38 hF=>aB (fq hx38) (fun _=>?_)
       exact aO hF
     rw[D5]
     try rw[D5]at hF; dsimp only[ak,aj]at hF
     exact aO hF
   rintro _ _ ⟨c40,LQ,rfl,rfl,hE⟩
   replace hF:=acS
   try dsimp only at hF
   refine bg hE ?_
   exact ze hF
 refine aA ?_
 refine Ci hF (fun acT hF=>?_) (fun acT hF=>?_)
 · refine aA ?_
   refine bnd hF fun AJ iL hF=>Ei (Ny iL) (fun p44=>?_)
   refine au ?_
   refine zx ?_
   refine zx ?_
   exact ze hF
 exact ze hF
end Go.Proofs.YtcjkjmnbdlnojaaGreatDoor
