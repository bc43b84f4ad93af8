/-  aQ the library's Itoa does: the shelf's contract, laid here. -/
import Derived.Shelf.Strconv.Itoa0
import Derived.Shelf.Strconv.Itoa1
import Derived.Shelf.LaysM
import Derived.Shelf.Strconv.Itoa2
import Derived.Shelf.Strconv.Itoa3
import Derived.Test.YthjhkpgonleelaaGreatDoorProg
import Derived.Test.YthjhkpgonleelaaGreatDoorLFE
set_option maxRecDepth 100000
set_option linter.unusedVariables false
namespace Go.Proofs.YthjhkpgonleelaaGreatDoor.Ev
open Go Go.Shelf Go.Proofs
def A1u:Go.Shelf.Ren:=⟨λ|171=>44|243=>68|246=>130|283=>170|284=>171|285=>172|286=>173|129=>200|317=>199|318=>201|319=>202|320=>203|337=>216|338=>217|n=>n,λ|3=>3|9=>9|2=>2|4=>4|171=>233|0=>0|53=>234|37=>237|5=>5|173=>238|212=>255|51=>256|20=>20|213=>257|46=>258|232=>281|233=>282|n=>n,λ|17=>1|18=>2|19=>3|n=>n⟩
theorem Bet:Go.Proofs.LaysM.n171 Tryz.prog A1u:= {
 mixed:=by kernel_rfl
 f129:= Tryz.func200.trans (congrArg some (by kernel_rfl))
 f171:= Tryz.func44.trans (congrArg some (by kernel_rfl))
 f243:= Tryz.func68.trans (congrArg some (by kernel_rfl))
 f246:= Tryz.func130.trans (congrArg some (by kernel_rfl))
 f283:= Tryz.func170.trans (congrArg some (by kernel_rfl))
 f284:= Tryz.func171.trans (congrArg some (by kernel_rfl))
 f285:= Tryz.func172.trans (congrArg some (by kernel_rfl))
 f286:= Tryz.func173.trans (congrArg some (by kernel_rfl))
 f317:= Tryz.func199.trans (congrArg some (by kernel_rfl))
 f318:= Tryz.func201.trans (congrArg some (by kernel_rfl))
 f319:= Tryz.func202.trans (congrArg some (by kernel_rfl))
 f320:= Tryz.func203.trans (congrArg some (by kernel_rfl))
 f337:= Tryz.func216.trans (congrArg some (by kernel_rfl))
 f338:= Tryz.func217.trans (congrArg some (by kernel_rfl))
 t0:= Tryz.underlying0
 a0:= Tryz.isAgg0
 z0:= Tryz.sizeOf0
 v0:= Tryz.zeroValue0
 t2:= Tryz.underlying2
 a2:= Tryz.isAgg2
 z2:= Tryz.sizeOf2
 v2:= Tryz.zeroValue2
 t3:= Tryz.underlying3
 a3:= Tryz.isAgg3
 z3:= Tryz.sizeOf3
 v3:= Tryz.zeroValue3
 t4:= Tryz.underlying4
 a4:= Tryz.isAgg4
 z4:= Tryz.sizeOf4
 v4:= Tryz.zeroValue4
 t5:= Tryz.underlying5
 a5:= Tryz.isAgg5
 z5:= Tryz.sizeOf5
 v5:= Tryz.zeroValue5
 t9:= Tryz.underlying9
 a9:= Tryz.isAgg9
 z9:= Tryz.sizeOf9
 v9:= Tryz.zeroValue9
 t20:= Tryz.underlying20
 a20:= Tryz.isAgg20
 z20:= Tryz.sizeOf20
 v20:= Tryz.zeroValue20
 t37:= Tryz.underlying237
 a37:= Tryz.isAgg237
 z37:= Tryz.sizeOf237
 v37:= Tryz.zeroValue237
 t46:= Tryz.underlying258
 a46:= Tryz.isAgg258
 z46:= Tryz.sizeOf258
 v46:= Tryz.zeroValue258
 t51:= Tryz.underlying256
 a51:= Tryz.isAgg256
 z51:= Tryz.sizeOf256
 v51:= Tryz.zeroValue256
 t53:= Tryz.underlying234
 a53:= Tryz.isAgg234
 z53:= Tryz.sizeOf234
 v53:= Tryz.zeroValue234
 t171:= Tryz.underlying233
 a171:= Tryz.isAgg233
 z171:= Tryz.sizeOf233
 v171:= Tryz.zeroValue233
 t173:= Tryz.underlying238
 a173:= Tryz.isAgg238
 z173:= Tryz.sizeOf238
 v173:= Tryz.zeroValue238
 t212:= Tryz.underlying255
 a212:= Tryz.isAgg255
 z212:= Tryz.sizeOf255
 v212:= Tryz.zeroValue255
 t213:= Tryz.underlying257
 a213:= Tryz.isAgg257
 z213:= Tryz.sizeOf257
 t232:= Tryz.underlying281
 a232:= Tryz.isAgg281
 z232:= Tryz.sizeOf281
 v232:= Tryz.zeroValue281
 t233:= Tryz.underlying282
 a233:= Tryz.isAgg282
 z233:= Tryz.sizeOf282
 v233:= Tryz.zeroValue282
 g17:=by kernel_rfl
 g18:=by kernel_rfl
 g19:=by kernel_rfl
 i0:=by kernel_rfl
 i2:=by kernel_rfl
 i3:=by kernel_rfl
 i4:=by kernel_rfl
 i5:=by kernel_rfl
 i9:=by kernel_rfl
 i20:=by kernel_rfl
 i37:=by kernel_rfl
 i46:=by kernel_rfl
 i51:=by kernel_rfl
 i53:=by kernel_rfl
 i171:=by kernel_rfl
 i173:=by kernel_rfl
 i212:=by kernel_rfl
 i232:=by kernel_rfl
 i233:=by kernel_rfl
 m17:=by kernel_rfl
 m18:=by kernel_rfl
 m19:=by kernel_rfl }
theorem A1v(n:Int)(h0: -9223372036854775808<=n)(h1:n<=9223372036854775807)(w:World)(htab:Lib.TabIs Tryz.prog w "internal/strconv.uint64pow10" .u64 Lib.pow10Tab):
  Calls Tryz.prog 44 #[.int .i64 n] w λe w'=>e=.returned (.string ⟨(Lib.itoa n).toArray⟩)/\∃k os,w'=Go.Sort.grow (w.drewN k) os:=Any.strconv_Itoa Bet n h0 h1 w htab
end Go.Proofs.YthjhkpgonleelaaGreatDoor.Ev
namespace Go.Proofs.YthjhkpgonleelaaGreatDoor.Ev
open Go
def Bw9(n:Int):Yb:=⟨(Lib.itoa n).toArray⟩
theorem Btm: Tryz.prog.globalNamed "internal/strconv.uint64pow10" =some 1:=by kernel_rfl
theorem B0e:ga1=Lib.pow10Tab.map λz=>Value.int .u64 z:=by simp[ga1,Lib.pow10Tab,List.range,List.range.loop]
theorem Btn(n:Int)(h0: -9223372036854775808<=n)(h1:n<=9223372036854775807):W3 Tryz.prog 44 [.val (.int .i64 n)] (.val (.string (Bw9 n))):=by
 intro w N vs hl hr hN hg
 match vs,hl with
 | [v],_=>
  obtain rfl:=(hr 0 _ v rfl rfl).val_eq;have htab:Lib.TabIs Tryz.prog w "internal/strconv.uint64pow10" .u64 Lib.pow10Tab:=by
   obtain⟨_,t,f,hc⟩:=Atd.arr (M:=N) hg (Bel.of w (Gs.all w) rfl) (g:=1) (vs:=ga1) (by unfold GA;simp);unfold Lib.TabIs World.var?;rw[Btm,Option.bind_some,hc,<-B0e]
  refine(A1v n h0 h1 w htab).mono ?_
  rintro e w' ⟨rfl,k,os,rfl⟩
  exact⟨_,rfl,.val _ rfl,rfl,rfl,rfl,by show w.heap.size<=(w.heap++os).size;rw[Array.size_append];omega,λj hj=>by show(w.heap++os)[j]? =_;rw[Array.getElem?_append_left hj]⟩
end Go.Proofs.YthjhkpgonleelaaGreatDoor.Ev
