/-  What the library's Sort and Compact do at rows of texts: the shelf's contracts, laid here. -/
import Derived.Shelf.Sort.Plain
import Derived.Shelf.Slices.CompactS
import Derived.Shelf.Slices.In.SortNone
import Derived.Test.YtmimkinjcfekmaaGreatProg
namespace Go.Proofs.YtmimkinjcfekmaaGreat.Ev
open Go Go.Shelf Go.Proofs
def Ahn:Go.Shelf.Ren:=⟨fun|190=>15|125=>24|258=>23|128=>52|129=>53|302=>43|303=>44|304=>45|305=>46|306=>47|307=>48|308=>49|309=>50|310=>51|333=>106|329=>107|330=>108|334=>109|335=>110|336=>111|344=>145|n=>n,fun|31=>27|9=>9|3=>3|46=>84|0=>0|51=>109|53=>111|4=>4|183=>101|182=>100|131=>106|5=>5|218=>166|222=>170|228=>215|229=>216|n=>n,fun|n=>n⟩
theorem s7:Go.Proofs.Lays.n190 Tryz.prog Ahn:= {
 mixed:=by kernel_rfl
 f125:= Tryz.func24.trans (congrArg some (by kernel_rfl))
 f128:= Tryz.func52.trans (congrArg some (by kernel_rfl))
 f129:= Tryz.func53.trans (congrArg some (by kernel_rfl))
 f190:= Tryz.func15.trans (congrArg some (by kernel_rfl))
 f258:= Tryz.func23.trans (congrArg some (by kernel_rfl))
 f302:= Tryz.func43.trans (congrArg some (by kernel_rfl))
 f303:= Tryz.func44.trans (congrArg some (by kernel_rfl))
 f304:= Tryz.func45.trans (congrArg some (by kernel_rfl))
 f305:= Tryz.func46.trans (congrArg some (by kernel_rfl))
 f306:= Tryz.func47.trans (congrArg some (by kernel_rfl))
 f307:= Tryz.func48.trans (congrArg some (by kernel_rfl))
 f308:= Tryz.func49.trans (congrArg some (by kernel_rfl))
 f309:= Tryz.func50.trans (congrArg some (by kernel_rfl))
 f310:= Tryz.func51.trans (congrArg some (by kernel_rfl))
 f329:= Tryz.func107.trans (congrArg some (by kernel_rfl))
 f330:= Tryz.func108.trans (congrArg some (by kernel_rfl))
 f333:= Tryz.func106.trans (congrArg some (by kernel_rfl))
 f334:= Tryz.func109.trans (congrArg some (by kernel_rfl))
 f335:= Tryz.func110.trans (congrArg some (by kernel_rfl))
 f336:= Tryz.func111.trans (congrArg some (by kernel_rfl))
 f344:= Tryz.func145.trans (congrArg some (by kernel_rfl))
 t0:= Tryz.underlying0
 a0:= Tryz.isAgg0
 z0:= Tryz.sizeOf0
 v0:= Tryz.zeroValue0
 t3:= Tryz.underlying3
 a3:= Tryz.isAgg3
 z3:= Tryz.sizeOf3
 v3:= Tryz.zeroValue3
 t4:= Tryz.underlying4
 a4:= Tryz.isAgg4
 z4:= Tryz.sizeOf4
 v4:= Tryz.zeroValue4
 t5:= Tryz.underlying5
 a5:= Tryz.isAgg5
 z5:= Tryz.sizeOf5
 v5:= Tryz.zeroValue5
 t9:= Tryz.underlying9
 a9:= Tryz.isAgg9
 z9:= Tryz.sizeOf9
 v9:= Tryz.zeroValue9
 t31:= Tryz.underlying27
 a31:= Tryz.isAgg27
 z31:= Tryz.sizeOf27
 v31:= Tryz.zeroValue27
 t46:= Tryz.underlying84
 a46:= Tryz.isAgg84
 z46:= Tryz.sizeOf84
 v46:= Tryz.zeroValue84
 t51:= Tryz.underlying109
 a51:= Tryz.isAgg109
 z51:= Tryz.sizeOf109
 v51:= Tryz.zeroValue109
 t53:= Tryz.underlying111
 a53:= Tryz.isAgg111
 z53:= Tryz.sizeOf111
 v53:= Tryz.zeroValue111
 t131:= Tryz.underlying106
 a131:= Tryz.isAgg106
 z131:= Tryz.sizeOf106
 v131:= Tryz.zeroValue106
 t182:= Tryz.underlying100
 a182:= Tryz.isAgg100
 z182:= Tryz.sizeOf100
 v182:= Tryz.zeroValue100
 t183:= Tryz.underlying101
 a183:= Tryz.isAgg101
 z183:= Tryz.sizeOf101
 v183:= Tryz.zeroValue101
 t218:= Tryz.underlying166
 a218:= Tryz.isAgg166
 z218:= Tryz.sizeOf166
 v218:= Tryz.zeroValue166
 t222:= Tryz.underlying170
 a222:= Tryz.isAgg170
 z222:= Tryz.sizeOf170
 v222:= Tryz.zeroValue170
 t228:= Tryz.underlying215
 a228:= Tryz.isAgg215
 z228:= Tryz.sizeOf215
 v228:= Tryz.zeroValue215
 t229:= Tryz.underlying216
 a229:= Tryz.isAgg216
 z229:= Tryz.sizeOf216
 v229:= Tryz.zeroValue216 }
open Go.Sort Go.RowKit in
theorem Uz(blk off cap:Nat)(ss:List (List UInt8))(w:World)(hH:Holds encStr w blk off ss.toArray)(hblk:blk < w.heap.size)(hsz:ss.length < 4611686018427387904):
  Calls Tryz.prog 15 #[.slice (some ⟨blk,off,none⟩) ss.length cap] w fun e w'=>
   e= .returned (.tuple #[])∧∃n os,w'=grow (putRow encStr (Sort.ahead w n) blk off (ss.mergeSort fun x y=>decide (x≤y)).toArray) os:=Any.slices_Sort_string s7 blk off cap ss w hH hblk hsz
def Aho:Go.Shelf.Ren:=⟨fun|194=>16|n=>n,fun|31=>27|9=>9|3=>3|4=>4|0=>0|n=>n,fun|n=>n⟩
theorem s8:Go.Proofs.Lays.n194 Tryz.prog Aho:= {
 mixed:=by kernel_rfl
 f194:= Tryz.func16.trans (congrArg some (by kernel_rfl))
 t0:= Tryz.underlying0
 a0:= Tryz.isAgg0
 z0:= Tryz.sizeOf0
 v0:= Tryz.zeroValue0
 t3:= Tryz.underlying3
 a3:= Tryz.isAgg3
 z3:= Tryz.sizeOf3
 v3:= Tryz.zeroValue3
 t4:= Tryz.underlying4
 a4:= Tryz.isAgg4
 z4:= Tryz.sizeOf4
 v4:= Tryz.zeroValue4
 t9:= Tryz.underlying9
 a9:= Tryz.isAgg9
 z9:= Tryz.sizeOf9
 v9:= Tryz.zeroValue9
 t31:= Tryz.underlying27
 a31:= Tryz.isAgg27
 z31:= Tryz.sizeOf27
 v31:= Tryz.zeroValue27 }
open Go.RowKit Go.Lib Go.Sort in
theorem Q5(blk off cap:Nat)(zs:List (List UInt8))(w:World)(hH:Holds encStr w blk off zs.toArray)(hsz:zs.length≤9223372036854775807)(hcap:zs.length≤cap):
  Calls Tryz.prog 16 #[.slice (some ⟨blk,off,none⟩) zs.length cap] w fun e w'=>e= .returned (.slice (some ⟨blk,off,none⟩) (Lib.compact zs).length cap)∧∃q,w'=putRow encStr (Sort.ahead w q) blk off (Lib.compact zs++List.replicate (zs.length - (Lib.compact zs).length) []).toArray:=Any.slices_Compact_string s8 blk off cap zs w hH hsz hcap
open Go.RowKit Go.Lib Go.Sort in
theorem Lo(a:Option Addr)(cap:Nat)(w:World):
  Calls Tryz.prog 16 #[.slice a 0 cap] w fun e w'=>e= .returned (.slice a 0 cap)∧w'=w:=Any.slices_Compact_string_empty s8 a cap w
open Go.RowKit Go.Sort in
theorem Oc(p:Option Addr)(cap:Nat)(w:World):
  Calls Tryz.prog 15 #[.slice p 0 cap] w fun e w'=>e= .returned (.tuple #[])∧w'=w:=Any.slices_Sort_string_none s7 p cap w
end Go.Proofs.YtmimkinjcfekmaaGreat.Ev
