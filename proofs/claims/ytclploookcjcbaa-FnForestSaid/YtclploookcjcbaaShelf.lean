/- Proved: slices.Sort and slices.Compact at []string over this seat's program, by one application each of the contracts that the library proves once. Conditions: those that each theorem states. (Laid by the kit's lay-shelf and lay-plain.) -/
import Derived.Shelf.Sort.Plain
import Derived.Ground.Names2Prog
import Derived.Shelf.Slices.CompactS
import Derived.Shelf.Slices.In.SortNone
import Derived.Test.YtclploookcjcbaaProg
namespace Go.Proofs
open Go.Shelf
def Try.lays190_ren:Go.Shelf.Ren:=⟨fun|190=>58|125=>93|258=>92|128=>113|129=>114|302=>104|303=>105|304=>106|305=>107|306=>108|307=>109|308=>110|309=>111|310=>112|333=>117|329=>118|330=>119|334=>120|335=>121|336=>122|344=>124|n=>n,fun|31=>54|9=>9|3=>3|46=>127|0=>0|51=>149|53=>95|4=>4|183=>141|182=>140|131=>146|5=>5|218=>153|222=>157|228=>161|229=>162|n=>n,fun|n=>n⟩
theorem Try.lays190:Go.Proofs.Lays.n190 Try.prog Try.lays190_ren:={
  mixed:=by kernel_rfl
  f125:=Try.func93.trans (congrArg some (by kernel_rfl))
  f128:=Try.func113.trans (congrArg some (by kernel_rfl))
  f129:=Try.func114.trans (congrArg some (by kernel_rfl))
  f190:=Try.func58.trans (congrArg some (by kernel_rfl))
  f258:=Try.func92.trans (congrArg some (by kernel_rfl))
  f302:=Try.func104.trans (congrArg some (by kernel_rfl))
  f303:=Try.func105.trans (congrArg some (by kernel_rfl))
  f304:=Try.func106.trans (congrArg some (by kernel_rfl))
  f305:=Try.func107.trans (congrArg some (by kernel_rfl))
  f306:=Try.func108.trans (congrArg some (by kernel_rfl))
  f307:=Try.func109.trans (congrArg some (by kernel_rfl))
  f308:=Try.func110.trans (congrArg some (by kernel_rfl))
  f309:=Try.func111.trans (congrArg some (by kernel_rfl))
  f310:=Try.func112.trans (congrArg some (by kernel_rfl))
  f329:=Try.func118.trans (congrArg some (by kernel_rfl))
  f330:=Try.func119.trans (congrArg some (by kernel_rfl))
  f333:=Try.func117.trans (congrArg some (by kernel_rfl))
  f334:=Try.func120.trans (congrArg some (by kernel_rfl))
  f335:=Try.func121.trans (congrArg some (by kernel_rfl))
  f336:=Try.func122.trans (congrArg some (by kernel_rfl))
  f344:=Try.func124.trans (congrArg some (by kernel_rfl))
  t0:=Try.underlying0
  a0:=Try.isAgg0
  z0:=Try.sizeOf0
  v0:=Try.zeroValue0
  t3:=Try.underlying3
  a3:=Try.isAgg3
  z3:=Try.sizeOf3
  v3:=Try.zeroValue3
  t4:=Try.underlying4
  a4:=Try.isAgg4
  z4:=Try.sizeOf4
  v4:=Try.zeroValue4
  t5:=Try.underlying5
  a5:=Try.isAgg5
  z5:=Try.sizeOf5
  v5:=Try.zeroValue5
  t9:=Try.underlying9
  a9:=Try.isAgg9
  z9:=Try.sizeOf9
  v9:=Try.zeroValue9
  t31:=Try.underlying54
  a31:=Try.isAgg54
  z31:=Try.sizeOf54
  v31:=Try.zeroValue54
  t46:=Try.underlying127
  a46:=Try.isAgg127
  z46:=Try.sizeOf127
  v46:=Try.zeroValue127
  t51:=Try.underlying149
  a51:=Try.isAgg149
  z51:=Try.sizeOf149
  v51:=Try.zeroValue149
  t53:=Try.underlying95
  a53:=Try.isAgg95
  z53:=Try.sizeOf95
  v53:=Try.zeroValue95
  t131:=Try.underlying146
  a131:=Try.isAgg146
  z131:=Try.sizeOf146
  v131:=Try.zeroValue146
  t182:=Try.underlying140
  a182:=Try.isAgg140
  z182:=Try.sizeOf140
  v182:=Try.zeroValue140
  t183:=Try.underlying141
  a183:=Try.isAgg141
  z183:=Try.sizeOf141
  v183:=Try.zeroValue141
  t218:=Try.underlying153
  a218:=Try.isAgg153
  z218:=Try.sizeOf153
  v218:=Try.zeroValue153
  t222:=Try.underlying157
  a222:=Try.isAgg157
  z222:=Try.sizeOf157
  v222:=Try.zeroValue157
  t228:=Try.underlying161
  a228:=Try.isAgg161
  z228:=Try.sizeOf161
  v228:=Try.zeroValue161
  t229:=Try.underlying162
  a229:=Try.isAgg162
  z229:=Try.sizeOf162
  v229:=Try.zeroValue162 }
open Go.Sort Go.RowKit in
theorem Try.slices_Sort_string (blk off cap:Nat) (ss:List (List UInt8)) (w:World) (hH:Holds encStr w blk off ss.toArray) (hblk:blk < w.heap.size) (hsz:ss.length < 4611686018427387904) :
    Calls Try.prog 58 #[.slice (some ⟨blk,off,none⟩) ss.length cap] w fun e w'=>
      e=.returned (.tuple #[])∧∃ n os,w'=grow (putRow encStr (Sort.ahead w n) blk off (ss.mergeSort fun x y=>decide (x≤y)).toArray) os:=Any.slices_Sort_string Try.lays190 blk off cap ss w hH hblk hsz
open Go.RowKit Go.Sort in
theorem Try.slices_Sort_string_none (p:Option Addr) (cap:Nat) (w:World) :
    Calls Try.prog 58 #[.slice p 0 cap] w fun e w'=>e=.returned (.tuple #[])∧w'=w:=Any.slices_Sort_string_none Try.lays190 p cap w
def Try.lays194_ren:Go.Shelf.Ren:=⟨fun|194=>59|n=>n,fun|31=>54|9=>9|3=>3|4=>4|0=>0|n=>n,fun|n=>n⟩
theorem Try.lays194:Go.Proofs.Lays.n194 Try.prog Try.lays194_ren:={
  mixed:=by kernel_rfl
  f194:=Try.func59.trans (congrArg some (by kernel_rfl))
  t0:=Try.underlying0
  a0:=Try.isAgg0
  z0:=Try.sizeOf0
  v0:=Try.zeroValue0
  t3:=Try.underlying3
  a3:=Try.isAgg3
  z3:=Try.sizeOf3
  v3:=Try.zeroValue3
  t4:=Try.underlying4
  a4:=Try.isAgg4
  z4:=Try.sizeOf4
  v4:=Try.zeroValue4
  t9:=Try.underlying9
  a9:=Try.isAgg9
  z9:=Try.sizeOf9
  v9:=Try.zeroValue9
  t31:=Try.underlying54
  a31:=Try.isAgg54
  z31:=Try.sizeOf54
  v31:=Try.zeroValue54 }
open Go.RowKit Go.Lib Go.Sort in
theorem Try.slices_Compact_string (blk off cap:Nat) (zs:List (List UInt8)) (w:World) (hH:Holds encStr w blk off zs.toArray) (hsz:zs.length≤9223372036854775807) (hcap:zs.length≤cap) :
    Calls Try.prog 59 #[.slice (some ⟨blk,off,none⟩) zs.length cap] w fun e w'=>e=.returned (.slice (some ⟨blk,off,none⟩) (Lib.compact zs).length cap)∧∃ q,w'=putRow encStr (Sort.ahead w q) blk off (Lib.compact zs++List.replicate (zs.length - (Lib.compact zs).length) []).toArray:=Any.slices_Compact_string Try.lays194 blk off cap zs w hH hsz hcap
open Go.RowKit Go.Lib Go.Sort in
theorem Try.slices_Compact_string_empty (a:Option Addr) (cap:Nat) (w:World) :
    Calls Try.prog 59 #[.slice a 0 cap] w fun e w'=>e=.returned (.slice a 0 cap)∧w'=w:=Any.slices_Compact_string_empty Try.lays194 a cap w
end Go.Proofs
