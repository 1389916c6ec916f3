/-
  SEVERAL TEXTS IN ONE: Inst, Tl1, Shelf, Sl, Pred, Del, K16, IxB, Onc, Dig, Tl2, Srl, K15, SrtS, E32, TbG, Tl5, K30, SeT.
-/
import Derived.Test.YtgkdnjebbikciaaGreatDoorPTopLimits3
import Derived.Shelf.Small.Strs
import Derived.Shelf.Bytes.IndexByte
import Derived.Shelf.Strings.Search1
import Derived.Shelf.Sort.Plain
import Derived.Shelf.Slices.In.SortNone
import Derived.Test.YtgkdnjebbikciaaGreatDoorProg
import Derived.Lib.IndexAny
import Derived.Lib.IndexLaws
import Derived.Tactics
import Derived.Tactics2
import Derived.Defers
import Derived.Laws.Pointers
import Derived.Laws.LoneSync
import Derived.RegionTactic
import Derived.RegionCalls
import Derived.ChangeAlike
import Derived.KernelRfl
import Derived.Sort.Grow
import Derived.Test.YtgkdnjebbikciaaGreatDoorRows
import Derived.Lay
import Derived.LaidLaws
import Derived.LaidHandle
import Derived.Stop.Joined
/-
  What is known of this program's types, for steps that are taken by themselves.
-/
namespace Go.Proofs.YtgkdnjebbikciaaGreatDoor
open Go Go.RK
instance : AggC Tryz.prog 31 := ⟨fun w => Tryz.isAgg31 w⟩
instance : AggC Tryz.prog 5 := ⟨fun w => Tryz.isAgg5 w⟩
instance : FldC Tryz.prog 25 4 4 := ⟨_, _, _, Tryz.underlying25, rfl, rfl, fun w => Tryz.sizeOf3 w⟩
instance : AggC Tryz.prog 3 := ⟨fun w => Tryz.isAgg3 w⟩
instance : FldC Tryz.prog 25 2 2 := ⟨_, _, _, Tryz.underlying25, rfl, rfl, fun w => Tryz.sizeOf3 w⟩
instance : FldC Tryz.prog 48 0 0 := ⟨_, _, _, Tryz.underlying48, rfl, rfl, fun w => Tryz.sizeOf44 w⟩
instance : AggC Tryz.prog 44 := ⟨fun w => Tryz.isAgg44 w⟩
instance : FldC Tryz.prog 52 0 0 := ⟨_, _, _, Tryz.underlying52, rfl, rfl, fun w => Tryz.sizeOf3 w⟩
instance : FldC Tryz.prog 52 2 2 := ⟨_, _, _, Tryz.underlying52, rfl, rfl, fun w => Tryz.sizeOf3 w⟩
instance : FldC Tryz.prog 41 0 0 := ⟨_, _, _, Tryz.underlying41, rfl, rfl, fun w => Tryz.sizeOf3 w⟩
instance : FldC Tryz.prog 77 0 0 := ⟨_, _, _, Tryz.underlying77, rfl, rfl, fun w => Tryz.sizeOf71 w⟩
instance : AggC Tryz.prog 71 := ⟨fun w => Tryz.isAgg71 w⟩
instance : FldC Tryz.prog 41 1 1 := ⟨_, _, _, Tryz.underlying41, rfl, rfl, fun w => Tryz.sizeOf3 w⟩
instance : FldC Tryz.prog 41 3 3 := ⟨_, _, _, Tryz.underlying41, rfl, rfl, fun w => Tryz.sizeOf31 w⟩
instance : FldC Tryz.prog 41 2 2 := ⟨_, _, _, Tryz.underlying41, rfl, rfl, fun w => Tryz.sizeOf3 w⟩
instance : FldC Tryz.prog 77 2 8 := ⟨_, _, _, Tryz.underlying77, rfl, rfl, fun w => Tryz.sizeOf72 w⟩
instance : AggC Tryz.prog 72 := ⟨fun w => Tryz.isAgg72 w⟩
instance : SlcC Tryz.prog 31 := ⟨_, Tryz.underlying31⟩
instance : FldC Tryz.prog 77 4 10 := ⟨_, _, _, Tryz.underlying77, rfl, rfl, fun w => Tryz.sizeOf74 w⟩
instance : SlcC Tryz.prog 60 := ⟨_, Tryz.underlying60⟩
instance : AggC Tryz.prog 93 := ⟨fun w => Tryz.isAgg93 w⟩
instance : SlcC Tryz.prog 75 := ⟨_, Tryz.underlying75⟩
instance : FldC Tryz.prog 25 0 0 := ⟨_, _, _, Tryz.underlying25, rfl, rfl, fun w => Tryz.sizeOf3 w⟩
instance : FldC Tryz.prog 77 3 9 := ⟨_, _, _, Tryz.underlying77, rfl, rfl, fun w => Tryz.sizeOf73 w⟩
instance : AggC Tryz.prog 73 := ⟨fun w => Tryz.isAgg73 w⟩
instance : SlcC Tryz.prog 73 := ⟨_, Tryz.underlying73⟩
instance : FldC Tryz.prog 109 2 2 := ⟨_, _, _, Tryz.underlying109, rfl, rfl, fun w => Tryz.sizeOf3 w⟩
instance : FldC Tryz.prog 109 0 0 := ⟨_, _, _, Tryz.underlying109, rfl, rfl, fun w => Tryz.sizeOf106 w⟩
instance : AggC Tryz.prog 106 := ⟨fun w => Tryz.isAgg106 w⟩
instance : FldC Tryz.prog 109 4 4 := ⟨_, _, _, Tryz.underlying109, rfl, rfl, fun w => Tryz.sizeOf4 w⟩
instance : FldC Tryz.prog 117 2 2 := ⟨_, _, _, Tryz.underlying117, rfl, rfl, fun w => Tryz.sizeOf31 w⟩
instance : FldC Tryz.prog 117 0 0 := ⟨_, _, _, Tryz.underlying117, rfl, rfl, fun w => Tryz.sizeOf3 w⟩
instance : FldC Tryz.prog 77 5 26 := ⟨_, _, _, Tryz.underlying77, rfl, rfl, fun w => Tryz.sizeOf75 w⟩
instance : AggC Tryz.prog 75 := ⟨fun w => Tryz.isAgg75 w⟩
instance : FldC Tryz.prog 117 1 1 := ⟨_, _, _, Tryz.underlying117, rfl, rfl, fun w => Tryz.sizeOf3 w⟩
instance : FldC Tryz.prog 77 1 1 := ⟨_, _, _, Tryz.underlying77, rfl, rfl, fun w => Tryz.sizeOf25 w⟩
instance : FldC Tryz.prog 25 6 6 := ⟨_, _, _, Tryz.underlying25, rfl, rfl, fun w => Tryz.sizeOf23 w⟩
instance : AggC Tryz.prog 23 := ⟨fun w => Tryz.isAgg23 w⟩
instance : FldC Tryz.prog 139 0 0 := ⟨_, _, _, Tryz.underlying139, rfl, rfl, fun w => Tryz.sizeOf132 w⟩
instance : AggC Tryz.prog 132 := ⟨fun w => Tryz.isAgg132 w⟩
instance : FldC Tryz.prog 84 0 0 := ⟨_, _, _, Tryz.underlying84, rfl, rfl, fun w => Tryz.sizeOf3 w⟩
instance : FldC Tryz.prog 84 3 3 := ⟨_, _, _, Tryz.underlying84, rfl, rfl, fun w => Tryz.sizeOf23 w⟩
instance : SlcC Tryz.prog 23 := ⟨_, Tryz.underlying23⟩
instance : FldC Tryz.prog 66 0 0 := ⟨_, _, _, Tryz.underlying66, rfl, rfl, fun w => Tryz.sizeOf9 w⟩
instance : AggC Tryz.prog 9 := ⟨fun w => Tryz.isAgg9 w⟩
instance : FldC Tryz.prog 66 1 1 := ⟨_, _, _, Tryz.underlying66, rfl, rfl, fun w => Tryz.sizeOf9 w⟩
instance : FldC Tryz.prog 84 1 1 := ⟨_, _, _, Tryz.underlying84, rfl, rfl, fun w => Tryz.sizeOf3 w⟩
instance : FldC Tryz.prog 84 2 2 := ⟨_, _, _, Tryz.underlying84, rfl, rfl, fun w => Tryz.sizeOf3 w⟩
instance : FldC Tryz.prog 87 0 0 := ⟨_, _, _, Tryz.underlying87, rfl, rfl, fun w => Tryz.sizeOf5 w⟩
instance : FldC Tryz.prog 87 1 1 := ⟨_, _, _, Tryz.underlying87, rfl, rfl, fun w => Tryz.sizeOf31 w⟩
instance : SlcC Tryz.prog 30 := ⟨_, Tryz.underlying30⟩
instance : FldC Tryz.prog 155 3 92 := ⟨_, _, _, Tryz.underlying155, rfl, rfl, fun w => Tryz.sizeOf152 w⟩
instance : AggC Tryz.prog 152 := ⟨fun w => Tryz.isAgg152 w⟩
instance : SlcC Tryz.prog 152 := ⟨_, Tryz.underlying152⟩
instance : FldC Tryz.prog 48 1 1 := ⟨_, _, _, Tryz.underlying48, rfl, rfl, fun w => Tryz.sizeOf45 w⟩
instance : AggC Tryz.prog 45 := ⟨fun w => Tryz.isAgg45 w⟩
instance : FldC Tryz.prog 155 0 0 := ⟨_, _, _, Tryz.underlying155, rfl, rfl, fun w => Tryz.sizeOf150 w⟩
instance : FldC Tryz.prog 150 0 0 := ⟨_, _, _, Tryz.underlying150, rfl, rfl, fun w => Tryz.sizeOf144 w⟩
instance : AggC Tryz.prog 144 := ⟨fun w => Tryz.isAgg144 w⟩
instance : FldC Tryz.prog 48 2 2 := ⟨_, _, _, Tryz.underlying48, rfl, rfl, fun w => Tryz.sizeOf46 w⟩
instance : AggC Tryz.prog 46 := ⟨fun w => Tryz.isAgg46 w⟩
instance : FldC Tryz.prog 150 2 2 := ⟨_, _, _, Tryz.underlying150, rfl, rfl, fun w => Tryz.sizeOf146 w⟩
instance : AggC Tryz.prog 146 := ⟨fun w => Tryz.isAgg146 w⟩
instance : FldC Tryz.prog 48 3 3 := ⟨_, _, _, Tryz.underlying48, rfl, rfl, fun w => Tryz.sizeOf34 w⟩
instance : FldC Tryz.prog 59 0 0 := ⟨_, _, _, Tryz.underlying59, rfl, rfl, fun w => Tryz.sizeOf5 w⟩
instance : FldC Tryz.prog 59 3 3 := ⟨_, _, _, Tryz.underlying59, rfl, rfl, fun w => Tryz.sizeOf9 w⟩
instance : FldC Tryz.prog 59 4 4 := ⟨_, _, _, Tryz.underlying59, rfl, rfl, fun w => Tryz.sizeOf9 w⟩
instance : FldC Tryz.prog 59 5 5 := ⟨_, _, _, Tryz.underlying59, rfl, rfl, fun w => Tryz.sizeOf3 w⟩
instance : FldC Tryz.prog 59 6 6 := ⟨_, _, _, Tryz.underlying59, rfl, rfl, fun w => Tryz.sizeOf3 w⟩
instance : FldC Tryz.prog 59 1 1 := ⟨_, _, _, Tryz.underlying59, rfl, rfl, fun w => Tryz.sizeOf5 w⟩
instance : FldC Tryz.prog 59 2 2 := ⟨_, _, _, Tryz.underlying59, rfl, rfl, fun w => Tryz.sizeOf9 w⟩
instance : FldC Tryz.prog 59 9 9 := ⟨_, _, _, Tryz.underlying59, rfl, rfl, fun w => Tryz.sizeOf35 w⟩
instance : AggC Tryz.prog 35 := ⟨fun w => Tryz.isAgg35 w⟩
instance : FldC Tryz.prog 59 8 8 := ⟨_, _, _, Tryz.underlying59, rfl, rfl, fun w => Tryz.sizeOf56 w⟩
instance : AggC Tryz.prog 56 := ⟨fun w => Tryz.isAgg56 w⟩
instance : FldC Tryz.prog 59 7 7 := ⟨_, _, _, Tryz.underlying59, rfl, rfl, fun w => Tryz.sizeOf34 w⟩
instance : AggC Tryz.prog 34 := ⟨fun w => Tryz.isAgg34 w⟩
instance : FldC Tryz.prog 59 10 10 := ⟨_, _, _, Tryz.underlying59, rfl, rfl, fun w => Tryz.sizeOf57 w⟩
instance : AggC Tryz.prog 57 := ⟨fun w => Tryz.isAgg57 w⟩
instance : SlcC Tryz.prog 171 := ⟨_, Tryz.underlying171⟩
instance : FldC Tryz.prog 25 3 3 := ⟨_, _, _, Tryz.underlying25, rfl, rfl, fun w => Tryz.sizeOf3 w⟩
instance : AggC Tryz.prog 183 := ⟨fun w => Tryz.isAgg183 w⟩
instance : FldC Tryz.prog 155 4 93 := ⟨_, _, _, Tryz.underlying155, rfl, rfl, fun w => Tryz.sizeOf153 w⟩
instance : FldC Tryz.prog 155 2 12 := ⟨_, _, _, Tryz.underlying155, rfl, rfl, fun w => Tryz.sizeOf151 w⟩
instance : FldC Tryz.prog 155 1 5 := ⟨_, _, _, Tryz.underlying155, rfl, rfl, fun w => Tryz.sizeOf25 w⟩
instance : FldC Tryz.prog 109 1 1 := ⟨_, _, _, Tryz.underlying109, rfl, rfl, fun w => Tryz.sizeOf107 w⟩
instance : FldC Tryz.prog 206 0 0 := ⟨_, _, _, Tryz.underlying206, rfl, rfl, fun w => Tryz.sizeOf204 w⟩
instance : AggC Tryz.prog 204 := ⟨fun w => Tryz.isAgg204 w⟩
instance : AggC Tryz.prog 4 := ⟨fun w => Tryz.isAgg4 w⟩
instance : FldC Tryz.prog 209 0 0 := ⟨_, _, _, Tryz.underlying209, rfl, rfl, fun w => Tryz.sizeOf3 w⟩
instance : AggC Tryz.prog 114 := ⟨fun w => Tryz.isAgg114 w⟩
instance : AggC Tryz.prog 153 := ⟨fun w => Tryz.isAgg153 w⟩
instance : SlcC Tryz.prog 153 := ⟨_, Tryz.underlying153⟩
instance : AggC Tryz.prog 212 := ⟨fun w => Tryz.isAgg212 w⟩
instance : SlcC Tryz.prog 212 := ⟨_, Tryz.underlying212⟩
instance : FldC Tryz.prog 218 6 6 := ⟨_, _, _, Tryz.underlying218, rfl, rfl, fun w => Tryz.sizeOf4 w⟩
instance : FldC Tryz.prog 218 1 1 := ⟨_, _, _, Tryz.underlying218, rfl, rfl, fun w => Tryz.sizeOf204 w⟩
instance : FldC Tryz.prog 218 5 5 := ⟨_, _, _, Tryz.underlying218, rfl, rfl, fun w => Tryz.sizeOf4 w⟩
instance : FldC Tryz.prog 218 2 2 := ⟨_, _, _, Tryz.underlying218, rfl, rfl, fun w => Tryz.sizeOf216 w⟩
instance : AggC Tryz.prog 216 := ⟨fun w => Tryz.isAgg216 w⟩
instance : FldC Tryz.prog 218 0 0 := ⟨_, _, _, Tryz.underlying218, rfl, rfl, fun w => Tryz.sizeOf215 w⟩
instance : AggC Tryz.prog 215 := ⟨fun w => Tryz.isAgg215 w⟩
instance : SlcC Tryz.prog 215 := ⟨_, Tryz.underlying215⟩
instance : AggC Tryz.prog 230 := ⟨fun w => Tryz.isAgg230 w⟩
instance : FldC Tryz.prog 150 1 1 := ⟨_, _, _, Tryz.underlying150, rfl, rfl, fun w => Tryz.sizeOf145 w⟩
instance : AggC Tryz.prog 145 := ⟨fun w => Tryz.isAgg145 w⟩
instance : AggC Tryz.prog 107 := ⟨fun w => Tryz.isAgg107 w⟩
instance : AggC Tryz.prog 235 := ⟨fun w => Tryz.isAgg235 w⟩
instance : SlcC Tryz.prog 235 := ⟨_, Tryz.underlying235⟩
instance : SlcC Tryz.prog 34 := ⟨_, Tryz.underlying34⟩
instance : FldC Tryz.prog 150 4 4 := ⟨_, _, _, Tryz.underlying150, rfl, rfl, fun w => Tryz.sizeOf148 w⟩
instance : AggC Tryz.prog 148 := ⟨fun w => Tryz.isAgg148 w⟩
instance : FldC Tryz.prog 25 1 1 := ⟨_, _, _, Tryz.underlying25, rfl, rfl, fun w => Tryz.sizeOf3 w⟩
instance : FldC Tryz.prog 25 5 5 := ⟨_, _, _, Tryz.underlying25, rfl, rfl, fun w => Tryz.sizeOf3 w⟩
instance : FldC Tryz.prog 37 0 0 := ⟨_, _, _, Tryz.underlying37, rfl, rfl, fun w => Tryz.sizeOf5 w⟩
instance : FldC Tryz.prog 37 2 2 := ⟨_, _, _, Tryz.underlying37, rfl, rfl, fun w => Tryz.sizeOf9 w⟩
instance : FldC Tryz.prog 37 4 4 := ⟨_, _, _, Tryz.underlying37, rfl, rfl, fun w => Tryz.sizeOf9 w⟩
instance : FldC Tryz.prog 37 5 5 := ⟨_, _, _, Tryz.underlying37, rfl, rfl, fun w => Tryz.sizeOf34 w⟩
instance : FldC Tryz.prog 37 3 3 := ⟨_, _, _, Tryz.underlying37, rfl, rfl, fun w => Tryz.sizeOf9 w⟩
instance : FldC Tryz.prog 37 6 6 := ⟨_, _, _, Tryz.underlying37, rfl, rfl, fun w => Tryz.sizeOf34 w⟩
instance : FldC Tryz.prog 37 8 8 := ⟨_, _, _, Tryz.underlying37, rfl, rfl, fun w => Tryz.sizeOf35 w⟩
instance : FldC Tryz.prog 37 7 7 := ⟨_, _, _, Tryz.underlying37, rfl, rfl, fun w => Tryz.sizeOf34 w⟩
instance : FldC Tryz.prog 37 1 1 := ⟨_, _, _, Tryz.underlying37, rfl, rfl, fun w => Tryz.sizeOf5 w⟩
instance : FldC Tryz.prog 37 9 9 := ⟨_, _, _, Tryz.underlying37, rfl, rfl, fun w => Tryz.sizeOf3 w⟩
instance : FldC Tryz.prog 109 3 3 := ⟨_, _, _, Tryz.underlying109, rfl, rfl, fun w => Tryz.sizeOf3 w⟩
instance : FldC Tryz.prog 52 1 1 := ⟨_, _, _, Tryz.underlying52, rfl, rfl, fun w => Tryz.sizeOf3 w⟩
instance : FldC Tryz.prog 52 3 3 := ⟨_, _, _, Tryz.underlying52, rfl, rfl, fun w => Tryz.sizeOf50 w⟩
instance : AggC Tryz.prog 50 := ⟨fun w => Tryz.isAgg50 w⟩
instance : FldC Tryz.prog 157 2 2 := ⟨_, _, _, Tryz.underlying157, rfl, rfl, fun w => Tryz.sizeOf3 w⟩
instance : FldC Tryz.prog 157 3 3 := ⟨_, _, _, Tryz.underlying157, rfl, rfl, fun w => Tryz.sizeOf5 w⟩
instance : FldC Tryz.prog 157 4 4 := ⟨_, _, _, Tryz.underlying157, rfl, rfl, fun w => Tryz.sizeOf34 w⟩
instance : FldC Tryz.prog 157 5 5 := ⟨_, _, _, Tryz.underlying157, rfl, rfl, fun w => Tryz.sizeOf34 w⟩
instance : FldC Tryz.prog 268 0 0 := ⟨_, _, _, Tryz.underlying268, rfl, rfl, fun w => Tryz.sizeOf266 w⟩
instance : AggC Tryz.prog 266 := ⟨fun w => Tryz.isAgg266 w⟩
instance : SlcC Tryz.prog 35 := ⟨_, Tryz.underlying35⟩
instance : FldC Tryz.prog 280 0 0 := ⟨_, _, _, Tryz.underlying280, rfl, rfl, fun w => Tryz.sizeOf4 w⟩
instance : FldC Tryz.prog 280 1 1 := ⟨_, _, _, Tryz.underlying280, rfl, rfl, fun w => Tryz.sizeOf31 w⟩
instance : SlcC Tryz.prog 56 := ⟨_, Tryz.underlying56⟩
instance : FldC Tryz.prog 282 0 0 := ⟨_, _, _, Tryz.underlying282, rfl, rfl, fun w => Tryz.sizeOf9 w⟩
instance : FldC Tryz.prog 282 1 1 := ⟨_, _, _, Tryz.underlying282, rfl, rfl, fun w => Tryz.sizeOf3 w⟩
instance : FldC Tryz.prog 282 2 2 := ⟨_, _, _, Tryz.underlying282, rfl, rfl, fun w => Tryz.sizeOf3 w⟩
instance : FldC Tryz.prog 282 3 3 := ⟨_, _, _, Tryz.underlying282, rfl, rfl, fun w => Tryz.sizeOf3 w⟩
instance : FldC Tryz.prog 282 4 4 := ⟨_, _, _, Tryz.underlying282, rfl, rfl, fun w => Tryz.sizeOf3 w⟩
instance : FldC Tryz.prog 282 5 5 := ⟨_, _, _, Tryz.underlying282, rfl, rfl, fun w => Tryz.sizeOf3 w⟩
instance : FldC Tryz.prog 282 6 6 := ⟨_, _, _, Tryz.underlying282, rfl, rfl, fun w => Tryz.sizeOf3 w⟩
instance : SlcC Tryz.prog 57 := ⟨_, Tryz.underlying57⟩
instance : FldC Tryz.prog 199 0 0 := ⟨_, _, _, Tryz.underlying199, rfl, rfl, fun w => Tryz.sizeOf5 w⟩
instance : FldC Tryz.prog 199 1 1 := ⟨_, _, _, Tryz.underlying199, rfl, rfl, fun w => Tryz.sizeOf9 w⟩
instance : FldC Tryz.prog 174 1 1 := ⟨_, _, _, Tryz.underlying174, rfl, rfl, fun w => Tryz.sizeOf3 w⟩
instance : FldC Tryz.prog 174 0 0 := ⟨_, _, _, Tryz.underlying174, rfl, rfl, fun w => Tryz.sizeOf3 w⟩
instance : FldC Tryz.prog 174 2 2 := ⟨_, _, _, Tryz.underlying174, rfl, rfl, fun w => Tryz.sizeOf3 w⟩
instance : StrC Tryz.prog 9 := ⟨Tryz.underlying9⟩
instance : SlcC Tryz.prog 296 := ⟨_, Tryz.underlying296⟩
instance : AggC Tryz.prog 96 := ⟨fun w => Tryz.isAgg96 w⟩
instance : SlcC Tryz.prog 44 := ⟨_, Tryz.underlying44⟩
instance : SlcC Tryz.prog 45 := ⟨_, Tryz.underlying45⟩
instance : FldC Tryz.prog 333 3 3 := ⟨_, _, _, Tryz.underlying333, rfl, rfl, fun w => Tryz.sizeOf3 w⟩
instance : FldC Tryz.prog 333 1 1 := ⟨_, _, _, Tryz.underlying333, rfl, rfl, fun w => Tryz.sizeOf31 w⟩
instance : FldC Tryz.prog 209 1 1 := ⟨_, _, _, Tryz.underlying209, rfl, rfl, fun w => Tryz.sizeOf84 w⟩
instance : FldC Tryz.prog 209 2 5 := ⟨_, _, _, Tryz.underlying209, rfl, rfl, fun w => Tryz.sizeOf37 w⟩
instance : FldC Tryz.prog 209 3 15 := ⟨_, _, _, Tryz.underlying209, rfl, rfl, fun w => Tryz.sizeOf9 w⟩
instance : FldC Tryz.prog 209 4 16 := ⟨_, _, _, Tryz.underlying209, rfl, rfl, fun w => Tryz.sizeOf9 w⟩
instance : FldC Tryz.prog 333 0 0 := ⟨_, _, _, Tryz.underlying333, rfl, rfl, fun w => Tryz.sizeOf331 w⟩
instance : FldC Tryz.prog 218 3 3 := ⟨_, _, _, Tryz.underlying218, rfl, rfl, fun w => Tryz.sizeOf23 w⟩
instance : FldC Tryz.prog 218 4 4 := ⟨_, _, _, Tryz.underlying218, rfl, rfl, fun w => Tryz.sizeOf3 w⟩
instance : FldC Tryz.prog 344 0 0 := ⟨_, _, _, Tryz.underlying344, rfl, rfl, fun w => Tryz.sizeOf341 w⟩
instance : AggC Tryz.prog 341 := ⟨fun w => Tryz.isAgg341 w⟩
instance : FldC Tryz.prog 350 5 5 := ⟨_, _, _, Tryz.underlying350, rfl, rfl, fun w => Tryz.sizeOf4 w⟩
instance : FldC Tryz.prog 350 4 4 := ⟨_, _, _, Tryz.underlying350, rfl, rfl, fun w => Tryz.sizeOf4 w⟩
instance : FldC Tryz.prog 376 0 0 := ⟨_, _, _, Tryz.underlying376, rfl, rfl, fun w => Tryz.sizeOf374 w⟩
instance : FldC Tryz.prog 374 1 1 := ⟨_, _, _, Tryz.underlying374, rfl, rfl, fun w => Tryz.sizeOf370 w⟩
instance : AggC Tryz.prog 370 := ⟨fun w => Tryz.isAgg370 w⟩
instance : FldC Tryz.prog 366 1 1 := ⟨_, _, _, Tryz.underlying366, rfl, rfl, fun w => Tryz.sizeOf363 w⟩
instance : FldC Tryz.prog 366 3 10 := ⟨_, _, _, Tryz.underlying366, rfl, rfl, fun w => Tryz.sizeOf364 w⟩
instance : AggC Tryz.prog 364 := ⟨fun w => Tryz.isAgg364 w⟩
instance : SlcC Tryz.prog 364 := ⟨_, Tryz.underlying364⟩
instance : FldC Tryz.prog 366 4 11 := ⟨_, _, _, Tryz.underlying366, rfl, rfl, fun w => Tryz.sizeOf364 w⟩
instance : FldC Tryz.prog 366 2 9 := ⟨_, _, _, Tryz.underlying366, rfl, rfl, fun w => Tryz.sizeOf364 w⟩
instance : FldC Tryz.prog 366 5 12 := ⟨_, _, _, Tryz.underlying366, rfl, rfl, fun w => Tryz.sizeOf5 w⟩
instance : FldC Tryz.prog 374 3 5 := ⟨_, _, _, Tryz.underlying374, rfl, rfl, fun w => Tryz.sizeOf5 w⟩
instance : FldC Tryz.prog 374 2 2 := ⟨_, _, _, Tryz.underlying374, rfl, rfl, fun w => Tryz.sizeOf372 w⟩
instance : FldC Tryz.prog 385 0 0 := ⟨_, _, _, Tryz.underlying385, rfl, rfl, fun w => Tryz.sizeOf3 w⟩
instance : FldC Tryz.prog 308 1 1 := ⟨_, _, _, Tryz.underlying308, rfl, rfl, fun w => Tryz.sizeOf266 w⟩
instance : FldC Tryz.prog 264 1 2 := ⟨_, _, _, Tryz.underlying264, rfl, rfl, fun w => Tryz.sizeOf3 w⟩
instance : FldC Tryz.prog 259 1 1 := ⟨_, _, _, Tryz.underlying259, rfl, rfl, fun w => Tryz.sizeOf257 w⟩
instance : AggC Tryz.prog 257 := ⟨fun w => Tryz.isAgg257 w⟩
instance : FldC Tryz.prog 264 0 0 := ⟨_, _, _, Tryz.underlying264, rfl, rfl, fun w => Tryz.sizeOf262 w⟩
instance : FldC Tryz.prog 259 0 0 := ⟨_, _, _, Tryz.underlying259, rfl, rfl, fun w => Tryz.sizeOf256 w⟩
instance : AggC Tryz.prog 256 := ⟨fun w => Tryz.isAgg256 w⟩
instance : FldC Tryz.prog 329 0 0 := ⟨_, _, _, Tryz.underlying329, rfl, rfl, fun w => Tryz.sizeOf257 w⟩
instance : FldC Tryz.prog 308 0 0 := ⟨_, _, _, Tryz.underlying308, rfl, rfl, fun w => Tryz.sizeOf306 w⟩
instance : AggC Tryz.prog 306 := ⟨fun w => Tryz.isAgg306 w⟩
instance : SlcC Tryz.prog 306 := ⟨_, Tryz.underlying306⟩
instance : FldC Tryz.prog 374 0 0 := ⟨_, _, _, Tryz.underlying374, rfl, rfl, fun w => Tryz.sizeOf369 w⟩
instance : AggC Tryz.prog 369 := ⟨fun w => Tryz.isAgg369 w⟩
instance : FldC Tryz.prog 376 2 7 := ⟨_, _, _, Tryz.underlying376, rfl, rfl, fun w => Tryz.sizeOf3 w⟩
instance : FldC Tryz.prog 157 0 0 := ⟨_, _, _, Tryz.underlying157, rfl, rfl, fun w => Tryz.sizeOf3 w⟩
instance : FldC Tryz.prog 157 1 1 := ⟨_, _, _, Tryz.underlying157, rfl, rfl, fun w => Tryz.sizeOf3 w⟩
instance : SlcC Tryz.prog 50 := ⟨_, Tryz.underlying50⟩
instance : SlcC Tryz.prog 46 := ⟨_, Tryz.underlying46⟩
instance : FldC Tryz.prog 206 1 1 := ⟨_, _, _, Tryz.underlying206, rfl, rfl, fun w => Tryz.sizeOf4 w⟩
instance : FldC Tryz.prog 331 0 0 := ⟨_, _, _, Tryz.underlying331, rfl, rfl, fun w => Tryz.sizeOf4 w⟩
instance : FldC Tryz.prog 150 3 3 := ⟨_, _, _, Tryz.underlying150, rfl, rfl, fun w => Tryz.sizeOf147 w⟩
instance : AggC Tryz.prog 147 := ⟨fun w => Tryz.isAgg147 w⟩
instance : FldC Tryz.prog 438 0 0 := ⟨_, _, _, Tryz.underlying438, rfl, rfl, fun w => Tryz.sizeOf31 w⟩
instance : FldC Tryz.prog 445 0 0 := ⟨_, _, _, Tryz.underlying445, rfl, rfl, fun w => Tryz.sizeOf31 w⟩
instance : FldC Tryz.prog 350 2 2 := ⟨_, _, _, Tryz.underlying350, rfl, rfl, fun w => Tryz.sizeOf72 w⟩
instance : FldC Tryz.prog 350 3 3 := ⟨_, _, _, Tryz.underlying350, rfl, rfl, fun w => Tryz.sizeOf5 w⟩
instance : FldC Tryz.prog 350 1 1 := ⟨_, _, _, Tryz.underlying350, rfl, rfl, fun w => Tryz.sizeOf348 w⟩
instance : AggC Tryz.prog 348 := ⟨fun w => Tryz.isAgg348 w⟩
instance : FldC Tryz.prog 355 0 0 := ⟨_, _, _, Tryz.underlying355, rfl, rfl, fun w => Tryz.sizeOf9 w⟩
instance : FldC Tryz.prog 355 1 1 := ⟨_, _, _, Tryz.underlying355, rfl, rfl, fun w => Tryz.sizeOf9 w⟩
instance : FldC Tryz.prog 385 1 1 := ⟨_, _, _, Tryz.underlying385, rfl, rfl, fun w => Tryz.sizeOf3 w⟩
instance : FldC Tryz.prog 453 0 0 := ⟨_, _, _, Tryz.underlying453, rfl, rfl, fun w => Tryz.sizeOf341 w⟩
instance : FldC Tryz.prog 363 0 0 := ⟨_, _, _, Tryz.underlying363, rfl, rfl, fun w => Tryz.sizeOf3 w⟩
instance : FldC Tryz.prog 363 1 1 := ⟨_, _, _, Tryz.underlying363, rfl, rfl, fun w => Tryz.sizeOf4 w⟩
instance : FldC Tryz.prog 363 5 5 := ⟨_, _, _, Tryz.underlying363, rfl, rfl, fun w => Tryz.sizeOf360 w⟩
instance : AggC Tryz.prog 360 := ⟨fun w => Tryz.isAgg360 w⟩
instance : FldC Tryz.prog 363 6 6 := ⟨_, _, _, Tryz.underlying363, rfl, rfl, fun w => Tryz.sizeOf361 w⟩
instance : AggC Tryz.prog 361 := ⟨fun w => Tryz.isAgg361 w⟩
instance : FldC Tryz.prog 363 7 7 := ⟨_, _, _, Tryz.underlying363, rfl, rfl, fun w => Tryz.sizeOf31 w⟩
instance : FldC Tryz.prog 372 0 0 := ⟨_, _, _, Tryz.underlying372, rfl, rfl, fun w => Tryz.sizeOf4 w⟩
instance : FldC Tryz.prog 262 0 0 := ⟨_, _, _, Tryz.underlying262, rfl, rfl, fun w => Tryz.sizeOf9 w⟩
instance : FldC Tryz.prog 262 1 1 := ⟨_, _, _, Tryz.underlying262, rfl, rfl, fun w => Tryz.sizeOf34 w⟩
instance : FldC Tryz.prog 327 0 0 := ⟨_, _, _, Tryz.underlying327, rfl, rfl, fun w => Tryz.sizeOf323 w⟩
instance : AggC Tryz.prog 323 := ⟨fun w => Tryz.isAgg323 w⟩
instance : FldC Tryz.prog 137 2 0 := ⟨_, _, _, Tryz.underlying137, rfl, rfl, fun w => Tryz.sizeOf2 w⟩
instance : FldC Tryz.prog 376 1 6 := ⟨_, _, _, Tryz.underlying376, rfl, rfl, fun w => Tryz.sizeOf144 w⟩
instance : FldC Tryz.prog 475 0 0 := ⟨_, _, _, Tryz.underlying475, rfl, rfl, fun w => Tryz.sizeOf473 w⟩
instance : AggC Tryz.prog 473 := ⟨fun w => Tryz.isAgg473 w⟩
instance : FldC Tryz.prog 478 0 0 := ⟨_, _, _, Tryz.underlying478, rfl, rfl, fun w => Tryz.sizeOf364 w⟩
instance : FldC Tryz.prog 475 1 1 := ⟨_, _, _, Tryz.underlying475, rfl, rfl, fun w => Tryz.sizeOf3 w⟩
instance : FldC Tryz.prog 478 1 1 := ⟨_, _, _, Tryz.underlying478, rfl, rfl, fun w => Tryz.sizeOf3 w⟩
instance : SlcC Tryz.prog 486 := ⟨_, Tryz.underlying486⟩
instance : FldC Tryz.prog 492 0 0 := ⟨_, _, _, Tryz.underlying492, rfl, rfl, fun w => Tryz.sizeOf4 w⟩
instance : FldC Tryz.prog 492 2 2 := ⟨_, _, _, Tryz.underlying492, rfl, rfl, fun w => Tryz.sizeOf3 w⟩
instance : SlcC Tryz.prog 361 := ⟨_, Tryz.underlying361⟩
instance : FldC Tryz.prog 494 0 0 := ⟨_, _, _, Tryz.underlying494, rfl, rfl, fun w => Tryz.sizeOf3 w⟩
instance : FldC Tryz.prog 494 1 1 := ⟨_, _, _, Tryz.underlying494, rfl, rfl, fun w => Tryz.sizeOf3 w⟩
instance : FldC Tryz.prog 163 0 0 := ⟨_, _, _, Tryz.underlying163, rfl, rfl, fun w => Tryz.sizeOf3 w⟩
instance : FldC Tryz.prog 333 4 4 := ⟨_, _, _, Tryz.underlying333, rfl, rfl, fun w => Tryz.sizeOf61 w⟩
instance : AggC Tryz.prog 61 := ⟨fun w => Tryz.isAgg61 w⟩
instance : FldC Tryz.prog 322 4 6 := ⟨_, _, _, Tryz.underlying322, rfl, rfl, fun w => Tryz.sizeOf4 w⟩
instance : FldC Tryz.prog 322 1 1 := ⟨_, _, _, Tryz.underlying322, rfl, rfl, fun w => Tryz.sizeOf318 w⟩
instance : FldC Tryz.prog 322 2 4 := ⟨_, _, _, Tryz.underlying322, rfl, rfl, fun w => Tryz.sizeOf31 w⟩
instance : FldC Tryz.prog 438 2 2 := ⟨_, _, _, Tryz.underlying438, rfl, rfl, fun w => Tryz.sizeOf4 w⟩
instance : FldC Tryz.prog 438 1 1 := ⟨_, _, _, Tryz.underlying438, rfl, rfl, fun w => Tryz.sizeOf4 w⟩
instance : FldC Tryz.prog 485 0 0 := ⟨_, _, _, Tryz.underlying485, rfl, rfl, fun w => Tryz.sizeOf483 w⟩
instance : AggC Tryz.prog 483 := ⟨fun w => Tryz.isAgg483 w⟩
instance : FldC Tryz.prog 350 0 0 := ⟨_, _, _, Tryz.underlying350, rfl, rfl, fun w => Tryz.sizeOf347 w⟩
instance : AggC Tryz.prog 347 := ⟨fun w => Tryz.isAgg347 w⟩
instance : FldC Tryz.prog 544 0 0 := ⟨_, _, _, Tryz.underlying544, rfl, rfl, fun w => Tryz.sizeOf262 w⟩
instance : FldC Tryz.prog 544 3 4 := ⟨_, _, _, Tryz.underlying544, rfl, rfl, fun w => Tryz.sizeOf4 w⟩
instance : FldC Tryz.prog 544 1 2 := ⟨_, _, _, Tryz.underlying544, rfl, rfl, fun w => Tryz.sizeOf35 w⟩
instance : FldC Tryz.prog 549 0 0 := ⟨_, _, _, Tryz.underlying549, rfl, rfl, fun w => Tryz.sizeOf3 w⟩
instance : FldC Tryz.prog 568 0 0 := ⟨_, _, _, Tryz.underlying568, rfl, rfl, fun w => Tryz.sizeOf9 w⟩
instance : FldC Tryz.prog 366 0 0 := ⟨_, _, _, Tryz.underlying366, rfl, rfl, fun w => Tryz.sizeOf4 w⟩
instance : FldC Tryz.prog 363 2 2 := ⟨_, _, _, Tryz.underlying363, rfl, rfl, fun w => Tryz.sizeOf9 w⟩
instance : FldC Tryz.prog 363 3 3 := ⟨_, _, _, Tryz.underlying363, rfl, rfl, fun w => Tryz.sizeOf9 w⟩
instance : SlcC Tryz.prog 360 := ⟨_, Tryz.underlying360⟩
instance : FldC Tryz.prog 372 1 1 := ⟨_, _, _, Tryz.underlying372, rfl, rfl, fun w => Tryz.sizeOf4 w⟩
instance : FldC Tryz.prog 363 4 4 := ⟨_, _, _, Tryz.underlying363, rfl, rfl, fun w => Tryz.sizeOf360 w⟩
instance : FldC Tryz.prog 372 2 2 := ⟨_, _, _, Tryz.underlying372, rfl, rfl, fun w => Tryz.sizeOf4 w⟩
instance : FldC Tryz.prog 587 0 0 := ⟨_, _, _, Tryz.underlying587, rfl, rfl, fun w => Tryz.sizeOf34 w⟩
instance : FldC Tryz.prog 590 0 0 := ⟨_, _, _, Tryz.underlying590, rfl, rfl, fun w => Tryz.sizeOf31 w⟩
instance : FldC Tryz.prog 253 1 1 := ⟨_, _, _, Tryz.underlying253, rfl, rfl, fun w => Tryz.sizeOf3 w⟩
instance : FldC Tryz.prog 333 2 2 := ⟨_, _, _, Tryz.underlying333, rfl, rfl, fun w => Tryz.sizeOf3 w⟩
instance : FldC Tryz.prog 318 1 0 := ⟨_, _, _, Tryz.underlying318, rfl, rfl, fun w => Tryz.sizeOf312 w⟩
instance : FldC Tryz.prog 322 0 0 := ⟨_, _, _, Tryz.underlying322, rfl, rfl, fun w => Tryz.sizeOf23 w⟩
instance : FldC Tryz.prog 322 3 5 := ⟨_, _, _, Tryz.underlying322, rfl, rfl, fun w => Tryz.sizeOf320 w⟩
instance : SlcC Tryz.prog 32 := ⟨_, Tryz.underlying32⟩
instance : FldC Tryz.prog 268 1 1 := ⟨_, _, _, Tryz.underlying268, rfl, rfl, fun w => Tryz.sizeOf3 w⟩
instance : FldC Tryz.prog 544 2 3 := ⟨_, _, _, Tryz.underlying544, rfl, rfl, fun w => Tryz.sizeOf542 w⟩
instance : FldC Tryz.prog 549 1 1 := ⟨_, _, _, Tryz.underlying549, rfl, rfl, fun w => Tryz.sizeOf3 w⟩
instance : SlcC Tryz.prog 542 := ⟨_, Tryz.underlying542⟩
instance : FldC Tryz.prog 544 4 5 := ⟨_, _, _, Tryz.underlying544, rfl, rfl, fun w => Tryz.sizeOf4 w⟩
instance : AggC Tryz.prog 542 := ⟨fun w => Tryz.isAgg542 w⟩
instance : FldC Tryz.prog 549 2 2 := ⟨_, _, _, Tryz.underlying549, rfl, rfl, fun w => Tryz.sizeOf9 w⟩
instance : FldC Tryz.prog 492 1 1 := ⟨_, _, _, Tryz.underlying492, rfl, rfl, fun w => Tryz.sizeOf9 w⟩
instance : AggC Tryz.prog 594 := ⟨fun w => Tryz.isAgg594 w⟩
instance : FldC Tryz.prog 312 1 0 := ⟨_, _, _, Tryz.underlying312, rfl, rfl, fun w => Tryz.sizeOf310 w⟩
instance : FldC Tryz.prog 318 2 1 := ⟨_, _, _, Tryz.underlying318, rfl, rfl, fun w => Tryz.sizeOf316 w⟩
instance : FldC Tryz.prog 320 1 0 := ⟨_, _, _, Tryz.underlying320, rfl, rfl, fun w => Tryz.sizeOf21 w⟩
instance : FldC Tryz.prog 669 4 13 := ⟨_, _, _, Tryz.underlying669, rfl, rfl, fun w => Tryz.sizeOf3 w⟩
instance : FldC Tryz.prog 669 5 14 := ⟨_, _, _, Tryz.underlying669, rfl, rfl, fun w => Tryz.sizeOf4 w⟩
instance : AggC Tryz.prog 528 := ⟨fun w => Tryz.isAgg528 w⟩
instance : AggC Tryz.prog 530 := ⟨fun w => Tryz.isAgg530 w⟩
instance : AggC Tryz.prog 521 := ⟨fun w => Tryz.isAgg521 w⟩
instance : AggC Tryz.prog 79 := ⟨fun w => Tryz.isAgg79 w⟩
instance : FldC Tryz.prog 139 1 1 := ⟨_, _, _, Tryz.underlying139, rfl, rfl, fun w => Tryz.sizeOf137 w⟩
instance : FldC Tryz.prog 329 1 1 := ⟨_, _, _, Tryz.underlying329, rfl, rfl, fun w => Tryz.sizeOf3 w⟩
instance : FldC Tryz.prog 587 1 1 := ⟨_, _, _, Tryz.underlying587, rfl, rfl, fun w => Tryz.sizeOf3 w⟩
instance : FldC Tryz.prog 316 1 0 := ⟨_, _, _, Tryz.underlying316, rfl, rfl, fun w => Tryz.sizeOf314 w⟩
instance : FldC Tryz.prog 669 0 0 := ⟨_, _, _, Tryz.underlying669, rfl, rfl, fun w => Tryz.sizeOf37 w⟩
instance : FldC Tryz.prog 619 0 0 := ⟨_, _, _, Tryz.underlying619, rfl, rfl, fun w => Tryz.sizeOf3 w⟩
instance : FldC Tryz.prog 619 1 1 := ⟨_, _, _, Tryz.underlying619, rfl, rfl, fun w => Tryz.sizeOf3 w⟩
instance : FldC Tryz.prog 619 2 2 := ⟨_, _, _, Tryz.underlying619, rfl, rfl, fun w => Tryz.sizeOf3 w⟩
instance : FldC Tryz.prog 680 1 1 := ⟨_, _, _, Tryz.underlying680, rfl, rfl, fun w => Tryz.sizeOf31 w⟩
instance : FldC Tryz.prog 314 0 0 := ⟨_, _, _, Tryz.underlying314, rfl, rfl, fun w => Tryz.sizeOf21 w⟩
instance : AggC Tryz.prog 21 := ⟨fun w => Tryz.isAgg21 w⟩
instance : FldC Tryz.prog 669 1 10 := ⟨_, _, _, Tryz.underlying669, rfl, rfl, fun w => Tryz.sizeOf144 w⟩
instance : FldC Tryz.prog 669 2 11 := ⟨_, _, _, Tryz.underlying669, rfl, rfl, fun w => Tryz.sizeOf34 w⟩
instance : FldC Tryz.prog 669 3 12 := ⟨_, _, _, Tryz.underlying669, rfl, rfl, fun w => Tryz.sizeOf3 w⟩
instance : SlcC Tryz.prog 673 := ⟨_, Tryz.underlying673⟩
instance : FldC Tryz.prog 680 0 0 := ⟨_, _, _, Tryz.underlying680, rfl, rfl, fun w => Tryz.sizeOf678 w⟩
instance : AggC Tryz.prog 678 := ⟨fun w => Tryz.isAgg678 w⟩
instance : FldC Tryz.prog 314 1 1 := ⟨_, _, _, Tryz.underlying314, rfl, rfl, fun w => Tryz.sizeOf310 w⟩
instance : FldC Tryz.prog 259 2 2 := ⟨_, _, _, Tryz.underlying259, rfl, rfl, fun w => Tryz.sizeOf3 w⟩
instance : FldC Tryz.prog 733 0 0 := ⟨_, _, _, Tryz.underlying733, rfl, rfl, fun w => Tryz.sizeOf5 w⟩
instance : FldC Tryz.prog 733 1 1 := ⟨_, _, _, Tryz.underlying733, rfl, rfl, fun w => Tryz.sizeOf5 w⟩
end Go.Proofs.YtgkdnjebbikciaaGreatDoor


/-
  TopLimits, run by the evaluator (1): rounds; what the library's functions answer.
-/
namespace Go.Proofs.YtgkdnjebbikciaaGreatDoor
open Go Go.RK

set_option maxHeartbeats 2000000 in
set_option maxRecDepth 100000 in
theorem rounds_j {h : Heap} (v : Value) (n : Nat) (J : Nat → Heap → Prop) (hn : n ≤ 1000000) (h0 : J 0 h) (hJ : ∀ j h', j < n → J j h' → CallsH Tryz.prog 30 ⟨[v]⟩ h' fun _ h2 => J (j + 1) h2) :
    CallsH Tryz.prog 9 ⟨[v, In n]⟩ h fun u h' => u = .tuple ⟨[]⟩ ∧ J n h' := by
  refine calls [(0, _), (1, _)] Tryz.func9 rfl Tryz.ntmps9 rfl ⟨rfl, rfl, trivial⟩ ?_
  all_goals (refine WC.sr ?_)
  all_goals (refine Go ?_)
  all_goals (refine WC.block ?_)
  -- loop 0: slots that turn [5], that stay [0, 4]
  all_goals (refine WC.loopG (X := Nat) (fun x => ([(5, In (x : Int))] : Fr)) [(0, _), (4, _)] (fun k h' => k ≤ n ∧ J k h') (fun k => n - k) (0) ⟨rfl, rfl, rfl, trivial⟩ (by exact ⟨Nat.zero_le _, h0⟩) ?_)
  all_goals (rintro k h2 ⟨hk, hj⟩)
  all_goals (refine WC.sub [(5, _), (0, _), (4, _)] ⟨rfl, rfl, rfl, trivial⟩ ?_)
  all_goals (refine WC.sr ?_)
  all_goals (refine Go ?_)
  all_goals (refine WC.seq ?_)
  all_goals (refine goC 1 2 ?_ ?_ <;> first | exact ⟨⟩ | refine Hb.mk fun hb => ?_ | skip)
  all_goals (first | (fail_if_success refine goB 1 ?_) | (
  refine goB 1 ?_
  all_goals (refine WC.skip ?_)
  skip))
  all_goals (first | (fail_if_success refine goB 2 ?_) | (
  refine goB 2 ?_
  all_goals (refine WC.exit ?_)
  all_goals (repeat' (with_reducible first | refine thenP_x ?_ | refine blockP_miss rfl ?_ | refine blockP_hit ?_ | refine blockP_n ?_ | refine thenP_n ?_))
  all_goals (refine Br.out (i := 1000) ?_)
  skip))
  all_goals (refine Gn ?_)
  all_goals (first | (refine Br.keep ?_) | (refine WC.seq ?_))
  all_goals (first | (refine Br.keep ?_) | (refine WC.block ?_))
  all_goals (first | (refine Br.keep ?_) | (refine WC.region ?_))
  all_goals (refine Go ?_)
  all_goals (first
               | (refine Br.keep ?_)
               | (refine WL.call (vs := [_]) rfl (fun a w => Tryz.call30 a w) rfl (hJ k h2 (by omega) hj) rfl rfl rfl ?_
                  rintro _ h3 hj3))
  all_goals (refine Gn ?_)
  all_goals (first | (refine Br.keep ?_) | (refine WC.region ?_))
  all_goals (refine Go ?_)
  all_goals (first | (refine Br.keep ?_) | (exact ⟨k + 1, ⟨rfl, rfl, rfl, trivial⟩, (by exact ⟨by omega, hj3⟩), (by omega)⟩))
  all_goals (try (refine Br.mk (i := 1000) ?_))
  all_goals (refine Gn ?_)
  all_goals (refine retP_n [] trivial ?_)
  all_goals (exact ⟨rfl, (show k = n by omega) ▸ hj⟩)
theorem rouK : RouK Tryz.prog 9 30 := ⟨fun v n J h hn h0 hJ => rounds_j v n J hn h0 hJ, fun args w => Tryz.call9 args w, fun args w => Tryz.call30 args w⟩
end Go.Proofs.YtgkdnjebbikciaaGreatDoor


/-
  DERIVED: THE SHELF's CONTRACTS AT THIS DUMP, IN PLAIN WORDS (tools/lay-plain.mjs out of 'TryzShelf.lean', which tools/lay-shelf.mjs wrote): THE SAME DECLARATIONS UNDER THE SAME NAMES: 'import', 'namespace', 'open', 'def', 'theorem' AND NOTHING ELSE: no command of the shelf's: FOR A HAND-IN. Each laying: the table of numbers ('.._ren') and one theorem, a field a fact of the dump's own or the kernel's comparison; each contract: ONE APPLICATION.
-/
namespace Go.Proofs
open Go.Shelf
def Tryz.lays137_ren : Go.Shelf.Ren := ⟨fun | 137 => 255 | 217 => 362 | 266 => 474 | n => n, fun | 9 => 9 | 5 => 5 | 3 => 3 | n => n, fun | n => n⟩
theorem Tryz.lays137 : Go.Proofs.Lays.n137 Tryz.prog Tryz.lays137_ren := {
  mixed := by kernel_rfl
  f137 := Tryz.func255.trans (congrArg some (by kernel_rfl))
  f217 := Tryz.func362.trans (congrArg some (by kernel_rfl))
  f266 := Tryz.func474.trans (congrArg some (by kernel_rfl))
  t3 := Tryz.underlying3
  a3 := Tryz.isAgg3
  z3 := Tryz.sizeOf3
  v3 := Tryz.zeroValue3
  t5 := Tryz.underlying5
  a5 := Tryz.isAgg5
  z5 := Tryz.sizeOf5
  v5 := Tryz.zeroValue5
  t9 := Tryz.underlying9
  a9 := Tryz.isAgg9
  z9 := Tryz.sizeOf9
  v9 := Tryz.zeroValue9 }
open Go.RowKit in
/-- strings.IndexByte: "IndexByte returns the index of the first instance of c in s, or -1 if c is not present in s.": IT RETURNS 'Lib.indexByte s c'; the world is as it was. (LAID: no walk: one application.) -/
theorem Tryz.strings_IndexByte (s : ByteArray) (c : Int) (w : World) :
    Calls Tryz.prog 255 #[.string s, .int .u8 c] w fun e w' => e = .returned (.int .i64 (Lib.indexByte s.data.toList c.toNat.toUInt8)) ∧ w' = w := Any.strings_IndexByte Tryz.lays137 s c w
def Tryz.lays217_ren : Go.Shelf.Ren := ⟨fun | 217 => 362 | 266 => 474 | n => n, fun | 9 => 9 | 5 => 5 | 3 => 3 | n => n, fun | n => n⟩
theorem Tryz.lays217 : Go.Proofs.Lays.n217 Tryz.prog Tryz.lays217_ren := {
  mixed := by kernel_rfl
  f217 := Tryz.func362.trans (congrArg some (by kernel_rfl))
  f266 := Tryz.func474.trans (congrArg some (by kernel_rfl))
  t3 := Tryz.underlying3
  a3 := Tryz.isAgg3
  z3 := Tryz.sizeOf3
  v3 := Tryz.zeroValue3
  t5 := Tryz.underlying5
  a5 := Tryz.isAgg5
  z5 := Tryz.sizeOf5
  v5 := Tryz.zeroValue5
  t9 := Tryz.underlying9
  a9 := Tryz.isAgg9
  z9 := Tryz.sizeOf9
  v9 := Tryz.zeroValue9 }
open Go.RowKit Go.Lib in
/-- internal/stringslite.IndexByte (what strings.IndexByte calls): IT RETURNS 'Lib.indexByte s c'; the world is as it was. (LAID: no walk: one application.) -/
theorem Tryz.stringslite_IndexByte (s : ByteArray) (c : Int) (w : World) :
    Calls Tryz.prog 362 #[.string s, .int .u8 c] w fun e w' => e = .returned (.int .i64 (Lib.indexByte s.data.toList c.toNat.toUInt8)) ∧ w' = w := Any.stringslite_IndexByte Tryz.lays217 s c w
def Tryz.lays190_ren : Go.Shelf.Ren := ⟨fun | 190 => 218 | 125 => 251 | 258 => 330 | 128 => 352 | 129 => 353 | 302 => 449 | 303 => 450 | 304 => 451 | 305 => 452 | 306 => 453 | 307 => 454 | 308 => 455 | 309 => 456 | 310 => 457 | 333 => 543 | 329 => 467 | 330 => 468 | 334 => 544 | 335 => 545 | 336 => 546 | 344 => 592 | n => n, fun | 31 => 235 | 9 => 9 | 3 => 3 | 46 => 413 | 0 => 0 | 51 => 310 | 53 => 503 | 4 => 4 | 183 => 497 | 182 => 496 | 131 => 233 | 5 => 5 | 218 => 594 | 222 => 598 | 228 => 655 | 229 => 433 | n => n, fun | n => n⟩
theorem Tryz.lays190 : Go.Proofs.Lays.n190 Tryz.prog Tryz.lays190_ren := {
  mixed := by kernel_rfl
  f125 := Tryz.func251.trans (congrArg some (by kernel_rfl))
  f128 := Tryz.func352.trans (congrArg some (by kernel_rfl))
  f129 := Tryz.func353.trans (congrArg some (by kernel_rfl))
  f190 := Tryz.func218.trans (congrArg some (by kernel_rfl))
  f258 := Tryz.func330.trans (congrArg some (by kernel_rfl))
  f302 := Tryz.func449.trans (congrArg some (by kernel_rfl))
  f303 := Tryz.func450.trans (congrArg some (by kernel_rfl))
  f304 := Tryz.func451.trans (congrArg some (by kernel_rfl))
  f305 := Tryz.func452.trans (congrArg some (by kernel_rfl))
  f306 := Tryz.func453.trans (congrArg some (by kernel_rfl))
  f307 := Tryz.func454.trans (congrArg some (by kernel_rfl))
  f308 := Tryz.func455.trans (congrArg some (by kernel_rfl))
  f309 := Tryz.func456.trans (congrArg some (by kernel_rfl))
  f310 := Tryz.func457.trans (congrArg some (by kernel_rfl))
  f329 := Tryz.func467.trans (congrArg some (by kernel_rfl))
  f330 := Tryz.func468.trans (congrArg some (by kernel_rfl))
  f333 := Tryz.func543.trans (congrArg some (by kernel_rfl))
  f334 := Tryz.func544.trans (congrArg some (by kernel_rfl))
  f335 := Tryz.func545.trans (congrArg some (by kernel_rfl))
  f336 := Tryz.func546.trans (congrArg some (by kernel_rfl))
  f344 := Tryz.func592.trans (congrArg some (by kernel_rfl))
  t0 := Tryz.underlying0
  a0 := Tryz.isAgg0
  z0 := Tryz.sizeOf0
  v0 := Tryz.zeroValue0
  t3 := Tryz.underlying3
  a3 := Tryz.isAgg3
  z3 := Tryz.sizeOf3
  v3 := Tryz.zeroValue3
  t4 := Tryz.underlying4
  a4 := Tryz.isAgg4
  z4 := Tryz.sizeOf4
  v4 := Tryz.zeroValue4
  t5 := Tryz.underlying5
  a5 := Tryz.isAgg5
  z5 := Tryz.sizeOf5
  v5 := Tryz.zeroValue5
  t9 := Tryz.underlying9
  a9 := Tryz.isAgg9
  z9 := Tryz.sizeOf9
  v9 := Tryz.zeroValue9
  t31 := Tryz.underlying235
  a31 := Tryz.isAgg235
  z31 := Tryz.sizeOf235
  v31 := Tryz.zeroValue235
  t46 := Tryz.underlying413
  a46 := Tryz.isAgg413
  z46 := Tryz.sizeOf413
  v46 := Tryz.zeroValue413
  t51 := Tryz.underlying310
  a51 := Tryz.isAgg310
  z51 := Tryz.sizeOf310
  v51 := Tryz.zeroValue310
  t53 := Tryz.underlying503
  a53 := Tryz.isAgg503
  z53 := Tryz.sizeOf503
  v53 := Tryz.zeroValue503
  t131 := Tryz.underlying233
  a131 := Tryz.isAgg233
  z131 := Tryz.sizeOf233
  v131 := Tryz.zeroValue233
  t182 := Tryz.underlying496
  a182 := Tryz.isAgg496
  z182 := Tryz.sizeOf496
  v182 := Tryz.zeroValue496
  t183 := Tryz.underlying497
  a183 := Tryz.isAgg497
  z183 := Tryz.sizeOf497
  v183 := Tryz.zeroValue497
  t218 := Tryz.underlying594
  a218 := Tryz.isAgg594
  z218 := Tryz.sizeOf594
  v218 := Tryz.zeroValue594
  t222 := Tryz.underlying598
  a222 := Tryz.isAgg598
  z222 := Tryz.sizeOf598
  v222 := Tryz.zeroValue598
  t228 := Tryz.underlying655
  a228 := Tryz.isAgg655
  z228 := Tryz.sizeOf655
  v228 := Tryz.zeroValue655
  t229 := Tryz.underlying433
  a229 := Tryz.isAgg433
  z229 := Tryz.sizeOf433
  v229 := Tryz.zeroValue433 }
open Go.Sort Go.RowKit in
theorem Tryz.slices_Sort_string (blk off cap : Nat) (ss : List (List UInt8)) (w : World) (hH : Holds encStr w blk off ss.toArray) (hblk : blk < w.heap.size) (hsz : ss.length < 4611686018427387904) :
    Calls Tryz.prog 218 #[.slice (some ⟨blk, off, none⟩) ss.length cap] w fun e w' =>
      e = .returned (.tuple #[]) ∧ ∃ n os, w' = grow (putRow encStr (Sort.ahead w n) blk off (ss.mergeSort fun x y => decide (x ≤ y)).toArray) os := Any.slices_Sort_string Tryz.lays190 blk off cap ss w hH hblk hsz
open Go.RowKit Go.Sort in
/-- .. and plain. (LAID: no walk: one application.) -/
theorem Tryz.slices_Sort_string_none (p : Option Addr) (cap : Nat) (w : World) :
    Calls Tryz.prog 218 #[.slice p 0 cap] w fun e w' => e = .returned (.tuple #[]) ∧ w' = w := Any.slices_Sort_string_none Tryz.lays190 p cap w
def Tryz.lays187_ren : Go.Shelf.Ren := ⟨fun | 187 => 281 | 255 => 382 | n => n, fun | 37 => 31 | 5 => 5 | 3 => 3 | n => n, fun | n => n⟩
theorem Tryz.lays187 : Go.Proofs.Lays.n187 Tryz.prog Tryz.lays187_ren := {
  mixed := by kernel_rfl
  f187 := Tryz.func281.trans (congrArg some (by kernel_rfl))
  f255 := Tryz.func382.trans (congrArg some (by kernel_rfl))
  t3 := Tryz.underlying3
  a3 := Tryz.isAgg3
  z3 := Tryz.sizeOf3
  v3 := Tryz.zeroValue3
  t5 := Tryz.underlying5
  a5 := Tryz.isAgg5
  z5 := Tryz.sizeOf5
  v5 := Tryz.zeroValue5
  t37 := Tryz.underlying31
  a37 := Tryz.isAgg31
  z37 := Tryz.sizeOf31
  v37 := Tryz.zeroValue31 }
/-- bytes.IndexByte: "IndexByte returns the index of the first instance of c in b, or -1 if c is not present in b.": IT RETURNS 'Lib.indexByte (the bytes of b) c'; the world is as it was. 'xs': the numbers that the slice's cells hold. (LAID: no walk: one application.) -/
theorem Tryz.bytes_IndexByte (b o n c : Nat) (xs : List Int) (cv : Int) (w : World) (hx : xs.length = n) (hc : ∀ i, i < n → w.cell? ⟨b, o + i, none⟩ = some (.int .u8 (xs.getD i 0))) :
    Calls Tryz.prog 281 #[.slice (some ⟨b, o, none⟩) n c, .int .u8 cv] w fun e w' => e = .returned (.int .i64 (Lib.indexByte (Lib.bytesOf xs) cv.toNat.toUInt8)) ∧ w' = w := Any.bytes_IndexByte Tryz.lays187 b o n c xs cv w hx hc
end Go.Proofs

/-
  package slices at slices of numbers: Index, Equal, Clone, Delete.
-/
namespace Go.Proofs.YtgkdnjebbikciaaGreatDoor
open Go Go.RK


abbrev ints (l : List Int) : List Value := l.map In
/-- Where a number stands; below 0: nowhere. -/
def idxOf : List Int → Int → Int
  | [], _ => -1
  | a :: l, x => if a = x then 0 else if idxOf l x < 0 then -1 else idxOf l x + 1
end Go.Proofs.YtgkdnjebbikciaaGreatDoor


/-
  WHERE THE FIRST STANDS THAT A PREDICATE TAKES, in plain Lean.
-/
namespace Go.Proofs.YtgkdnjebbikciaaGreatDoor
open Go Go.RK

section
variable {α : Type} (p : α → Bool)
/-- Where the first stands that p takes; below 0: nowhere. -/
def idxP : List α → Int
  | [] => -1
  | a :: l => if p a then 0 else if idxP l < 0 then -1 else idxP l + 1
variable {p}
end
end Go.Proofs.YtgkdnjebbikciaaGreatDoor


/-
  package slices at slices of numbers: IndexFunc, DeleteFunc, Contains.
-/
namespace Go.Proofs.YtgkdnjebbikciaaGreatDoor
open Go Go.RK
end Go.Proofs.YtgkdnjebbikciaaGreatDoor


/-
  []byte OF A ROW OF BYTES, WRITTEN OUT ([]byte of a constant text): it stays where it is. No program is named here.
-/
namespace Go.RK
open Go

section
variable {P : Program} {f : Fr} {h : Heap} {d : Option Tmp} {ty : TypeId} {pos : String} {af : Array Edge} {g : Option (Nat × Bool)}
end
end Go.RK

/-
  BYTES LOOKED FOR; clean texts; numbers within bounds: packages bytes, strings, digits, front, back.
-/
namespace Go.Proofs.YtgkdnjebbikciaaGreatDoor
open Go Go.RK

theorem ixb_nat (c : UInt8) : ((c.toNat : Int)).toNat.toUInt8 = c := by simp
theorem indexByte_str {h : Heap} (s : List UInt8) (c : UInt8) :
    CallsH Tryz.prog 255 ⟨[St s, By c]⟩ h fun u h' => u = In (Lib.indexByte s c) ∧ h' = h := fun w hw =>
  (Tryz.strings_IndexByte ⟨⟨s⟩⟩ c.toNat w).mono fun e w' ⟨he, hb⟩ => ⟨⟨by rw [hb], by rw [hb], by rw [hb], by subst hb; exact Nat.le_refl _⟩, _, he, by rw [ixb_nat], by rw [hb, hw]⟩
theorem indexByte_bys {h : Heap} {v : Value} (l : List UInt8) (c : UInt8) (hr : Rd h v 1 l.length (bys l)) (h0 : 0 < l.length) :
    CallsH Tryz.prog 281 ⟨[v, By c]⟩ h fun u h' => u = In (Lib.indexByte l c) ∧ h' = h := by
  obtain ⟨A, cap, rfl, _⟩ := id hr
  obtain ⟨b, o, rfl, _, hat⟩ := Rd.at_ hr h0
  intro w hw
  subst hw
  have e : Lib.bytesOf (l.map fun x : UInt8 => (x.toNat : Int)) = l := by
    unfold Lib.bytesOf
    rw [List.map_map]
    conv => rhs; rw [← List.map_id l]
    exact List.map_congr_left fun x _ => ixb_nat x
  refine (Tryz.bytes_IndexByte b o l.length cap (l.map fun x : UInt8 => (x.toNat : Int)) c.toNat w (by simp) fun i hi => ?_).mono fun e' w' ⟨he, hb⟩ => ⟨⟨by rw [hb], by rw [hb], by rw [hb], by subst hb; exact Nat.le_refl _⟩, _, he, by rw [ixb_nat, e], by rw [hb]⟩
  rw [cell_eq]
  have := hat i (By l[i]) (by simp [hi])
  rw [this]
  simp [List.getD, hi]
def cleanB (s : List UInt8) : Bool := !s.contains 0
def withinB (l : List Int) (lo hi : Int) : Bool := decide (l.length ≤ 65535) && !l.any fun n => decide (n < lo) || decide (hi < n)
def knownI (k : UInt8) : Int := if ([66, 67, 68, 69, 72, 80, 81, 83, 88] : List UInt8).contains k then 1 else if ([70, 99, 100, 102, 112] : List UInt8).contains k then 2 else 0
end Go.Proofs.YtgkdnjebbikciaaGreatDoor


/-
  sync.Once at this seat: Do, not yet done, the lock free; and Do, done already. The function that is called is met by its contract.
-/
namespace Go.Proofs.YtgkdnjebbikciaaGreatDoor
open Go Go.RK
theorem disable (w : World) : (callFunc 620 #[]).run Tryz.prog w = .ok (.value (.tuple #[])) w := run_call_mark0 Tryz.func620 (by kernel_rfl) (by kernel_rfl) (by kernel_rfl) .disable (by kernel_rfl) w
theorem enable (w : World) : (callFunc 622 #[]).run Tryz.prog w = .ok (.value (.tuple #[])) w := run_call_mark0 Tryz.func622 (by kernel_rfl) (by kernel_rfl) (by kernel_rfl) .enable (by kernel_rfl) w
theorem acquire (a : Addr) (w : World) : (callFunc 623 #[.pointer (some a)]).run Tryz.prog w = .ok (.value (.tuple #[])) w := run_call_marked Tryz.func623 (by kernel_rfl) (by kernel_rfl) (by kernel_rfl) .acquire (by kernel_rfl) a w
theorem releaseMerge (a : Addr) (w : World) : (callFunc 625 #[.pointer (some a)]).run Tryz.prog w = .ok (.value (.tuple #[])) w := run_call_marked Tryz.func625 (by kernel_rfl) (by kernel_rfl) (by kernel_rfl) .releaseMerge (by kernel_rfl) a w
set_option maxRecDepth 100000 in
theorem store_deferred (a : Addr) (x : Value) (u : FrameMode) (w : World) (hc : w.cell? a = some x) (hz : w.frozen? a = false) :
    CallsD Tryz.prog 555 #[.pointer (some a), .bool true] u w fun e u' w' => u' = u ∧ (e = .returned (.tuple #[]) ∧ w' = w.drew.setCell a (.int .u32 1)) := by
  have hc' : w.drew.cell? a = some x := by go_simp
  have hz' : w.drew.frozen? a = false := by go_simp
  have hst := run_call_store (P := Tryz.prog) Tryz.func596 (by kernel_rfl) (by kernel_rfl) (by kernel_rfl) (by kernel_rfl) (k := .u32) (y := 1) hc' hz'
  go_enter_d Tryz.func555, Tryz.ntmps555
  go_wp2
  go_region_calls
  all_goals (go_end0; exact ⟨rfl, rfl⟩)
set_option maxRecDepth 100000 in
theorem unlock_deferred (a : Addr) (u : FrameMode) (w : World) (hc : w.cell? a = some (.int .i32 1)) (hz : w.frozen? a = false) :
    CallsD Tryz.prog 554 #[.pointer (some a)] u w fun e u' w' => u' = u ∧ (e = .returned (.tuple #[]) ∧ w' = w.setCell a (.int .i32 0)) := by
  have hd := disable
  have he := enable
  have hr := releaseMerge
  have hadd := run_call_add (P := Tryz.prog) Tryz.func556 (by kernel_rfl) (by kernel_rfl) (by kernel_rfl) .i32 (by kernel_rfl) (y := -1) (s := 0) hc hz (by simp [go_sem]; rfl)
  have hcv := run_convert_to_unsafe (P := Tryz.prog) (src := 714) (dst := 177) Tryz.underlying714 Tryz.underlying177 (by kernel_rfl) hc
  go_enter_d Tryz.func554, Tryz.ntmps554
  go_wp2
  go_end0
  go_wp2
  go_end0
  exact ⟨rfl, rfl⟩
set_option maxRecDepth 100000 in
theorem lock_free (a : Addr) (w : World) (hc : w.cell? a = some (.int .i32 0)) (hz : w.frozen? a = false) :
    Calls Tryz.prog 553 #[.pointer (some a)] w fun e w' => e = .returned (.tuple #[]) ∧ w' = w.setCell a (.int .i32 1) := by
  have hd := disable
  have he := enable
  have ha := acquire
  have hcas := run_call_cas_hit (P := Tryz.prog) Tryz.func621 (by kernel_rfl) (by kernel_rfl) (by kernel_rfl) .i32 (by kernel_rfl) (y := 1) hc hz
  have hc' : (w.setCell a (.int .i32 1)).cell? a = some (.int .i32 1) := World.cell?_setCell_same w a _ hc
  have hcv := run_convert_to_unsafe (P := Tryz.prog) (src := 714) (dst := 177) Tryz.underlying714 Tryz.underlying177 (by kernel_rfl) hc'
  go_enter Tryz.func553, Tryz.ntmps553
  go_wp2
  first | go_end0 | (simp only [Exit.inBlock, Exit.then]; refine bodyPost_ret (results_none rfl _ _ _) rfl ?_) | refine bodyPost_ret (results_none rfl _ _ _) rfl ?_
  go_wp2
  go_end0
  exact ⟨rfl, rfl⟩
set_option maxRecDepth 100000 in
set_option maxHeartbeats 1600000 in
/-- doSlow, not yet done, the lock free. -/
theorem slow_any (b off : Nat) (x : Value) (R : World → Prop) (w : World)
    (h0 : w.cell? ⟨b, off, none⟩ = some (.int .u32 0)) (h1 : w.cell? ⟨b, off + 1, none⟩ = some (.int .i32 0)) (f1 : w.frozen? ⟨b, off + 1, none⟩ = false)
    (hR : Calls Tryz.prog 369 #[x] (w.setCell ⟨b, off + 1, none⟩ (.int .i32 1)) fun e w2 => (∃ u, e = .returned u) ∧ R w2)
    (hk : ∀ w2, R w2 → w2.cell? ⟨b, off, none⟩ = some (.int .u32 0) ∧ w2.cell? ⟨b, off + 1, none⟩ = some (.int .i32 1) ∧ w2.frozen? ⟨b, off, none⟩ = false ∧ w2.frozen? ⟨b, off + 1, none⟩ = false) :
    Calls Tryz.prog 484 #[.pointer (some ⟨b, off, none⟩), .func (.func 369) #[x] #[]] w fun e w' => e = .returned (.tuple #[]) ∧
      ∃ w2, R w2 ∧ w' = (w2.drew.setCell ⟨b, off, none⟩ (.int .u32 1)).setCell ⟨b, off + 1, none⟩ (.int .i32 0) := by
  have hl := run_call_load (P := Tryz.prog) Tryz.func552 (by kernel_rfl) (by kernel_rfl) (by kernel_rfl) .u32 (by kernel_rfl) (w := w.setCell ⟨b, off + 1, none⟩ (.int .i32 1)) (a := ⟨b, off, none⟩) (x := 0) ((World.cell?_setCell_other _ ⟨b, off + 1, none⟩ ⟨b, off, none⟩ _ (by simp)).trans h0)
  have hnot : ∀ (x : Bool) (w : World), (Op.unary .not (.bool x)).run Tryz.prog w = .ok (.bool (!x)) w := fun _ _ => rfl
  go_enter_defers Tryz.func484, Tryz.ntmps484
  go_wp2_with (go_at_call 553; refine (lock_free ⟨b, off + 1, none⟩ _ h1 f1).mono ?_; rintro e w' ⟨rfl, rfl⟩)
  go_wp2_with (go_at_call 483; go_in)
  go_wp2_with (go_at_call 369; refine hR.mono ?_; rintro e w2 ⟨⟨u, rfl⟩, hr⟩)
  obtain ⟨k0, k1, z0, z1⟩ := hk _ hr
  refine leaves_cons (f := 555) (args := #[.pointer (some ⟨b, off, none⟩), .bool true]) (by simp) (by simp [go_sem]) ?_
  refine (store_deferred ⟨b, off, none⟩ (.int .u32 0) .returning _ k0 z0).mono ?_
  rintro e u' w'' ⟨rfl, rfl, rfl⟩
  refine leaves_cons (f := 554) (args := #[.pointer (some ⟨b, off + 1, none⟩)]) (by simp [settle]) (by simp [go_sem]) ?_
  refine (unlock_deferred ⟨b, off + 1, none⟩ _ _ ?_ (by simp [z1])).mono ?_
  · refine (World.cell?_setCell_other _ ⟨b, off, none⟩ ⟨b, off + 1, none⟩ _ (by simp)).trans ?_
    rw [World.cell?_drew]
    exact k1
  rintro e u' w'' ⟨rfl, rfl, rfl⟩
  simp [Leaves, settle, results, Tryz.results484]
  exact ⟨_, hr, rfl⟩
set_option maxRecDepth 100000 in
set_option maxHeartbeats 1600000 in
/-- Do, not yet done, the lock free. -/
theorem do_first (b off : Nat) (x : Value) (R : World → Prop) (w : World)
    (h0 : w.cell? ⟨b, off, none⟩ = some (.int .u32 0)) (h1 : w.cell? ⟨b, off + 1, none⟩ = some (.int .i32 0)) (f1 : w.frozen? ⟨b, off + 1, none⟩ = false)
    (hR : Calls Tryz.prog 369 #[x] (w.setCell ⟨b, off + 1, none⟩ (.int .i32 1)) fun e w2 => (∃ u, e = .returned u) ∧ R w2)
    (hk : ∀ w2, R w2 → w2.cell? ⟨b, off, none⟩ = some (.int .u32 0) ∧ w2.cell? ⟨b, off + 1, none⟩ = some (.int .i32 1) ∧ w2.frozen? ⟨b, off, none⟩ = false ∧ w2.frozen? ⟨b, off + 1, none⟩ = false) :
    Calls Tryz.prog 368 #[.pointer (some ⟨b, off, none⟩), .func (.func 369) #[x] #[]] w fun e w' => e = .returned (.tuple #[]) ∧
      ∃ w2, R w2 ∧ w' = (w2.drew.setCell ⟨b, off, none⟩ (.int .u32 1)).setCell ⟨b, off + 1, none⟩ (.int .i32 0) := by
  have hl := run_call_load (P := Tryz.prog) Tryz.func552 (by kernel_rfl) (by kernel_rfl) (by kernel_rfl) .u32 (by kernel_rfl) h0
  have hnot : ∀ (x : Bool) (w : World), (Op.unary .not (.bool x)).run Tryz.prog w = .ok (.bool (!x)) w := fun _ _ => rfl
  go_enter Tryz.func368, Tryz.ntmps368
  go_wp2_with (first | (go_at_call 484; refine (slow_any b off x R _ h0 h1 f1 hR hk).mono ?_; rintro e w' ⟨rfl, w2, hr, rfl⟩) | (go_at_call 483; go_in))
  go_end0
  exact ⟨rfl, _, hr, rfl⟩
set_option maxRecDepth 100000 in
/-- Do, done already: the function is not called. -/
theorem do_done (a : Addr) (d : Int) (hd : ¬ d = 0) (fv : Value) (w : World) (h0 : w.cell? a = some (.int .u32 d)) :
    Calls Tryz.prog 368 #[.pointer (some a), fv] w fun e w' => e = .returned (.tuple #[]) ∧ w' = w := by
  have hl := run_call_load (P := Tryz.prog) Tryz.func552 (by kernel_rfl) (by kernel_rfl) (by kernel_rfl) .u32 (by kernel_rfl) h0
  have hnot : ∀ (x : Bool) (w : World), (Op.unary .not (.bool x)).run Tryz.prog w = .ok (.bool (!x)) w := fun _ _ => rfl
  have hd' : (d != 0) = true := by simp [hd]
  go_enter Tryz.func368, Tryz.ntmps368
  go_wp2_with (go_at_call 483; go_in)
  go_end0
  exact ⟨rfl, rfl⟩
end Go.Proofs.YtgkdnjebbikciaaGreatDoor

/-
  NUMBERS IN DIGITS: package digits' Text (with strings.Builder) and the document's.
-/
namespace Go.Proofs.YtgkdnjebbikciaaGreatDoor
open Go Go.RK

/-- A number's digits, from the last one on. -/
def rdig (m : Nat) : List UInt8 := if m < 10 then [UInt8.ofNat (48 + m)] else UInt8.ofNat (48 + m % 10) :: rdig (m / 10)
/-- A number in digits. -/
def dig (m : Nat) : List UInt8 := (rdig m).reverse
def deci (n : Int) : List UInt8 := if n < 0 then 45 :: dig n.natAbs else dig n.natAbs
theorem rdig_lt {m : Nat} (h : m < 10) : rdig m = [UInt8.ofNat (48 + m)] := by unfold rdig; rw [if_pos h]
theorem rdig_ge {m : Nat} (h : ¬ m < 10) : rdig m = UInt8.ofNat (48 + m % 10) :: rdig (m / 10) := by rw [rdig, if_neg h]
theorem rdig_len (k m : Nat) (h : m < 10 ^ (k + 1)) : (rdig m).length ≤ k + 1 := by
  induction k generalizing m with
  | zero => rw [rdig_lt (by omega)]; simp
  | succ k ih =>
    by_cases h1 : m < 10
    · rw [rdig_lt h1]; simp
    · rw [rdig_ge h1]
      have : m / 10 < 10 ^ (k + 1) := by
        rw [Nat.div_lt_iff_lt_mul (by omega)]
        rw [Nat.pow_succ] at h
        exact h
      have := ih _ this
      simp; omega
theorem rdig_len20 (m : Nat) (h : m ≤ 9223372036854775808) : (rdig m).length ≤ 20 := rdig_len 19 m (by omega)
theorem rdig_pos (m : Nat) : 0 < (rdig m).length := by unfold rdig; split <;> simp
theorem by_dig (m : Nat) : By (UInt8.ofNat (48 + m % 10)) = .int .u8 (48 + (m % 10 : Nat)) := by
  have : (UInt8.ofNat (48 + m % 10)).toNat = 48 + m % 10 := by simp; omega
  unfold By
  rw [this]
  simp
theorem tdiv_neg10 (m : Nat) : (-(m : Int)).tdiv 10 = -((m / 10 : Nat) : Int) := by rw [Int.neg_tdiv]; rfl
theorem tmod_neg10 (m : Nat) : (-(m : Int)).tmod 10 = -((m % 10 : Nat) : Int) := by rw [Int.neg_tmod]; rfl
/-! ### package strings: Builder -/
/-- A builder that no text was asked of, with these bytes. -/
def Bl (h : Heap) (b : Nat) (v : Value) (bs : List UInt8) : Prop := (∃ p, h[b]? = some (.cells ⟨[p, v]⟩ 680 (0, 0)) ∧ (p = .pointer none ∨ p = .pointer (some ⟨b, 0, none⟩))) ∧ Own h v 5 1 bs.length (bys bs) ∧ (bs = [] → v = .slice none 0 0)
theorem noEscape (v : Value) (w : World) : (callFunc 639 #[v]).run Tryz.prog w = .ok (.value v) w := by
  rw [run_callFunc_extern (P := Tryz.prog) (fn := Tryz.f639) (e := Extern.AbiNoEscape.same) (by kernel_rfl) (by kernel_rfl) rfl (by kernel_rfl) (by kernel_rfl)]
  rfl
set_option maxHeartbeats 2000000 in
set_option maxRecDepth 100000 in
theorem copyCheck {h : Heap} {b : Nat} {v : Value} {bs : List UInt8} (r : Bl h b v bs) :
    CallsH Tryz.prog 609 ⟨[.pointer (some ⟨b, 0, none⟩)]⟩ h fun u h' => u = .tuple ⟨[]⟩ ∧ h'[b]? = some (.cells ⟨[.pointer (some ⟨b, 0, none⟩), v]⟩ 680 (0, 0)) ∧ Ext (fun k => k = b) h h' := by
  obtain ⟨⟨p, hb, rfl | rfl⟩, ho, _⟩ := r
  · obtain ⟨A, c, rfl, _⟩ := ho.slice
    refine calls [(0, _)] Tryz.func609 rfl Tryz.ntmps609 rfl ⟨rfl, trivial⟩ ?_
    all_goals (refine WC.sr ?_)
    all_goals (refine Go ?_)
    all_goals (refine WL.step (ok_nilCheck rfl) rfl rfl rfl ?_)
    all_goals (refine Go ?_)
    all_goals (refine Ld ?_)
    all_goals (refine WL.step (ok_eqlPn Tryz.underlying678 rfl rfl) rfl rfl rfl ?_)
    all_goals (refine Gn ?_)
    all_goals (refine Gs [(0, _), (6, _)] ?_)
    all_goals (refine goC 1 2 ?_ ?_ <;> first | exact ⟨⟩ | refine Hb.mk fun hb => ?_ | skip)
    all_goals (first | (fail_if_success refine goB 1 ?_) | (
    refine goB 1 ?_
    all_goals (refine WC.region ?_)
    all_goals (refine Go ?_)
    all_goals (refine WL.step (ok_toUnsafe Tryz.underlying678 Tryz.underlying177 (show Tryz.prog.info? 680 = some Tryz.t680 by kernel_rfl) (by decide) rfl (by assumption) (Nat.le_of_ble_eq_true rfl)) rfl rfl rfl ?_)
    all_goals (refine WL.step (ok_extern (fun w => noEscape _ w) rfl) rfl rfl rfl ?_)
    all_goals (refine WL.step (ok_fromUnsafe Tryz.underlying177 Tryz.underlying678 (show Tryz.prog.info? 680 = some Tryz.t680 by kernel_rfl) rfl (by assumption) (by kernel_rfl)) rfl rfl rfl ?_)
    all_goals (refine WL.step (ok_nilCheck rfl) rfl rfl rfl ?_)
    all_goals (refine Go ?_)
    all_goals (refine WL.stepR0 (okE_store (fun w => Tryz.sizeOf678 w) rfl rfl (by assumption) (Nat.le_of_ble_eq_true rfl) rfl rfl) rfl rfl ?_
               rintro _ h1 ⟨hb1, hx1⟩)
    all_goals (refine Gn ?_)
    skip))
    all_goals (first | (fail_if_success refine goB 2 ?_) | (
    refine goB 2 ?_
    all_goals (refine WC.sr ?_)
    all_goals (refine Go ?_)
    all_goals (refine WL.step (ok_nilCheck rfl) rfl rfl rfl ?_)
    all_goals (refine Go ?_)
    all_goals (refine Ld ?_)
    all_goals (refine Go ?_)
    all_goals (refine WL.step (ok_neqPn Tryz.underlying678 rfl rfl) rfl rfl rfl ?_)
    all_goals (refine Gn ?_)
    all_goals (refine Gs [(19, _)] ?_)
    all_goals (refine goC 3 4 ?_ ?_ <;> first | exact ⟨⟩ | refine Hb.mk fun hb => ?_ | skip)
    all_goals (first | (fail_if_success refine goB 3 ?_) | (
    refine goB 3 ?_
    fail "refused"
    skip))
    all_goals (first | (fail_if_success refine goB 4 ?_) | (
    refine goB 4 ?_
    all_goals (refine WC.skip ?_)
    skip))
    skip))
    all_goals (refine Gn ?_)
    all_goals (refine retP_n [] trivial ?_)
    all_goals (exact ⟨rfl, hb1, hx1⟩)
  · obtain ⟨A, c, rfl, _⟩ := ho.slice
    refine calls [(0, _)] Tryz.func609 rfl Tryz.ntmps609 rfl ⟨rfl, trivial⟩ ?_
    all_goals (refine WC.sr ?_)
    all_goals (refine Go ?_)
    all_goals (refine WL.step (ok_nilCheck rfl) rfl rfl rfl ?_)
    all_goals (refine Go ?_)
    all_goals (refine Ld ?_)
    all_goals (refine WL.step (ok_eqlPn Tryz.underlying678 rfl rfl) rfl rfl rfl ?_)
    all_goals (refine Gn ?_)
    all_goals (refine Gs [(0, _), (6, _)] ?_)
    all_goals (refine goC 1 2 ?_ ?_ <;> first | exact ⟨⟩ | refine Hb.mk fun hb => ?_ | skip)
    all_goals (first | (fail_if_success refine goB 1 ?_) | (
    refine goB 1 ?_
    all_goals (refine WC.region ?_)
    all_goals (refine Go ?_)
    all_goals (refine WL.step (ok_toUnsafe Tryz.underlying678 Tryz.underlying177 (show Tryz.prog.info? 680 = some Tryz.t680 by kernel_rfl) (by decide) rfl (by assumption) (Nat.le_of_ble_eq_true rfl)) rfl rfl rfl ?_)
    all_goals (refine WL.step (ok_extern ? rfl) rfl rfl rfl ?_)
    all_goals (refine WL.step (ok_fromUnsafe Tryz.underlying177 Tryz.underlying678 (show Tryz.prog.info? 680 = some Tryz.t680 by kernel_rfl) rfl (by assumption) (by kernel_rfl)) rfl rfl rfl ?_)
    all_goals (refine WL.step (ok_nilCheck rfl) rfl rfl rfl ?_)
    all_goals (refine Go ?_)
    all_goals (refine WL.stepR0 (okE_store (fun w => Tryz.sizeOf678 w) rfl rfl (by assumption) (Nat.le_of_ble_eq_true rfl) rfl rfl) rfl rfl ?_
               rintro _ h1 ⟨hb1, hx1⟩)
    all_goals (refine Gn ?_)
    skip))
    all_goals (first | (fail_if_success refine goB 2 ?_) | (
    refine goB 2 ?_
    all_goals (refine WC.sr ?_)
    all_goals (refine Go ?_)
    all_goals (refine WL.step (ok_nilCheck rfl) rfl rfl rfl ?_)
    all_goals (refine Go ?_)
    all_goals (refine Ld ?_)
    all_goals (refine Go ?_)
    all_goals (refine WL.step (ok_neqPs Tryz.underlying678 (show Tryz.prog.info? 680 = some Tryz.t680 by kernel_rfl) rfl rfl) rfl rfl rfl ?_)
    all_goals (refine Gn ?_)
    all_goals (refine Gs [(19, _)] ?_)
    all_goals (refine goC 3 4 ?_ ?_ <;> first | exact ⟨⟩ | refine Hb.mk fun hb => ?_ | skip)
    all_goals (first | (fail_if_success refine goB 3 ?_) | (
    refine goB 3 ?_
    fail "refused"
    skip))
    all_goals (first | (fail_if_success refine goB 4 ?_) | (
    refine goB 4 ?_
    all_goals (refine WC.skip ?_)
    skip))
    skip))
    all_goals (refine Gn ?_)
    all_goals (refine retP_n [] trivial ?_)
    all_goals (exact ⟨rfl, hb, .refl _ _⟩)
set_option maxHeartbeats 2000000 in
set_option maxRecDepth 100000 in
theorem writeByte {h : Heap} {b : Nat} {v : Value} {bs : List UInt8} (r : Bl h b v bs) (c : UInt8) (hm : bs.length ≤ 1000000) :
    CallsH Tryz.prog 569 ⟨[.pointer (some ⟨b, 0, none⟩), By c]⟩ h fun u h' => u = .nilIface ∧ ∃ v', Bl h' b v' (bs ++ [c]) ∧ Ext (fun k => k = b ∨ v.ownBlock = some k) h h' ∧ ∀ k, v'.ownBlock = some k → v.ownBlock = some k ∨ h.size ≤ k := by
  have r0 := r
  obtain ⟨⟨p, hb, _⟩, ho, _⟩ := r
  obtain ⟨A, c0, rfl, _⟩ := ho.slice
  have hne : (Value.slice A bs.length c0).ownBlock ≠ some b := own_ne ho hb (by decide)
  refine calls [(0, _), (1, _)] Tryz.func569 rfl Tryz.ntmps569 rfl ⟨rfl, rfl, trivial⟩ ?_
  all_goals (refine WC.sr ?_)
  all_goals (refine Go ?_)
  all_goals (refine WC.sr ?_)
  all_goals (refine Go ?_)
  all_goals (refine WL.call (vs := [_]) rfl (fun a w => Tryz.call609 a w) rfl (copyCheck r0) rfl rfl rfl ?_
             rintro _ h1 ⟨rfl, hb1, hx1⟩)
  all_goals (have ho1 := ho.ext hx1 (fun k hk e => hne (by rw [hk, e])))
  all_goals (refine Gn ?_)
  all_goals (refine WC.sr ?_)
  all_goals (refine Go ?_)
  all_goals (refine WL.step (ok_nilCheck rfl) rfl rfl rfl ?_)
  all_goals (refine Go ?_)
  all_goals (refine Ld ?_)
  all_goals (refine Go ?_)
  all_goals (refine WL.stepR (okE_buildSlice (vs := [_]) (cs := [_]) (fun | [a0] => [a0] | _ => []) Tryz.underlying31 rfl rfl (by kernel_rfl)) rfl rfl rfl ?_
             rintro _ h3 ⟨b3, rfl, hg3, hb3, hx3⟩)
  all_goals (have ho3 := ho1.ext hx3 (fun _ _ => nos)
             have hb3' := hx3.obj hb1 nos)
  all_goals (refine WL.stepR (ok_append (sz := 1) (bytes := 1) rfl Tryz.underlying31 (show Tryz.prog.info? 5 = some Tryz.t5 by kernel_rfl) rfl rfl rfl rfl (by decide) rfl rfl ho3 (rd_blk hb3 rfl) (by simp [Value.oneCell']) (by simp only [maxLen]; omega) (by omega)) rfl rfl rfl ?_
             rintro v4 h4 ⟨ho4, hx4, hl4⟩)
  all_goals (obtain ⟨A4, c4, rfl, _⟩ := ho4.slice
             have hb4 := hx4.obj hb3' (fun e => hne e))
  all_goals (refine WL.step (ok_nilCheck rfl) rfl rfl rfl ?_)
  all_goals (refine Go ?_)
  all_goals (refine WL.stepR0 (okE_store (fun w => Tryz.sizeOf31 w) rfl rfl hb4 (Nat.le_of_ble_eq_true rfl) rfl rfl) rfl rfl ?_
             rintro _ h5 ⟨hb5, hx5⟩)
  all_goals (refine Gn ?_)
  all_goals (refine Gs [] ?_)
  all_goals (refine WC.sr ?_)
  all_goals (refine Go ?_)
  all_goals (refine Gt ?_)
  all_goals (exact ⟨rfl, _, ⟨⟨_, hb5, .inr rfl⟩, by simpa using ho4.ext hx5 (fun k hk e => own_ne ho4 hb4 (by decide) (by rw [hk, e])), by simp⟩, (((hx1.mono (fun k _ e => .inl e)).trans (hx3.mono (fun k _ e => e.elim))).trans' hx4 (fun k _ e => .inr e)).trans' hx5 (fun k _ e => .inl e), kin_of hl4 (Nat.le_trans hx1.size hx3.size)⟩)
set_option maxHeartbeats 2000000 in
set_option maxRecDepth 100000 in
theorem builderString {h : Heap} {b : Nat} {v : Value} {bs : List UInt8} (r : Bl h b v bs) (hm : bs.length ≤ 1000000) :
    CallsH Tryz.prog 570 ⟨[.pointer (some ⟨b, 0, none⟩)]⟩ h fun u h' => u = St bs ∧ Ext (fun k => v.ownBlock = some k) h h' := by
  obtain ⟨⟨p, hb, _⟩, ho, hnn⟩ := r
  rcases ho with ⟨_, ⟨rfl, h0⟩ | ⟨g, cap, cur, rfl, hg, hn, hcm, hcs, hct⟩⟩
  · obtain rfl := List.eq_nil_of_length_eq_zero h0
    refine calls [(0, _)] Tryz.func570 rfl Tryz.ntmps570 rfl ⟨rfl, trivial⟩ ?_
    all_goals (refine WC.sr ?_)
    all_goals (refine Go ?_)
    all_goals (refine WC.seq ?_)
    all_goals (refine WC.drawT 10 fol (by kernel_rfl) ?_)
    all_goals (show WS _ _ _ [_, _, _, _, _, _, _, _, _, _] _ _ _)
    all_goals (refine WS.step (ok_move rfl) rfl rfl rfl ?_)
    all_goals (refine WS.step (ok_nilCheck rfl) rfl rfl rfl ?_)
    all_goals (refine WS.step (ok_fieldAddr rfl Tryz.underlying680 rfl (fun w => Tryz.sizeOf31 w)) rfl rfl rfl ?_)
    all_goals (refine WS.step (ok_load (fun w => Tryz.isAgg31 w) rfl (by first | assumption | exact cell_blk (by assumption) rfl)) rfl rfl rfl ?_)
    all_goals (first | (refine WS.step (ok_sliceData rfl (by omega)) rfl rfl rfl ?_) | (refine WS.step (ok_sliceData0 rfl) rfl rfl rfl ?_))
    all_goals (refine WS.step (ok_move rfl) rfl rfl rfl ?_)
    all_goals (refine WS.step (ok_nilCheck rfl) rfl rfl rfl ?_)
    all_goals (refine WS.step (ok_fieldAddr rfl Tryz.underlying680 rfl (fun w => Tryz.sizeOf31 w)) rfl rfl rfl ?_)
    all_goals (refine WS.step (ok_load (fun w => Tryz.isAgg31 w) rfl (by first | assumption | exact cell_blk (by assumption) rfl)) rfl rfl rfl ?_)
    all_goals (refine WS.step (ok_lenL rfl Tryz.underlying31 rfl) rfl rfl rfl ?_)
    all_goals (refine WS.nil ?_)
    all_goals (show WL _ _ _ [_, _] _ _ _)
    all_goals (refine WL.stepR (okE_unsafeString0 rfl rfl rfl) rfl rfl rfl ?_
               rintro _ hz ⟨rfl, _⟩
               subst hz)
    all_goals (refine WL.step (ok_assign rfl) rfl rfl rfl ?_)
    all_goals (refine WL.nil ?_)
    all_goals (refine Gn ?_)
    all_goals (refine Gs [(2, _)] ?_)
    all_goals (refine Gt ?_)
    all_goals (exact ⟨rfl, .refl _ _⟩)
  · have hg' : h[g]? = some (.cells ⟨cur.toList⟩ 5 (0, 0)) := hg
    by_cases hc0 : cap = 0
    · have h0 : bs = [] := List.eq_nil_of_length_eq_zero (by omega)
      cases hnn h0
    ·
      refine calls [(0, _)] Tryz.func570 rfl Tryz.ntmps570 rfl ⟨rfl, trivial⟩ ?_
      all_goals (refine WC.sr ?_)
      all_goals (refine Go ?_)
      all_goals (refine WC.seq ?_)
      all_goals (refine WC.drawT 10 fol (by kernel_rfl) ?_)
      all_goals (show WS _ _ _ [_, _, _, _, _, _, _, _, _, _] _ _ _)
      all_goals (refine WS.step (ok_move rfl) rfl rfl rfl ?_)
      all_goals (refine WS.step (ok_nilCheck rfl) rfl rfl rfl ?_)
      all_goals (refine WS.step (ok_fieldAddr rfl Tryz.underlying680 rfl (fun w => Tryz.sizeOf31 w)) rfl rfl rfl ?_)
      all_goals (refine WS.step (ok_load (fun w => Tryz.isAgg31 w) rfl (by first | assumption | exact cell_blk (by assumption) rfl)) rfl rfl rfl ?_)
      all_goals (first | (refine WS.step (ok_sliceData rfl (by omega)) rfl rfl rfl ?_) | (refine WS.step (ok_sliceData0 rfl) rfl rfl rfl ?_))
      all_goals (refine WS.step (ok_move rfl) rfl rfl rfl ?_)
      all_goals (refine WS.step (ok_nilCheck rfl) rfl rfl rfl ?_)
      all_goals (refine WS.step (ok_fieldAddr rfl Tryz.underlying680 rfl (fun w => Tryz.sizeOf31 w)) rfl rfl rfl ?_)
      all_goals (refine WS.step (ok_load (fun w => Tryz.isAgg31 w) rfl (by first | assumption | exact cell_blk (by assumption) rfl)) rfl rfl rfl ?_)
      all_goals (refine WS.step (ok_lenL rfl Tryz.underlying31 rfl) rfl rfl rfl ?_)
      all_goals (refine WS.nil ?_)
      all_goals (show WL _ _ _ [_, _] _ _ _)
      all_goals (refine WL.stepR (okE_unsafeString rfl Tryz.underlying708 (by kernel_rfl) rfl rfl rfl hg' (by simpa using hct) (by unfold maxLen; omega)) rfl rfl rfl ?_
                 rintro _ h1 ⟨rfl, hx1⟩)
      all_goals (refine WL.step (ok_assign rfl) rfl rfl rfl ?_)
      all_goals (refine WL.nil ?_)
      all_goals (refine Gn ?_)
      all_goals (refine Gs [(2, _)] ?_)
      all_goals (refine Gt ?_)
      all_goals (exact ⟨rfl, hx1.mono (fun k _ e => by rw [e]; rfl)⟩)
set_option maxHeartbeats 2000000 in
set_option maxRecDepth 100000 in
theorem least_any {h : Heap} (m : Nat) (hm : m ≤ 9223372036854775808) :
    CallsH Tryz.prog 568 ⟨[In (-(m : Int))]⟩ h fun u h' => Own h' u 5 1 (rdig m).length (bys (rdig m)) ∧ Ext No h h' ∧ ∀ k, u.ownBlock = some k → h.size ≤ k := by
  have hlm := rdig_len20 m hm
  refine calls [(0, _)] Tryz.func568 rfl Tryz.ntmps568 rfl ⟨rfl, trivial⟩ ?_
  all_goals (refine WC.sr ?_)
  all_goals (refine Go ?_)
  all_goals (refine WC.sr ?_)
  all_goals (refine Go ?_)
  all_goals (refine WC.block ?_)
  -- loop 0: slots that turn [0, 3], that stay []
  all_goals (refine WC.loopG (X := List UInt8 × Value × Nat) (fun x => ([(3, x.2.1), (0, In (-(x.2.2 : Int)))] : Fr)) [] (fun x h' => x.2.2 ≤ m ∧ x.1 ++ rdig x.2.2 = rdig m ∧ Own h' x.2.1 5 1 x.1.length (bys x.1) ∧ Ext No h h' ∧ ∀ k, x.2.1.ownBlock = some k → h.size ≤ k) (fun x => x.2.2) (([], .slice none 0 0, m)) ⟨rfl, rfl, trivial⟩ (by exact ⟨Nat.le_refl _, rfl, Own.nil _ _ _, .refl _ _, by simp [Value.ownBlock]⟩) ?_)
  all_goals (rintro ⟨out, v1, q⟩ h1 ⟨hq, hout, ho1, hx1, hf1⟩
             simp only at hq hout ho1 hf1
             obtain ⟨A1, c1, rfl, _⟩ := ho1.slice
             have hlo := congrArg List.length hout
             rw [List.length_append] at hlo
             have hpos := rdig_pos q
             have e1 := tdiv_neg10 q
             have e2 := tmod_neg10 q)
  all_goals (refine WC.sub [(0, _), (3, _)] ⟨rfl, rfl, trivial⟩ ?_)
  all_goals (dsimp only)
  all_goals (refine WC.block ?_)
  all_goals (refine WC.sr ?_)
  all_goals (refine Go ?_)
  all_goals (refine WL.step (ok_rem rfl rfl (by decide)) rfl rfl rfl ?_)
  all_goals (rw [e2])
  all_goals (first | (refine WL.step (ok_subI rfl rfl (by omega)) rfl rfl rfl ?_) | (refine WL.step (ok_sub rfl rfl) rfl rfl rfl ?_))
  all_goals (first | (refine WL.step (ok_convU8 Tryz.underlying3 Tryz.underlying5 rfl (by omega)) rfl rfl rfl ?_) | (refine WL.step (ok_conv Tryz.underlying3 Tryz.underlying5 rfl) rfl rfl rfl ?_))
  all_goals (rw [show (48 - -((q % 10 : Nat) : Int)) = 48 + (q % 10 : Nat) by omega, ← by_dig])
  all_goals (refine WL.stepR (okE_buildSlice (vs := [_]) (cs := [_]) (fun | [a0] => [a0] | _ => []) Tryz.underlying31 rfl rfl (by kernel_rfl)) rfl rfl rfl ?_
             rintro _ h3 ⟨b3, rfl, hg3, hb3, hx3⟩)
  all_goals (refine WL.stepR (ok_append (sz := 1) (bytes := 1) rfl Tryz.underlying31 (show Tryz.prog.info? 5 = some Tryz.t5 by kernel_rfl) rfl rfl rfl rfl (by decide) rfl rfl (ho1.ext hx3 (fun _ _ => nos)) (rd_blk hb3 rfl) (by simp [Value.oneCell']) (by simp only [maxLen]; omega) (by omega)) rfl rfl rfl ?_
             rintro v4 h4 ⟨ho4, hx4, hl4⟩)
  all_goals (have hf4 := fresh_of hl4 hf1 (by have := hx1.size; have := hx3.size; omega)
             have hE4 := (hx1.trans hx3).trans' hx4 (fun q hq e => by have := hf1 q e; omega))
  all_goals (refine Go ?_)
  all_goals (refine Gs [(0, _), (3, _)] ?_)
  all_goals (refine WC.sr ?_)
  all_goals (refine Go ?_)
  all_goals (first | (refine WL.step (ok_quoI rfl rfl (by decide) (tdiv_in (by omega) (by decide))) rfl rfl rfl ?_) | (refine WL.step (ok_quo rfl rfl (by decide)) rfl rfl rfl ?_))
  all_goals (rw [e1])
  all_goals (refine WL.step (ok_assign rfl) rfl rfl rfl ?_)
  all_goals (refine Gn ?_)
  all_goals (refine WC.sr ?_)
  all_goals (refine Go ?_)
  all_goals (refine goC 1 2 ?_ ?_ <;> first | exact ⟨⟩ | refine Hb.mk fun hb => ?_ | skip)
  all_goals (first | (fail_if_success refine goB 1 ?_) | (
  refine goB 1 ?_
  all_goals (refine WC.sr ?_)
  all_goals (refine Go ?_)
  all_goals (refine Gs [(2, _)] ?_)
  all_goals (refine Gt ?_)
  all_goals (exact ⟨by rw [← hout, rdig_lt (m := q) (by omega)]; have e9 : q % 10 = q := Nat.mod_eq_of_lt (by omega); rw [e9] at ho4; simpa using ho4, hE4, hf4⟩)
  skip))
  all_goals (first | (fail_if_success refine goB 2 ?_) | (
  refine goB 2 ?_
  all_goals (refine WC.skip ?_)
  skip))
  all_goals (refine Gn ?_)
  all_goals (exact ⟨(out ++ [UInt8.ofNat (48 + q % 10)], _, q / 10), ⟨rfl, rfl, trivial⟩, (by exact ⟨by simp; omega, by rw [← hout, rdig_ge (m := q) (by omega)]; simp, by simpa using ho4, hE4, hf4⟩), (by simp; omega)⟩)
  all_goals (refine Gn ?_)
  all_goals (refine retP_n [] trivial ?_)
  all_goals (exact ⟨by rw [← hout, rdig_lt (m := q) (by omega)]; have e9 : q % 10 = q := Nat.mod_eq_of_lt (by omega); rw [e9] at ho4; simpa using ho4, hE4, hf4⟩)
theorem get_by {l : List UInt8} {j : Nat} {y : UInt8} (hy : l[j]? = some y) : (bys l)[j]? = some (By y) := by simp [hy]
theorem drop_snoc {l : List UInt8} {j : Nat} {y : UInt8} (hy : l[j]? = some y) : (l.drop j).reverse = (l.drop (j + 1)).reverse ++ [y] := by
  rw [List.drop_eq_getElem?_toList_append, hy]
  simp
theorem own_blt {h : Heap} {b : Nat} {v : Value} {bs : List UInt8} (r : Bl h b v bs) : b < h.size := by
  obtain ⟨⟨p, hb, _⟩, _⟩ := r
  exact lt_of_some hb
set_option maxHeartbeats 2000000 in
set_option maxRecDepth 100000 in
theorem text_pos {h : Heap} (m : Nat) (hm : m ≤ 9223372036854775807) :
    CallsH Tryz.prog 508 ⟨[In m]⟩ h fun u h' => u = St (deci m) ∧ Ext No h h' := by
  have ed : deci (m : Int) = dig m := by unfold deci; rw [if_neg (by omega)]; rfl
  have hlm := rdig_len20 m (by omega)
  refine calls [(0, _)] Tryz.func508 rfl Tryz.ntmps508 rfl ⟨rfl, trivial⟩ ?_
  all_goals (refine WC.sr ?_)
  all_goals (refine Go ?_)
  all_goals (refine WC.sr ?_)
  all_goals (refine Go ?_)
  all_goals (refine WC.seq ?_)
  all_goals (refine WC.sr ?_)
  all_goals (refine Go ?_)
  all_goals (refine Gs [(0, _), (3, _), (10, _)] ?_)
  all_goals (refine goC 1 2 ?_ ?_ <;> first | exact ⟨⟩ | refine Hb.mk fun hb => ?_ | skip)
  all_goals (first | (fail_if_success refine goB 1 ?_) | (
  refine goB 1 ?_
  all_goals (refine WC.region ?_)
  all_goals (refine Go ?_)
  all_goals (first | (refine WL.step (ok_negI rfl (by omega)) rfl rfl rfl ?_) | (refine WL.step (ok_neg rfl) rfl rfl rfl ?_))
  all_goals (refine Go ?_)
  skip))
  all_goals (first | (fail_if_success refine goB 2 ?_) | (
  refine goB 2 ?_
  all_goals (refine WC.skip ?_)
  skip))
  all_goals (refine Gn ?_)
  all_goals (refine WC.sr ?_)
  all_goals (refine Go ?_)
  all_goals (refine WL.call (vs := [_]) rfl (fun a w => Tryz.call568 a w) rfl (least_any m (by omega)) rfl rfl rfl ?_
             rintro v4 h4 ⟨ho4, hx4, hf4⟩)
  all_goals (obtain ⟨A4, c4, rfl, _⟩ := ho4.slice)
  all_goals (refine Go ?_)
  all_goals (refine Gs [(3, _), (4, _)] ?_)
  all_goals (refine WC.seq ?_)
  all_goals (refine WC.sr ?_)
  all_goals (refine Go ?_)
  all_goals (refine goC 3 4 ?_ ?_ <;> first | exact ⟨⟩ | refine Hb.mk fun hb => ?_ | skip)
  all_goals (first | (fail_if_success refine goB 3 ?_) | (
  refine goB 3 ?_
  all_goals (refine WC.region ?_)
  all_goals (refine Go ?_)
  all_goals (refine WL.stepR (okE_buildSlice (vs := [_]) (cs := [_]) (fun | [a0] => [a0] | _ => []) Tryz.underlying31 rfl rfl (by kernel_rfl)) rfl rfl rfl ?_
             rintro _ h1 ⟨b1, rfl, hg1, hb1, hx1⟩)
  all_goals (refine WL.stepR (ok_append (sz := 1) (bytes := 1) rfl Tryz.underlying31 (show Tryz.prog.info? 5 = some Tryz.t5 by kernel_rfl) rfl rfl rfl rfl (by decide) rfl rfl (by assumption) (by first | assumption | exact rd_blk (by assumption) rfl) (by simp [Value.oneCell']) (by simp only [maxLen]; omega) (by omega)) rfl rfl rfl ?_
             rintro v1 h1 ⟨ho1, hx1, hl1⟩)
  all_goals (refine Go ?_)
  skip))
  all_goals (first | (fail_if_success refine goB 4 ?_) | (
  refine goB 4 ?_
  all_goals (refine WC.skip ?_)
  skip))
  all_goals (refine Gn ?_)
  all_goals (refine WC.sr ?_)
  all_goals (refine WL.stepR (okE_alloc (fun w => Tryz.zeroValue680 w)) rfl rfl rfl ?_
             rintro _ h5 ⟨b5, rfl, hg5, hb5, hx5⟩)
  all_goals (have hob := ho4.ext hx5 (fun _ _ => nos)
             have hfb : ∀ k, (Value.slice A4 (rdig m).length c4).ownBlock = some k → k < b5 := fun k e => by have := ho4.lt e; omega)
  all_goals (refine Gn ?_)
  all_goals (refine WC.seq ?_)
  all_goals (refine WC.sr ?_)
  all_goals (refine Go ?_)
  all_goals (refine Gs [(4, _), (5, _), (6, _)] ?_)
  all_goals (refine WC.block ?_)
  -- loop 0: slots that turn [6], that stay [4, 5]
  all_goals (refine WC.loopG (X := Nat × Value) (fun x => ([(6, In ((x.1 : Int) - 1))] : Fr)) [(4, _), (5, _)] (fun x h' => x.1 ≤ (rdig m).length ∧ Bl h' b5 x.2 ((rdig m).drop x.1).reverse ∧ Own h' (Value.slice A4 (rdig m).length c4) 5 1 (rdig m).length (bys (rdig m)) ∧ Ext No h h' ∧ h.size ≤ b5 ∧ ∀ k, x.2.ownBlock = some k → b5 < k) (fun x => x.1) (((rdig m).length, .slice none 0 0)) ⟨rfl, rfl, rfl, trivial⟩ (by exact ⟨Nat.le_refl _, by simpa [Bl] using (⟨⟨_, hb5, .inl rfl⟩, Own.nil _ _ _⟩ : _ ∧ _), hob, hx4.trans hx5, Nat.le_trans hx4.size hg5, by simp [Value.ownBlock]⟩) ?_)
  all_goals (rintro ⟨k, v6⟩ h6 ⟨hk, hbl, ho6, hx6, hg6, hf6⟩
             simp only at hk hbl hf6)
  all_goals (refine WC.sub [(6, _), (4, _), (5, _)] ⟨rfl, rfl, rfl, trivial⟩ ?_)
  all_goals (dsimp only)
  all_goals (refine WC.seq ?_)
  all_goals (refine WC.sr ?_)
  all_goals (refine Go ?_)
  all_goals (refine goC 5 6 ?_ ?_ <;> first | exact ⟨⟩ | refine Hb.mk fun hb => ?_ | skip)
  all_goals (first | (fail_if_success refine goB 5 ?_) | (
  refine goB 5 ?_
  all_goals (refine WC.skip ?_)
  skip))
  all_goals (first | (fail_if_success refine goB 6 ?_) | (
  refine goB 6 ?_
  all_goals (refine WC.exit ?_)
  all_goals (repeat' (with_reducible first | refine thenP_x ?_ | refine blockP_miss rfl ?_ | refine blockP_hit ?_ | refine blockP_n ?_ | refine thenP_n ?_))
  all_goals (refine Br.out (i := 1000) ?_)
  skip))
  all_goals (refine Gn ?_)
  all_goals (first | (refine Br.keep ?_) | (refine WC.seq ?_))
  all_goals (first | (refine Br.keep ?_) | (refine WC.block ?_))
  all_goals (first
               | (refine Br.keep ?_)
               | (obtain ⟨bL, oL, hA, hbL, hat⟩ := Rd.at_ ho6.rd (by omega)
                  obtain ⟨j, rfl⟩ : ∃ j, k = j + 1 := ⟨k - 1, by omega⟩
                  obtain ⟨y, hy⟩ : ∃ y, (rdig m)[j]? = some y := ⟨_, List.getElem?_eq_getElem (by omega)⟩
                  have hc := hat.get (p := oL + j * 1) (v := By y) j (get_by hy) (by omega)
                  have e8 : (((j + 1 : Nat) : Int) - 1) = (j : Nat) := by omega
                  rw [e8]))
  all_goals (first | (refine Br.keep ?_) | (refine WC.region ?_))
  all_goals (refine Go ?_)
  all_goals (first | (refine Br.keep ?_) | (refine WL.step (ok_idxAddrA Tryz.underlying31 (fun w => Tryz.sizeOf5 w) rfl rfl rfl (by omega) (by first | rfl | assumption)) rfl rfl rfl ?_))
  all_goals (first | (refine Br.keep ?_) | (refine Ld ?_))
  all_goals (first
               | (refine Br.keep ?_)
               | (refine WL.call (vs := [_, _]) rfl (fun a w => Tryz.call569 a w) rfl (writeByte hbl y (by simp; omega)) rfl rfl rfl ?_
                  rintro _ h7 ⟨rfl, v7, hbl7, hx7, hk7⟩))
  all_goals (refine Gn ?_)
  all_goals (first | (refine Br.keep ?_) | (refine Gs [(4, _), (5, _), (6, _)] ?_))
  all_goals (first | (refine Br.keep ?_) | (refine WC.region ?_))
  all_goals (refine Go ?_)
  all_goals (first | (refine Br.keep ?_) | (exact ⟨(j, _), ⟨rfl, rfl, rfl, trivial⟩, (by exact ⟨by simp; omega, by rw [drop_snoc hy]; exact hbl7, ho6.ext hx7 (fun q hq e => e.elim (fun e => by have := hfb q hq; omega) (fun e => by have := hfb q hq; have := hf6 q e; omega)), hx6.trans' hx7 (fun q hq e => e.elim (fun e => by omega) (fun e => by have := hf6 q e; omega)), hg6, fun q hq => (hk7 q hq).elim (hf6 q) (fun e => Nat.lt_of_lt_of_le (own_blt hbl) e)⟩), (by simp)⟩))
  all_goals (try (refine Br.mk (i := 1000) ?_))
  all_goals (refine Gn ?_)
  all_goals (refine Gs [(5, _)] ?_)
  all_goals (refine WC.sr ?_)
  all_goals (refine WL.call (vs := [_]) rfl (fun a w => Tryz.call570 a w) rfl (builderString hbl (by simp; omega)) rfl rfl rfl ?_
             rintro _ h8 ⟨rfl, hx8⟩)
  all_goals (refine Go ?_)
  all_goals (refine Gt ?_)
  all_goals (exact ⟨by rw [show k = 0 by omega, ed]; simp [dig], hx6.trans' hx8 (fun q hq e => by have := hf6 q e; omega)⟩)
set_option maxHeartbeats 2000000 in
set_option maxRecDepth 100000 in
theorem text_neg {h : Heap} (m : Nat) (h0 : 0 < m) (hm : m ≤ 9223372036854775808) :
    CallsH Tryz.prog 508 ⟨[In (-(m : Int))]⟩ h fun u h' => u = St (deci (-(m : Int))) ∧ Ext No h h' := by
  have ed : deci (-(m : Int)) = 45 :: dig m := by unfold deci; rw [if_pos (by omega)]; simp
  have hlm := rdig_len20 m (by omega)
  refine calls [(0, _)] Tryz.func508 rfl Tryz.ntmps508 rfl ⟨rfl, trivial⟩ ?_
  all_goals (refine WC.sr ?_)
  all_goals (refine Go ?_)
  all_goals (refine WC.sr ?_)
  all_goals (refine Go ?_)
  all_goals (refine WC.seq ?_)
  all_goals (refine WC.sr ?_)
  all_goals (refine Go ?_)
  all_goals (refine Gs [(0, _), (3, _), (10, _)] ?_)
  all_goals (refine goC 1 2 ?_ ?_ <;> first | exact ⟨⟩ | refine Hb.mk fun hb => ?_ | skip)
  all_goals (first | (fail_if_success refine goB 1 ?_) | (
  refine goB 1 ?_
  all_goals (refine WC.region ?_)
  all_goals (refine Go ?_)
  all_goals (first | (refine WL.step (ok_negI rfl (by omega)) rfl rfl rfl ?_) | (refine WL.step (ok_neg rfl) rfl rfl rfl ?_))
  all_goals (refine Go ?_)
  skip))
  all_goals (first | (fail_if_success refine goB 2 ?_) | (
  refine goB 2 ?_
  all_goals (refine WC.skip ?_)
  skip))
  all_goals (refine Gn ?_)
  all_goals (refine WC.sr ?_)
  all_goals (refine Go ?_)
  all_goals (refine WL.call (vs := [_]) rfl (fun a w => Tryz.call568 a w) rfl (least_any m (by omega)) rfl rfl rfl ?_
             rintro v4 h4 ⟨ho4, hx4, hf4⟩)
  all_goals (refine Go ?_)
  all_goals (refine Gs [(3, _), (4, _)] ?_)
  all_goals (refine WC.seq ?_)
  all_goals (refine WC.sr ?_)
  all_goals (refine Go ?_)
  all_goals (refine goC 3 4 ?_ ?_ <;> first | exact ⟨⟩ | refine Hb.mk fun hb => ?_ | skip)
  all_goals (first | (fail_if_success refine goB 3 ?_) | (
  refine goB 3 ?_
  all_goals (refine WC.region ?_)
  all_goals (refine Go ?_)
  all_goals (refine WL.stepR (okE_buildSlice (vs := [_]) (cs := [_]) (fun | [a0] => [a0] | _ => []) Tryz.underlying31 rfl rfl (by kernel_rfl)) rfl rfl rfl ?_
             rintro _ h3 ⟨b3, rfl, hg3, hb3, hx3⟩)
  all_goals (refine WL.stepR (ok_append (sz := 1) (bytes := 1) rfl Tryz.underlying31 (show Tryz.prog.info? 5 = some Tryz.t5 by kernel_rfl) rfl rfl rfl rfl (by decide) rfl rfl (ho4.ext hx3 (fun _ _ => nos)) (rd_blk hb3 rfl) (by simp [Value.oneCell']) (by simp only [maxLen]; omega) (by omega)) rfl rfl rfl ?_
             rintro v7 h7 ⟨ho7, hx7, hl7⟩)
  all_goals (have hf7 := fresh_of hl7 hf4 (by have := hx4.size; have := hx3.size; omega)
             have hX7 := (hx4.trans hx3).trans' hx7 (fun q hq e => by have := hf4 q e; omega)
             have e45 : bys (rdig m) ++ [.int .u8 45] = bys (rdig m ++ [45]) := by simp
             have l45 : (rdig m).length + 1 = (rdig m ++ [45]).length := by simp
             rw [e45, l45] at ho7
             have hlf : (rdig m ++ [45]).length ≤ 21 := by omega
             obtain ⟨A7, c7, rfl, _⟩ := ho7.slice)
  all_goals (refine Go ?_)
  skip))
  all_goals (first | (fail_if_success refine goB 4 ?_) | (
  refine goB 4 ?_
  all_goals (refine WC.skip ?_)
  skip))
  all_goals (refine Gn ?_)
  all_goals (refine WC.sr ?_)
  all_goals (refine WL.stepR (okE_alloc (fun w => Tryz.zeroValue680 w)) rfl rfl rfl ?_
             rintro _ h5 ⟨b5, rfl, hg5, hb5, hx5⟩)
  all_goals (have hob := ho7.ext hx5 (fun _ _ => nos)
             have hfb : ∀ k, (Value.slice A7 (rdig m ++ [45]).length c7).ownBlock = some k → k < b5 := fun k e => by have := ho7.lt e; omega)
  all_goals (refine Gn ?_)
  all_goals (refine WC.seq ?_)
  all_goals (refine WC.sr ?_)
  all_goals (refine Go ?_)
  all_goals (refine Gs [(4, _), (5, _), (6, _)] ?_)
  all_goals (refine WC.block ?_)
  -- loop 0: slots that turn [6], that stay [4, 5]
  all_goals (refine WC.loopG (X := Nat × Value) (fun x => ([(6, In ((x.1 : Int) - 1))] : Fr)) [(4, _), (5, _)] (fun x h' => x.1 ≤ (rdig m ++ [45]).length ∧ Bl h' b5 x.2 ((rdig m ++ [45]).drop x.1).reverse ∧ Own h' (Value.slice A7 (rdig m ++ [45]).length c7) 5 1 (rdig m ++ [45]).length (bys (rdig m ++ [45])) ∧ Ext No h h' ∧ h.size ≤ b5 ∧ ∀ k, x.2.ownBlock = some k → b5 < k) (fun x => x.1) (((rdig m ++ [45]).length, .slice none 0 0)) ⟨rfl, rfl, rfl, trivial⟩ (by exact ⟨Nat.le_refl _, by simpa [Bl] using (⟨⟨_, hb5, .inl rfl⟩, Own.nil _ _ _⟩ : _ ∧ _), hob, hX7.trans hx5, Nat.le_trans hX7.size hg5, by simp [Value.ownBlock]⟩) ?_)
  all_goals (rintro ⟨k, v6⟩ h6 ⟨hk, hbl, ho6, hx6, hg6, hf6⟩
             simp only at hk hbl hf6)
  all_goals (refine WC.sub [(6, _), (4, _), (5, _)] ⟨rfl, rfl, rfl, trivial⟩ ?_)
  all_goals (dsimp only)
  all_goals (refine WC.seq ?_)
  all_goals (refine WC.sr ?_)
  all_goals (refine Go ?_)
  all_goals (refine goC 5 6 ?_ ?_ <;> first | exact ⟨⟩ | refine Hb.mk fun hb => ?_ | skip)
  all_goals (first | (fail_if_success refine goB 5 ?_) | (
  refine goB 5 ?_
  all_goals (refine WC.skip ?_)
  skip))
  all_goals (first | (fail_if_success refine goB 6 ?_) | (
  refine goB 6 ?_
  all_goals (refine WC.exit ?_)
  all_goals (repeat' (with_reducible first | refine thenP_x ?_ | refine blockP_miss rfl ?_ | refine blockP_hit ?_ | refine blockP_n ?_ | refine thenP_n ?_))
  all_goals (refine Br.out (i := 1000) ?_)
  skip))
  all_goals (refine Gn ?_)
  all_goals (first | (refine Br.keep ?_) | (refine WC.seq ?_))
  all_goals (first | (refine Br.keep ?_) | (refine WC.block ?_))
  all_goals (first
               | (refine Br.keep ?_)
               | (obtain ⟨bL, oL, hA, hbL, hat⟩ := Rd.at_ ho6.rd (by omega)
                  obtain ⟨j, rfl⟩ : ∃ j, k = j + 1 := ⟨k - 1, by omega⟩
                  obtain ⟨y, hy⟩ : ∃ y, (rdig m ++ [45])[j]? = some y := ⟨_, List.getElem?_eq_getElem (by omega)⟩
                  have hc := hat.get (p := oL + j * 1) (v := By y) j (get_by hy) (by omega)
                  have e8 : (((j + 1 : Nat) : Int) - 1) = (j : Nat) := by omega
                  rw [e8]))
  all_goals (first | (refine Br.keep ?_) | (refine WC.region ?_))
  all_goals (refine Go ?_)
  all_goals (first | (refine Br.keep ?_) | (refine WL.step (ok_idxAddrA Tryz.underlying31 (fun w => Tryz.sizeOf5 w) rfl rfl rfl (by omega) (by first | rfl | assumption)) rfl rfl rfl ?_))
  all_goals (first | (refine Br.keep ?_) | (refine Ld ?_))
  all_goals (first
               | (refine Br.keep ?_)
               | (refine WL.call (vs := [_, _]) rfl (fun a w => Tryz.call569 a w) rfl (writeByte hbl y (by simp; omega)) rfl rfl rfl ?_
                  rintro _ h7 ⟨rfl, v7, hbl7, hx7, hk7⟩))
  all_goals (refine Gn ?_)
  all_goals (first | (refine Br.keep ?_) | (refine Gs [(4, _), (5, _), (6, _)] ?_))
  all_goals (first | (refine Br.keep ?_) | (refine WC.region ?_))
  all_goals (refine Go ?_)
  all_goals (first | (refine Br.keep ?_) | (exact ⟨(j, _), ⟨rfl, rfl, rfl, trivial⟩, (by exact ⟨by simp; omega, by rw [drop_snoc hy]; exact hbl7, ho6.ext hx7 (fun q hq e => e.elim (fun e => by have := hfb q hq; omega) (fun e => by have := hfb q hq; have := hf6 q e; omega)), hx6.trans' hx7 (fun q hq e => e.elim (fun e => by omega) (fun e => by have := hf6 q e; omega)), hg6, fun q hq => (hk7 q hq).elim (hf6 q) (fun e => Nat.lt_of_lt_of_le (own_blt hbl) e)⟩), (by simp)⟩))
  all_goals (try (refine Br.mk (i := 1000) ?_))
  all_goals (refine Gn ?_)
  all_goals (refine Gs [(5, _)] ?_)
  all_goals (refine WC.sr ?_)
  all_goals (refine WL.call (vs := [_]) rfl (fun a w => Tryz.call570 a w) rfl (builderString hbl (by simp; omega)) rfl rfl rfl ?_
             rintro _ h8 ⟨rfl, hx8⟩)
  all_goals (refine Go ?_)
  all_goals (refine Gt ?_)
  all_goals (exact ⟨by rw [show k = 0 by omega, ed]; simp [dig], hx6.trans' hx8 (fun q hq e => by have := hf6 q e; omega)⟩)
theorem text_any {h : Heap} (n : Int) (h0 : -9223372036854775808 ≤ n) (h1 : n ≤ 9223372036854775807) :
    CallsH Tryz.prog 508 ⟨[In n]⟩ h fun u h' => u = St (deci n) ∧ Ext No h h' := by
  by_cases hp : 0 ≤ n
  · obtain ⟨m, rfl⟩ := Int.eq_ofNat_of_zero_le hp
    exact text_pos m (by omega)
  · obtain ⟨m, rfl⟩ : ∃ m : Nat, n = -(m : Int) := ⟨n.natAbs, by omega⟩
    exact text_neg m (by omega) (by omega)
end Go.Proofs.YtgkdnjebbikciaaGreatDoor


/-
  TopLimits, run by the evaluator (2): awake, which takes nothing.
-/
namespace Go.Proofs.YtgkdnjebbikciaaGreatDoor
open Go Go.RK

theorem indexByte_lite {h : Heap} (s : List UInt8) (c : UInt8) :
    CallsH Tryz.prog 362 ⟨[St s, By c]⟩ h fun u h' => u = In (Lib.indexByte s c) ∧ h' = h := fun w hw =>
  (Tryz.stringslite_IndexByte ⟨⟨s⟩⟩ c.toNat w).mono fun e w' ⟨he, hb⟩ => ⟨⟨by rw [hb], by rw [hb], by rw [hb], by subst hb; exact Nat.le_refl _⟩, _, he, by rw [ixb_nat], by rw [hb, hw]⟩
noncomputable def natX : NatE := ixN [281] [255, 362]
theorem natX_ok [Opq] : NOk Tryz.prog natX := ixN_ok
  (fun k hk args w => by
    simp only [List.mem_cons, List.not_mem_nil, or_false] at hk
    rcases hk with rfl | rfl | rfl
    · exact Tryz.call281 args w
    · exact Tryz.call255 args w
    · exact Tryz.call362 args w)
  (fun k hk => by
    simp only [List.mem_cons, List.not_mem_nil, or_false] at hk
    subst hk
    intro h v l c hr h0
    exact indexByte_bys l c hr h0)
  (fun k hk => by
    simp only [List.mem_cons, List.not_mem_nil, or_false] at hk
    rcases hk with rfl | rfl
    · intro h s c
      exact indexByte_str s c
    · intro h s c
      exact indexByte_lite s c)
theorem digR_eq : ∀ (f m : Nat), m < 10 ^ (f + 1) → digR (f + 1) m = rdig m
  | f, m, h => by
    by_cases h1 : m < 10
    · rw [rdig_lt h1]
      show (bif Nat.blt m 10 then _ else _) = _
      rw [blt_t h1] <;> rfl
    · rw [rdig_ge h1]
      show (bif Nat.blt m 10 then _ else _) = _
      rw [blt_f h1]
      show _ :: digR f (m / 10) = _
      cases f with
      | zero => exact absurd h (by omega)
      | succ f => rw [digR_eq f (m / 10) (by rw [Nat.pow_succ] at h; omega)]
theorem text_dig {h : Heap} (n : Nat) (hn : n < 1000000000000000000) : CallsH Tryz.prog 508 ⟨[.int .i64 (n : Int)]⟩ h fun u h' => u = St (digR 20 n).reverse ∧ Ext No h h' :=
  (text_any (n : Int) (by omega) (by omega)).mono fun u h' ⟨a, x⟩ => ⟨by rw [a, digR_eq 19 n (by omega)]; unfold deci dig; rw [if_neg (by omega)]; rfl, x⟩
theorem onceK : OnceK Tryz.prog 368 369 := ⟨do_first, do_done, fun args w => Tryz.call368 args w, fun args w => Tryz.call369 args w⟩
noncomputable def natI : NatE := rouN 9 30 (txN 508 (onceN 368 369 (adN 333 .i64 (adN 556 .i32 natX))))
theorem natI_ok [Opq] : NOk Tryz.prog natI := rouN_ok (txN_ok (onceN_ok (adN_ok (adN_ok natX_ok (.inl rfl) Tryz.func556 (by kernel_rfl) (by kernel_rfl) (by kernel_rfl) (by kernel_rfl)) (.inr rfl) Tryz.func333 (by kernel_rfl) (by kernel_rfl) (by kernel_rfl) (by kernel_rfl)) onceK)
  (fun args w => Tryz.call508 args w) (fun _ n hn => text_dig n hn)) rouK
theorem ev_nm : nmB Tryz.prog = true := by kernel_rfl
end Go.Proofs.YtgkdnjebbikciaaGreatDoor


/-
  LISTS SORTED BY A TEXT, AND MAPS, in plain Lean: what is set, let go and found is alike in both; names sorted.
-/
namespace Go.Proofs.YtgkdnjebbikciaaGreatDoor
open Go Go.RK

theorem lt_tri {a b : List UInt8} (h1 : ¬ a < b) (h2 : ¬ b < a) : a = b := List.le_antisymm (List.not_lt.1 h2) (List.not_lt.1 h1)

section
variable {α β : Type}
/-- Rising, each key once. -/
def Rise (L : List (List UInt8 × α)) : Prop := L.Pairwise fun a b => a.1 < b.1
def setL : List (List UInt8 × α) → List UInt8 → α → List (List UInt8 × α)
  | [], n, v => [(n, v)]
  | (m, w) :: L, n, v => if m < n then (m, w) :: setL L n v else if m = n then (n, v) :: L else (n, v) :: (m, w) :: L
def delL (L : List (List UInt8 × α)) (n : List UInt8) : List (List UInt8 × α) := L.filter fun p => decide (p.1 ≠ n)
def getL (L : List (List UInt8 × α)) (n : List UInt8) : Option α := (L.find? fun p => decide (p.1 = n)).map (·.2)
theorem Rise.nd {L : List (List UInt8 × α)} (h : Rise L) : (L.map (·.1)).Nodup := by
  refine List.pairwise_map.2 (h.imp fun {a b} hab e => ?_)
  rw [e] at hab
  exact List.lt_irrefl _ hab
theorem mem_setL {L : List (List UInt8 × α)} {n : List UInt8} {v : α} {p : List UInt8 × α} (h : p ∈ setL L n v) : p = (n, v) ∨ p ∈ L := by
  induction L with
  | nil => simpa [setL] using h
  | cons a L ih =>
    obtain ⟨m, w⟩ := a
    unfold setL at h
    split at h
    · rcases List.mem_cons.1 h with rfl | h
      · exact .inr List.mem_cons_self
      · exact (ih h).imp id (List.mem_cons_of_mem _)
    · split at h
      · rcases List.mem_cons.1 h with rfl | h
        · exact .inl rfl
        · exact .inr (List.mem_cons_of_mem _ h)
      · rcases List.mem_cons.1 h with rfl | h
        · exact .inl rfl
        · exact .inr h
theorem Rise.set {L : List (List UInt8 × α)} (h : Rise L) (n : List UInt8) (v : α) : Rise (setL L n v) := by
  induction L with
  | nil => simp [setL, Rise]
  | cons a L ih =>
    obtain ⟨m, w⟩ := a
    obtain ⟨h1, h2⟩ := List.pairwise_cons.1 h
    unfold setL
    split
    · rename_i hlt
      refine List.pairwise_cons.2 ⟨fun p hp => ?_, ih h2⟩
      rcases mem_setL hp with rfl | hp
      · exact hlt
      · exact h1 p hp
    · rename_i hlt
      split
      · rename_i he
        subst he
        exact List.pairwise_cons.2 ⟨h1, h2⟩
      · rename_i hne
        have hnm : n < m := by
          rcases Decidable.em (n < m) with h | h
          · exact h
          · exact absurd (lt_tri hlt h) hne
        refine List.pairwise_cons.2 ⟨fun p hp => ?_, h⟩
        rcases List.mem_cons.1 hp with rfl | hp
        · exact hnm
        · exact List.lt_trans hnm (h1 p hp)
theorem getL_nil (n : List UInt8) : getL ([] : List (List UInt8 × α)) n = none := rfl
theorem getL_cons (p : List UInt8 × α) (L : List (List UInt8 × α)) (n : List UInt8) : getL (p :: L) n = if p.1 = n then some p.2 else getL L n := by
  unfold getL
  rw [List.find?_cons]
  by_cases h : p.1 = n <;> simp [h]
theorem getL_mem {L : List (List UInt8 × α)} {n : List UInt8} {v : α} (h : getL L n = some v) : (n, v) ∈ L := by
  unfold getL at h
  obtain ⟨p, hp, rfl⟩ := Option.map_eq_some_iff.1 h
  have h1 := List.find?_some hp
  simp at h1
  rw [← h1]
  exact List.mem_of_find?_eq_some hp
theorem getL_no {L : List (List UInt8 × α)} {n : List UInt8} (h : getL L n = none) : ∀ p ∈ L, p.1 ≠ n := by
  unfold getL at h
  rw [Option.map_eq_none_iff, List.find?_eq_none] at h
  exact fun p hp e => h p hp (by simp [e])
theorem getL_of {L : List (List UInt8 × α)} (hn : (L.map (·.1)).Nodup) {n : List UInt8} {v : α} (h : (n, v) ∈ L) : getL L n = some v := by
  induction L with
  | nil => cases h
  | cons a L ih =>
    rw [getL_cons]
    simp only [List.map_cons, List.nodup_cons, List.mem_map, not_exists, not_and] at hn
    rcases List.mem_cons.1 h with rfl | h
    · rw [if_pos rfl]
    · rw [if_neg (fun e => hn.1 (n, v) h e.symm)]
      exact ih hn.2 h
theorem getL_perm {E L : List (List UInt8 × α)} (hp : E.Perm L) (hn : (L.map (·.1)).Nodup) (n : List UInt8) : getL E n = getL L n := by
  have hn' : (E.map (·.1)).Nodup := (hp.map _).nodup_iff.2 hn
  rcases h : getL L n with _ | v
  · rcases h2 : getL E n with _ | v
    · rfl
    · exact absurd rfl (getL_no h (n, v) (hp.mem_iff.1 (getL_mem h2)))
  · exact getL_of hn' (hp.mem_iff.2 (getL_mem h))
/-- Replaced where it is there. -/
theorem setL_there {L : List (List UInt8 × α)} (h : Rise L) {n : List UInt8} {v : α} (hn : (getL L n).isSome = true) : setL L n v = L.map fun p => if p.1 = n then (n, v) else p := by
  induction L with
  | nil => simp [getL_nil] at hn
  | cons a L ih =>
    obtain ⟨m, w⟩ := a
    obtain ⟨h1, h2⟩ := List.pairwise_cons.1 h
    rw [getL_cons] at hn
    unfold setL
    by_cases he : m = n
    · subst he
      rw [if_neg (List.lt_irrefl _), if_pos rfl, List.map_cons, if_pos rfl]
      congr 1
      refine (List.map_id L).symm.trans (List.map_congr_left fun p hp => ?_)
      have := h1 p hp
      rw [if_neg (fun e => by rw [e] at this; exact List.lt_irrefl _ this)]
      rfl
    · rw [if_neg he] at hn
      rcases hg : getL L n with _ | u
      · rw [hg] at hn; cases hn
      · have := h1 _ (getL_mem hg)
        rw [if_pos this, List.map_cons, if_neg he, ih h2 hn]
theorem setL_new {L : List (List UInt8 × α)} {n : List UInt8} {v : α} (hn : getL L n = none) : (setL L n v).Perm ((n, v) :: L) := by
  induction L with
  | nil => exact .refl _
  | cons a L ih =>
    obtain ⟨m, w⟩ := a
    rw [getL_cons] at hn
    unfold setL
    by_cases he : m = n
    · rw [if_pos he] at hn; cases hn
    · rw [if_neg he] at hn
      split
      · exact ((ih hn).cons _).trans (.swap _ _ _)
      · exact .refl _
/-! ### maps -/
def encE (f : α → Value) (E : List (List UInt8 × α)) : List (List UInt8 × Value) := E.map fun p => (p.1, f p.2)
theorem alook_enc (f : α → Value) (E : List (List UInt8 × α)) (n : List UInt8) : alook (encE f E) n = (getL E n).map f := by
  unfold alook encE getL
  induction E with
  | nil => rfl
  | cons a E ih =>
    simp only [List.map_cons, List.find?_cons]
    by_cases h : a.1 = n <;> simp [h] at ih ⊢
    exact ih
/-- What the map has behind a set. -/
def putE (E : List (List UInt8 × α)) (n : List UInt8) (v : α) : List (List UInt8 × α) := if (getL E n).isSome = true then E.map (fun p => if p.1 = n then (n, v) else p) else E ++ [(n, v)]
theorem put_perm {E L : List (List UInt8 × α)} (hp : E.Perm L) (h : Rise L) (n : List UInt8) (v : α) : (putE E n v).Perm (setL L n v) := by
  have hg := getL_perm hp h.nd n
  unfold putE
  rw [hg]
  split
  · rename_i hs
    rw [setL_there h hs]
    exact hp.map _
  · rename_i hs
    have hno : getL L n = none := by cases hg : getL L n <;> simp_all
    exact ((List.perm_append_comm.trans (hp.cons _)).trans (setL_new hno).symm)
theorem enc_len (f : α → Value) (E : List (List UInt8 × α)) : (encE f E).length = E.length := by simp [encE]
theorem enc_keys (f : α → Value) (E : List (List UInt8 × α)) : (encE f E).map (·.1) = E.map (·.1) := by simp [encE, List.map_map, Function.comp_def]
/-- The names of a list, sorted. -/
def srtS (l : List (List UInt8)) : List (List UInt8) := l.mergeSort fun x y => decide (x ≤ y)
theorem srtS_rise {l : List (List UInt8)} {L : List (List UInt8 × α)} (h : Rise L) (hp : l.Perm (L.map (·.1))) : srtS l = L.map (·.1) := by
  have tr : ∀ a b c : List UInt8, decide (a ≤ b) = true → decide (b ≤ c) = true → decide (a ≤ c) = true := fun a b c h1 h2 => by simp only [decide_eq_true_eq] at *; exact List.le_trans h1 h2
  have hto : ∀ a b : List UInt8, (decide (a ≤ b) || decide (b ≤ a)) = true := fun a b => by simp only [Bool.or_eq_true, decide_eq_true_eq]; exact List.le_total a b
  refine List.Perm.eq_of_pairwise (le := fun a b => decide (a ≤ b) = true) (fun a b _ _ h1 h2 => ?_) (List.pairwise_mergeSort tr hto l) ?_ ((List.mergeSort_perm l _).trans hp)
  · simp only [decide_eq_true_eq] at h1 h2
    exact List.le_antisymm h1 h2
  · exact List.pairwise_map.2 (h.imp fun {a b} hab => decide_eq_true (List.le_of_lt hab))
end
end Go.Proofs.YtgkdnjebbikciaaGreatDoor


/-
  ROWS THAT ARE TURNED IN PLACE BY THE LIBRARY's SORT AND COMPACT. No program is named here.
-/
namespace Go.RK
open Go

section
variable {h : Heap}
/-- What the library's contracts ask of a row of one's own. -/
theorem Own.holds {α : Type} [Inhabited α] (enc : α → Value) {w : World} {g n cap : Nat} {e : TypeId} {l : List α} (ho : Own w.heap (.slice (some ⟨g, 0, none⟩) n cap) e 1 n (l.map enc)) : Go.Sort.Holds enc w g 0 l.toArray := by
  obtain ⟨hl, ⟨hv, _⟩ | ⟨g0, cap0, cur, hv, hg, hn, hc, hs, htk⟩⟩ := ho
  · cases hv
  · simp only [Value.slice.injEq, Option.some.injEq, Addr.mk.injEq] at hv
    obtain ⟨⟨rfl, _, _⟩, _, rfl⟩ := hv
    intro j hj
    have hj' : j < l.length := by simpa using hj
    refine ⟨?_, ?_⟩
    · rw [cell_eq, cell_of hg, Nat.zero_add]
      have e1 : (cur.toList.take (n * 1))[j]? = (l.map enc)[j]? := by rw [htk]
      have e2 : j < n * 1 := by
        have := congrArg List.length htk
        simp at this hl
        omega
      rw [List.getElem?_take, if_pos e2, List.getElem?_map, List.getElem?_eq_getElem hj'] at e1
      rw [← Array.getElem?_toList, e1]
      simp [hj']
    · unfold World.frozen?
      simp only [hg]
      simp
theorem sorted_heap {α : Type} [Inhabited α] (enc : α → Value) {w : World} {g n cap q : Nat} {e : TypeId} {l l' : List α} {os : Array Obj} (ho : Own w.heap (.slice (some ⟨g, 0, none⟩) n cap) e 1 n (l.map enc)) (hl : l'.length = n) :
    Own (Go.Sort.grow (Go.Sort.putRow enc (Go.Sort.ahead w q) g 0 l'.toArray) os).heap (.slice (some ⟨g, 0, none⟩) n cap) e 1 n (l'.map enc) ∧ Ext (fun k => k = g) w.heap (Go.Sort.grow (Go.Sort.putRow enc (Go.Sort.ahead w q) g 0 l'.toArray) os).heap := by
  obtain ⟨hl0, ⟨hv, _⟩ | ⟨g0, cap0, cur, hv, hg, hn, hc, hs, htk⟩⟩ := ho
  · cases hv
  · simp only [Value.slice.injEq, Option.some.injEq, Addr.mk.injEq] at hv
    obtain ⟨⟨rfl, _, _⟩, _, rfl⟩ := hv
    have hlt := lt_of_some hg
    have hm : (w.heap.modify g (Go.Sort.onCells (Go.Sort.putCells enc 0 l'.toArray)) ++ os)[g]? = some (.cells (Go.Sort.putCells enc 0 l'.toArray cur) e (0, 0)) := by
      rw [Array.getElem?_append, if_pos (by simpa using hlt), Array.getElem?_modify, if_pos rfl, hg]
      rfl
    refine ⟨⟨by simp [hl], .inr ⟨g, cap, _, rfl, hm, hn, hc, by simp [Go.Sort.putCells, hs], ?_⟩⟩, ⟨by show w.heap.size ≤ (w.heap.modify g _ ++ os).size; simp, fun b hb hne => ?_⟩⟩
    · apply List.ext_getElem?
      intro j
      simp only [Nat.mul_one, List.getElem?_take, Array.getElem?_toList, Go.Sort.putCells, Array.getElem?_mapIdx, List.getElem?_map]
      by_cases hj : j < n
      · have hjc : j < cur.size := by omega
        have hjl : j < l'.length := by omega
        simp [hj, hjc, hjl]
      · rw [if_neg hj, List.getElem?_eq_none (by omega)]
        rfl
    · show (w.heap.modify g _ ++ os)[b]? = _
      rw [Array.getElem?_append, if_pos (by simpa using hb), Array.getElem?_modify, if_neg (fun e => hne e.symm)]
theorem Own.slice' {v : Value} {e : TypeId} {sz n : Nat} {xs : List Value} (ho : Own h v e sz n xs) : (v = .slice none 0 0 ∧ n = 0) ∨ ∃ g cap, v = .slice (some ⟨g, 0, none⟩) n cap := by
  obtain ⟨_, h0 | ⟨g, cap, cur, hv, _⟩⟩ := ho
  · exact .inl h0
  · exact .inr ⟨g, cap, hv⟩
end
end Go.RK

/-
  SORTED TEXTS: slices.Sort of a row of one's own (by the library's contract).
-/
namespace Go.Proofs.YtgkdnjebbikciaaGreatDoor
open Go Go.RK

theorem sort_str {h : Heap} {v : Value} (l : List (List UInt8)) (ho : Own h v 9 1 l.length (l.map St)) (hm : l.length ≤ 1000000) :
    CallsH Tryz.prog 218 ⟨[v]⟩ h fun u h' => u = .tuple ⟨[]⟩ ∧ Own h' v 9 1 l.length ((srtS l).map St) ∧ Ext (fun k => v.ownBlock = some k) h h' := by
  rcases ho.slice' with ⟨rfl, h0⟩ | ⟨g, cap, rfl⟩
  · obtain rfl := List.eq_nil_of_length_eq_zero h0
    exact fun w hw => (Tryz.slices_Sort_string_none none 0 w).mono fun e w' ⟨he, hb⟩ => ⟨⟨by rw [hb], by rw [hb], by rw [hb], by subst hb; exact Nat.le_refl _⟩, _, he, rfl, by rw [hb, hw]; simpa [srtS] using ho, by rw [hb, hw]; exact .refl _ _⟩
  · intro w hw
    subst hw
    refine (Tryz.slices_Sort_string g 0 cap l w (Own.holds St ho) (ho.lt rfl) (by omega)).mono fun e w' ⟨he, n, os, hb⟩ => ?_
    subst hb
    have := sorted_heap St (q := n) (os := os) ho (by unfold srtS; simp : (srtS l).length = l.length)
    exact ⟨⟨rfl, rfl, rfl, by first | exact Nat.le_refl _ | exact Nat.le_add_right _ _⟩, _, he, rfl, this.1, this.2.mono fun k _ e => by rw [e]; rfl⟩

end Go.Proofs.YtgkdnjebbikciaaGreatDoor


/-
  AN EVALUATOR THAT IS PROVED, 32: iterators, by a contract. No program is named here.
-/
namespace Go.RK
open Go

/-- Of the captured values: which blocks are read, and what is handed on. -/
abbrev ItD := List Value → Hp → Option (List Nat × List (List Value))
/-- SeqH (K23), with what is returned. -/
def SeqU (P : Program) (k : FuncId) (lb : List Value) {α : Type} (enc : α → List Value) (L : List α) (rd : Nat → Prop) (h : Heap) : Prop :=
  ∀ (X : Type) (J : Nat → X → Heap → Prop) (Jx : X → Heap → Prop) (own : X → Nat → Prop) (l : Nat) (x0 : X), J 0 x0 h → l < h.size → ¬ rd l →
    (∀ k x h', J k x h' → ∀ b, own x b → b < h'.size ∧ ¬ rd b) →
    (∀ k x h1 h2 (S : Nat → Prop), J k x h1 → Ext S h1 h2 → (∀ b, S b → b < h1.size → h.size ≤ b ∧ ¬ own x b) → J k x h2) →
    (∀ k x h1 a, J k x h1 → L[k]? = some a → YieldH P l (enc a) h1 fun v h2 => ∃ x', Ext (fun b => own x b ∨ b = l) h1 h2 ∧ (∀ b, own x' b → own x b ∨ h1.size ≤ b) ∧ ((v = .bool true ∧ J (k + 1) x' h2) ∨ (v = .bool false ∧ Jx x' h2))) →
    CallsH P k ⟨.func (.yield l) #[] #[] :: lb⟩ h fun u h' => u = .tuple ⟨[]⟩ ∧ ∃ x, J L.length x h' ∨ Jx x h'
noncomputable def folY (Y : YldE) (β : Nat) : List (List Value) → Hp → Option Hp
  | [], A => some A
  | a :: r, A => match Y β a A with
    | some (true, B) => folY Y β r B
    | some (false, B) => some B
    | Option.none => Option.none
noncomputable def itN (k : Nat) (D : ItD) (N : NatE) : NatE := fun C Y k' vs A => bif Nat.beq k' k then
    (match vs with
    | .func (.yield β) ⟨[]⟩ ⟨[]⟩ :: lb => match D lb A with
      | some (Z, L) => bif (liveB A β && (Z.all (fun z => liveB A z && !Nat.beq z β) && (A.pr.all (fun z => Nat.blt z A.nx) && L.all flatL))) then (match folY Y β L { A with pr := Z ++ A.pr } with
        | some B => some (some (.tuple ⟨[]⟩, { B with pr := A.pr }))
        | Option.none => some Option.none) else some Option.none
      | Option.none => N C Y k' vs A
    | _ => some Option.none)
  else N C Y k' vs A
section
variable [Opq]
/-- What is shown of such an iterator. -/
structure ItK (P : Program) (k : Nat) (D : ItD) : Prop where
  seq : ∀ (σ : Sg) (A : Hp) (h : Heap) (lb us : List Value) (Z : List Nat) (L : List (List Value)), D lb A = some (Z, L) → VaL σ lb us → HR σ A h → SeqU P k us (fun a : List Value => a) L (fun q => ∃ β, β ∈ Z ∧ ∃ p, σ β = some p ∧ p.b = q) h
  enter : ∀ (args : Array Value) (w : World), (callFunc k args).run P w = .ok (.enter k args) w
omit [Opq] in
theorem liveB_some {A : Hp} {β : Nat} (h : liveB A β = true) : ∃ o, A.t.get β = some o := by
  unfold liveB at h
  cases e : A.t.get β with
  | none => rw [e] at h; cases h
  | some o => exact ⟨o, rfl⟩
theorem itN_ok {P : Program} {k : Nat} {D : ItD} {N : NatE} (hN : NOk P N) (hK : ItK P k D) : NOk P (itN k D N) := fun C Y hC hY k' vs A v A' e => by
  unfold itN at e
  cases hk : Nat.beq k' k with
  | false => rw [hk] at e; exact hN C Y hC hY k' vs A v A' e
  | true =>
    rw [hk] at e
    simp only [cond_true] at e
    have hk2 := Nat.eq_of_beq_eq_true hk
    subst hk2
    split at e
    case h_2 => cases e
    rename_i β lb
    split at e
    case h_2 => exact hN C Y hC hY _ _ A v A' e
    rename_i Z L hD
    cases hq : (liveB A β && (Z.all (fun z => liveB A z && !Nat.beq z β) && (A.pr.all (fun z => Nat.blt z A.nx) && L.all flatL))) with
    | false => rw [hq] at e; cases e
    | true =>
    rw [hq] at e
    simp only [cond_true] at e
    split at e
    case h_2 => cases e
    rename_i B hfold
    simp only [Option.some.injEq, Prod.mk.injEq] at e
    obtain ⟨rfl, rfl⟩ := e
    obtain ⟨q1, q2⟩ := an2 hq
    obtain ⟨q2, q3⟩ := an2 q2
    obtain ⟨q3, q4⟩ := an2 q3
    obtain ⟨oβ, hoβ⟩ := liveB_some q1
    have hZ : ∀ z, z ∈ Z → (∃ o, A.t.get z = some o) ∧ z ≠ β := fun z hz => by
      obtain ⟨r1, r2⟩ := an2 (List.all_eq_true.1 q2 z hz)
      exact ⟨liveB_some r1, fun e => by subst e; rw [Nat.beq_refl] at r2; cases r2⟩
    have hpr : ∀ z, z ∈ A.pr → z < A.nx := fun z hz => blt_lt (List.all_eq_true.1 q3 z hz)
    have hfl : ∀ a, a ∈ L → flatL a = true := fun a ha => List.all_eq_true.1 q4 a ha
    intro σ us h hv hh
    cases hv with
    | cons h1 hlb =>
    rename_i u0 us
    obtain ⟨p, hp, rfl⟩ : ∃ p, σ β = some p ∧ u0 = Value.func (.yield p.b) #[] #[] := by
      cases h1 with
      | func hf _ _ => exact absurd rfl (hf _)
      | yield h => exact ⟨_, h, rfl⟩
    refine .inr ⟨fun w => hK.enter _ w, ?_⟩
    generalize hA' : ({ A with pr := Z ++ A.pr } : Hp) = A' at hfold
    have hh' : HR σ A' h := by rw [← hA']; exact (Hp.with_pr A _ σ h).2 hh
    have ht : A'.t = A.t := by rw [← hA']
    have hn : A'.nx = A.nx := by rw [← hA']
    have hp' : A'.pr = Z ++ A.pr := by rw [← hA']
    have key := hK.seq σ A h lb us Z L hD hlb hh (Sg × Hp) (fun j x h' => Stp σ A' h x.1 x.2 h' ∧ folY Y β (L.drop j) x.2 = some B) (fun x h' => Stp σ A' h x.1 B h' ∧ x.2 = B) (fun x q => Wr x.1 x.2 q) p.b (σ, A')
      ⟨.refl hh', hfold⟩ (hh.ltb _ _ hp) ?hl ?hw ?hst ?hy
    case hl =>
      rintro ⟨z, hz, pz, hpz, e⟩
      obtain ⟨⟨oz, hoz⟩, hne⟩ := hZ z hz
      exact hne (hh.inj _ _ _ _ _ _ hoz hoβ hpz hp e)
    case hw =>
      rintro j ⟨σ1, A1⟩ h1 ⟨s, _⟩ q ⟨γ, o, pγ, hg, hprγ, hs, rfl⟩
      refine ⟨s.hr.ltb _ _ hs, ?_⟩
      rintro ⟨z, hz, pz, hpz, e⟩
      obtain ⟨⟨oz, hoz⟩, _⟩ := hZ z hz
      have hzp : A'.pr.contains z = true := by rw [hp']; simp [hz]
      have hoz' := s.apr z (by rw [hn]; exact hh.dom _ _ hpz) hzp
      rw [ht, hoz] at hoz'
      have := s.hr.inj _ _ _ _ _ _ hg hoz' hs (s.le _ _ hpz) e.symm
      subst this
      dsimp only at hprγ s
      rw [s.pr, hzp] at hprγ
      cases hprγ
    case hst =>
      rintro j ⟨σ1, A1⟩ h1 h2 S ⟨s, hf⟩ hx hS
      refine ⟨?_, hf⟩
      have hkeep : ∀ γ o pγ, A1.t.get γ = some o → σ1 γ = some pγ → ¬ S pγ.b := fun γ o pγ hg hs hSb => by
        obtain ⟨hle, hnw⟩ := hS _ hSb (s.hr.ltb _ _ hs)
        apply hnw
        refine ⟨γ, o, pγ, hg, ?_, hs, rfl⟩
        cases hc : A1.pr.contains γ with
        | false => rfl
        | true =>
          exfalso
          have hc' : A'.pr.contains γ = true := by rw [← s.pr]; exact hc
          have hlt : γ < A'.nx := by
            rw [hn]
            have hm : γ ∈ A'.pr := by simpa using hc'
            rw [hp'] at hm
            rcases List.mem_append.1 hm with hm | hm
            · obtain ⟨⟨oz, hoz⟩, _⟩ := hZ γ hm
              obtain ⟨pz, hpz, _⟩ := hh.obj _ _ hoz
              exact hh.dom _ _ hpz
            · exact hpr _ hm
          have ha := s.apr γ hlt hc'
          dsimp only at ha
          rw [hg, ht] at ha
          obtain ⟨p0, hp0, _⟩ := hh.obj _ _ ha.symm
          have := s.le _ _ hp0
          dsimp only at this
          rw [hs] at this
          injection this with this
          subst this
          have := hh.ltb _ _ hp0
          omega
      have hlow : ∀ b, b < h.size → h2[b]? = h1[b]? := fun b hb => hx.keep b (Nat.lt_of_lt_of_le hb s.size) fun hSb => by have := (hS b hSb (Nat.lt_of_lt_of_le hb s.size)).1; omega
      exact ⟨s.le, ⟨fun γ o hg => by
          obtain ⟨pγ, h3, h4⟩ := s.hr.obj γ o hg
          exact ⟨pγ, h3, h4.keep (hx.keep _ (s.hr.ltb _ _ h3) (hkeep γ o pγ hg h3))⟩, s.hr.inj, s.hr.dom, fun γ q hq => Nat.lt_of_lt_of_le (s.hr.ltb γ q hq) hx.size,
          ⟨Nat.le_trans s.hr.bas.size hx.size, fun b hb _ => by
            have hb' : b < h.size := Nat.lt_of_lt_of_le hb hh.bas.size
            exact (hlow b hb').trans (s.hr.bas.keep b hb nos)⟩, s.hr.low⟩, s.pr, Nat.le_trans s.size hx.size, fun b hb hw => (hlow b hb).trans (s.keep b hb hw), s.wr, s.lv, s.apr, s.nx⟩
    case hy =>
      rintro j ⟨σ1, A1⟩ h1 a ⟨s, hf⟩ ha
      dsimp only at s hf
      have hj : j < L.length := (List.getElem?_eq_some_iff.1 ha).1
      have hdr : L.drop j = a :: L.drop (j + 1) := by
        rw [List.drop_eq_getElem_cons hj]
        congr 1
        exact (List.getElem?_eq_some_iff.1 ha).2
      rw [hdr] at hf
      unfold folY at hf
      have hav : VaL σ1 a a := VaL.of_flat σ1 a (hfl a (List.mem_of_getElem? ha))
      have step : ∀ b A2, Y β a A1 = some (b, A2) → YieldH P p.b a h1 fun v h' => v = .bool b ∧ ∃ σ', Stp σ1 A1 h1 σ' A2 h' := fun b A2 hYe => hY β a A1 b A2 hYe σ1 a h1 p (s.le _ _ hp) hav s.hr
      have own : ∀ σ2 A2 h2, Stp σ1 A1 h1 σ2 A2 h2 → Ext (fun b => Wr σ1 A1 b ∨ b = p.b) h1 h2 ∧ ∀ b, Wr σ2 A2 b → Wr σ1 A1 b ∨ h1.size ≤ b := fun σ2 A2 h2 s2 =>
        ⟨⟨s2.size, fun b hb hw => s2.keep b hb fun hw' => hw (.inl hw')⟩, fun b hw => by
          by_cases hb : b < h1.size
          · exact .inl (s2.wr b hb hw)
          · exact .inr (by omega)⟩
      split at hf
      · rename_i A2 hYe
        exact (step _ _ hYe).mono fun v h2 ⟨hv, σ2, s2⟩ => ⟨(σ2, A2), (own _ _ _ s2).1, (own _ _ _ s2).2, .inl ⟨hv, s.trans s2, hf⟩⟩
      · rename_i A2 hYe
        simp only [Option.some.injEq] at hf
        subst hf
        exact (step _ _ hYe).mono fun v h2 ⟨hv, σ2, s2⟩ => ⟨(σ2, A2), (own _ _ _ s2).1, (own _ _ _ s2).2, .inr ⟨hv, s.trans s2, rfl⟩⟩
      · cases hf
    refine key.mono fun u h' ⟨hu, hq⟩ => ?_
    have hs : ∃ σ', Stp σ A' h σ' B h' := by
      obtain ⟨x, ⟨s, hf⟩ | ⟨s, _⟩⟩ := hq
      · rw [List.drop_length] at hf
        unfold folY at hf
        simp only [Option.some.injEq] at hf
        rw [hf] at s
        exact ⟨x.1, s⟩
      · exact ⟨x.1, s⟩
    obtain ⟨σ', s⟩ := hs
    exact ⟨σ', Stp.less hh (zs := Z) (by rw [hA']; exact s), by rw [hu]; exact .tuple .nil⟩
end
end Go.RK

/-
  TABLE (layer 15): the iterator over all names, rising, wherever the table lies.
-/
namespace Go.Proofs.YtgkdnjebbikciaaGreatDoor
open Go Go.RK

abbrev NI := List UInt8 × Int
/-- A cell that is known. -/
def Cl (h : Heap) (b o : Nat) (v : Value) : Prop := ∃ cs T z, h[b]? = some (.cells ⟨cs⟩ T z) ∧ cs[o]? = some v
theorem Cl.cell {h : Heap} {b o : Nat} {v : Value} (c : Cl h b o v) : cell h ⟨b, o, none⟩ = some v := by
  obtain ⟨cs, T, z, h1, h2⟩ := c
  exact cell_blk h1 h2
theorem Cl.ext {S : Nat → Prop} {h h' : Heap} {b o : Nat} {v : Value} (c : Cl h b o v) (a : Ext S h h') (n : ¬ S b) : Cl h' b o v := by
  obtain ⟨cs, T, z, h1, h2⟩ := c
  exact ⟨cs, T, z, a.obj h1 n, h2⟩
theorem Cl.lt {h : Heap} {b o : Nat} {v : Value} (c : Cl h b o v) : b < h.size := by
  obtain ⟨cs, T, z, h1, _⟩ := c
  exact lt_of_some h1
set_option maxHeartbeats 2000000 in
set_option maxRecDepth 100000 in
theorem readyG {h : Heap} {b o m : Nat} (hc : Cl h b o (.map (some m))) :
    CallsH Tryz.prog 217 ⟨[.pointer (some ⟨b, o, none⟩)]⟩ h fun u h' => u = .bool true ∧ h' = h := by
  refine calls [(0, _)] Tryz.func217 rfl Tryz.ntmps217 rfl ⟨rfl, trivial⟩ ?_
  all_goals (refine WC.sr ?_)
  all_goals (refine Go ?_)
  all_goals (refine WC.sr ?_)
  all_goals (refine Go ?_)
  all_goals (refine WL.step (ok_neqPn Tryz.underlying107 rfl rfl) rfl rfl rfl ?_)
  all_goals (refine Go ?_)
  all_goals (refine goP 5 ?_ ?_ <;> first | exact ⟨⟩ | refine Hb.mk fun hb => ?_ | skip)
  all_goals (refine Gg ?_)
  all_goals (first | (refine WL.pass rfl rfl rfl ?_) | (refine WL.step (ok_nilCheck rfl) rfl rfl rfl ?_))
  all_goals (refine Gg ?_)
  all_goals (first | (refine WL.pass rfl rfl rfl ?_) | (refine WL.ld rfl (by first | exact hc.cell | assumption | exact cell_blk (by assumption) rfl) rfl rfl rfl ?_))
  all_goals (first | (refine WL.pass rfl rfl rfl ?_) | (refine WL.step (ok_neqMn Tryz.underlying257 rfl rfl) rfl rfl rfl ?_))
  all_goals (refine Go ?_)
  all_goals (refine Gs [(2, _)] ?_)
  all_goals (refine Gt ?_)
  all_goals (exact ⟨rfl, rfl⟩)
set_option maxHeartbeats 4000000 in
set_option maxRecDepth 100000 in
theorem all_seqU {h : Heap} {b o m bx ox : Nat} {E L : List NI} (hb : Cl h b o (.map (some m))) (hm : Mp .string St h m (encE In E)) (hp : E.Perm L) (hri : Rise L) (hl : L.length ≤ 1000000)
    (hbx : Cl h bx ox (.pointer (some ⟨b, o, none⟩))) :
    SeqU Tryz.prog 216 [.pointer (some ⟨bx, ox, none⟩)] (fun p : NI => [St p.1, In p.2]) L (fun q => q = b ∨ q = m ∨ q = bx) h := by
  intro X J Jx own l x0 hJ0 hll hlr hown hst hY
  have hEl := hp.length_eq
  have hbl := hb.lt
  have hml := hm.lt
  have hxl := hbx.lt
  refine calls [(0, _), (1, _)] Tryz.func216 rfl Tryz.ntmps216 rfl ⟨rfl, rfl, trivial⟩ ?_
  all_goals (refine WC.seq ?_)
  all_goals (refine WC.sr ?_)
  all_goals (refine WL.ld rfl (by first | exact hbx.cell | assumption | exact cell_blk (by assumption) rfl) rfl rfl rfl ?_)
  all_goals (refine WL.call (vs := [_]) rfl (fun a w => Tryz.call217 a w) rfl (readyG hb) rfl rfl rfl ?_
             rintro _ hz ⟨rfl, _⟩
             subst hz)
  all_goals (refine Go ?_)
  all_goals (refine goC 1 2 ?_ ?_ <;> first | exact ⟨⟩ | refine Hb.mk fun hb => ?_ | skip)
  all_goals (first | (fail_if_success refine goB 1 ?_) | (
  refine goB 1 ?_
  all_goals (refine Gt ?_)
  all_goals (exact ⟨rfl, x', .inr hJx6⟩)
  skip))
  all_goals (first | (fail_if_success refine goB 2 ?_) | (
  refine goB 2 ?_
  all_goals (refine WC.skip ?_)
  skip))
  all_goals (refine Gn ?_)
  all_goals (refine WC.sr ?_)
  all_goals (refine Go ?_)
  all_goals (refine WC.seq ?_)
  all_goals (refine WC.sr ?_)
  all_goals (refine WL.ld rfl (by first | exact hbx.cell | assumption | exact cell_blk (by assumption) rfl) rfl rfl rfl ?_)
  all_goals (refine WL.step (ok_nilCheck rfl) rfl rfl rfl ?_)
  all_goals (refine Go ?_)
  all_goals (refine WL.ld rfl (by first | exact hb.cell | assumption | exact cell_blk (by assumption) rfl) rfl rfl rfl ?_)
  all_goals (refine WL.stepR (okE_range Tryz.underlying257 rfl (by assumption)) rfl rfl rfl ?_
             rintro _ h1 ⟨r1, rfl, hgr1, hit1, hx1⟩)
  all_goals (refine Gn ?_)
  all_goals (refine Gs [(0, _), (1, _), (3, _), (14, _)] ?_)
  all_goals (refine WC.block ?_)
  -- loop 0: slots that turn [3], that stay [0, 1, 14]
  all_goals (refine WC.loopG (X := Value × List (List UInt8 × Value)) (fun x => ([(3, x.1)] : Fr)) [(0, _), (1, _), (14, _)] (fun x h' => It St h' r1 m (encE In E) x.2 ∧ Own h' x.1 9 1 (x.2.map (·.1)).length ((x.2.map (·.1)).map St) ∧ Ext (fun k => k = r1) h1 h' ∧ ∀ k, x.1.ownBlock = some k → h1.size ≤ k) (fun x => E.length - x.2.length) ((.slice none 0 0, [])) ⟨rfl, rfl, rfl, rfl, trivial⟩ (by exact ⟨hit1, Own.nil _ _ _, .refl _ _, by simp [Value.ownBlock]⟩) ?_)
  all_goals (rintro ⟨v2, ds⟩ h2 ⟨hit2, ho2, hx2, hf2⟩
             simp only at hit2 ho2 hf2
             have hdl := sub_len hit2.nd hit2.sub
             rw [enc_len] at hdl
             have hml2 : (ds.map (·.1)).length = ds.length := List.length_map ..
             have hs2 := hx2.size
             have hrlt := hit1.lt
             have hs1 := hx1.size)
  all_goals (refine WC.sub [(3, _), (0, _), (1, _), (14, _)] ⟨rfl, rfl, rfl, rfl, trivial⟩ ?_)
  all_goals (dsimp only)
  all_goals (refine WC.sr ?_)
  all_goals (refine WL.stepR (okE_next keyS rfl hit2) rfl rfl rfl ?_
             rintro v h3 (⟨rfl, hz, hperm⟩ | ⟨p, rfl, hp3, hnp, hit3, hil3, hx3⟩))
  all_goals (try subst h3)
  all_goals (refine Go ?_)
  all_goals (refine WC.seq ?_)
  all_goals (refine goC 3 4 ?_ ?_ <;> first | exact ⟨⟩ | refine Hb.mk fun hb => ?_ | skip)
  all_goals (first | (fail_if_success refine goB 3 ?_) | (
  refine goB 3 ?_
  all_goals (refine WC.skip ?_)
  skip))
  all_goals (first | (fail_if_success refine goB 4 ?_) | (
  refine goB 4 ?_
  all_goals (refine WC.exit ?_)
  all_goals (repeat' (with_reducible first | refine thenP_x ?_ | refine blockP_miss rfl ?_ | refine blockP_hit ?_ | refine blockP_n ?_ | refine thenP_n ?_))
  all_goals (refine Br.out (i := 1000) ?_)
  skip))
  all_goals (refine Gn ?_)
  all_goals (first | (refine Br.keep ?_) | (refine WC.block ?_))
  all_goals (first | (refine Br.keep ?_) | (refine WC.sr ?_))
  all_goals (first | (refine Br.keep ?_) | (refine WL.step (ok_entry rfl hil3) rfl rfl rfl ?_))
  all_goals (refine Go ?_)
  all_goals (first | (refine Br.keep ?_) | (refine Gs [(0, _), (1, _), (3, _), (4, _), (14, _)] ?_))
  all_goals (first | (refine Br.keep ?_) | (refine WC.region ?_))
  all_goals (refine Go ?_)
  all_goals (first
               | (refine Br.keep ?_)
               | (refine WL.stepR (okE_buildSlice (vs := [_]) (cs := [_]) (fun | [a0] => [a0] | _ => []) Tryz.underlying235 rfl rfl (by kernel_rfl)) rfl rfl rfl ?_
                  rintro _ h4 ⟨b4, rfl, hg4, hb4, hx4⟩))
  all_goals (first
               | (refine Br.keep ?_)
               | (refine WL.stepR (ok_append (sz := 1) (bytes := 16) rfl Tryz.underlying235 (show Tryz.prog.info? 9 = some Tryz.t9 by kernel_rfl) rfl rfl rfl rfl (by decide) rfl rfl ((ho2.ext hx3 (fun k hk e => by have := hf2 k hk; omega)).ext hx4 (fun _ _ => nos)) (rd_blk hb4 rfl) (by simp [Value.oneCell']) (by simp only [maxLen]; omega) (by omega)) rfl rfl rfl ?_
                  rintro v5 h5 ⟨ho5, hx5, hl5⟩))
  all_goals (refine Go ?_)
  all_goals (first | (refine Br.keep ?_) | (exact ⟨(_, ds ++ [p]), ⟨rfl, rfl, rfl, rfl, trivial⟩, (by exact ⟨hit3.ext ((hx4.mono fun _ _ e => e.elim).trans hx5) (fun e => by have := hf2 _ e; omega) (fun e => by have := hf2 _ e; omega), by simpa using ho5, (hx2.trans (hx3.trans' hx4 fun _ _ e => e.elim)).trans' hx5 (fun q hq e => by have := hf2 q e; omega), fresh_of hl5 hf2 (by have := hx3.size; have := hx4.size; omega)⟩), (by have hd3 := sub_len hit3.nd hit3.sub; rw [enc_len] at hd3; simp at hd3 ⊢; omega)⟩))
  all_goals (try (refine Br.mk (i := 1000) ?_))
  all_goals (refine Gn ?_)
  all_goals (refine WC.sr ?_)
  all_goals (refine Go ?_)
  all_goals (refine WL.call (vs := [_]) rfl (fun a w => Tryz.call218 a w) rfl (sort_str (ds.map (·.1)) ho2 (by omega)) rfl rfl rfl ?_
             rintro _ h4 ⟨rfl, ho4, hx4⟩)
  all_goals (have hpk : (ds.map (·.1)).Perm (L.map (·.1)) := by have := (hperm.map (·.1)).trans (.of_eq (enc_keys In E)); exact this.trans (hp.map _)
             have hdl2 : (ds.map (·.1)).length = L.length := by rw [hpk.length_eq, List.length_map]
             rw [srtS_rise hri hpk] at ho4
             rw [hdl2] at ho4
             obtain ⟨A2, c2, rfl, _⟩ := ho4.slice
             have hX4 : Ext No h h4 := (hx1.trans' hx2 (fun q hq e => by omega)).trans' hx4 (fun q hq e => by have := hf2 q e; omega)
             have hf4 : ∀ q, A2 = some ⟨q, 0, none⟩ → h1.size ≤ q := fun q e => hf2 q (by rw [e]; rfl)
             have hs4 := hX4.size
             have hJ4 : J 0 x0 h4 := hst 0 x0 h h4 No hJ0 hX4 (fun _ e => e.elim))
  all_goals (refine Gn ?_)
  all_goals (refine Gs [(0, _), (1, _), (3, _)] ?_)
  all_goals (refine WC.sr ?_)
  all_goals (refine Go ?_)
  all_goals (refine WC.block ?_)
  -- loop 1: slots that turn [27], that stay [0, 1, 25, 26]
  all_goals (refine WC.loopG (X := Nat × X) (fun x => ([(27, In (x.1 : Int))] : Fr)) [(0, _), (1, _), (25, _), (26, _)] (fun x h' => J x.1 x.2 h' ∧ x.1 ≤ L.length ∧ Own h' (.slice A2 L.length c2) 9 1 L.length ((L.map (·.1)).map St) ∧ (Cl h' b o (.map (some m)) ∧ Mp .string St h' m (encE In E)) ∧ Cl h' bx ox (.pointer (some ⟨b, o, none⟩)) ∧ (∀ q, (.slice A2 L.length c2 : Value).ownBlock = some q → q ≠ l ∧ ¬ own x.2 q)) (fun x => L.length - x.1) ((0, x0)) ⟨rfl, rfl, rfl, rfl, rfl, trivial⟩ (by exact ⟨hJ4, Nat.zero_le _, ho4, ⟨hb.ext hX4 nos, hm.ext hX4 nos⟩, hbx.ext hX4 nos, fun q hq => ⟨fun e => by have := hf2 q hq; omega, fun e => by have := (hown _ _ _ hJ0 q e).1; have := hf2 q hq; omega⟩⟩) ?_)
  all_goals (rintro ⟨k, x⟩ h5 ⟨hJ5, hk, ho5, ⟨t5, m5⟩, hbx5, hfr5⟩
             dsimp only at hJ5 hk ho5 hfr5)
  all_goals (refine WC.sub [(27, _), (0, _), (1, _), (25, _), (26, _)] ⟨rfl, rfl, rfl, rfl, rfl, trivial⟩ ?_)
  all_goals (dsimp only)
  all_goals (refine WC.sr ?_)
  all_goals (refine Go ?_)
  all_goals (refine WC.seq ?_)
  all_goals (refine goC 5 6 ?_ ?_ <;> first | exact ⟨⟩ | refine Hb.mk fun hb => ?_ | skip)
  all_goals (first | (fail_if_success refine goB 5 ?_) | (
  refine goB 5 ?_
  all_goals (refine WC.skip ?_)
  skip))
  all_goals (first | (fail_if_success refine goB 6 ?_) | (
  refine goB 6 ?_
  all_goals (refine WC.exit ?_)
  all_goals (repeat' (with_reducible first | refine thenP_x ?_ | refine blockP_miss rfl ?_ | refine blockP_hit ?_ | refine blockP_n ?_ | refine thenP_n ?_))
  all_goals (refine Br.out (i := 1002) ?_)
  skip))
  all_goals (refine Gn ?_)
  all_goals (first | (refine Br.keep ?_) | (refine WC.seq ?_))
  all_goals (first | (refine Br.keep ?_) | (refine WC.block ?_))
  all_goals (first | (refine Br.keep ?_) | (refine WC.sr ?_))
  all_goals (first
               | (refine Br.keep ?_)
               | (obtain ⟨bL, oL, hA, hbL, hat⟩ := Rd.at_ ho5.rd (by omega)
                  obtain ⟨⟨nm, id⟩, hy⟩ : ∃ y, L[k]? = some y := ⟨_, List.getElem?_eq_getElem (by omega)⟩
                  have hcd : cell h5 ⟨bL, oL + k * 1, none⟩ = some (St nm) := by rw [Nat.mul_one]; exact hat.one (j := k) (by simp [hy])))
  all_goals (first | (refine Br.keep ?_) | (refine WL.step (ok_idxAddrA Tryz.underlying235 (fun w => Tryz.sizeOf9 w) rfl rfl rfl (by omega) (by first | rfl | assumption)) rfl rfl rfl ?_))
  all_goals (first | (refine Br.keep ?_) | (refine WL.ld rfl (by first | exact hcd | assumption | exact cell_blk (by assumption) rfl) rfl rfl rfl ?_))
  all_goals (refine Go ?_)
  all_goals (first | (refine Br.keep ?_) | (refine WC.seq ?_))
  all_goals (first | (refine Br.keep ?_) | (refine WC.regionY ?_))
  all_goals (first | (refine Br.keep ?_) | (refine WY.step (ok_move rfl) rfl rfl rfl ?_))
  all_goals (first | (refine Br.keep ?_) | (refine WY.step (ok_move rfl) rfl rfl rfl ?_))
  all_goals (first | (refine Br.keep ?_) | (refine WY.step (ok_load (fun w => Tryz.isAgg107 w) rfl (by first | exact hbx5.cell | assumption | exact cell_blk (by assumption) rfl)) rfl rfl rfl ?_))
  all_goals (first | (refine Br.keep ?_) | (refine WY.step (ok_nilCheck rfl) rfl rfl rfl ?_))
  all_goals (first | (refine Br.keep ?_) | (refine WY.step (ok_fieldAddr rfl Tryz.underlying329 rfl (fun w => Tryz.sizeOf257 w)) rfl rfl rfl ?_))
  all_goals (first | (refine Br.keep ?_) | (refine WY.step (ok_load (fun w => Tryz.isAgg257 w) rfl (by first | exact t5.cell | assumption | exact cell_blk (by assumption) rfl)) rfl rfl rfl ?_))
  all_goals (first | (refine Br.keep ?_) | (refine WY.step (ok_move rfl) rfl rfl rfl ?_))
  all_goals (first | (refine Br.keep ?_) | (first | (refine WY.step ((ok_lookup keyS Tryz.underlying257 Tryz.underlying9 rfl rfl m5 (by rw [alook_enc, getL_perm hp hri.nd, getL_of hri.nd (List.mem_of_getElem? hy)]; rfl)).2) rfl rfl rfl ?_) | (refine WY.step ((ok_lookup_no keyS Tryz.underlying257 Tryz.underlying9 (fun w => Tryz.zeroValue3 w) rfl rfl m5 (by rw [alook_enc, getL_perm hp hri.nd, getL_of hri.nd (List.mem_of_getElem? hy)]; rfl)).2) rfl rfl rfl ?_) | (refine WY.step ((ok_lookup_nil keyS Tryz.underlying257 Tryz.underlying9 (fun w => Tryz.zeroValue3 w) rfl rfl).2) rfl rfl rfl ?_)))
  all_goals (first
               | (refine Br.keep ?_)
               | (refine WY.yield (vs := [_, _]) rfl rfl rfl (hY k x h5 (nm, id) hJ5 hy) rfl rfl rfl ?_
                  rintro _ h6 ⟨x', hx6, hox, (⟨rfl, hJ6⟩ | ⟨rfl, hJx6⟩)⟩))
  all_goals (first | (refine Br.keep ?_) | (try (have ho6 := ho5.ext hx6 (fun q hq e => e.elim (hfr5 q hq).2 (hfr5 q hq).1); have n1 : ∀ q, (q = b ∨ q = m ∨ q = bx) → ¬ (own x q ∨ q = l) := (fun q hq e => e.elim (fun e => (hown _ _ _ hJ5 q e).2 hq) (fun e => hlr (e ▸ hq))); have t6 := t5.ext hx6 (n1 b (.inl rfl)); have m6 := m5.ext hx6 (n1 m (.inr (.inl rfl))); have hbx6 := hbx5.ext hx6 (n1 bx (.inr (.inr rfl))); have hfr6 : ∀ q, (.slice A2 L.length c2 : Value).ownBlock = some q → q ≠ l ∧ ¬ own x' q := (fun q hq => ⟨(hfr5 q hq).1, fun e => (hox q e).elim (hfr5 q hq).2 (fun e => by have := ho5.lt hq; omega)⟩))))
  all_goals (first | (refine Br.keep ?_) | (refine WY.step (ok_not rfl) rfl rfl rfl ?_))
  all_goals (first | (refine Br.keep ?_) | (refine WY.nil ?_))
  all_goals (refine Gn ?_)
  all_goals (first | (refine Br.keep ?_) | (refine Gs [(0, _), (1, _), (25, _), (26, _), (27, _), (40, _)] ?_))
  all_goals (first | (refine Br.keep ?_) | (refine goC 7 8 ?_ ?_ <;> first | exact ⟨⟩ | refine Hb.mk fun hb => ?_ | skip))
  all_goals (first | (fail_if_success refine goB 7 ?_) | (
  refine goB 7 ?_
  all_goals (refine Gt ?_)
  all_goals (exact ⟨rfl, x', .inr hJx6⟩)
  skip))
  all_goals (first | (fail_if_success refine goB 8 ?_) | (
  refine goB 8 ?_
  all_goals (refine WC.skip ?_)
  skip))
  all_goals (refine Gn ?_)
  all_goals (first | (refine Br.keep ?_) | (refine WC.region ?_))
  all_goals (refine Go ?_)
  all_goals (first | (refine Br.keep ?_) | (exact ⟨(k + 1, x'), ⟨rfl, rfl, rfl, rfl, rfl, trivial⟩, (by exact ⟨hJ6, by omega, ho6, ⟨t6, m6⟩, hbx6, hfr6⟩), (by simp; omega)⟩))
  all_goals (try (refine Br.mk (i := 1002) ?_))
  all_goals (refine Gn ?_)
  all_goals (refine retP_n [] trivial ?_)
  all_goals (exact ⟨rfl, x, .inl ((show k = L.length by omega) ▸ hJ5)⟩)
end Go.Proofs.YtgkdnjebbikciaaGreatDoor


/-
  TopLimits, run by the evaluator (5): the names of a table, one behind the other, by the iterator's contract.
-/
namespace Go.Proofs.YtgkdnjebbikciaaGreatDoor
open Go Go.RK

/-- What a table's map tells. -/
noncomputable def entN : List MapEntry → Option (List NI)
  | [] => some []
  | ⟨.string ⟨⟨k⟩⟩, .int .i64 n, _⟩ :: es => match entN es with
    | some E => some ((k, n) :: E)
    | Option.none => Option.none
  | _ => Option.none
noncomputable def nodN : List Nat → Bool
  | [] => true
  | a :: l => (l.all fun b => !Nat.beq a b) && nodN l
noncomputable def nodS : List NI → Bool
  | [] => true
  | a :: l => (l.all fun b => !bysB a.1 b.1) && nodS l
noncomputable def lisN (E : List NI) : List NI := E.foldr (fun p l => setL l p.1 p.2) []
noncomputable def tbD : ItD := fun lb A => match lb with
  | [.pointer (some ⟨bx, ox, Option.none⟩)] => match cellK A bx ox with
    | some (.pointer (some ⟨b, o, Option.none⟩)) => match cellK A b o with
      | some (.map (some m)) => match A.t.get m with
        | some (.map es c) => match entN es with
          | some E => bif ((es.all fun e => Nat.blt e.born c) && (nodN (es.map (·.born)) && (nodS E && Nat.ble E.length 1000000))) then some ([bx, b, m], (lisN E).map fun p => [St p.1, In p.2]) else Option.none
          | Option.none => Option.none
        | _ => Option.none
      | _ => Option.none
    | _ => Option.none
  | _ => Option.none
theorem nodN_ok : ∀ {l : List Nat}, nodN l = true → l.Nodup
  | [], _ => .nil
  | a :: l, h => by
    have h : ((l.all fun b => !Nat.beq a b) && nodN l) = true := h
    refine List.nodup_cons.2 ⟨fun hm => ?_, nodN_ok (an2 h).2⟩
    have := List.all_eq_true.1 (an2 h).1 a hm
    rw [Nat.beq_refl] at this
    cases this
theorem nodS_ok : ∀ {l : List NI}, nodS l = true → (l.map (·.1)).Nodup
  | [], _ => .nil
  | a :: l, h => by
    have h : ((l.all fun b => !bysB a.1 b.1) && nodS l) = true := h
    refine List.nodup_cons.2 ⟨fun hm => ?_, nodS_ok (an2 h).2⟩
    obtain ⟨b, hb, e⟩ := List.mem_map.1 hm
    have := List.all_eq_true.1 (an2 h).1 b hb
    rw [bysB_dec, e] at this
    simp at this
theorem lisN_rise (E : List NI) : Rise (lisN E) := by
  induction E with
  | nil => exact List.Pairwise.nil
  | cons p E ih => exact ih.set p.1 p.2
theorem getL_noN {E : List NI} {n : List UInt8} (h : n ∉ E.map (·.1)) : getL E n = none := by
  unfold getL
  rw [List.find?_eq_none.2 fun p hp => by simp only [decide_eq_true_eq]; exact fun e => h (e ▸ List.mem_map.2 ⟨p, hp, rfl⟩)]
  rfl
theorem lisN_perm : ∀ {E : List NI}, (E.map (·.1)).Nodup → E.Perm (lisN E)
  | [], _ => .nil
  | p :: E, h => by
    have h := List.nodup_cons.1 h
    have ih := lisN_perm h.2
    have := put_perm ih (lisN_rise E) p.1 p.2
    unfold putE at this
    rw [getL_noN h.1] at this
    exact (List.perm_append_comm (l₁ := [p]) (l₂ := E)).trans this
theorem entN_kv [Opq] {σ : Sg} : ∀ {es : List MapEntry} {E : List NI} {xs : List MapEntry}, entN es = some E → EnL σ es xs → xs.map (fun e => (e.key, e.val)) = E.map (fun p => (St p.1, In p.2)) ∧ xs.map (·.born) = es.map (·.born)
  | [], E, xs, h, k => by
    cases k
    unfold entN at h
    cases h
    exact ⟨rfl, rfl⟩
  | e :: es, E, xs, h, k => by
    unfold entN at h
    split at h
    · rename_i heq
      cases heq
    · rename_i kk n b es' heq
      injection heq with h1 h2
      subst h1 h2
      split at h
      · rename_i E' hE
        simp only [Option.some.injEq] at h
        subst h
        cases k with
        | cons hx ht =>
          obtain ⟨i1, i2⟩ := entN_kv hE ht
          obtain ⟨_, r1, r2, r3⟩ := hx
          have r2 := va_int r2
          exact ⟨by rw [List.map_cons, List.map_cons, i1, r1, r2], by rw [List.map_cons, List.map_cons, i2, r3]⟩
      · cases h
    · cases h
theorem seq_map {P : Program} {k : FuncId} {lb : List Value} {α : Type} {enc : α → List Value} {L : List α} {rd : Nat → Prop} {h : Heap} (s : SeqU P k lb enc L rd h) : SeqU P k lb (fun a : List Value => a) (L.map enc) rd h := fun X J Jx own l x0 h0 hl hr hw hst hy => by
  have := s X J Jx own l x0 h0 hl hr hw hst fun j x h1 a hj ha => hy j x h1 (enc a) hj (by rw [List.getElem?_map, ha]; rfl)
  rw [List.length_map]
  exact this
theorem seq_rd {P : Program} {k : FuncId} {lb : List Value} {α : Type} {enc : α → List Value} {L : List α} {rd rd' : Nat → Prop} {h : Heap} (s : SeqU P k lb enc L rd h) (e : ∀ q, rd q → rd' q) : SeqU P k lb enc L rd' h := fun X J Jx own l x0 h0 hl hr hw hst hy =>
  s X J Jx own l x0 h0 hl (fun z => hr (e _ z)) (fun k x h' hj b hb => ⟨(hw k x h' hj b hb).1, fun z => (hw k x h' hj b hb).2 (e _ z)⟩) hst hy
theorem clK [Opq] {σ : Sg} {A : Hp} {h : Heap} (hk : HR σ A h) {b o : Nat} {v : Value} (e : cellK A b o = some v) {p : Pl} (hp : σ b = some p) : ∃ u, Va σ v u ∧ Cl h p.b (p.o + o) u := by
  unfold cellK at e
  split at e
  case h_2 => cases e
  rename_i cs T opn hg
  obtain ⟨q, hq, us, z, h1, h2, h3, _⟩ := hk.obj _ _ hg
  rw [hp] at hq
  injection hq with hq
  subst hq
  obtain ⟨u, hu, hva⟩ := h3.get _ _ e
  rw [List.getElem?_take] at hu
  split at hu
  · rw [List.getElem?_drop] at hu
    exact ⟨u, hva, us, _, _, h1, hu⟩
  · cases hu
theorem tbK [Opq] : ItK Tryz.prog 216 tbD := ⟨fun σ A h lb us Z L e hv hh => by
  unfold tbD at e
  split at e
  case h_2 => cases e
  rename_i bx ox
  split at e
  case h_2 => cases e
  rename_i b o hcx
  split at e
  case h_2 => cases e
  rename_i m hcb
  split at e
  case h_2 => cases e
  rename_i es c hgm
  split at e
  case h_2 => cases e
  rename_i E hE
  cases hq : ((es.all fun e => Nat.blt e.born c) && (nodN (es.map (·.born)) && (nodS E && Nat.ble E.length 1000000))) with
  | false => rw [hq] at e; cases e
  | true =>
  rw [hq] at e
  simp only [cond_true, Option.some.injEq, Prod.mk.injEq] at e
  obtain ⟨rfl, rfl⟩ := e
  obtain ⟨q1, q2⟩ := an2 hq
  obtain ⟨q2, q3⟩ := an2 q2
  obtain ⟨q3, q4⟩ := an2 q3
  cases hv with
  | cons h1 t =>
  cases t
  obtain ⟨px, hpx, _, rfl⟩ := va_ptr h1
  obtain ⟨u1, hu1, cx⟩ := clK hh hcx hpx
  obtain ⟨pb, hpb, _, rfl⟩ := va_ptr hu1
  obtain ⟨u2, hu2, cb⟩ := clK hh hcb hpb
  obtain ⟨pm, hpm, xs, hm, hen⟩ := hh.obj _ _ hgm
  obtain rfl : u2 = .map (some pm.b) := by
    cases hu2 with
    | map h => rw [hpm] at h; injection h with h; rw [h]
  obtain ⟨k1, k2⟩ := entN_kv hE hen
  have hnd := nodS_ok q3
  have hkeys : xs.map (·.key) = E.map fun p => St p.1 := by
    have := congrArg (List.map Prod.fst) k1
    simpa [List.map_map, Function.comp_def] using this
  have hst : MapKept.Stamped ⟨xs⟩ c := by
    refine ⟨fun x hx => ?_, ?_, ?_⟩
    · have hb : x.born ∈ es.map (·.born) := by rw [← k2]; exact List.mem_map.2 ⟨x, hx, rfl⟩
      obtain ⟨e, he, e2⟩ := List.mem_map.1 hb
      have := List.all_eq_true.1 q1 e he
      rw [e2] at this
      exact blt_lt this
    · show (xs.map (·.born)).Nodup
      rw [k2]; exact nodN_ok q2
    · show (xs.map (·.key)).Nodup
      rw [hkeys]
      have : (E.map fun p => St p.1) = (E.map (·.1)).map St := by simp [List.map_map, Function.comp_def]
      rw [this]
      exact List.Pairwise.map St (fun a b hne e => hne (by simpa [St] using e)) hnd
  have hMp : Mp .string St h pm.b (encE In E) := ⟨⟨xs⟩, c, hm, hst, by
    show xs.map _ = _
    rw [k1]
    simp [encE, List.map_map, Function.comp_def]⟩
  have hperm := lisN_perm hnd
  exact seq_rd (seq_map (all_seqU cb hMp hperm (lisN_rise E) (by rw [← hperm.length_eq]; exact ble_le q4) cx)) fun q hq => by
    rcases hq with rfl | rfl | rfl
    · exact ⟨b, by simp, pb, hpb, rfl⟩
    · exact ⟨m, by simp, pm, hpm, rfl⟩
    · exact ⟨bx, by simp, px, hpx, rfl⟩, fun args w => Tryz.call216 args w⟩
end Go.Proofs.YtgkdnjebbikciaaGreatDoor


/-
  WHICH FUNCTIONS A FUNCTION REACHES, by a table that is written down. No program is named here.
-/
namespace Go.RK
open Go

noncomputable def getT (t : List (List Nat)) (g : Nat) : List Nat := List.rec (motive := fun _ => Nat → List Nat) (fun _ => []) (fun a _ ih g => Nat.rec (motive := fun _ => List Nat) a (fun m _ => ih m) g) t g
theorem getT_eq : ∀ (t : List (List Nat)) (g : Nat), getT t g = (t[g]?).getD []
  | [], g => rfl
  | a :: t, 0 => rfl
  | a :: t, g + 1 => getT_eq t g
noncomputable def appT (a b : List Nat) : List Nat := List.rec (motive := fun _ => List Nat) b (fun x _ ih => x :: ih) a
theorem appT_eq : ∀ (a b : List Nat), appT a b = a ++ b
  | [], _ => rfl
  | x :: a, b => congrArg (x :: ·) (appT_eq a b)
noncomputable def revT (a : List Nat) : List Nat → List Nat := List.rec (motive := fun _ => List Nat → List Nat) (fun b => b) (fun x _ ih b => ih (x :: b)) a
theorem revT_eq : ∀ (a b : List Nat), revT a b = a.reverse ++ b
  | [], _ => rfl
  | x :: a, b => by
    show revT a (x :: b) = _
    rw [revT_eq a, List.reverse_cons, List.append_assoc]
    rfl
/-- What is reached; a mask says what was met. -/
noncomputable def cloM (t : List (List Nat)) (n : Nat) : List Nat → Nat → List Nat → List Nat := Nat.rec (motive := fun _ => List Nat → Nat → List Nat → List Nat) (fun _ _ acc => revT acc [])
  (fun _ ih todo m acc => List.rec (motive := fun _ => List Nat) (revT acc []) (fun f rest _ => Bool.rec (motive := fun _ => List Nat) (ih rest m acc) (ih (appT (getT t f) rest) (Nat.lor m (Nat.shiftLeft 1 f)) (f :: acc)) (Nat.beq (Nat.mod (Nat.shiftRight m f) 2) 0)) todo) n
theorem mask_bit {m f g : Nat} : (Nat.lor m (Nat.shiftLeft 1 f) >>> g) % 2 = 0 ↔ (m >>> g) % 2 = 0 ∧ g ≠ f := by
  have h1 : ∀ x : Nat, (x >>> g) % 2 = 0 ↔ x.testBit g = false := fun x => by
    rw [Nat.testBit, Nat.one_and_eq_mod_two]
    cases h : (x >>> g) % 2 with
    | zero => simp
    | succ k => simp
  rw [h1, h1]
  show (m ||| 1 <<< f).testBit g = false ↔ _
  rw [Nat.testBit_or, Nat.one_shiftLeft, Nat.testBit_two_pow]
  by_cases h : f = g
  · subst h; simp
  · simp [h, Ne.symm h]
theorem cloM_eq {P : Program} {t : List (List Nat)} (ht : ∀ g : Nat, (P.funcs[g]?).elim [] P.leadsTo = (t[g]?).getD []) : ∀ (n : Nat) (todo acc : List Nat) (m : Nat), (∀ g, (m >>> g) % 2 = 0 ↔ g ∉ acc) → P.closureVia n todo acc = cloM t n todo m acc
  | 0, todo, acc, m, _ => by
    show acc.reverse = revT acc []
    rw [revT_eq, List.append_nil]
  | n + 1, [], acc, m, _ => by
    show acc.reverse = revT acc []
    rw [revT_eq, List.append_nil]
  | n + 1, f :: todo, acc, m, hm => by
    show (if acc.contains f then P.closureVia n todo acc else P.closureVia n ((P.funcs[f]?).elim [] P.leadsTo ++ todo) (f :: acc)) = Bool.rec (motive := fun _ => List Nat) (cloM t n todo m acc) (cloM t n (appT (getT t f) todo) (Nat.lor m (Nat.shiftLeft 1 f)) (f :: acc)) (Nat.beq (Nat.mod (Nat.shiftRight m f) 2) 0)
    by_cases h : f ∈ acc
    · have hz : ¬ (m >>> f) % 2 = 0 := fun e => (hm f).1 e h
      have hb : Nat.beq (Nat.mod (Nat.shiftRight m f) 2) 0 = false := by
        cases hq : Nat.beq (Nat.mod (Nat.shiftRight m f) 2) 0 with
        | false => rfl
        | true => exact absurd (Nat.eq_of_beq_eq_true hq) hz
      rw [hb, if_pos (by simpa using h)]
      exact cloM_eq ht n todo acc m hm
    · have hz : (m >>> f) % 2 = 0 := (hm f).2 h
      have hb : Nat.beq (Nat.mod (Nat.shiftRight m f) 2) 0 = true := by
        have hz : Nat.mod (Nat.shiftRight m f) 2 = 0 := hz
        rw [hz]; rfl
      rw [hb, if_neg (by simpa using h), ht, ← getT_eq, ← appT_eq]
      exact cloM_eq ht n _ (f :: acc) _ fun g => by
        rw [mask_bit, hm g]
        simp only [List.mem_cons, not_or]
        exact ⟨fun ⟨a, b⟩ => ⟨b, a⟩, fun ⟨a, b⟩ => ⟨b, a⟩⟩
/-- The functions that a function reaches. -/
theorem closure_eq {P : Program} {t : List (List Nat)} {f n : Nat} {L : List Nat} (ht : P.funcs.toList.map P.leadsTo = t) (hn : 1 + (t.map fun l => l.length + 1).sum = n) (hL : cloM t n [f] 0 [] = L) : P.closure f = L := by
  unfold Program.closure
  have h1 : (P.funcs.toList.map fun g => (P.leadsTo g).length + 1) = t.map fun l => l.length + 1 := by rw [← ht, List.map_map]; rfl
  rw [h1, hn, cloM_eq (t := t) (fun g => ?_) n [f] [] 0 (fun g => by simp), hL]
  rw [← ht, List.getElem?_map, Array.getElem?_toList]
  cases P.funcs[g]? <;> rfl
/-- A table, part by part. -/
theorem tab_parts {α β : Type} {l : List α} {t : List β} {F : α → β} (c : Nat) : ∀ (k : Nat), (∀ i, i < k → ((l.drop (c * i)).take c).map F = (t.drop (c * i)).take c) → (l.drop (c * k)).map F = t.drop (c * k) → l.map F = t := fun k h hk => by
  have key : ∀ j, j ≤ k → (l.drop (c * (k - j))).map F = t.drop (c * (k - j)) := fun j => by
    induction j with
    | zero => intro _; exact hk
    | succ j ih =>
      intro hj
      have e : c * (k - j) = c * (k - (j + 1)) + c := by rw [show k - j = (k - (j + 1)) + 1 by omega, Nat.mul_add, Nat.mul_one]
      have h1 := ih (by omega)
      have h2 := h (k - (j + 1)) (by omega)
      rw [← List.take_append_drop c (l.drop (c * (k - (j + 1)))), ← List.take_append_drop c (t.drop (c * (k - (j + 1)))), List.map_append, h2, List.drop_drop, List.drop_drop, ← e, h1]
  have := key k (Nat.le_refl _)
  rw [Nat.sub_self, Nat.mul_zero, List.drop_zero, List.drop_zero] at this
  exact this
end Go.RK

/-
  THE TOP: what the library's variables hold when a law is called.
-/
namespace Go.Proofs.YtgkdnjebbikciaaGreatDoor
open Go Go.RK

def laidP : List (String × DataW Unit) := Rows.topLimitsRow.laid.filter fun x => x.2.handleName?.isNone
/-- A world in which the one handle is laid. -/
noncomputable def handWorld (os : Os) : World :=
  let w0 := World.holding Tryz.prog os ⟨#[], #[], []⟩
  { w0 with heap := w0.heap.modify 0 fun
      | .cells _ t frozen => .cells #[.iface 285 (.agg #[.pointer (some ⟨4, 96, none⟩)])] t frozen
      | o => o }
noncomputable def laidWorld (os : Os) : World := (handWorld os).layVars Tryz.prog laidP
theorem laidWorld_os (os : Os) : (laidWorld os).os = os := World.layVars_os _ _ _
theorem laidWorld_met (os : Os) (args : Array Value) : laidMetH Tryz.prog Rows.topLimitsRow.laid ((laidWorld os).forCall (fun _ _ => 0) ⟨#[], args, []⟩).memory := by
  have e1 : (laidP.filter fun x => (laidP.map (·.1)).contains x.1) = laidP := List.filter_eq_self.2 fun x hx => List.contains_iff_mem.2 (List.mem_map.2 ⟨x, hx, rfl⟩)
  have e2 : (laidP.filter fun x => !(laidP.map (·.1)).contains x.1) = [] := List.filter_eq_nil_iff.2 fun x hx => by rw [List.contains_iff_mem.2 (List.mem_map.2 ⟨x, hx, rfl⟩)]; simp
  have h : laidMet Tryz.prog laidP (laidWorld os) := laidMet_layVars (w0 := handWorld os) (laidP.map (·.1)) [] (by rw [e1]; rfl) (by rw [e1]; kernel_rfl) (by rw [e1]; kernel_rfl) (by rw [e2]; exact LaidIn.none)
  exact laidMetH_of_parts (h.of_heap (by simp [World.memory, World.forCall, Input.heap])) (by kernel_rfl)
end Go.Proofs.YtgkdnjebbikciaaGreatDoor


