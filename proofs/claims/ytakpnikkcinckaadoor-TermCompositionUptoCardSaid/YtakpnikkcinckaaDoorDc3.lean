/- Part 3 of 4 of a proof. The law TermComposition, walked region by region and joined to the card. -/
import Derived.Test.YtakpnikkcinckaaDoorDc2
import Derived.Test.YtakpnikkcinckaaDoorProg
import Derived.KernelRfl
import Derived.Shelf.Strconv.Itoa3
import Derived.Shelf.LaysM
import Derived.Shelf.Sort.Plain
import Derived.Shelf.Slices.In.SortNone
import Derived.Lib.LaidTab
import Derived.MakeChecks
import Derived.Stop.LaidErr
import Derived.Test.YtakpnikkcinckaaDoorRows
import Derived.Lib.ItoaNum
import Derived.Shelf.SlSortCmp.WholeK
import Derived.Shelf.SlSortCmp.NoneTotal
import Derived.Shelf.Small.Strs
set_option linter.unusedVariables false
set_option linter.unusedSimpArgs false
namespace Ab
open Go Go.Proofs
set_option maxRecDepth 10000
theorem ti1 : tInfo Tryd.prog 1 = some ⟨1, false, some [.lit (.nilFunc)], .other⟩ := by kernel_rfl
theorem ti2 : tInfo Tryd.prog 2 = some ⟨1, false, some [.int .i64 0], .int .i64⟩ := by kernel_rfl
theorem ti3 : tInfo Tryd.prog 3 = some ⟨1, false, some [.int .i64 0], .int .i64⟩ := by kernel_rfl
theorem sz3 : SzOf Tryd.prog 3 1 := tI_sz ti3
theorem by3 : BytesOf Tryd.prog 3 8 := by unfold BytesOf; kernel_rfl
theorem zr3 : ZeroOf Tryd.prog 3 [.int .i64 0] := by unfold ZeroOf; kernel_rfl
theorem ti4 : tInfo Tryd.prog 4 = some ⟨1, false, some [.bool false], .bool⟩ := by kernel_rfl
theorem ti5 : tInfo Tryd.prog 5 = some ⟨1, false, some [.int .u8 0], .int .u8⟩ := by kernel_rfl
theorem un5 : Tryd.prog.underlying 5 = some (.int .u8) := tI_int ti5 rfl
theorem ti6 : tInfo Tryd.prog 6 = some ⟨1, false, some [.int .u8 0], .int .u8⟩ := by kernel_rfl
theorem ti7 : tInfo Tryd.prog 7 = some ⟨4, true, some [.int .i64 0, .int .i64 0, .bool false, .int .u8 0], .struct [(0, 1, false), (1, 1, false), (2, 1, false), (3, 1, false)]⟩ := by kernel_rfl
theorem ti8 : tInfo Tryd.prog 8 = some ⟨4, true, some [.int .i64 0, .int .i64 0, .bool false, .int .u8 0], .struct [(0, 1, false), (1, 1, false), (2, 1, false), (3, 1, false)]⟩ := by kernel_rfl
theorem ti9 : tInfo Tryd.prog 9 = some ⟨1, false, some [.str []], .str⟩ := by kernel_rfl
theorem un9 : Tryd.prog.underlying 9 = some .string := tI_str ti9 rfl
theorem ti10 : tInfo Tryd.prog 10 = some ⟨1, false, some [.str []], .str⟩ := by kernel_rfl
theorem ti11 : tInfo Tryd.prog 11 = some ⟨1, false, some [.str []], .str⟩ := by kernel_rfl
theorem ti12 : tInfo Tryd.prog 12 = some ⟨1, false, some [.int .u64 0], .int .u64⟩ := by kernel_rfl
theorem ti13 : tInfo Tryd.prog 13 = some ⟨2, true, some [.str [], .int .u64 0], .struct [(0, 1, false), (1, 1, false)]⟩ := by kernel_rfl
theorem ti14 : tInfo Tryd.prog 14 = some ⟨2, true, some [.str [], .int .u64 0], .struct [(0, 1, false), (1, 1, false)]⟩ := by kernel_rfl
theorem ti15 : tInfo Tryd.prog 15 = some ⟨1, false, some [.lit (.pointer none)], .other⟩ := by kernel_rfl
theorem ti16 : tInfo Tryd.prog 16 = some ⟨1, false, some [.lit (.pointer none)], .other⟩ := by kernel_rfl
theorem ti17 : tInfo Tryd.prog 17 = some ⟨1, false, some [.lit (.pointer none)], .other⟩ := by kernel_rfl
theorem ti18 : tInfo Tryd.prog 18 = some ⟨1, true, some [.lit (.pointer none)], .struct [(0, 1, false)]⟩ := by kernel_rfl
theorem ti19 : tInfo Tryd.prog 19 = some ⟨1, true, some [.lit (.pointer none)], .struct [(0, 1, false)]⟩ := by kernel_rfl
theorem ti21 : tInfo Tryd.prog 21 = some ⟨1, false, some [.int .i32 0], .int .i32⟩ := by kernel_rfl
theorem ti22 : tInfo Tryd.prog 22 = some ⟨1, false, some [.sl .zero []], .slice 24 (some 3)⟩ := by kernel_rfl
theorem sl22 : SliceT Tryd.prog 22 24 := (tI_slice ti22 rfl).1
theorem ti23 : tInfo Tryd.prog 23 = some ⟨3, true, some [.str [], .bool false, .sl .zero []], .struct [(0, 1, false), (1, 1, false), (2, 1, false)]⟩ := by kernel_rfl
theorem ti24 : tInfo Tryd.prog 24 = some ⟨3, true, some [.str [], .bool false, .sl .zero []], .struct [(0, 1, false), (1, 1, false), (2, 1, false)]⟩ := by kernel_rfl
theorem sz24 : SzOf Tryd.prog 24 3 := tI_sz ti24
theorem by24 : BytesOf Tryd.prog 24 48 := by unfold BytesOf; kernel_rfl
theorem zr24 : ZeroOf Tryd.prog 24 [.string ⟨#[]⟩, .bool false, .slice none 0 0] := by unfold ZeroOf; kernel_rfl
theorem ti25 : tInfo Tryd.prog 25 = some ⟨1, false, some [.int .i64 0], .int .i64⟩ := by kernel_rfl
theorem ti27 : tInfo Tryd.prog 27 = some ⟨1, false, some [.lit (.nilFunc)], .other⟩ := by kernel_rfl
theorem ti28 : tInfo Tryd.prog 28 = some ⟨1, false, some [.lit (.nilFunc)], .other⟩ := by kernel_rfl
theorem ti29 : tInfo Tryd.prog 29 = some ⟨1, false, some [.lit (.nilFunc)], .other⟩ := by kernel_rfl
theorem ti30 : tInfo Tryd.prog 30 = some ⟨1, false, some [.sl .zero []], .slice 3 (some 1)⟩ := by kernel_rfl
theorem sl30 : SliceT Tryd.prog 30 3 := (tI_slice ti30 rfl).1
theorem sz30 : SzOf Tryd.prog 30 1 := tI_sz ti30
theorem by30 : BytesOf Tryd.prog 30 24 := by unfold BytesOf; kernel_rfl
theorem zr30 : ZeroOf Tryd.prog 30 [.slice none 0 0] := by unfold ZeroOf; kernel_rfl
theorem ti31 : tInfo Tryd.prog 31 = some ⟨1, false, some [.sl .zero []], .slice 30 (some 1)⟩ := by kernel_rfl
theorem sl31 : SliceT Tryd.prog 31 30 := (tI_slice ti31 rfl).1
theorem ti33 : tInfo Tryd.prog 33 = some ⟨1, false, some [.lit (.nilFunc)], .other⟩ := by kernel_rfl
theorem ti34 : tInfo Tryd.prog 34 = some ⟨1, false, some [.lit (.nilFunc)], .other⟩ := by kernel_rfl
theorem ti35 : tInfo Tryd.prog 35 = some ⟨1, false, some [.lit (.nilFunc)], .other⟩ := by kernel_rfl
theorem ti36 : tInfo Tryd.prog 36 = some ⟨1, false, some [.lit (.nilFunc)], .other⟩ := by kernel_rfl
theorem ti37 : tInfo Tryd.prog 37 = some ⟨1, false, some [.lit (.nilFunc)], .other⟩ := by kernel_rfl
theorem ti38 : tInfo Tryd.prog 38 = some ⟨1, false, some [.lit (.nilFunc)], .other⟩ := by kernel_rfl
theorem ti39 : tInfo Tryd.prog 39 = some ⟨1, false, some [.lit (.nilFunc)], .other⟩ := by kernel_rfl
theorem ti41 : tInfo Tryd.prog 41 = some ⟨1, false, some [.lit (.nilFunc)], .other⟩ := by kernel_rfl
theorem ti42 : tInfo Tryd.prog 42 = some ⟨1, false, some [.lit (.nilFunc)], .other⟩ := by kernel_rfl
theorem ti43 : tInfo Tryd.prog 43 = some ⟨1, false, some [.lit (.nilFunc)], .other⟩ := by kernel_rfl
theorem ti44 : tInfo Tryd.prog 44 = some ⟨2, true, some [.sl .zero [], .sl .zero []], .array 2 30 (some 1)⟩ := by kernel_rfl
theorem ti45 : tInfo Tryd.prog 45 = some ⟨6, true, some [.str [], .bool false, .sl .zero [], .str [], .bool false, .sl .zero []], .array 2 24 (some 3)⟩ := by kernel_rfl
theorem ti46 : tInfo Tryd.prog 46 = some ⟨1, false, some [.lit (.nilFunc)], .other⟩ := by kernel_rfl
theorem ti47 : tInfo Tryd.prog 47 = some ⟨1, false, some [.lit (.nilFunc)], .other⟩ := by kernel_rfl
theorem ti48 : tInfo Tryd.prog 48 = some ⟨1, false, some [.lit (.nilFunc)], .other⟩ := by kernel_rfl
theorem ti49 : tInfo Tryd.prog 49 = some ⟨1, false, some [.lit (.nilFunc)], .other⟩ := by kernel_rfl
theorem ti50 : tInfo Tryd.prog 50 = some ⟨1, false, some [.lit (.nilFunc)], .other⟩ := by kernel_rfl
theorem ti51 : tInfo Tryd.prog 51 = some ⟨1, false, some [.lit (.nilFunc)], .other⟩ := by kernel_rfl
theorem ti52 : tInfo Tryd.prog 52 = some ⟨1, false, some [.sl .zero []], .slice 57 (some 4)⟩ := by kernel_rfl
theorem sl52 : SliceT Tryd.prog 52 57 := (tI_slice ti52 rfl).1
theorem ti53 : tInfo Tryd.prog 53 = some ⟨1, false, some [.sl .zero []], .slice 9 (some 1)⟩ := by kernel_rfl
theorem ti54 : tInfo Tryd.prog 54 = some ⟨1, false, some [.lit (.nilFunc)], .other⟩ := by kernel_rfl
theorem ti55 : tInfo Tryd.prog 55 = some ⟨1, false, some [.lit (.nilFunc)], .other⟩ := by kernel_rfl
theorem ti56 : tInfo Tryd.prog 56 = some ⟨4, true, some [.str [], .str [], .bool false, .sl .zero []], .struct [(0, 1, false), (1, 3, true)]⟩ := by kernel_rfl
theorem ti57 : tInfo Tryd.prog 57 = some ⟨4, true, some [.str [], .str [], .bool false, .sl .zero []], .struct [(0, 1, false), (1, 3, true)]⟩ := by kernel_rfl
theorem sz57 : SzOf Tryd.prog 57 4 := tI_sz ti57
theorem by57 : BytesOf Tryd.prog 57 64 := by unfold BytesOf; kernel_rfl
theorem zr57 : ZeroOf Tryd.prog 57 [.string ⟨#[]⟩, .string ⟨#[]⟩, .bool false, .slice none 0 0] := by unfold ZeroOf; kernel_rfl
theorem ti58 : tInfo Tryd.prog 58 = some ⟨1, false, some [.lit (.nilFunc)], .other⟩ := by kernel_rfl
theorem ti59 : tInfo Tryd.prog 59 = some ⟨1, false, some [.lit (.nilFunc)], .other⟩ := by kernel_rfl
theorem ti60 : tInfo Tryd.prog 60 = some ⟨1, false, some [.lit (.nilFunc)], .other⟩ := by kernel_rfl
theorem ti61 : tInfo Tryd.prog 61 = some ⟨1, false, some [.lit (.nilFunc)], .other⟩ := by kernel_rfl
theorem ti62 : tInfo Tryd.prog 62 = some ⟨1, false, some [.lit (.nilFunc)], .other⟩ := by kernel_rfl
theorem ti64 : tInfo Tryd.prog 64 = some ⟨1, false, some [.lit (.nilFunc)], .other⟩ := by kernel_rfl
theorem ti65 : tInfo Tryd.prog 65 = some ⟨1, false, some [.lit (.nilFunc)], .other⟩ := by kernel_rfl
theorem ti66 : tInfo Tryd.prog 66 = some ⟨1, false, some [.lit (.nilFunc)], .other⟩ := by kernel_rfl
theorem ti67 : tInfo Tryd.prog 67 = some ⟨1, false, some [.lit (.nilFunc)], .other⟩ := by kernel_rfl
theorem ti68 : tInfo Tryd.prog 68 = some ⟨1, false, some [.lit (.nilFunc)], .other⟩ := by kernel_rfl
theorem ti70 : tInfo Tryd.prog 70 = some ⟨1, false, some [.lit (.nilFunc)], .other⟩ := by kernel_rfl
theorem ti71 : tInfo Tryd.prog 71 = some ⟨1, false, some [.lit (.nilFunc)], .other⟩ := by kernel_rfl
theorem ti73 : tInfo Tryd.prog 73 = some ⟨1, false, some [.lit (.nilFunc)], .other⟩ := by kernel_rfl
theorem ti74 : tInfo Tryd.prog 74 = some ⟨1, false, some [.lit (.nilFunc)], .other⟩ := by kernel_rfl
theorem ti75 : tInfo Tryd.prog 75 = some ⟨1, false, some [.lit (.nilFunc)], .other⟩ := by kernel_rfl
theorem ti76 : tInfo Tryd.prog 76 = some ⟨3, true, some [.sl .zero [], .sl .zero [], .sl .zero []], .array 3 52 (some 1)⟩ := by kernel_rfl
theorem ti77 : tInfo Tryd.prog 77 = some ⟨1, false, some [.lit (.nilFunc)], .other⟩ := by kernel_rfl
theorem ti78 : tInfo Tryd.prog 78 = some ⟨1, false, some [.lit (.nilFunc)], .other⟩ := by kernel_rfl
theorem ti79 : tInfo Tryd.prog 79 = some ⟨1, false, some [.lit (.nilFunc)], .other⟩ := by kernel_rfl
theorem ti80 : tInfo Tryd.prog 80 = some ⟨1, false, some [.lit (.nilFunc)], .other⟩ := by kernel_rfl
theorem ti81 : tInfo Tryd.prog 81 = some ⟨1, false, some [.lit (.nilFunc)], .other⟩ := by kernel_rfl
theorem ti82 : tInfo Tryd.prog 82 = some ⟨1, false, some [.lit (.nilFunc)], .other⟩ := by kernel_rfl
theorem ti83 : tInfo Tryd.prog 83 = some ⟨1, false, some [.lit (.nilFunc)], .other⟩ := by kernel_rfl
theorem ti84 : tInfo Tryd.prog 84 = some ⟨1, false, some [.lit (.nilFunc)], .other⟩ := by kernel_rfl
theorem ti85 : tInfo Tryd.prog 85 = some ⟨1, false, some [.lit (.nilFunc)], .other⟩ := by kernel_rfl
theorem ti86 : tInfo Tryd.prog 86 = some ⟨1, false, some [.lit (.nilFunc)], .other⟩ := by kernel_rfl
theorem ti87 : tInfo Tryd.prog 87 = some ⟨1, false, some [.lit (.nilFunc)], .other⟩ := by kernel_rfl
theorem ti88 : tInfo Tryd.prog 88 = some ⟨1, false, some [.sl .zero []], .slice 5 (some 1)⟩ := by kernel_rfl
theorem sl88 : SliceT Tryd.prog 88 5 := (tI_slice ti88 rfl).1
theorem ti89 : tInfo Tryd.prog 89 = some ⟨1, false, some [.lit (.nilFunc)], .other⟩ := by kernel_rfl
theorem ti90 : tInfo Tryd.prog 90 = some ⟨1, false, some [.lit (.nilFunc)], .other⟩ := by kernel_rfl
theorem ti91 : tInfo Tryd.prog 91 = some ⟨1, false, some [.lit (.nilFunc)], .other⟩ := by kernel_rfl
theorem ti92 : tInfo Tryd.prog 92 = some ⟨1, false, some [.lit (.nilFunc)], .other⟩ := by kernel_rfl
theorem ti93 : tInfo Tryd.prog 93 = some ⟨1, false, some [.lit (.nilFunc)], .other⟩ := by kernel_rfl
theorem ti94 : tInfo Tryd.prog 94 = some ⟨1, false, some [.lit (.nilFunc)], .other⟩ := by kernel_rfl
theorem ti95 : tInfo Tryd.prog 95 = some ⟨1, false, some [.lit (.nilFunc)], .other⟩ := by kernel_rfl
theorem ti96 : tInfo Tryd.prog 96 = some ⟨1, false, some [.lit (.nilFunc)], .other⟩ := by kernel_rfl
theorem ti97 : tInfo Tryd.prog 97 = some ⟨1, false, some [.lit (.nilFunc)], .other⟩ := by kernel_rfl
theorem ti98 : tInfo Tryd.prog 98 = some ⟨2, true, some [.sl .zero [], .sl .zero []], .array 2 52 (some 1)⟩ := by kernel_rfl
theorem ti99 : tInfo Tryd.prog 99 = some ⟨1, false, some [.lit (.nilFunc)], .other⟩ := by kernel_rfl
theorem ti100 : tInfo Tryd.prog 100 = some ⟨1, false, some [.lit (.nilFunc)], .other⟩ := by kernel_rfl
theorem ti101 : tInfo Tryd.prog 101 = some ⟨1, false, some [.lit (.nilFunc)], .other⟩ := by kernel_rfl
theorem ti103 : tInfo Tryd.prog 103 = some ⟨1, false, some [.lit (.nilFunc)], .other⟩ := by kernel_rfl
theorem ti104 : tInfo Tryd.prog 104 = some ⟨1, false, some [.lit (.nilFunc)], .other⟩ := by kernel_rfl
theorem ti105 : tInfo Tryd.prog 105 = some ⟨1, false, some [.lit (.map none)], .map⟩ := by kernel_rfl
theorem un105 : Tryd.prog.underlying 105 = some (.map 9 9) := by kernel_rfl
theorem ti106 : tInfo Tryd.prog 106 = some ⟨1, false, some [.lit (.nilFunc)], .other⟩ := by kernel_rfl
theorem ti107 : tInfo Tryd.prog 107 = some ⟨1, false, some [.lit (.nilFunc)], .other⟩ := by kernel_rfl
theorem ti108 : tInfo Tryd.prog 108 = some ⟨1, false, some [.lit (.nilFunc)], .other⟩ := by kernel_rfl
theorem ti109 : tInfo Tryd.prog 109 = some ⟨1, false, some [.lit (.nilFunc)], .other⟩ := by kernel_rfl
theorem ti110 : tInfo Tryd.prog 110 = some ⟨1, false, some [.lit (.nilFunc)], .other⟩ := by kernel_rfl
theorem ti111 : tInfo Tryd.prog 111 = some ⟨1, false, some [.lit (.nilFunc)], .other⟩ := by kernel_rfl
theorem ti112 : tInfo Tryd.prog 112 = some ⟨1, false, some [.lit (.map none)], .map⟩ := by kernel_rfl
theorem ti113 : tInfo Tryd.prog 113 = some ⟨1, false, some [.lit (.nilFunc)], .other⟩ := by kernel_rfl
theorem ti114 : tInfo Tryd.prog 114 = some ⟨1, false, some [.lit (.nilFunc)], .other⟩ := by kernel_rfl
theorem ti115 : tInfo Tryd.prog 115 = some ⟨1, false, some [.lit (.nilFunc)], .other⟩ := by kernel_rfl
theorem ti116 : tInfo Tryd.prog 116 = some ⟨2, true, some [.int .i64 0, .int .i64 0], .struct [(0, 1, false), (1, 1, false)]⟩ := by kernel_rfl
theorem ti117 : tInfo Tryd.prog 117 = some ⟨2, true, some [.int .i64 0, .int .i64 0], .struct [(0, 1, false), (1, 1, false)]⟩ := by kernel_rfl
theorem ti118 : tInfo Tryd.prog 118 = some ⟨1, false, some [.lit (.nilFunc)], .other⟩ := by kernel_rfl
theorem ti120 : tInfo Tryd.prog 120 = some ⟨1, false, some [.lit (.nilFunc)], .other⟩ := by kernel_rfl
theorem ti121 : tInfo Tryd.prog 121 = some ⟨1, false, some [.lit (.nilFunc)], .other⟩ := by kernel_rfl
theorem ti122 : tInfo Tryd.prog 122 = some ⟨1, false, some [.lit (.nilFunc)], .other⟩ := by kernel_rfl
theorem ti123 : tInfo Tryd.prog 123 = some ⟨1, false, some [.lit (.nilFunc)], .other⟩ := by kernel_rfl
theorem ti124 : tInfo Tryd.prog 124 = some ⟨1, false, some [.int .u64 0], .int .u64⟩ := by kernel_rfl
theorem ti125 : tInfo Tryd.prog 125 = some ⟨1, false, some [.lit (.nilFunc)], .other⟩ := by kernel_rfl
theorem ti126 : tInfo Tryd.prog 126 = some ⟨1, false, some [.lit (.nilFunc)], .other⟩ := by kernel_rfl
theorem ti127 : tInfo Tryd.prog 127 = some ⟨1, false, some [.lit (.nilFunc)], .other⟩ := by kernel_rfl
theorem ti128 : tInfo Tryd.prog 128 = some ⟨1, false, some [.lit (.nilFunc)], .other⟩ := by kernel_rfl
theorem ti129 : tInfo Tryd.prog 129 = some ⟨1, false, some [.int .i64 0], .int .i64⟩ := by kernel_rfl
theorem ti131 : tInfo Tryd.prog 131 = some ⟨1, false, some [.lit (.nilFunc)], .other⟩ := by kernel_rfl
theorem ti132 : tInfo Tryd.prog 132 = some ⟨1, false, some [.lit (.nilFunc)], .other⟩ := by kernel_rfl
theorem ti133 : tInfo Tryd.prog 133 = some ⟨1, false, some [.lit (.nilFunc)], .other⟩ := by kernel_rfl
theorem ti134 : tInfo Tryd.prog 134 = some ⟨1, false, some [.lit (.nilFunc)], .other⟩ := by kernel_rfl
theorem ti135 : tInfo Tryd.prog 135 = some ⟨1, false, some [.lit (.nilFunc)], .other⟩ := by kernel_rfl
theorem ti136 : tInfo Tryd.prog 136 = some ⟨1, false, some [.int .u32 0], .int .u32⟩ := by kernel_rfl
theorem ti137 : tInfo Tryd.prog 137 = some ⟨1, false, some [.lit (.nilFunc)], .other⟩ := by kernel_rfl
theorem ti138 : tInfo Tryd.prog 138 = some ⟨1, false, some [.int .u64 0], .int .u64⟩ := by kernel_rfl
theorem ti139 : tInfo Tryd.prog 139 = some ⟨1, false, some [.lit (.nilFunc)], .other⟩ := by kernel_rfl
theorem ti140 : tInfo Tryd.prog 140 = some ⟨1, false, some [.lit (.nilFunc)], .other⟩ := by kernel_rfl
theorem ti141 : tInfo Tryd.prog 141 = some ⟨1, false, some [.lit (.nilFunc)], .other⟩ := by kernel_rfl
theorem ti142 : tInfo Tryd.prog 142 = some ⟨1, false, some [.lit (.nilFunc)], .other⟩ := by kernel_rfl
theorem ti143 : tInfo Tryd.prog 143 = some ⟨1, false, some [.lit (.nilFunc)], .other⟩ := by kernel_rfl
theorem ti144 : tInfo Tryd.prog 144 = some ⟨1, false, some [.lit (.nilFunc)], .other⟩ := by kernel_rfl
theorem ti145 : tInfo Tryd.prog 145 = some ⟨1, false, some [.int .u64 0], .int .u64⟩ := by kernel_rfl
theorem ti146 : tInfo Tryd.prog 146 = some ⟨1, false, some [.lit (.nilFunc)], .other⟩ := by kernel_rfl
theorem ti147 : tInfo Tryd.prog 147 = some ⟨1, false, some [.lit (.nilFunc)], .other⟩ := by kernel_rfl
theorem ti148 : tInfo Tryd.prog 148 = some ⟨1, false, some [.lit (.nilFunc)], .other⟩ := by kernel_rfl
theorem ti149 : tInfo Tryd.prog 149 = some ⟨1, false, some [.lit (.pointer none)], .other⟩ := by kernel_rfl
theorem ti150 : tInfo Tryd.prog 150 = some ⟨1, false, some [.lit (.nilFunc)], .other⟩ := by kernel_rfl
theorem ti151 : tInfo Tryd.prog 151 = some ⟨24, true, some [.int .u8 0, .int .u8 0, .int .u8 0, .int .u8 0, .int .u8 0, .int .u8 0, .int .u8 0, .int .u8 0, .int .u8 0, .int .u8 0, .int .u8 0, .int .u8 0, .int .u8 0, .int .u8 0, .int .u8 0, .int .u8 0, .int .u8 0, .int .u8 0, .int .u8 0, .int .u8 0, .int .u8 0, .int .u8 0, .int .u8 0, .int .u8 0], .array 24 5 (some 1)⟩ := by kernel_rfl
theorem ti152 : tInfo Tryd.prog 152 = some ⟨1, false, some [.lit (.nilFunc)], .other⟩ := by kernel_rfl
theorem ti154 : tInfo Tryd.prog 154 = some ⟨1, false, some [.lit (.nilFunc)], .other⟩ := by kernel_rfl
theorem ti155 : tInfo Tryd.prog 155 = some ⟨1, false, some [.lit (.nilFunc)], .other⟩ := by kernel_rfl
theorem ti156 : tInfo Tryd.prog 156 = some ⟨1, false, some [.lit (.nilFunc)], .other⟩ := by kernel_rfl
theorem ti157 : tInfo Tryd.prog 157 = some ⟨1, false, some [.lit (.pointer none)], .other⟩ := by kernel_rfl
theorem ti158 : tInfo Tryd.prog 158 = some ⟨1, false, some [.lit (.nilFunc)], .other⟩ := by kernel_rfl
theorem ti159 : tInfo Tryd.prog 159 = some ⟨1, false, some [.lit (.nilFunc)], .other⟩ := by kernel_rfl
theorem ti160 : tInfo Tryd.prog 160 = some ⟨1, false, some [.lit (.nilFunc)], .other⟩ := by kernel_rfl
theorem ti161 : tInfo Tryd.prog 161 = some ⟨20, true, some [.int .u64 0, .int .u64 0, .int .u64 0, .int .u64 0, .int .u64 0, .int .u64 0, .int .u64 0, .int .u64 0, .int .u64 0, .int .u64 0, .int .u64 0, .int .u64 0, .int .u64 0, .int .u64 0, .int .u64 0, .int .u64 0, .int .u64 0, .int .u64 0, .int .u64 0, .int .u64 0], .array 20 138 (some 1)⟩ := by kernel_rfl
theorem ti162 : tInfo Tryd.prog 162 = some ⟨65, true, some [.int .u8 0, .int .u8 0, .int .u8 0, .int .u8 0, .int .u8 0, .int .u8 0, .int .u8 0, .int .u8 0, .int .u8 0, .int .u8 0, .int .u8 0, .int .u8 0, .int .u8 0, .int .u8 0, .int .u8 0, .int .u8 0, .int .u8 0, .int .u8 0, .int .u8 0, .int .u8 0, .int .u8 0, .int .u8 0, .int .u8 0, .int .u8 0, .int .u8 0, .int .u8 0, .int .u8 0, .int .u8 0, .int .u8 0, .int .u8 0, .int .u8 0, .int .u8 0, .int .u8 0, .int .u8 0, .int .u8 0, .int .u8 0, .int .u8 0, .int .u8 0, .int .u8 0, .int .u8 0, .int .u8 0, .int .u8 0, .int .u8 0, .int .u8 0, .int .u8 0, .int .u8 0, .int .u8 0, .int .u8 0, .int .u8 0, .int .u8 0, .int .u8 0, .int .u8 0, .int .u8 0, .int .u8 0, .int .u8 0, .int .u8 0, .int .u8 0, .int .u8 0, .int .u8 0, .int .u8 0, .int .u8 0, .int .u8 0, .int .u8 0, .int .u8 0, .int .u8 0], .array 65 5 (some 1)⟩ := by kernel_rfl
theorem ti163 : tInfo Tryd.prog 163 = some ⟨1, false, some [.lit (.nilFunc)], .other⟩ := by kernel_rfl
theorem ti164 : tInfo Tryd.prog 164 = some ⟨32, true, some [.int .u8 0, .int .u8 0, .int .u8 0, .int .u8 0, .int .u8 0, .int .u8 0, .int .u8 0, .int .u8 0, .int .u8 0, .int .u8 0, .int .u8 0, .int .u8 0, .int .u8 0, .int .u8 0, .int .u8 0, .int .u8 0, .int .u8 0, .int .u8 0, .int .u8 0, .int .u8 0, .int .u8 0, .int .u8 0, .int .u8 0, .int .u8 0, .int .u8 0, .int .u8 0, .int .u8 0, .int .u8 0, .int .u8 0, .int .u8 0, .int .u8 0, .int .u8 0], .array 32 5 (some 1)⟩ := by kernel_rfl
theorem ti165 : tInfo Tryd.prog 165 = some ⟨64, true, some [.int .u8 0, .int .u8 0, .int .u8 0, .int .u8 0, .int .u8 0, .int .u8 0, .int .u8 0, .int .u8 0, .int .u8 0, .int .u8 0, .int .u8 0, .int .u8 0, .int .u8 0, .int .u8 0, .int .u8 0, .int .u8 0, .int .u8 0, .int .u8 0, .int .u8 0, .int .u8 0, .int .u8 0, .int .u8 0, .int .u8 0, .int .u8 0, .int .u8 0, .int .u8 0, .int .u8 0, .int .u8 0, .int .u8 0, .int .u8 0, .int .u8 0, .int .u8 0, .int .u8 0, .int .u8 0, .int .u8 0, .int .u8 0, .int .u8 0, .int .u8 0, .int .u8 0, .int .u8 0, .int .u8 0, .int .u8 0, .int .u8 0, .int .u8 0, .int .u8 0, .int .u8 0, .int .u8 0, .int .u8 0, .int .u8 0, .int .u8 0, .int .u8 0, .int .u8 0, .int .u8 0, .int .u8 0, .int .u8 0, .int .u8 0, .int .u8 0, .int .u8 0, .int .u8 0, .int .u8 0, .int .u8 0, .int .u8 0, .int .u8 0, .int .u8 0], .array 64 5 (some 1)⟩ := by kernel_rfl
theorem ti166 : tInfo Tryd.prog 166 = some ⟨1, false, some [.lit (.nilFunc)], .other⟩ := by kernel_rfl
theorem ti167 : tInfo Tryd.prog 167 = some ⟨4, true, some [.lit (.pointer none), .lit (.pointer none), .lit (.pointer none), .str []], .struct [(0, 1, false), (1, 1, false), (2, 1, false), (3, 1, false)]⟩ := by kernel_rfl
theorem ti168 : tInfo Tryd.prog 168 = some ⟨4, true, some [.lit (.pointer none), .lit (.pointer none), .lit (.pointer none), .str []], .struct [(0, 1, false), (1, 1, false), (2, 1, false), (3, 1, false)]⟩ := by kernel_rfl
theorem ti169 : tInfo Tryd.prog 169 = some ⟨0, true, some [], .array 0 16 (some 1)⟩ := by kernel_rfl
theorem ti170 : tInfo Tryd.prog 170 = some ⟨0, true, some [], .struct [(0, 0, true)]⟩ := by kernel_rfl
theorem ti171 : tInfo Tryd.prog 171 = some ⟨0, true, some [], .struct [(0, 0, true)]⟩ := by kernel_rfl
theorem ti172 : tInfo Tryd.prog 172 = some ⟨1, false, some [.lit (.nilFunc)], .other⟩ := by kernel_rfl
theorem ti173 : tInfo Tryd.prog 173 = some ⟨1, false, some [.int .u8 0], .int .u8⟩ := by kernel_rfl
theorem ti174 : tInfo Tryd.prog 174 = some ⟨1, false, some [.int .u8 0], .int .u8⟩ := by kernel_rfl
theorem ti175 : tInfo Tryd.prog 175 = some ⟨1, false, some [.lit (.nilFunc)], .other⟩ := by kernel_rfl
theorem ti176 : tInfo Tryd.prog 176 = some ⟨1, false, some [.lit (.pointer none)], .other⟩ := by kernel_rfl
theorem ti177 : tInfo Tryd.prog 177 = some ⟨1, false, some [.int .i32 0], .int .i32⟩ := by kernel_rfl
theorem ti178 : tInfo Tryd.prog 178 = some ⟨1, false, some [.int .i32 0], .int .i32⟩ := by kernel_rfl
theorem ti179 : tInfo Tryd.prog 179 = some ⟨11, true, some [.int .u64 0, .int .u64 0, .int .u32 0, .int .u8 0, .int .u8 0, .int .u8 0, .int .u8 0, .lit (.nilFunc), .lit (.pointer none), .int .i32 0, .int .i32 0], .struct [(0, 1, false), (1, 1, false), (2, 1, false), (3, 1, false), (4, 1, false), (5, 1, false), (6, 1, false), (7, 1, false), (8, 1, false), (9, 1, false), (10, 1, false)]⟩ := by kernel_rfl
theorem ti180 : tInfo Tryd.prog 180 = some ⟨11, true, some [.int .u64 0, .int .u64 0, .int .u32 0, .int .u8 0, .int .u8 0, .int .u8 0, .int .u8 0, .lit (.nilFunc), .lit (.pointer none), .int .i32 0, .int .i32 0], .struct [(0, 1, false), (1, 1, false), (2, 1, false), (3, 1, false), (4, 1, false), (5, 1, false), (6, 1, false), (7, 1, false), (8, 1, false), (9, 1, false), (10, 1, false)]⟩ := by kernel_rfl
theorem ti181 : tInfo Tryd.prog 181 = some ⟨1, false, some [.lit (.pointer none)], .other⟩ := by kernel_rfl
theorem ok3 : callOk Tryd.prog 3 = true := by kernel_rfl
theorem ok4 : callOk Tryd.prog 4 = true := by kernel_rfl
theorem ok5 : callOk Tryd.prog 5 = true := by kernel_rfl
theorem ok6 : callOk Tryd.prog 6 = true := by kernel_rfl
theorem ok7 : callOk Tryd.prog 7 = true := by kernel_rfl
theorem ok8 : callOk Tryd.prog 8 = true := by kernel_rfl
theorem ok9 : callOk Tryd.prog 9 = true := by kernel_rfl
theorem ok10 : callOk Tryd.prog 10 = true := by kernel_rfl
theorem ok11 : callOk Tryd.prog 11 = true := by kernel_rfl
theorem ok12 : callOk Tryd.prog 12 = true := by kernel_rfl
theorem ok13 : callOk Tryd.prog 13 = true := by kernel_rfl
theorem ok14 : callOk Tryd.prog 14 = true := by kernel_rfl
theorem ok15 : callOk Tryd.prog 15 = true := by kernel_rfl
theorem ok16 : callOk Tryd.prog 16 = true := by kernel_rfl
theorem ok17 : callOk Tryd.prog 17 = true := by kernel_rfl
theorem ok18 : callOk Tryd.prog 18 = true := by kernel_rfl
theorem ok19 : callOk Tryd.prog 19 = true := by kernel_rfl
theorem ok20 : callOk Tryd.prog 20 = true := by kernel_rfl
theorem ok21 : callOk Tryd.prog 21 = true := by kernel_rfl
theorem ok22 : callOk Tryd.prog 22 = true := by kernel_rfl
theorem ok23 : callOk Tryd.prog 23 = true := by kernel_rfl
theorem ok24 : callOk Tryd.prog 24 = true := by kernel_rfl
theorem ok25 : callOk Tryd.prog 25 = true := by kernel_rfl
theorem ok26 : callOk Tryd.prog 26 = true := by kernel_rfl
theorem ok27 : callOk Tryd.prog 27 = true := by kernel_rfl
theorem ok28 : callOk Tryd.prog 28 = true := by kernel_rfl
theorem ok29 : callOk Tryd.prog 29 = true := by kernel_rfl
theorem ok30 : callOk Tryd.prog 30 = true := by kernel_rfl
theorem ok31 : callOk Tryd.prog 31 = true := by kernel_rfl
theorem ok32 : callOk Tryd.prog 32 = true := by kernel_rfl
theorem ok33 : callOk Tryd.prog 33 = true := by kernel_rfl
theorem ok34 : callOk Tryd.prog 34 = true := by kernel_rfl
theorem ok35 : callOk Tryd.prog 35 = true := by kernel_rfl
theorem ok36 : callOk Tryd.prog 36 = true := by kernel_rfl
theorem ok37 : callOk Tryd.prog 37 = true := by kernel_rfl
theorem ok38 : callOk Tryd.prog 38 = true := by kernel_rfl
theorem ok39 : callOk Tryd.prog 39 = true := by kernel_rfl
theorem ok40 : callOk Tryd.prog 40 = true := by kernel_rfl
theorem ok41 : callOk Tryd.prog 41 = true := by kernel_rfl
theorem ok42 : callOk Tryd.prog 42 = true := by kernel_rfl
theorem ok43 : callOk Tryd.prog 43 = true := by kernel_rfl
theorem ok44 : callOk Tryd.prog 44 = true := by kernel_rfl
theorem ok45 : callOk Tryd.prog 45 = true := by kernel_rfl
theorem ok46 : callOk Tryd.prog 46 = true := by kernel_rfl
theorem ok47 : callOk Tryd.prog 47 = true := by kernel_rfl
theorem ok48 : callOk Tryd.prog 48 = true := by kernel_rfl
theorem ok49 : callOk Tryd.prog 49 = true := by kernel_rfl
theorem ok50 : callOk Tryd.prog 50 = true := by kernel_rfl
theorem ok51 : callOk Tryd.prog 51 = true := by kernel_rfl
theorem ok52 : callOk Tryd.prog 52 = true := by kernel_rfl
theorem ok53 : callOk Tryd.prog 53 = true := by kernel_rfl
theorem ok54 : callOk Tryd.prog 54 = true := by kernel_rfl
theorem ok55 : callOk Tryd.prog 55 = true := by kernel_rfl
theorem ok56 : callOk Tryd.prog 56 = true := by kernel_rfl
theorem ok57 : callOk Tryd.prog 57 = true := by kernel_rfl
theorem ok58 : callOk Tryd.prog 58 = true := by kernel_rfl
theorem ok59 : callOk Tryd.prog 59 = true := by kernel_rfl
theorem ok60 : callOk Tryd.prog 60 = true := by kernel_rfl
theorem ok61 : callOk Tryd.prog 61 = true := by kernel_rfl
theorem ok62 : callOk Tryd.prog 62 = true := by kernel_rfl
theorem ok63 : callOk Tryd.prog 63 = true := by kernel_rfl
theorem ok64 : callOk Tryd.prog 64 = true := by kernel_rfl
theorem ok65 : callOk Tryd.prog 65 = true := by kernel_rfl
theorem ok66 : callOk Tryd.prog 66 = true := by kernel_rfl
theorem ok67 : callOk Tryd.prog 67 = true := by kernel_rfl
theorem ok68 : callOk Tryd.prog 68 = true := by kernel_rfl
theorem ok69 : callOk Tryd.prog 69 = true := by kernel_rfl
theorem ok70 : callOk Tryd.prog 70 = true := by kernel_rfl
theorem ok71 : callOk Tryd.prog 71 = true := by kernel_rfl
theorem ok72 : callOk Tryd.prog 72 = true := by kernel_rfl
theorem ok73 : callOk Tryd.prog 73 = true := by kernel_rfl
theorem ok74 : callOk Tryd.prog 74 = true := by kernel_rfl
theorem ok75 : callOk Tryd.prog 75 = true := by kernel_rfl
theorem ok76 : callOk Tryd.prog 76 = true := by kernel_rfl
theorem ok77 : callOk Tryd.prog 77 = true := by kernel_rfl
theorem ok78 : callOk Tryd.prog 78 = true := by kernel_rfl
theorem ok79 : callOk Tryd.prog 79 = true := by kernel_rfl
theorem ok80 : callOk Tryd.prog 80 = true := by kernel_rfl
theorem ok81 : callOk Tryd.prog 81 = true := by kernel_rfl
theorem ok82 : callOk Tryd.prog 82 = true := by kernel_rfl
theorem ok83 : callOk Tryd.prog 83 = true := by kernel_rfl
theorem ok84 : callOk Tryd.prog 84 = true := by kernel_rfl
theorem ok85 : callOk Tryd.prog 85 = true := by kernel_rfl
theorem ok86 : callOk Tryd.prog 86 = true := by kernel_rfl
theorem ok87 : callOk Tryd.prog 87 = true := by kernel_rfl
theorem ok88 : callOk Tryd.prog 88 = true := by kernel_rfl
theorem ok89 : callOk Tryd.prog 89 = true := by kernel_rfl
theorem ok90 : callOk Tryd.prog 90 = true := by kernel_rfl
theorem ok91 : callOk Tryd.prog 91 = true := by kernel_rfl
theorem ok92 : callOk Tryd.prog 92 = true := by kernel_rfl
theorem ok93 : callOk Tryd.prog 93 = true := by kernel_rfl
theorem ok94 : callOk Tryd.prog 94 = true := by kernel_rfl
theorem ok95 : callOk Tryd.prog 95 = true := by kernel_rfl
theorem ok96 : callOk Tryd.prog 96 = true := by kernel_rfl
theorem ok97 : callOk Tryd.prog 97 = true := by kernel_rfl
theorem ok98 : callOk Tryd.prog 98 = true := by kernel_rfl
theorem ok99 : callOk Tryd.prog 99 = true := by kernel_rfl
theorem ok100 : callOk Tryd.prog 100 = true := by kernel_rfl
theorem ok101 : callOk Tryd.prog 101 = true := by kernel_rfl
theorem ok102 : callOk Tryd.prog 102 = true := by kernel_rfl
theorem ok103 : callOk Tryd.prog 103 = true := by kernel_rfl
theorem ok104 : callOk Tryd.prog 104 = true := by kernel_rfl
theorem ok105 : callOk Tryd.prog 105 = true := by kernel_rfl
theorem ok106 : callOk Tryd.prog 106 = true := by kernel_rfl
theorem ok107 : callOk Tryd.prog 107 = true := by kernel_rfl
theorem ok108 : callOk Tryd.prog 108 = true := by kernel_rfl
theorem ok109 : callOk Tryd.prog 109 = true := by kernel_rfl
theorem ok110 : callOk Tryd.prog 110 = true := by kernel_rfl
theorem ok111 : callOk Tryd.prog 111 = true := by kernel_rfl
theorem ok112 : callOk Tryd.prog 112 = true := by kernel_rfl
theorem ok113 : callOk Tryd.prog 113 = true := by kernel_rfl
theorem ok114 : callOk Tryd.prog 114 = true := by kernel_rfl
theorem nk115 : callOk Tryd.prog 115 = false := by kernel_rfl
theorem xc115 : ExtCmp Tryd.prog 115 := ⟨_, rfl, by kernel_rfl, by kernel_rfl, by kernel_rfl, by kernel_rfl⟩
theorem ok116 : callOk Tryd.prog 116 = true := by kernel_rfl
theorem ok117 : callOk Tryd.prog 117 = true := by kernel_rfl
theorem ok118 : callOk Tryd.prog 118 = true := by kernel_rfl
theorem ok119 : callOk Tryd.prog 119 = true := by kernel_rfl
theorem ok120 : callOk Tryd.prog 120 = true := by kernel_rfl
theorem ok121 : callOk Tryd.prog 121 = true := by kernel_rfl
theorem ok122 : callOk Tryd.prog 122 = true := by kernel_rfl
theorem ok123 : callOk Tryd.prog 123 = true := by kernel_rfl
theorem ok124 : callOk Tryd.prog 124 = true := by kernel_rfl
theorem ok125 : callOk Tryd.prog 125 = true := by kernel_rfl
theorem ok126 : callOk Tryd.prog 126 = true := by kernel_rfl
theorem ok127 : callOk Tryd.prog 127 = true := by kernel_rfl
theorem ok128 : callOk Tryd.prog 128 = true := by kernel_rfl
theorem ok129 : callOk Tryd.prog 129 = true := by kernel_rfl
theorem ok130 : callOk Tryd.prog 130 = true := by kernel_rfl
theorem ok131 : callOk Tryd.prog 131 = true := by kernel_rfl
theorem ok132 : callOk Tryd.prog 132 = true := by kernel_rfl
theorem ok133 : callOk Tryd.prog 133 = true := by kernel_rfl
theorem ok134 : callOk Tryd.prog 134 = true := by kernel_rfl
theorem ok135 : callOk Tryd.prog 135 = true := by kernel_rfl
theorem ok136 : callOk Tryd.prog 136 = true := by kernel_rfl
theorem ok137 : callOk Tryd.prog 137 = true := by kernel_rfl
theorem ok138 : callOk Tryd.prog 138 = true := by kernel_rfl
theorem ok139 : callOk Tryd.prog 139 = true := by kernel_rfl
theorem ok140 : callOk Tryd.prog 140 = true := by kernel_rfl
theorem ok141 : callOk Tryd.prog 141 = true := by kernel_rfl
theorem ok142 : callOk Tryd.prog 142 = true := by kernel_rfl
theorem ok143 : callOk Tryd.prog 143 = true := by kernel_rfl
theorem ok144 : callOk Tryd.prog 144 = true := by kernel_rfl
theorem ok145 : callOk Tryd.prog 145 = true := by kernel_rfl
theorem ok146 : callOk Tryd.prog 146 = true := by kernel_rfl
theorem ok147 : callOk Tryd.prog 147 = true := by kernel_rfl
theorem ok148 : callOk Tryd.prog 148 = true := by kernel_rfl
theorem ok149 : callOk Tryd.prog 149 = true := by kernel_rfl
theorem ok150 : callOk Tryd.prog 150 = true := by kernel_rfl
theorem ok151 : callOk Tryd.prog 151 = true := by kernel_rfl
theorem ok152 : callOk Tryd.prog 152 = true := by kernel_rfl
theorem ok153 : callOk Tryd.prog 153 = true := by kernel_rfl
theorem ok154 : callOk Tryd.prog 154 = true := by kernel_rfl
theorem ok155 : callOk Tryd.prog 155 = true := by kernel_rfl
theorem ok156 : callOk Tryd.prog 156 = true := by kernel_rfl
theorem nk157 : callOk Tryd.prog 157 = false := by kernel_rfl
theorem nk158 : callOk Tryd.prog 158 = false := by kernel_rfl
theorem nk159 : callOk Tryd.prog 159 = false := by kernel_rfl
theorem nk160 : callOk Tryd.prog 160 = false := by kernel_rfl
theorem nk161 : callOk Tryd.prog 161 = false := by kernel_rfl
theorem nk162 : callOk Tryd.prog 162 = false := by kernel_rfl
theorem nk163 : callOk Tryd.prog 163 = false := by kernel_rfl
theorem nk164 : callOk Tryd.prog 164 = false := by kernel_rfl
theorem nk165 : callOk Tryd.prog 165 = false := by kernel_rfl
theorem nk166 : callOk Tryd.prog 166 = false := by kernel_rfl
theorem nk167 : callOk Tryd.prog 167 = false := by kernel_rfl
theorem nk168 : callOk Tryd.prog 168 = false := by kernel_rfl
theorem nk169 : callOk Tryd.prog 169 = false := by kernel_rfl
theorem nk170 : callOk Tryd.prog 170 = false := by kernel_rfl
theorem nk171 : callOk Tryd.prog 171 = false := by kernel_rfl
theorem nk172 : callOk Tryd.prog 172 = false := by kernel_rfl
theorem nk173 : callOk Tryd.prog 173 = false := by kernel_rfl
theorem nk174 : callOk Tryd.prog 174 = false := by kernel_rfl
theorem nk175 : callOk Tryd.prog 175 = false := by kernel_rfl
theorem nk176 : callOk Tryd.prog 176 = false := by kernel_rfl
theorem nk177 : callOk Tryd.prog 177 = false := by kernel_rfl
theorem ok178 : callOk Tryd.prog 178 = true := by kernel_rfl
theorem dr : Tryd.prog.follows .mixedOrders = true := by kernel_rfl
attribute [push_cast] ti1 ti2 ti3 ti4 ti5 ti6 ti7 ti8 ti9 ti10 ti11 ti12 ti13 ti14 ti15 ti16 ti17 ti18 ti19 ti21 ti22 ti23 ti24 ti25 ti27 ti28 ti29 ti30 ti31 ti33 ti34 ti35 ti36 ti37 ti38 ti39 ti41 ti42 ti43 ti44 ti45 ti46 ti47 ti48 ti49 ti50 ti51 ti52 ti53 ti54 ti55 ti56 ti57 ti58 ti59 ti60 ti61 ti62 ti64 ti65 ti66 ti67 ti68 ti70 ti71 ti73 ti74 ti75 ti76 ti77 ti78 ti79 ti80 ti81 ti82 ti83 ti84 ti85 ti86 ti87 ti88 ti89 ti90 ti91 ti92 ti93 ti94 ti95 ti96 ti97 ti98 ti99 ti100 ti101 ti103 ti104 ti105 ti106 ti107 ti108 ti109 ti110 ti111 ti112 ti113 ti114 ti115 ti116 ti117 ti118 ti120 ti121 ti122 ti123 ti124 ti125 ti126 ti127 ti128 ti129 ti131 ti132 ti133 ti134 ti135 ti136 ti137 ti138 ti139 ti140 ti141 ti142 ti143 ti144 ti145 ti146 ti147 ti148 ti149 ti150 ti151 ti152 ti154 ti155 ti156 ti157 ti158 ti159 ti160 ti161 ti162 ti163 ti164 ti165 ti166 ti167 ti168 ti169 ti170 ti171 ti172 ti173 ti174 ti175 ti176 ti177 ti178 ti179 ti180 ti181 ok3 ok4 ok5 ok6 ok7 ok8 ok9 ok10 ok11 ok12 ok13 ok14 ok15 ok16 ok17 ok18 ok19 ok20 ok21 ok22 ok23 ok24 ok25 ok26 ok27 ok28 ok29 ok30 ok31 ok32 ok33 ok34 ok35 ok36 ok37 ok38 ok39 ok40 ok41 ok42 ok43 ok44 ok45 ok46 ok47 ok48 ok49 ok50 ok51 ok52 ok53 ok54 ok55 ok56 ok57 ok58 ok59 ok60 ok61 ok62 ok63 ok64 ok65 ok66 ok67 ok68 ok69 ok70 ok71 ok72 ok73 ok74 ok75 ok76 ok77 ok78 ok79 ok80 ok81 ok82 ok83 ok84 ok85 ok86 ok87 ok88 ok89 ok90 ok91 ok92 ok93 ok94 ok95 ok96 ok97 ok98 ok99 ok100 ok101 ok102 ok103 ok104 ok105 ok106 ok107 ok108 ok109 ok110 ok111 ok112 ok113 ok114 nk115 ok116 ok117 ok118 ok119 ok120 ok121 ok122 ok123 ok124 ok125 ok126 ok127 ok128 ok129 ok130 ok131 ok132 ok133 ok134 ok135 ok136 ok137 ok138 ok139 ok140 ok141 ok142 ok143 ok144 ok145 ok146 ok147 ok148 ok149 ok150 ok151 ok152 ok153 ok154 ok155 ok156 nk157 nk158 nk159 nk160 nk161 nk162 nk163 nk164 nk165 nk166 nk167 nk168 nk169 nk170 nk171 nk172 nk173 nk174 nk175 nk176 nk177 ok178
end Ab
set_option maxRecDepth 10000
namespace Ab
open Go Go.Proofs
inductive Term where
  | mk (name : List UInt8) (var : Bool) (args : List Term)
def Term.name : Term → List UInt8 | .mk n _ _ => n
def Term.var : Term → Bool | .mk _ v _ => v
def Term.args : Term → List Term | .mk _ _ a => a
def encTs : List Term → List AV
  | [] => []
  | .mk n v xs :: r => .agg [.str n, .bool v, .sl .none (encTs xs)] :: encTs r
@[reducible] def encT (t : Term) : AV := .agg [.str t.name, .bool t.var, .sl .none (encTs t.args)]
theorem encTs_cons (a : Term) (r : List Term) : encTs (a :: r) = encT a :: encTs r := by cases a; simp only [encTs]; rfl
theorem encTs_map : ∀ l : List Term, encTs l = l.map encT
  | [] => by simp [encTs]
  | a :: r => by rw [encTs_cons, encTs_map r]; rfl
theorem encTs_length (l : List Term) : (encTs l).length = l.length := by rw [encTs_map]; simp
theorem encTs_get (l : List Term) (i : Nat) (h : i < (encTs l).length) : (encTs l)[i] = encT (l[i]'(by rw [encTs_length] at h; exact h)) := by simp [encTs_map]
theorem uni_encTs (l : List Term) : Uni 3 (encTs l) := by
  intro x hx
  obtain ⟨i, hi, rfl⟩ := List.getElem_of_mem hx
  rw [encTs_get]; rfl
theorem scoped_encTs (n : Nat) : ∀ l : List Term, ScopedL n (encTs l)
  | [] => by simp [encTs, ScopedL]
  | .mk nm v xs :: r => by
    have h1 := scoped_encTs n xs
    have h2 := scoped_encTs n r
    simp [encTs, ScopedL, Scoped, h1, h2]
theorem strip_encTs (n : Nat) : ∀ l : List Term, stripL n (encTs l) = encTs l
  | [] => by simp [encTs, stripL]
  | .mk nm v xs :: r => by
    have h1 := strip_encTs n xs
    have h2 := strip_encTs n r
    simp [encTs, stripL, strip, stripTok, h1, h2]
theorem cell_encTs (l : List Term) : ∀ c, c ∈ flat (encTs l) → c.isCell = true := by
  intro c hc
  unfold flat at hc
  rw [List.mem_flatMap] at hc
  obtain ⟨a, ha, hc⟩ := hc
  rw [encTs_map, List.mem_map] at ha
  obtain ⟨t, _, rfl⟩ := ha
  simp [AV.cells] at hc
  rcases hc with rfl | rfl | rfl <;> rfl
theorem Term.ind {p : Term → Prop} (h : ∀ n v xs, (∀ x, x ∈ xs → p x) → p (.mk n v xs)) : ∀ t, p t
  | .mk n v xs => h n v xs (fun x hx => Term.ind h x)
def Term.size : Term → Nat
  | .mk _ _ xs => 1 + (xs.map Term.size).sum
theorem Term.size_mk (n : List UInt8) (v : Bool) (xs : List Term) : (Term.mk n v xs).size = 1 + (xs.map Term.size).sum := by simp [Term.size]
theorem Term.size_pos : ∀ t : Term, 1 ≤ t.size | .mk n v xs => by rw [Term.size_mk]; omega
def Term.depth : Term → Nat
  | .mk _ _ xs => (xs.map Term.depth).foldl max 0 + 1
theorem Term.depth_mk (n : List UInt8) (v : Bool) (xs : List Term) : (Term.mk n v xs).depth = (xs.map Term.depth).foldl max 0 + 1 := by simp [Term.depth]
theorem take_sum {α : Type} (f : α → Nat) (xs : List α) (i : Nat) (h : i < xs.length) : ((xs.take (i + 1)).map f).sum = ((xs.take i).map f).sum + f xs[i] := by
  rw [List.take_succ_eq_append_getElem h, List.map_append, List.sum_append]; simp
theorem take_sum_le {α : Type} (f : α → Nat) : ∀ (xs : List α) (i : Nat), ((xs.take i).map f).sum ≤ (xs.map f).sum
  | [], i => by simp
  | a :: r, 0 => by simp
  | a :: r, i + 1 => by have := take_sum_le f r i; simp only [List.take_succ_cons, List.map_cons, List.sum_cons]; omega
theorem le_sum {α : Type} (f : α → Nat) : ∀ (xs : List α) (x : α), x ∈ xs → f x ≤ (xs.map f).sum
  | a :: r, x, h => by
    rcases List.mem_cons.1 h with rfl | h
    · simp
    · have := le_sum f r x h; simp; omega
theorem len_le_sum (xs : List Term) : xs.length ≤ (xs.map Term.size).sum := by
  induction xs with
  | nil => simp
  | cons a r ih => have := a.size_pos; simp; omega
theorem foldl_max_le (f : Term → Nat) : ∀ (xs : List Term) (b : Nat), (xs.map f).foldl max b ≤ max b (xs.map f).sum
  | [], b => by simp
  | a :: r, b => by have := foldl_max_le f r (max b (f a)); simp only [List.map_cons, List.foldl_cons, List.sum_cons]; omega
theorem Term.depth_le (t : Term) : t.depth ≤ t.size := by
  refine Term.ind (p := fun t => t.depth ≤ t.size) (fun n v xs ih => ?_) t
  rw [Term.depth_mk, Term.size_mk]
  have h1 := foldl_max_le Term.depth xs 0
  have h2 : (xs.map Term.depth).sum ≤ (xs.map Term.size).sum := by
    clear h1
    induction xs with
    | nil => simp
    | cons a r ih2 =>
      have := ih a (by simp)
      have := ih2 (fun x hx => ih x (by simp [hx]))
      simp; omega
  omega
theorem any_take_false {α : Type} {p : α → Bool} {xs : List α} {i : Nat} (h : (xs.take i).any p = false) (hi : i < xs.length) (hp : p xs[i] = false) : (xs.take (i + 1)).any p = false := by
  rw [List.take_succ_eq_append_getElem hi, List.any_append, h]; simp [hp]
theorem any_get {α : Type} {p : α → Bool} {xs : List α} {i : Nat} (hi : i < xs.length) (hp : p xs[i] = true) : xs.any p = true := List.any_eq_true.2 ⟨xs[i], List.getElem_mem hi, hp⟩
theorem all_take_true {α : Type} {p : α → Bool} {xs : List α} {i : Nat} (h : (xs.take i).all p = true) (hi : i < xs.length) (hp : p xs[i] = true) : (xs.take (i + 1)).all p = true := by
  rw [List.take_succ_eq_append_getElem hi, List.all_append, h]; simp [hp]
theorem all_get {α : Type} {p : α → Bool} {xs : List α} {i : Nat} (hi : i < xs.length) (hp : p xs[i] = false) : xs.all p = false := by
  rw [Bool.eq_false_iff]; intro h; rw [List.all_eq_true] at h; rw [h _ (List.getElem_mem hi)] at hp; cases hp
def Term.bulk : Term → Nat
  | .mk n _ xs => 1 + n.length + (xs.map Term.bulk).sum
theorem Term.bulk_mk (n : List UInt8) (v : Bool) (xs : List Term) : (Term.mk n v xs).bulk = 1 + n.length + (xs.map Term.bulk).sum := by simp [Term.bulk]
theorem Term.size_le (t : Term) : t.size ≤ t.bulk := by
  refine Term.ind (p := fun t => t.size ≤ t.bulk) (fun n v xs ih => ?_) t
  rw [Term.bulk_mk, Term.size_mk]
  have h2 : (xs.map Term.size).sum ≤ (xs.map Term.bulk).sum := by
    induction xs with
    | nil => simp
    | cons a r ih2 =>
      have := ih a (by simp)
      have := ih2 (fun x hx => ih x (by simp [hx]))
      simp; omega
  omega
theorem Term.arg_le {n : List UInt8} {v : Bool} {xs : List Term} {x : Term} (h : x ∈ xs) : x.bulk < (Term.mk n v xs).bulk := by
  have := le_sum Term.bulk xs x h
  rw [Term.bulk_mk]; omega
theorem Term.len_le {n : List UInt8} {v : Bool} {xs : List Term} : xs.length < (Term.mk n v xs).bulk := by
  have h1 := len_le_sum xs
  have h2 := (Term.mk n v xs).size_le
  rw [Term.size_mk] at h2; omega
theorem Term.name_le {n : List UInt8} {v : Bool} {xs : List Term} : n.length < (Term.mk n v xs).bulk := by rw [Term.bulk_mk]; omega
def encL {α : Type} (enc : α → AV) (xs : List α) : List AV := xs.map enc
theorem encL_length {α : Type} (enc : α → AV) (xs : List α) : (encL enc xs).length = xs.length := by simp [encL]
theorem encL_get {α : Type} (enc : α → AV) (xs : List α) (i : Nat) (h : i < (encL enc xs).length) : (encL enc xs)[i] = enc (xs[i]'(by rw [encL_length] at h; exact h)) := by simp [encL]
theorem scoped_encL {α : Type} {enc : α → AV} {n : Nat} (h : ∀ x, Scoped n (enc x)) (xs : List α) : ScopedL n (encL enc xs) := ScopedL_iff.2 fun v hv => by
  simp [encL] at hv; obtain ⟨x, _, rfl⟩ := hv; exact h x
theorem uni_encL {α : Type} {enc : α → AV} {k : Nat} (h : ∀ x, (enc x).cells.length = k) (xs : List α) : Uni k (encL enc xs) := by
  intro x hx; simp [encL] at hx; obtain ⟨b, _, rfl⟩ := hx; exact h b
def inName (c : Int) : Bool := decide (97 ≤ c) && decide (c ≤ 122) || decide (65 ≤ c) && decide (c ≤ 90) || decide (48 ≤ c) && decide (c ≤ 57) || decide (c = 95) || decide (c = 39)
def inNameB (c : UInt8) : Bool := inName c.toNat
def trimSuffix (s suf : List UInt8) : List UInt8 := if suf.length ≤ s.length ∧ s.drop (s.length - suf.length) = suf then s.take (s.length - suf.length) else s
def isNameP (s : List UInt8) (marked : Bool) : Bool :=
  decide (s.length ≤ 24) && (let s' := if marked then trimSuffix s [35] else s; decide (s' ≠ []) && !s'.any fun c => !inNameB c)
def encB (s : List UInt8) : List AV := s.map fun b => .int .u8 b.toNat
theorem encB_length (s : List UInt8) : (encB s).length = s.length := by simp [encB]
theorem encB_get (s : List UInt8) (i : Nat) (h : i < (encB s).length) : (encB s)[i] = .int .u8 ((s[i]'(by rw [encB_length] at h; exact h)).toNat) := by simp [encB]
theorem scoped_encB (n : Nat) (s : List UInt8) : ScopedL n (encB s) := ScopedL_iff.2 fun v hv => by
  simp [encB] at hv; obtain ⟨b, _, rfl⟩ := hv; simp [Scoped]
theorem uni_encB (s : List UInt8) : Uni 1 (encB s) := by
  intro x hx; simp [encB] at hx; obtain ⟨b, _, rfl⟩ := hx; rfl
def formedP : Term → Bool
  | .mk n v xs => if v then decide (xs.length = 0) && isNameP n false else decide (xs.length ≤ 8) && isNameP n true && (xs.map formedP).all id
theorem formedP_mk (n : List UInt8) (v : Bool) (xs : List Term) : formedP (.mk n v xs) = if v then decide (xs.length = 0) && isNameP n false else decide (xs.length ≤ 8) && isNameP n true && xs.all formedP := by
  rw [formedP, List.all_map]; rfl
def fitsP (t : Term) : Bool := decide (t.size ≤ 4000) && decide (t.depth ≤ 200)
def checkP (t : Term) : Int := if !formedP t then 4 else if !fitsP t then 3 else 0
def firstErr : List Term → Int
  | [] => 0
  | t :: r => if checkP t = 0 then firstErr r else checkP t
def eqTs : List Term → List Term → Bool
  | [], [] => true
  | .mk n v xs :: r, .mk m u ys :: r' => decide (n = m) && (v == u) && (eqTs xs ys && eqTs r r')
  | _, _ => false
theorem eqTs_iff : ∀ xs ys : List Term, eqTs xs ys = true ↔ xs = ys
  | [], [] => by simp [eqTs]
  | [], _ :: _ => by simp [eqTs]
  | .mk _ _ _ :: _, [] => by simp [eqTs]
  | .mk n v xs :: r, .mk m u ys :: r' => by
    have h1 := eqTs_iff xs ys
    have h2 := eqTs_iff r r'
    simp [eqTs, h1, h2, and_assoc]
instance : DecidableEq Term := fun a b => decidable_of_iff (eqTs [a] [b] = true) (by rw [eqTs_iff]; simp)
attribute [push_cast] encL_length encL_get List.take_length encTs_get encTs_length scoped_encTs encB_length encB_get scoped_encB strip_encTs
end Ab
namespace Ab
open Go Go.Proofs
set_option linter.unusedVariables false
theorem uniT (l : List Term) : Uni (2 + 1) (encTs l) = True := eq_true (uni_encTs l)
theorem uniB (s : List UInt8) : Uni (0 + 1) (encB s) = True := eq_true (uni_encB s)
theorem scT_ (n : Nat) (l : List Term) : ScopedL n (encTs l) = True := eq_true (scoped_encTs n l)
theorem scB_ (n : Nat) (s : List UInt8) : ScopedL n (encB s) = True := eq_true (scoped_encB n s)
theorem strip_encB (n : Nat) (s : List UInt8) : stripL n (encB s) = encB s := by rw [stripL_eq]; simp [encB, strip]
theorem encTs_append (a b : List Term) : encTs (a ++ b) = encTs a ++ encTs b := by simp [encTs_map]
theorem encTs_nil : encTs [] = [] := by simp [encTs]
theorem encTs_one (a : Term) : encTs [a] = [encT a] := by rw [encTs_cons]; simp [encTs]
theorem encTs_drop (l : List Term) (i : Nat) : (encTs l).drop i = encTs (l.drop i) := by simp [encTs_map]
theorem encTs_take (l : List Term) (i : Nat) : (encTs l).take i = encTs (l.take i) := by simp [encTs_map]
theorem encL_append {α : Type} (enc : α → AV) (xs ys : List α) : encL enc (xs ++ ys) = encL enc xs ++ encL enc ys := by simp [encL]
theorem encL_take {α : Type} (enc : α → AV) (xs : List α) (i : Nat) : (encL enc xs).take i = encL enc (xs.take i) := by simp [encL]
theorem encL_drop {α : Type} (enc : α → AV) (xs : List α) (i : Nat) : (encL enc xs).drop i = encL enc (xs.drop i) := by simp [encL]
theorem encL_nil {α : Type} (enc : α → AV) : encL enc [] = [] := rfl
theorem encB_fold (s : List UInt8) : (s.map fun b => AV.int .u8 b.toNat) = encB s := rfl
section
variable {P : Program} {ro : Option Nat} {st : ASt} {dst : Option Tmp} {ty : TypeId} {pos : String} {after : Array Edge} {guard : Option (Nat × Bool)} {K : AV → List AObj → Prop}
theorem app_T {t e by_ : Nat} {s x : Operand} (zs : List Value) (k : Nat) (xs ys : List Term) (tk : Tok) (hs : st.opd s = gSl k (encTs xs)) (hx : st.opd x = .sl tk (encTs ys)) (hh : st.heap[k]? = some (gTok e 3 (encTs xs)))
    (ht : SliceT P t e) (hsz : SzOf P e 3) (hby : BytesOf P e by_) (hz : ZeroOf P e zs) (hz0 : zs.length = 3) (hb : by_ ≤ 100) (hl : xs.length + ys.length ≤ 1099511627776)
    (k' : K (gSl k (encTs (xs ++ ys))) (st.heap.set k (gTok e 3 (encTs (xs ++ ys))))) :
    AOp P ro ⟨dst, .call { callee := .builtin .append, args := #[s, x], argTypes := #[t, t] }, ty, pos, after, guard⟩ K st := by
  rw [encTs_append] at k'
  have h1 : (xs.length + ys.length) * by_ ≤ 1099511627776 * 100 := Nat.mul_le_mul hl hb
  exact AOp_append_G zs k (encTs xs) (encTs ys) tk hs hx hh ht hsz hby hz hz0 (by decide) (uni_encTs _) (uni_encTs _) (cell_encTs _) (by rw [encTs_length, encTs_length]; omega) (by rw [encTs_length, encTs_length]; omega) k'
theorem app1_T {t e by_ : Nat} {s x : Operand} (zs : List Value) (k : Nat) (xs : List Term) (y : Term) (tk : Tok) (hs : st.opd s = gSl k (encTs xs)) (hx : st.opd x = .sl tk [encT y]) (hh : st.heap[k]? = some (gTok e 3 (encTs xs)))
    (ht : SliceT P t e) (hsz : SzOf P e 3) (hby : BytesOf P e by_) (hz : ZeroOf P e zs) (hz0 : zs.length = 3) (hb : by_ ≤ 100) (hl : xs.length < 1099511627776)
    (k' : K (gSl k (encTs (xs ++ [y]))) (st.heap.set k (gTok e 3 (encTs (xs ++ [y]))))) :
    AOp P ro ⟨dst, .call { callee := .builtin .append, args := #[s, x], argTypes := #[t, t] }, ty, pos, after, guard⟩ K st :=
  app_T zs k xs [y] tk hs (by rw [encTs_one]; exact hx) hh ht hsz hby hz hz0 hb (by simp only [List.length_cons, List.length_nil]; omega) k'
theorem cells_encL {α : Type} {enc : α → AV} (hc : ∀ x c, c ∈ (enc x).cells → c.isCell = true) (l : List α) : ∀ c, c ∈ flat (encL enc l) → c.isCell = true := by
  intro c h
  unfold flat encL at h
  rw [List.mem_flatMap] at h
  obtain ⟨a, ha, h⟩ := h
  rw [List.mem_map] at ha
  obtain ⟨x, _, rfl⟩ := ha
  exact hc x c h
theorem app_L {α : Type} (enc : α → AV) {t e by_ sz : Nat} {s x : Operand} (hu : ∀ x, (enc x).cells.length = sz) (hc : ∀ x c, c ∈ (enc x).cells → c.isCell = true) (zs : List Value) (k : Nat) (xs ys : List α) (tk : Tok) (hs : st.opd s = gSl k (encL enc xs)) (hx : st.opd x = .sl tk (encL enc ys)) (hh : st.heap[k]? = some (gTok e sz (encL enc xs)))
    (ht : SliceT P t e) (hsz : SzOf P e sz) (hby : BytesOf P e by_) (hz : ZeroOf P e zs) (hz0 : zs.length = sz) (h0 : 0 < sz) (hb : by_ ≤ 100) (hl : xs.length + ys.length ≤ 1099511627776)
    (k' : K (gSl k (encL enc (xs ++ ys))) (st.heap.set k (gTok e sz (encL enc (xs ++ ys))))) :
    AOp P ro ⟨dst, .call { callee := .builtin .append, args := #[s, x], argTypes := #[t, t] }, ty, pos, after, guard⟩ K st := by
  rw [encL_append] at k'
  have h1 : (xs.length + ys.length) * by_ ≤ 1099511627776 * 100 := Nat.mul_le_mul hl hb
  exact AOp_append_G zs k (encL enc xs) (encL enc ys) tk hs hx hh ht hsz hby hz hz0 h0 (uni_encL hu _) (uni_encL hu _) (cells_encL hc _) (by rw [encL_length, encL_length]; omega) (by rw [encL_length, encL_length]; omega) k'
theorem app1_L {α : Type} (enc : α → AV) {t e by_ sz : Nat} {s x : Operand} (hu : ∀ x, (enc x).cells.length = sz) (hc : ∀ x c, c ∈ (enc x).cells → c.isCell = true) (zs : List Value) (k : Nat) (xs : List α) (y : α) (tk : Tok) (hs : st.opd s = gSl k (encL enc xs)) (hx : st.opd x = .sl tk [enc y]) (hh : st.heap[k]? = some (gTok e sz (encL enc xs)))
    (ht : SliceT P t e) (hsz : SzOf P e sz) (hby : BytesOf P e by_) (hz : ZeroOf P e zs) (hz0 : zs.length = sz) (h0 : 0 < sz) (hb : by_ ≤ 100) (hl : xs.length < 1099511627776)
    (k' : K (gSl k (encL enc (xs ++ [y]))) (st.heap.set k (gTok e sz (encL enc (xs ++ [y]))))) :
    AOp P ro ⟨dst, .call { callee := .builtin .append, args := #[s, x], argTypes := #[t, t] }, ty, pos, after, guard⟩ K st :=
  app_L enc hu hc zs k xs [y] tk hs hx hh ht hsz hby hz hz0 h0 hb (by simp only [List.length_cons, List.length_nil]; omega) k'
end
theorem add1N (a : Nat) : ((a : Int) + 1).toNat = a + 1 := by omega
theorem sub1N (a : Nat) : ((a : Int) - 1).toNat = a - 1 := by omega
theorem subN (a b : Nat) : ((a : Int) - (b : Int)).toNat = a - b := by omega
attribute [push_cast] Nat.add_sub_cancel List.getElem_cons_zero List.getElem_cons_succ encB_fold encT uniT uniB scT_ scB_ strip_encB encTs_drop encTs_take encL_take encL_drop encL_nil encTs_nil encTs_one add1N sub1N subN
end Ab
set_option maxRecDepth 10000
namespace Ab
open Go Go.Proofs
theorem inName_ac (c : Int) (H : List AObj) : ACall Tryd.prog 66 [.int .u8 c] H (fun r H' => r = .bool (inName c) ∧ H' = H) := by
  refine ACall_W (H.length) 32 [.tmp 2] Tryd.func66 rfl rfl rfl ?_
  simp only [push_cast, Nat.reduceAdd, Nat.reduceSub, Nat.reduceMul, Nat.reduceLT, Nat.reduceLeDiff, Nat.reduceEqDiff, Int.reduceToNat, ↓reduceIte]
  unfold inName
  repeat' first | refine ⟨by omega, ?_⟩ | refine cI (fun _ => ?_) (fun _ => ?_)
  all_goals (rw [Bool.eq_iff_iff]; simp; omega)
theorem isName1_ac (c : Int) (H : List AObj) : ACall Tryd.prog 65 [.int .u8 c] H (fun r H' => r = .bool (!inName c) ∧ H' = H) := by
  refine ACall_W (H.length) 5 [.tmp 2] Tryd.func65 rfl rfl rfl ?_
  simp only [push_cast, Nat.reduceAdd, Nat.reduceSub, Nat.reduceMul, Nat.reduceLT, Nat.reduceLeDiff, Nat.reduceEqDiff, Int.reduceToNat, ↓reduceIte]
  refine (inName_ac c _).to ?_
  simp only [push_cast, Nat.reduceAdd, Nat.reduceSub, Nat.reduceMul, Nat.reduceLT, Nat.reduceLeDiff, Nat.reduceEqDiff, Int.reduceToNat, ↓reduceIte]
theorem indexB_ac (s : List UInt8) (g : Nat) (caps : List AV) (p : UInt8 → Bool) (H : List AObj) (hlen : s.length < 1099511627776) (hg : callOk Tryd.prog g = true) (hsc : ScopedL H.length caps)
    (hf : ∀ i (h : i < s.length), ACall Tryd.prog g (.int .u8 (s[i]).toNat :: caps) H (fun r H' => r = .bool (p s[i]) ∧ H' = H)) :
    ACall Tryd.prog 99 [.sl .none (encB s), .fn g caps] H (fun r H' => ∃ n : Int, r = .int .i64 n ∧ (0 ≤ n ↔ s.any p = true) ∧ H' = H) := by
  refine ACall_W (H.length) 17 [.tmp 4] Tryd.func99 rfl rfl rfl ?_
  simp only [push_cast, Nat.reduceAdd, Nat.reduceSub, Nat.reduceMul, Nat.reduceLT, Nat.reduceLeDiff, Nat.reduceEqDiff, Int.reduceToNat, ↓reduceIte]
  refine AW_loopW (maskG 19 [0, 0, 5, 0]) (fun (i : Nat) => [(8, .int .i64 i)]) (fun _ => H) (fun i => i ≤ s.length ∧ (s.take i).any p = false) (fun i => s.length - i) 0 ⟨Nat.zero_le _, by simp⟩ (by simp only [push_cast, Nat.reduceAdd, Nat.reduceSub, Nat.reduceMul, Nat.reduceLT, Nat.reduceLeDiff, Nat.reduceEqDiff, Int.reduceToNat, ↓reduceIte, hsc]) (fun i hi => ?_)
  simp only [push_cast, Nat.reduceAdd, Nat.reduceSub, Nat.reduceMul, Nat.reduceLT, Nat.reduceLeDiff, Nat.reduceEqDiff, Int.reduceToNat, ↓reduceIte, hg]
  refine cI (fun h => ⟨by omega, (hf i (by omega)).to ?_⟩) (fun h => ?_)
  · simp only [push_cast, Nat.reduceAdd, Nat.reduceSub, Nat.reduceMul, Nat.reduceLT, Nat.reduceLeDiff, Nat.reduceEqDiff, Int.reduceToNat, ↓reduceIte]
    refine cI (fun hp => ?_) (fun hp => ⟨by omega, loopW_n (i + 1) ⟨by omega, any_take_false hi.2 (by omega) (by simpa using hp)⟩ (by omega) (by simp only [push_cast, Nat.reduceAdd, Nat.reduceSub, Nat.reduceMul, Nat.reduceLT, Nat.reduceLeDiff, Nat.reduceEqDiff, Int.reduceToNat, ↓reduceIte, hsc])⟩)
    exact ⟨i, rfl, ⟨fun _ => any_get (by omega) hp, fun _ => by omega⟩⟩
  · have hs : s.take i = s := List.take_of_length_le (by omega)
    rw [hs] at hi
    exact ⟨-1, rfl, ⟨by omega, fun h => by rw [hi.2] at h; cases h⟩⟩
theorem containsB_ac (s : List UInt8) (g : Nat) (caps : List AV) (p : UInt8 → Bool) (H : List AObj) (hlen : s.length < 1099511627776) (hg : callOk Tryd.prog g = true) (hsc : ScopedL H.length caps)
    (hf : ∀ i (h : i < s.length), ACall Tryd.prog g (.int .u8 (s[i]).toNat :: caps) H (fun r H' => r = .bool (p s[i]) ∧ H' = H)) :
    ACall Tryd.prog 64 [.sl .none (encB s), .fn g caps] H (fun r H' => r = .bool (s.any p) ∧ H' = H) := by
  refine ACall_W (H.length) 7 [.tmp 4] Tryd.func64 rfl rfl rfl ?_
  simp only [push_cast, Nat.reduceAdd, Nat.reduceSub, Nat.reduceMul, Nat.reduceLT, Nat.reduceLeDiff, Nat.reduceEqDiff, Int.reduceToNat, ↓reduceIte]
  refine (indexB_ac _ g caps p _ hlen hg hsc hf).mono ?_
  rintro r H ⟨n, rfl, hn, rfl⟩
  simp only [push_cast, Nat.reduceAdd, Nat.reduceSub, Nat.reduceMul, Nat.reduceLT, Nat.reduceLeDiff, Nat.reduceEqDiff, Int.reduceToNat, ↓reduceIte, hn]
  cases s.any p <;> simp
theorem hasSuffix_ac (s suf : List UInt8) (H : List AObj) (h1 : s.length < 1099511627776) (h2 : suf.length < 1099511627776) :
    ACall Tryd.prog 112 [.str s, .str suf] H (fun r H' => r = .bool (decide (suf.length ≤ s.length ∧ s.drop (s.length - suf.length) = suf)) ∧ H' = H) := by
  refine ACall_W (H.length) 19 [.tmp 4] Tryd.func112 rfl rfl rfl ?_
  simp only [push_cast, Nat.reduceAdd, Nat.reduceSub, Nat.reduceMul, Nat.reduceLT, Nat.reduceLeDiff, Nat.reduceEqDiff, Int.reduceToNat, ↓reduceIte]
  have e : (s.drop (s.length - suf.length)).take (s.length - (s.length - suf.length)) = s.drop (s.length - suf.length) := List.take_of_length_le (by simp)
  repeat' first | refine ⟨by omega, ?_⟩ | refine cI (fun _ => ?_) (fun _ => ?_)
  · simp only [push_cast, Nat.reduceAdd, Nat.reduceSub, Nat.reduceMul, Nat.reduceLT, Nat.reduceLeDiff, Nat.reduceEqDiff, Int.reduceToNat, ↓reduceIte, e]; simp; omega
  · simp; omega
theorem trimSuffix_ac (s suf : List UInt8) (H : List AObj) (h1 : s.length < 1099511627776) (h2 : suf.length < 1099511627776) :
    ACall Tryd.prog 98 [.str s, .str suf] H (fun r H' => r = .str (trimSuffix s suf) ∧ H' = H) := by
  refine ACall_W (H.length) 14 [.tmp 4] Tryd.func98 rfl rfl rfl ?_
  simp only [push_cast, Nat.reduceAdd, Nat.reduceSub, Nat.reduceMul, Nat.reduceLT, Nat.reduceLeDiff, Nat.reduceEqDiff, Int.reduceToNat, ↓reduceIte]
  refine (hasSuffix_ac s suf _ h1 h2).to ?_
  simp only [push_cast, Nat.reduceAdd, Nat.reduceSub, Nat.reduceMul, Nat.reduceLT, Nat.reduceLeDiff, Nat.reduceEqDiff, Int.reduceToNat, ↓reduceIte]
  unfold trimSuffix
  refine cI (fun h => ?_) (fun h => ?_)
  · repeat' first | refine ⟨by omega, ?_⟩ | refine cI (fun _ => ?_) (fun _ => ?_)
    simp [h]
  · simp [h]
theorem trimSuffix'_ac (s suf : List UInt8) (H : List AObj) (h1 : s.length < 1099511627776) (h2 : suf.length < 1099511627776) :
    ACall Tryd.prog 63 [.str s, .str suf] H (fun r H' => r = .str (trimSuffix s suf) ∧ H' = H) := by
  refine ACall_W (H.length) 6 [.tmp 4] Tryd.func63 rfl rfl rfl ?_
  simp only [push_cast, Nat.reduceAdd, Nat.reduceSub, Nat.reduceMul, Nat.reduceLT, Nat.reduceLeDiff, Nat.reduceEqDiff, Int.reduceToNat, ↓reduceIte]
  refine (trimSuffix_ac s suf _ h1 h2).to ?_
  simp only [push_cast, Nat.reduceAdd, Nat.reduceSub, Nat.reduceMul, Nat.reduceLT, Nat.reduceLeDiff, Nat.reduceEqDiff, Int.reduceToNat, ↓reduceIte]
theorem trimSuffix_length (s suf : List UInt8) : (trimSuffix s suf).length ≤ s.length := by
  unfold trimSuffix; split <;> simp
theorem isName_ac (s : List UInt8) (m : Bool) (H : List AObj) (h1 : s.length < 1099511627776) :
    ACall Tryd.prog 24 [.str s, .bool m] H (fun r H' => r = .bool (isNameP s m) ∧ H' = H) := by
  have hl := trimSuffix_length s [35]
  refine ACall_W (H.length) 17 [.tmp 4] Tryd.func24 rfl rfl rfl ?_
  simp only [push_cast, Nat.reduceAdd, Nat.reduceSub, Nat.reduceMul, Nat.reduceLT, Nat.reduceLeDiff, Nat.reduceEqDiff, Int.reduceToNat, ↓reduceIte]
  refine cI (fun h => ?_) (fun h => cI (fun hm => ?_) (fun hm => ?_))
  · have h24 : ¬ s.length ≤ 24 := by omega
    simp [isNameP, h24]
  · refine (trimSuffix'_ac s [35] _ h1 (by simp)).to ?_
    simp only [push_cast, Nat.reduceAdd, Nat.reduceSub, Nat.reduceMul, Nat.reduceLT, Nat.reduceLeDiff, Nat.reduceEqDiff, Int.reduceToNat, ↓reduceIte]
    refine cI (fun hs => ?_) (fun hs => ?_)
    · simp [isNameP, hm, hs]
    · refine AOp_convert_bytes _ rfl sl88 un5 un9 (by omega) ?_
      simp only [push_cast, Nat.reduceAdd, Nat.reduceSub, Nat.reduceMul, Nat.reduceLT, Nat.reduceLeDiff, Nat.reduceEqDiff, Int.reduceToNat, ↓reduceIte]
      refine (containsB_ac _ 65 [] (fun c => !inNameB c) _ (by omega) ok65 (by simp [ScopedL]) (fun i h => isName1_ac _ _)).to ?_
      simp only [push_cast, Nat.reduceAdd, Nat.reduceSub, Nat.reduceMul, Nat.reduceLT, Nat.reduceLeDiff, Nat.reduceEqDiff, Int.reduceToNat, ↓reduceIte]
      have h24 : s.length ≤ 24 := by omega
      simp [isNameP, hm, hs, h24]
  · refine cI (fun hs => ?_) (fun hs => ?_)
    · simp [isNameP, hm, hs]
    · refine AOp_convert_bytes _ rfl sl88 un5 un9 (by omega) ?_
      simp only [push_cast, Nat.reduceAdd, Nat.reduceSub, Nat.reduceMul, Nat.reduceLT, Nat.reduceLeDiff, Nat.reduceEqDiff, Int.reduceToNat, ↓reduceIte]
      refine (containsB_ac _ 65 [] (fun c => !inNameB c) _ (by omega) ok65 (by simp [ScopedL]) (fun i h => isName1_ac _ _)).to ?_
      simp only [push_cast, Nat.reduceAdd, Nat.reduceSub, Nat.reduceMul, Nat.reduceLT, Nat.reduceLeDiff, Nat.reduceEqDiff, Int.reduceToNat, ↓reduceIte]
      have h24 : s.length ≤ 24 := by omega
      simp [isNameP, hm, hs, h24]
end Ab
set_option maxRecDepth 10000
namespace Ab
open Go Go.Proofs
theorem arg_bulk {n : List UInt8} {v : Bool} {xs : List Term} {b : Nat} (hb : (Term.mk n v xs).bulk ≤ b) (i : Nat) (h : i < xs.length) : xs[i].bulk ≤ b := Nat.le_trans (Nat.le_of_lt (Term.arg_le (List.getElem_mem h))) hb
theorem take_depth (xs : List Term) (i : Nat) (h : i < xs.length) : ((xs.take (i + 1)).map Term.depth).foldl max 0 = max (((xs.take i).map Term.depth).foldl max 0) xs[i].depth := by
  rw [List.take_succ_eq_append_getElem h, List.map_append, List.foldl_append]; simp
theorem Term.mk_name (n : List UInt8) (v : Bool) (xs : List Term) : (Term.mk n v xs).name = n := rfl
theorem Term.mk_var (n : List UInt8) (v : Bool) (xs : List Term) : (Term.mk n v xs).var = v := rfl
theorem Term.mk_args (n : List UInt8) (v : Bool) (xs : List Term) : (Term.mk n v xs).args = xs := rfl
attribute [push_cast] Term.mk_name Term.mk_var Term.mk_args
theorem size_ac (t : Term) : t.bulk ≤ 1099511627776 → ∀ H, ACall Tryd.prog 33 [encT t] H (fun r H' => r = .int .i64 t.size ∧ H' = H) := by
  induction t using Term.ind with | _ n v xs ih
  intro hb H
  have hs := (Term.mk n v xs).size_le
  have hlen := Term.len_le (n := n) (v := v) (xs := xs)
  rw [Term.size_mk] at hs ⊢
  refine ACall_W (H.length) 18 [.tmp 2] Tryd.func33 rfl rfl rfl ?_
  simp only [push_cast, Nat.reduceAdd, Nat.reduceSub, Nat.reduceMul, Nat.reduceLT, Nat.reduceLeDiff, Nat.reduceEqDiff, Int.reduceToNat, ↓reduceIte]
  refine AW_loopW (maskG 19 [3, 3, 0, 0]) (fun (i : Nat) => [(9, .int .i64 i), (3, .int .i64 (1 + ((xs.take i).map Term.size).sum : Nat))]) (fun _ => H) (fun i => i ≤ xs.length) (fun i => xs.length - i) 0 (Nat.zero_le _) (by simp only [push_cast, Nat.reduceAdd, Nat.reduceSub, Nat.reduceMul, Nat.reduceLT, Nat.reduceLeDiff, Nat.reduceEqDiff, Int.reduceToNat, ↓reduceIte]; simp) (fun i hi => ?_)
  simp only [push_cast, Nat.reduceAdd, Nat.reduceSub, Nat.reduceMul, Nat.reduceLT, Nat.reduceLeDiff, Nat.reduceEqDiff, Int.reduceToNat, ↓reduceIte]
  refine cI (fun h => ⟨by omega, (ih _ (List.getElem_mem _) (arg_bulk hb i (by omega)) _).to ?_⟩) (fun h => ?_)
  · have e := take_sum Term.size xs i (by omega)
    have hle := take_sum_le Term.size xs (i + 1)
    simp only [push_cast, Nat.reduceAdd, Nat.reduceSub, Nat.reduceMul, Nat.reduceLT, Nat.reduceLeDiff, Nat.reduceEqDiff, Int.reduceToNat, ↓reduceIte]
    repeat' first | refine ⟨by omega, ?_⟩ | refine cI (fun _ => ?_) (fun _ => ?_)
    exact loopW_n (i + 1) (by omega) (by omega) (by simp only [push_cast, Nat.reduceAdd, Nat.reduceSub, Nat.reduceMul, Nat.reduceLT, Nat.reduceLeDiff, Nat.reduceEqDiff, Int.reduceToNat, ↓reduceIte]; omega)
  · simp only [push_cast, Nat.reduceAdd, Nat.reduceSub, Nat.reduceMul, Nat.reduceLT, Nat.reduceLeDiff, Nat.reduceEqDiff, Int.reduceToNat, ↓reduceIte, List.take_of_length_le (show xs.length ≤ i by omega)]
theorem depth_ac (t : Term) : t.bulk ≤ 1099511627776 → ∀ H, ACall Tryd.prog 35 [encT t] H (fun r H' => r = .int .i64 t.depth ∧ H' = H) := by
  induction t using Term.ind with | _ n v xs ih
  intro hb H
  have hs := (Term.mk n v xs).size_le
  have hd := (Term.mk n v xs).depth_le
  have hlen := Term.len_le (n := n) (v := v) (xs := xs)
  rw [Term.depth_mk] at hd ⊢
  refine ACall_W (H.length) 19 [.tmp 2] Tryd.func35 rfl rfl rfl ?_
  simp only [push_cast, Nat.reduceAdd, Nat.reduceSub, Nat.reduceMul, Nat.reduceLT, Nat.reduceLeDiff, Nat.reduceEqDiff, Int.reduceToNat, ↓reduceIte]
  refine AW_loopW (maskG 20 [3, 3, 0, 0]) (fun (i : Nat) => [(9, .int .i64 i), (3, .int .i64 (((xs.take i).map Term.depth).foldl max 0 : Nat))]) (fun _ => H) (fun i => i ≤ xs.length ∧ ((xs.take i).map Term.depth).foldl max 0 ≤ 1099511627776) (fun i => xs.length - i) 0 ⟨Nat.zero_le _, by simp⟩ (by simp only [push_cast, Nat.reduceAdd, Nat.reduceSub, Nat.reduceMul, Nat.reduceLT, Nat.reduceLeDiff, Nat.reduceEqDiff, Int.reduceToNat, ↓reduceIte]; simp) (fun i hi => ?_)
  simp only [push_cast, Nat.reduceAdd, Nat.reduceSub, Nat.reduceMul, Nat.reduceLT, Nat.reduceLeDiff, Nat.reduceEqDiff, Int.reduceToNat, ↓reduceIte]
  refine cI (fun h => ⟨by omega, (ih _ (List.getElem_mem _) (arg_bulk hb i (by omega)) _).to ?_⟩) (fun h => ?_)
  · have e := take_depth xs i (by omega)
    have hdx := (xs[i]'(by omega)).depth_le
    have hsx := (xs[i]'(by omega)).size_le
    have hbx := arg_bulk hb i (by omega)
    simp only [push_cast, Nat.reduceAdd, Nat.reduceSub, Nat.reduceMul, Nat.reduceLT, Nat.reduceLeDiff, Nat.reduceEqDiff, Int.reduceToNat, ↓reduceIte]
    repeat' first | refine ⟨by omega, ?_⟩ | refine cI (fun _ => ?_) (fun _ => ?_)
    exact loopW_n (i + 1) (by omega) (by omega) (by simp only [push_cast, Nat.reduceAdd, Nat.reduceSub, Nat.reduceMul, Nat.reduceLT, Nat.reduceLeDiff, Nat.reduceEqDiff, Int.reduceToNat, ↓reduceIte]; omega)
  · simp only [push_cast, Nat.reduceAdd, Nat.reduceSub, Nat.reduceMul, Nat.reduceLT, Nat.reduceLeDiff, Nat.reduceEqDiff, Int.reduceToNat, ↓reduceIte, List.take_of_length_le (show xs.length ≤ i by omega)]
    omega
theorem indexT_ac (xs : List Term) (g : Nat) (caps : List AV) (p : Term → Bool) (H : List AObj) (hlen : xs.length < 1099511627776) (hg : callOk Tryd.prog g = true) (hsc : ScopedL H.length caps)
    (hf : ∀ i (h : i < xs.length), ACall Tryd.prog g (encT xs[i] :: caps) H (fun r H' => r = .bool (p xs[i]) ∧ H' = H)) :
    ACall Tryd.prog 114 [.sl .none (encTs xs), .fn g caps] H (fun r H' => ∃ n : Int, r = .int .i64 n ∧ (0 ≤ n ↔ xs.any p = true) ∧ H' = H) := by
  refine ACall_W (H.length) 17 [.tmp 4] Tryd.func114 rfl rfl rfl ?_
  simp only [push_cast, Nat.reduceAdd, Nat.reduceSub, Nat.reduceMul, Nat.reduceLT, Nat.reduceLeDiff, Nat.reduceEqDiff, Int.reduceToNat, ↓reduceIte]
  refine AW_loopW (maskG 19 [0, 0, 5, 0]) (fun (i : Nat) => [(8, .int .i64 i)]) (fun _ => H) (fun i => i ≤ xs.length ∧ (xs.take i).any p = false) (fun i => xs.length - i) 0 ⟨Nat.zero_le _, by simp⟩ (by simp only [push_cast, Nat.reduceAdd, Nat.reduceSub, Nat.reduceMul, Nat.reduceLT, Nat.reduceLeDiff, Nat.reduceEqDiff, Int.reduceToNat, ↓reduceIte, hsc]) (fun i hi => ?_)
  simp only [push_cast, Nat.reduceAdd, Nat.reduceSub, Nat.reduceMul, Nat.reduceLT, Nat.reduceLeDiff, Nat.reduceEqDiff, Int.reduceToNat, ↓reduceIte, hg]
  refine cI (fun h => ⟨by omega, (hf i (by omega)).to ?_⟩) (fun h => ?_)
  · simp only [push_cast, Nat.reduceAdd, Nat.reduceSub, Nat.reduceMul, Nat.reduceLT, Nat.reduceLeDiff, Nat.reduceEqDiff, Int.reduceToNat, ↓reduceIte]
    refine cI (fun hp => ?_) (fun hp => ⟨by omega, loopW_n (i + 1) ⟨by omega, any_take_false hi.2 (by omega) (by simpa using hp)⟩ (by omega) (by simp only [push_cast, Nat.reduceAdd, Nat.reduceSub, Nat.reduceMul, Nat.reduceLT, Nat.reduceLeDiff, Nat.reduceEqDiff, Int.reduceToNat, ↓reduceIte, hsc])⟩)
    exact ⟨i, rfl, ⟨fun _ => any_get (by omega) hp, fun _ => by omega⟩⟩
  · have hs : xs.take i = xs := List.take_of_length_le (by omega)
    rw [hs] at hi
    exact ⟨-1, rfl, ⟨by omega, fun h => by rw [hi.2] at h; cases h⟩⟩
theorem containsT_ac (xs : List Term) (g : Nat) (caps : List AV) (p : Term → Bool) (H : List AObj) (hlen : xs.length < 1099511627776) (hg : callOk Tryd.prog g = true) (hsc : ScopedL H.length caps)
    (hf : ∀ i (h : i < xs.length), ACall Tryd.prog g (encT xs[i] :: caps) H (fun r H' => r = .bool (p xs[i]) ∧ H' = H)) :
    ACall Tryd.prog 101 [.sl .none (encTs xs), .fn g caps] H (fun r H' => r = .bool (xs.any p) ∧ H' = H) := by
  refine ACall_W (H.length) 7 [.tmp 4] Tryd.func101 rfl rfl rfl ?_
  simp only [push_cast, Nat.reduceAdd, Nat.reduceSub, Nat.reduceMul, Nat.reduceLT, Nat.reduceLeDiff, Nat.reduceEqDiff, Int.reduceToNat, ↓reduceIte]
  refine (indexT_ac _ g caps p _ hlen hg hsc hf).mono ?_
  rintro r H ⟨n, rfl, hn, rfl⟩
  simp only [push_cast, Nat.reduceAdd, Nat.reduceSub, Nat.reduceMul, Nat.reduceLT, Nat.reduceLeDiff, Nat.reduceEqDiff, Int.reduceToNat, ↓reduceIte, hn]
  cases xs.any p <;> simp
theorem formed_ac (t : Term) : t.bulk ≤ 1099511627775 → ∀ H, ACall Tryd.prog 75 [encT t] H (fun r H' => r = .bool (formedP t) ∧ H' = H) := by
  induction t using Term.ind with | _ n v xs ih
  intro hb H
  have hlen := Term.len_le (n := n) (v := v) (xs := xs)
  have hnl := Term.name_le (n := n) (v := v) (xs := xs)
  have hcl : ∀ i (h : i < xs.length) H, ACall Tryd.prog 102 [encT xs[i]] H (fun r H' => r = .bool (!formedP xs[i]) ∧ H' = H) := by
    intro i h H
    refine ACall_W (H.length) 5 [.tmp 2] Tryd.func102 rfl rfl rfl ?_
    simp only [push_cast, Nat.reduceAdd, Nat.reduceSub, Nat.reduceMul, Nat.reduceLT, Nat.reduceLeDiff, Nat.reduceEqDiff, Int.reduceToNat, ↓reduceIte]
    refine (ih _ (List.getElem_mem _) (arg_bulk hb i h) _).to ?_
    simp only [push_cast, Nat.reduceAdd, Nat.reduceSub, Nat.reduceMul, Nat.reduceLT, Nat.reduceLeDiff, Nat.reduceEqDiff, Int.reduceToNat, ↓reduceIte]
  rw [formedP_mk]
  refine ACall_W (H.length) 28 [.tmp 2] Tryd.func75 rfl rfl rfl ?_
  simp only [push_cast, Nat.reduceAdd, Nat.reduceSub, Nat.reduceMul, Nat.reduceLT, Nat.reduceLeDiff, Nat.reduceEqDiff, Int.reduceToNat, ↓reduceIte]
  refine cI (fun hv => cI (fun h => ?_) (fun h => ?_)) (fun hv => cI (fun h => ?_) (fun h => ?_))
  · refine (isName_ac n _ _ (by omega)).to ?_
    simp only [push_cast, Nat.reduceAdd, Nat.reduceSub, Nat.reduceMul, Nat.reduceLT, Nat.reduceLeDiff, Nat.reduceEqDiff, Int.reduceToNat, ↓reduceIte]
    have h0 : xs.length = 0 := by omega
    simp [hv, h0]
  · have h0 : ¬ xs.length = 0 := by omega
    simp [hv, h0]
  · refine (isName_ac n _ _ (by omega)).to ?_
    simp only [push_cast, Nat.reduceAdd, Nat.reduceSub, Nat.reduceMul, Nat.reduceLT, Nat.reduceLeDiff, Nat.reduceEqDiff, Int.reduceToNat, ↓reduceIte]
    refine cI (fun hn => ?_) (fun hn => ?_)
    · refine (containsT_ac xs 102 [] (fun x => !formedP x) _ (by omega) ok102 (by simp [ScopedL]) (fun i h => hcl i h _)).to ?_
      simp only [push_cast, Nat.reduceAdd, Nat.reduceSub, Nat.reduceMul, Nat.reduceLT, Nat.reduceLeDiff, Nat.reduceEqDiff, Int.reduceToNat, ↓reduceIte]
      have h8 : xs.length ≤ 8 := by omega
      simp [hv, h8, hn, List.not_any_eq_all_not]
    · simp [hv, hn]
  · have h8 : ¬ xs.length ≤ 8 := by omega
    simp [hv, h8]
theorem fits_ac (t : Term) (hb : t.bulk ≤ 1099511627775) (H : List AObj) : ACall Tryd.prog 76 [encT t] H (fun r H' => r = .bool (fitsP t) ∧ H' = H) := by
  refine ACall_W (H.length) 10 [.tmp 2] Tryd.func76 rfl rfl rfl ?_
  simp only [push_cast, Nat.reduceAdd, Nat.reduceSub, Nat.reduceMul, Nat.reduceLT, Nat.reduceLeDiff, Nat.reduceEqDiff, Int.reduceToNat, ↓reduceIte]
  refine (size_ac t (by omega) _).to ?_
  simp only [push_cast, Nat.reduceAdd, Nat.reduceSub, Nat.reduceMul, Nat.reduceLT, Nat.reduceLeDiff, Nat.reduceEqDiff, Int.reduceToNat, ↓reduceIte]
  unfold fitsP
  refine cI (fun h => (depth_ac t (by omega) _).to ?_) (fun h => ?_)
  · simp only [push_cast, Nat.reduceAdd, Nat.reduceSub, Nat.reduceMul, Nat.reduceLT, Nat.reduceLeDiff, Nat.reduceEqDiff, Int.reduceToNat, ↓reduceIte]
    have h4 : t.size ≤ 4000 := by omega
    simp [h4]; omega
  · have h4 : ¬ t.size ≤ 4000 := by omega
    simp [h4]
theorem check_ac (t : Term) (hb : t.bulk ≤ 1099511627775) (H : List AObj) : ACall Tryd.prog 32 [encT t] H (fun r H' => r = .int .i64 (checkP t) ∧ H' = H) := by
  refine ACall_W (H.length) 10 [.tmp 2] Tryd.func32 rfl rfl rfl ?_
  simp only [push_cast, Nat.reduceAdd, Nat.reduceSub, Nat.reduceMul, Nat.reduceLT, Nat.reduceLeDiff, Nat.reduceEqDiff, Int.reduceToNat, ↓reduceIte]
  unfold checkP
  refine (formed_ac t (by omega) _).to ?_
  simp only [push_cast, Nat.reduceAdd, Nat.reduceSub, Nat.reduceMul, Nat.reduceLT, Nat.reduceLeDiff, Nat.reduceEqDiff, Int.reduceToNat, ↓reduceIte]
  refine cI (fun h => ?_) (fun h => ?_)
  · refine (fits_ac t (by omega) _).to ?_
    simp only [push_cast, Nat.reduceAdd, Nat.reduceSub, Nat.reduceMul, Nat.reduceLT, Nat.reduceLeDiff, Nat.reduceEqDiff, Int.reduceToNat, ↓reduceIte]
    refine cI (fun h2 => ?_) (fun h2 => ?_) <;> simp [h, h2]
  · simp [h]
end Ab
set_option maxRecDepth 10000
namespace Ab
open Go Go.Proofs
@[reducible] def encP (p : List Int) : List AV := encL (AV.int .i64) p
theorem uni_encP (p : List Int) : Uni 1 (encP p) := uni_encL (enc := AV.int .i64) (k := 1) (fun _ => rfl) p
theorem cell_encP (p : List Int) : ∀ c, c ∈ flat (encP p) → c.isCell = true := by
  intro c hc
  unfold flat at hc
  rw [List.mem_flatMap] at hc
  obtain ⟨a, ha, hc⟩ := hc
  simp [encP, encL] at ha
  obtain ⟨t, _, rfl⟩ := ha
  simp [AV.cells] at hc
  subst hc; rfl
theorem scoped_encP (n : Nat) (p : List Int) : ScopedL n (encP p) := scoped_encL (fun x => by simp [Scoped]) p
theorem stripL_encP (n : Nat) (p : List Int) : stripL n (encP p) = encP p := by rw [stripL_eq]; simp [encP, encL, strip]
theorem encP_snoc (p : List Int) (i : Int) : encP p ++ [.int .i64 i] = encP (p ++ [i]) := by simp [encP, encL]
def walkL : List Term → Int → List Int → List (List Int × Term)
  | [], _, _ => []
  | .mk n v xs :: r, i, p => (p ++ [i], .mk n v xs) :: (walkL xs 0 (p ++ [i]) ++ walkL r (i + 1) p)
def walkT (t : Term) (p : List Int) : List (List Int × Term) := (p, t) :: walkL t.args 0 p
theorem walkL_cons (x : Term) (r : List Term) (i : Int) (p : List Int) : walkL (x :: r) i p = walkT x (p ++ [i]) ++ walkL r (i + 1) p := by cases x; simp [walkL, walkT, Term.args]
theorem walkL_split : ∀ (xs : List Term) (k : Nat) (i : Int) (p : List Int), k ≤ xs.length → walkL xs i p = walkL (xs.take k) i p ++ walkL (xs.drop k) (i + k) p
  | xs, 0, i, p, _ => by simp [walkL]
  | [], _ + 1, i, p, h => by simp at h
  | x :: r, k + 1, i, p, h => by
    have := walkL_split r k (i + 1) p (by simpa using h)
    rw [walkL_cons, this, List.take_succ_cons, walkL_cons, List.drop_succ_cons, List.append_assoc]
    congr 3; push_cast; omega
theorem walkL_take (xs : List Term) (k : Nat) (p : List Int) (h : k < xs.length) : walkL (xs.take (k + 1)) 0 p = walkL (xs.take k) 0 p ++ walkT xs[k] (p ++ [(k : Int)]) := by
  have := walkL_split (xs.take (k + 1)) k 0 p (by simp; omega)
  have e : (xs.drop k).take 1 = [xs[k]] := by rw [List.drop_eq_getElem_cons h]; rfl
  rw [this, List.take_take, List.drop_take, show min k (k + 1) = k by omega, show k + 1 - k = 1 by omega, e]
  simp [walkL_cons, walkL]
def runTo {β : Type} (nx : List β → β → Option Code) : List β → List β → List β × Option Code
  | pre, [] => (pre, none)
  | pre, x :: xs => match nx pre x with
    | none => runTo nx (pre ++ [x]) xs
    | some c => (pre ++ [x], some c)
theorem runTo_append {β : Type} (nx : List β → β → Option Code) : ∀ (xs ys pre : List β), runTo nx pre (xs ++ ys) = match runTo nx pre xs with
    | (q, none) => runTo nx q ys
    | (q, some c) => (q, some c)
  | [], ys, pre => rfl
  | x :: xs, ys, pre => by
    simp only [List.cons_append, runTo]
    cases nx pre x with
    | none => exact runTo_append nx xs ys _
    | some c => rfl
theorem runTo_none {β : Type} (nx : List β → β → Option Code) : ∀ (xs pre : List β), AllNone nx pre → (runTo nx pre xs).2 = none → (runTo nx pre xs).1 = pre ++ xs ∧ AllNone nx (pre ++ xs)
  | [], pre, h, _ => by simp [runTo]; exact h
  | x :: xs, pre, h, hr => by
    simp only [runTo] at hr ⊢
    cases hx : nx pre x with
    | none =>
      simp only [hx] at hr ⊢
      have := runTo_none nx xs (pre ++ [x]) (h.snoc hx) hr
      simpa using this
    | some c => simp [hx] at hr
theorem runTo_some {β : Type} (nx : List β → β → Option Code) : ∀ (xs pre : List β) (c : Code), AllNone nx pre → (runTo nx pre xs).2 = some c → ∃ a x s, xs = a ++ x :: s ∧ AllNone nx (pre ++ a) ∧ nx (pre ++ a) x = some c ∧ (runTo nx pre xs).1 = pre ++ a ++ [x]
  | [], pre, c, h, hr => by simp [runTo] at hr
  | x :: xs, pre, c, h, hr => by
    simp only [runTo] at hr ⊢
    cases hx : nx pre x with
    | none =>
      simp only [hx] at hr ⊢
      obtain ⟨a, y, s, e1, e2, e3, e4⟩ := runTo_some nx xs (pre ++ [x]) c (h.snoc hx) hr
      exact ⟨x :: a, y, s, by simp [e1], by simpa using e2, by simpa using e3, by simpa using e4⟩
    | some c' =>
      simp only [hx, Option.some.injEq] at hr ⊢
      subst hr
      exact ⟨[], x, xs, rfl, by simpa using h, by simpa using hx, by simp⟩
theorem runTo_all {β : Type} (nx : List β → β → Option Code) : ∀ (ys pre : List β), AllNone nx (pre ++ ys) → runTo nx pre ys = (pre ++ ys, none)
  | [], pre, _ => by simp [runTo]
  | y :: ys, pre, h => by
    have h0 : nx pre y = none := h pre y ys rfl
    simp only [runTo, h0]
    have := runTo_all nx ys (pre ++ [y]) (by simpa using h)
    simpa using this
theorem runTo_mid {β : Type} (nx : List β → β → Option Code) (pre ys zs : List β) (ha : AllNone nx (pre ++ ys)) : runTo nx pre (ys ++ zs) = runTo nx (pre ++ ys) zs := by
  rw [runTo_append, runTo_all nx ys pre ha]
theorem le_foldl_max (f : Term → Nat) : ∀ (xs : List Term) (b : Nat), b ≤ (xs.map f).foldl max b ∧ ∀ x, x ∈ xs → f x ≤ (xs.map f).foldl max b
  | [], b => by simp
  | a :: r, b => by
    obtain ⟨h1, h2⟩ := le_foldl_max f r (max b (f a))
    simp only [List.map_cons, List.foldl_cons]
    refine ⟨by omega, fun x hx => ?_⟩
    rcases List.mem_cons.1 hx with rfl | hx
    · omega
    · exact h2 x hx
def encItem (x : List Int × Term) : List AV := [.sl .none (encP x.1), encT x.2]
theorem iterOut_runTo {β : Type} (nx : List β → β → Option Code) (items : List β) (hp : List β → Option Code → List AObj) : IterOut items nx hp (hp (runTo nx [] items).1 (runTo nx [] items).2) := by
  cases hr : (runTo nx [] items).2 with
  | none =>
    obtain ⟨h1, h2⟩ := runTo_none nx items [] AllNone.nil hr
    rw [h1]; exact .inl ⟨by simpa using h2, by simp⟩
  | some c =>
    obtain ⟨a, x, s, e1, e2, e3, e4⟩ := runTo_some nx items [] c AllNone.nil hr
    rw [e4]
    exact .inr ⟨a, x, s, c, e1, by simpa using e2, by simpa using e3, by simp⟩
theorem walkL_length : ∀ (xs : List Term) (i : Int) (p : List Int), (walkL xs i p).length = (xs.map Term.size).sum
  | [], _, _ => by simp [walkL]
  | .mk n v ys :: r, i, p => by
    have h1 := walkL_length ys 0 (p ++ [i])
    have h2 := walkL_length r (i + 1) p
    simp [walkL, h1, h2, Term.size]; omega
theorem walkT_length (t : Term) (p : List Int) : (walkT t p).length = t.size := by
  cases t with
  | mk n v xs => simp [walkT, walkL_length, Term.args, Term.size]; omega
theorem uniP (p : List Int) : Uni (0 + 1) (encP p) = True := eq_true (uni_encP p)
theorem scP_ (n : Nat) (p : List Int) : ScopedL n (encP p) = True := eq_true (scoped_encP n p)
theorem encP_length (p : List Int) : (encP p).length = p.length := encL_length _ _
attribute [push_cast] uniP scP_ stripL_encP encItem
end Ab
set_option maxRecDepth 10000
namespace Ab
open Go Go.Proofs
theorem clone_ac (p : List Int) (hb : p.length ≤ 1099511627776) (H : List AObj) : ACall Tryd.prog 56 [.sl .none (encP p)] H
    (fun r H' => (p = [] ∧ r = .sl .zero [] ∧ H' = H) ∨ (p ≠ [] ∧ r = .sl (.own H.length) (encP p) ∧ H' = H ++ [.tok 3 1 p.length])) := by
  have hl : (encP p).length = p.length := encL_length _ _
  by_cases hp : p = []
  · subst hp
    refine ACall_W (H.length) 7 [.tmp 2] Tryd.func56 rfl rfl rfl ?_
    simp only [push_cast, Nat.reduceAdd, Nat.reduceSub, Nat.reduceMul, Nat.reduceLT, Nat.reduceLeDiff, Nat.reduceEqDiff, Int.reduceToNat, ↓reduceIte]
    refine AOp_eql_nil _ _ rfl sl30 (fun b hb => ?_)
    simp only [push_cast, Nat.reduceAdd, Nat.reduceSub, Nat.reduceMul, Nat.reduceLT, Nat.reduceLeDiff, Nat.reduceEqDiff, Int.reduceToNat, ↓reduceIte]
    refine cI (fun _ => ?_) (fun _ => ?_)
    · simp
    · refine AOp_append_zero0 _ _ rfl rfl sl30 sz3 by3 zr3 ?_
      simp only [push_cast, Nat.reduceAdd, Nat.reduceSub, Nat.reduceMul, Nat.reduceLT, Nat.reduceLeDiff, Nat.reduceEqDiff, Int.reduceToNat, ↓reduceIte]
      simp
  · have hne : encP p ≠ [] := fun h => hp (List.eq_nil_of_length_eq_zero (by rw [← hl, h]; rfl))
    have hfl : flat (encP p) ≠ [] := fun h => by
      have := flat_length (uni_encP p)
      rw [h, hl] at this
      have := List.length_pos_iff.2 hp
      simp at *; omega
    refine ACall_W (H.length + 1) 7 [.tmp 2] Tryd.func56 rfl rfl rfl ?_
    simp only [push_cast, Nat.reduceAdd, Nat.reduceSub, Nat.reduceMul, Nat.reduceLT, Nat.reduceLeDiff, Nat.reduceEqDiff, Int.reduceToNat, ↓reduceIte]
    refine AOp_eql_nil _ _ rfl sl30 (fun b hb => ?_)
    have hb := hb hfl
    subst hb
    simp only [push_cast, Nat.reduceAdd, Nat.reduceSub, Nat.reduceMul, Nat.reduceLT, Nat.reduceLeDiff, Nat.reduceEqDiff, Int.reduceToNat, ↓reduceIte]
    refine AOp_append_zero _ _ _ rfl rfl sl30 sz3 by3 zr3 rfl (by decide) (uni_encP p) (cell_encP p) hne (by omega) (by omega) ?_
    simp only [push_cast, Nat.reduceAdd, Nat.reduceSub, Nat.reduceMul, Nat.reduceLT, Nat.reduceLeDiff, Nat.reduceEqDiff, Int.reduceToNat, ↓reduceIte, hl, Nat.lt_succ_self]
    simp [hp]
theorem walk_ac (id n : Nat) (hp : List (List Int × Term) → Option Code → List AObj) (nx : List (List Int × Term) → List Int × Term → Option Code) (items : List (List Int × Term)) (hid : id < n)
    (hlen : ∀ p j, (hp p j).length = n) (hsc : ∀ p j o, o ∈ hp p j → OScoped n o) (hy : YieldSeq Tryd.prog id items encItem hp nx) (t : Term) :
    t.bulk ≤ 1099511627775 → ∀ (p : List Int) (pre suf : List (List Int × Term)) (X : List AObj), p.length + t.depth ≤ 1099511627775 → items = pre ++ walkT t p ++ suf → AllNone nx pre →
    ACall Tryd.prog 97 [encT t, .sl .none (encP p), .yld id] (hp pre none ++ X)
      (fun r H' => r = .bool (runTo nx pre (walkT t p)).2.isNone ∧ H' = hp (runTo nx pre (walkT t p)).1 (runTo nx pre (walkT t p)).2 ++ X) := by
  induction t using Term.ind with | _ nm v xs ih
  intro hb p pre suf X hpl hitems hnone
  have hlen2 := Term.len_le (n := nm) (v := v) (xs := xs)
  rw [Term.depth_mk] at hpl
  obtain ⟨G, hG⟩ : ∃ G : List (List Int × Term) → Option Code → List AObj, ∀ q j, G q j = hp q j ++ X := ⟨fun q j => hp q j ++ X, fun _ _ => rfl⟩
  obtain ⟨N, hN⟩ : ∃ N, N = n + X.length := ⟨_, rfl⟩
  have hGl : ∀ q j, (G q j).length = N := fun q j => by rw [hG, hN]; simp [hlen]
  have hg0 : ∀ q j L, (G q j ++ L)[N]? = L[0]? := fun q j L => by have := agetN (G q j) L 0; rw [hGl] at this; exact this
  have hgk : ∀ q j L k, (G q j ++ L)[N + k]? = L[k]? := fun q j L k => by rw [← hGl q j]; exact agetN _ _ _
  have ht0 : ∀ q j L, (G q j ++ L).take N = G q j := fun q j L => takeE0 (hGl q j)
  have htk : ∀ q j L k, (G q j ++ L).take (N + k) = G q j ++ L.take k := fun q j L k => takeEN (hGl q j)
  have hsk : ∀ q j L k x, (G q j ++ L).set (N + k) x = G q j ++ L.set k x := fun q j L k x => hsetEN (hGl q j)
  have hs0 : ∀ q j L x, (G q j ++ L).set N x = G q j ++ L.set 0 x := fun q j L x => hsetE0 (hGl q j)
  have hy' : ∀ q x s L, items = q ++ x :: s → AllNone nx q → AYield Tryd.prog id (encItem x) (G q none ++ L) (fun r H' => r = .bool (nx q x).isNone ∧ H' = G (q ++ [x]) (nx q x) ++ L) := fun q x s L h1 h2 => by
    have := hy q x s (X ++ L) h1 h2
    simpa only [hG, List.append_assoc] using this
  have ih' : ∀ x, x ∈ xs → ∀ (p' : List Int) (q s : List (List Int × Term)) (L : List AObj), p'.length + x.depth ≤ 1099511627775 → items = q ++ walkT x p' ++ s → AllNone nx q →
      ACall Tryd.prog 97 [encT x, .sl .none (encP p'), .yld id] (G q none ++ L) (fun r H' => r = .bool (runTo nx q (walkT x p')).2.isNone ∧ H' = G (runTo nx q (walkT x p')).1 (runTo nx q (walkT x p')).2 ++ L) := fun x hx p' q s L h1 h2 h3 => by
    have hbx := Term.arg_le (n := nm) (v := v) hx
    have := ih x hx (by omega) p' q s (X ++ L) h1 h2 h3
    simpa only [hG, List.append_assoc] using this
  have hout : ∀ q j k L, scT (N + k) k L → OutOk (G pre none) (G q j ++ L) (N + k) := fun q j k L h => by
    rw [hG, hG]; exact outok_hp k (by rw [hlen, hlen]) (fun o ho => by rw [hlen]; exact hsc _ _ o ho) (by simp [hlen, hN]) (scT_spec h).1 (scT_spec h).2
  have hou0 : ∀ q j L, OutOk (G pre none) (G q j ++ L) N = True := fun q j L => eq_true (hout q j 0 L trivial)
  have houk : ∀ q j k L, scT (N + k) k L → OutOk (G pre none) (G q j ++ L) (N + k) = True := fun q j k L h => eq_true (hout q j k L h)
  have hidN : id < N := by omega
  have hidk : ∀ k, id < N + k := fun k => by omega
  have hNk : ∀ k, N < N + (k + 1) := fun k => by omega
  have hwT : walkT (.mk nm v xs) p = (p, .mk nm v xs) :: walkL xs 0 p := rfl
  have hgoal : ∀ (r : AV) (H' : List AObj), (r = .bool (runTo nx pre (walkT (.mk nm v xs) p)).2.isNone ∧ H' = G (runTo nx pre (walkT (.mk nm v xs) p)).1 (runTo nx pre (walkT (.mk nm v xs) p)).2) →
      (r = .bool (runTo nx pre (walkT (.mk nm v xs) p)).2.isNone ∧ H' = hp (runTo nx pre (walkT (.mk nm v xs) p)).1 (runTo nx pre (walkT (.mk nm v xs) p)).2 ++ X) := fun r H' h => by rw [← hG]; exact h
  rw [← hG]
  refine ACall.mono ?_ hgoal
  clear hgoal
  rw [hwT] at hitems ⊢
  have hnx0 : (nx pre (p, .mk nm v xs)).isNone = false → ∃ c, nx pre (p, .mk nm v xs) = some c := fun h => by
    cases hc : nx pre (p, .mk nm v xs) with
    | none => rw [hc] at h; cases h
    | some c => exact ⟨c, rfl⟩
  clear hG
  refine ACall_W (N) 29 [.tmp 6] Tryd.func97 rfl rfl rfl ?_
  simp only [push_cast, Nat.reduceAdd, Nat.reduceSub, Nat.reduceMul, Nat.reduceLT, Nat.reduceLeDiff, Nat.reduceEqDiff, Int.reduceToNat, ↓reduceIte, hGl, hg0, hgk, hsk, hs0]
  refine (hy' pre (p, .mk nm v xs) _ _ (by simpa using hitems) hnone).mono ?_
  rintro r H' ⟨rfl, rfl⟩
  simp only [push_cast, Nat.reduceAdd, Nat.reduceSub, Nat.reduceMul, Nat.reduceLT, Nat.reduceLeDiff, Nat.reduceEqDiff, Int.reduceToNat, ↓reduceIte, hGl, hg0, hgk, hsk, hs0, hou0, ht0]
  refine cI (fun h0 => ?_) (fun h0 => ?_)
  · have hn0 : nx pre (p, .mk nm v xs) = none := Option.isNone_iff_eq_none.1 h0
    have hq0 : G (pre ++ [(p, .mk nm v xs)]) (nx pre (p, .mk nm v xs)) = G (pre ++ (p, .mk nm v xs) :: walkL (xs.take 0) 0 p) none := by rw [hn0]; simp [walkL]
    rw [hq0]
    have hi0 : AllNone nx (pre ++ (p, .mk nm v xs) :: walkL (xs.take 0) 0 p) := by
      have := hnone.snoc (x := (p, Term.mk nm v xs)) hn0
      simpa [walkL] using this
    refine AW_loopW (maskG 32 [1, 0, 12, 0, 0]) (fun (i : Nat) => [(17, .int .i64 i)]) (fun i => G (pre ++ (p, .mk nm v xs) :: walkL (xs.take i) 0 p) none ++ [.cells [.str nm, .bool v, .sl .none (encTs xs)]]) (fun i => i ≤ xs.length ∧ AllNone nx (pre ++ (p, .mk nm v xs) :: walkL (xs.take i) 0 p)) (fun i => xs.length - i) 0 ⟨Nat.zero_le _, hi0⟩ (by simp only [push_cast, Nat.reduceAdd, Nat.reduceSub, Nat.reduceMul, Nat.reduceLT, Nat.reduceLeDiff, Nat.reduceEqDiff, Int.reduceToNat, ↓reduceIte, hGl, houk, htk, hidk, hNk, Nat.lt_succ_self]) (fun i hi => ?_)
    simp only [push_cast, Nat.reduceAdd, Nat.reduceSub, Nat.reduceMul, Nat.reduceLT, Nat.reduceLeDiff, Nat.reduceEqDiff, Int.reduceToNat, ↓reduceIte, hGl, hg0, hgk, hsk, hs0, hou0, ht0]
    refine cI (fun h => ⟨by omega, ?_⟩) (fun h => ?_)
    · have hil : i < xs.length := by omega
      have hmem : xs[i] ∈ xs := by simp
      have hdx := (le_foldl_max Term.depth xs 0).2 _ hmem
      have hit : items = (pre ++ (p, Term.mk nm v xs) :: walkL (xs.take i) 0 p) ++ walkT xs[i] (p ++ [(i : Int)]) ++ (walkL (xs.drop (i + 1)) (0 + (i : Int) + 1) p ++ suf) := by
        rw [hitems, walkL_split xs i 0 p (by omega), List.drop_eq_getElem_cons hil, walkL_cons]; simp
      obtain ⟨⟨q, j⟩, hr⟩ : ∃ y, runTo nx (pre ++ (p, Term.mk nm v xs) :: walkL (xs.take i) 0 p) (walkT xs[i] (p ++ [(i : Int)])) = y := ⟨_, rfl⟩
      have hpre : pre ++ (p, Term.mk nm v xs) :: walkL (xs.take i) 0 p ++ walkT xs[i] (p ++ [(i : Int)]) = pre ++ (p, Term.mk nm v xs) :: walkL (xs.take (i + 1)) 0 p := by rw [walkL_take _ _ _ (by omega)]; simp
      have hfin1 : j.isNone = true → q = pre ++ (p, Term.mk nm v xs) :: walkL (xs.take (i + 1)) 0 p ∧ j = none ∧ AllNone nx q := by
        intro hj
        have hj : j = none := Option.isNone_iff_eq_none.1 hj
        have hq := runTo_none nx (walkT xs[i] (p ++ [(i : Int)])) _ hi.2 (by rw [hr]; exact hj)
        rw [hr, hpre] at hq
        obtain ⟨hq1, hq2⟩ := hq
        simp only at hq1
        exact ⟨hq1, hj, hq1 ▸ hq2⟩
      have hfin2 : ¬ j.isNone = true → runTo nx pre ((p, Term.mk nm v xs) :: walkL xs 0 p) = (q, j) ∧ j.isNone = false := by
        intro hj
        obtain ⟨c, rfl⟩ : ∃ c, j = some c := by
          cases j with
          | none => simp at hj
          | some c => exact ⟨c, rfl⟩
        refine ⟨?_, rfl⟩
        rw [walkL_split xs i 0 p (by omega), List.drop_eq_getElem_cons (by omega), walkL_cons, ← List.cons_append, runTo_mid nx _ _ _ hi.2, runTo_append, Int.zero_add, hr]
      by_cases hp0 : p = []
      · skip
        apply AW_drawE [some 22, some 23, some 24, some 25, some 26, some 27, some 28, some 29, some 30] [([false, false, false], _), ([true, false, false], _), ([true, true, false], _), ([true, true, true], _)] [none, none, some 0, none, none, some 1, none, some 2, none] 3 [(0, [false, false, false], [8]), (1, [false, false, false], [1]), (2, [false, false, false], [23]), (3, [true, false, false], [7]), (4, [true, false, false], [25]), (5, [true, false, false], [24, 1]), (6, [true, true, false], [2]), (7, [true, true, false], [22, 4, 0]), (8, [true, true, true], [29]), (0, [true, false, false], [8]), (0, [true, true, false], [8]), (3, [false, false, false], [7]), (3, [true, true, false], [7]), (3, [true, true, true], [7]), (4, [false, false, false], [25]), (6, [false, false, false], [2]), (6, [true, false, false], [2])] [_, _, _, _, _, _, _, _, _]
        case' hm => exact dr
        case' hn => rfl
        case' hok => rfl
        case' hlen => rfl
        case' hd => rfl
        case' h0 => rfl
        case' hstep =>
         simp only [DAllG, push_cast, Option.isSome_some, Option.isSome_none]
         repeat' apply And.intro
         all_goals (apply DOne_V; simp only [push_cast, Nat.reduceAdd, Nat.reduceSub, Nat.reduceMul, Nat.reduceLT, Nat.reduceLeDiff, Nat.reduceEqDiff, Int.reduceToNat, ↓reduceIte, hGl, hg0, hgk, hsk, hs0] <;> first | exact rfl | omega | exact ⟨rfl, rfl⟩ | exact trivial | exact ⟨by omega, rfl⟩ | exact ⟨by omega, by omega, rfl⟩ | exact ⟨by omega, rfl, rfl⟩ | exact ⟨by omega, by omega, rfl, rfl⟩ | (refine (clone_ac p (by omega) _).mono ?_; rintro r H' (⟨hcl, rfl, rfl⟩ | ⟨hcl, rfl, rfl⟩) <;> first | exact absurd hp0 hcl | exact ⟨rfl, rfl⟩) | (refine AOp_append_zero _ _ _ rfl rfl sl30 sz3 by3 zr3 rfl (by decide) (by intro x hx; simp at hx; subst hx; rfl) (by simp [flat, AV.cells, AV.isCell]) (by simp) (by simp) (by simp) ?_; simp only [push_cast, Nat.reduceAdd, Nat.reduceSub, Nat.reduceMul, Nat.reduceLT, Nat.reduceLeDiff, Nat.reduceEqDiff, Int.reduceToNat, ↓reduceIte, hGl]; exact ⟨rfl, rfl⟩) | (refine ACall.forget (args' := [encT xs[i], .sl .none (encP (p ++ [(i : Int)])), .yld id]) ⟨Forget.refl _, by first | (rw [← encP_snoc]; exact Forget.tok _ _) | (have he : encP (p ++ [(i : Int)]) = [.int .i64 i] := (by rw [hp0]; rfl); rw [he]; exact Forget.tok _ _), Forget.refl _, trivial⟩ ((ih' xs[i] hmem (p ++ [(i : Int)]) _ _ _ (by simp; omega) hit hi.2).to ⟨rfl, rfl⟩)))
        case' hQ => skip
        simp only [push_cast, Nat.reduceAdd, Nat.reduceSub, Nat.reduceMul, Nat.reduceLT, Nat.reduceLeDiff, Nat.reduceEqDiff, Int.reduceToNat, ↓reduceIte, hr, hGl, hg0, hgk, hsk, hs0, hou0, ht0]
        refine cI (fun hj => ?_) (fun hj => ?_)
        · obtain ⟨rfl, rfl, hq2⟩ := hfin1 hj
          repeat' first | refine ⟨by omega, ?_⟩ | refine cI (fun _ => ?_) (fun _ => ?_)
          exact loopW_n (i + 1) ⟨by omega, hq2⟩ (by omega) (by simp only [push_cast, Nat.reduceAdd, Nat.reduceSub, Nat.reduceMul, Nat.reduceLT, Nat.reduceLeDiff, Nat.reduceEqDiff, Int.reduceToNat, ↓reduceIte, hGl, houk, htk, hidk, hNk, Nat.lt_succ_self])
        · obtain ⟨e1, e2⟩ := hfin2 hj
          rw [e1]
          exact ⟨e2.symm, rfl⟩
      · skip
        apply AW_drawE [some 22, some 23, some 24, some 25, some 26, some 27, some 28, some 29, some 30] [([false, false, false], _), ([true, false, false], _), ([true, true, false], _), ([true, true, true], _)] [none, none, some 0, none, none, some 1, none, some 2, none] 3 [(0, [false, false, false], [8]), (1, [false, false, false], [1]), (2, [false, false, false], [23]), (3, [true, false, false], [7]), (4, [true, false, false], [25]), (5, [true, false, false], [24, 1]), (6, [true, true, false], [2]), (7, [true, true, false], [22, 4, 0]), (8, [true, true, true], [29]), (0, [true, false, false], [8]), (0, [true, true, false], [8]), (3, [false, false, false], [7]), (3, [true, true, false], [7]), (3, [true, true, true], [7]), (4, [false, false, false], [25]), (6, [false, false, false], [2]), (6, [true, false, false], [2])] [_, _, _, _, _, _, _, _, _]
        case' hm => exact dr
        case' hn => rfl
        case' hok => rfl
        case' hlen => rfl
        case' hd => rfl
        case' h0 => rfl
        case' hstep =>
         simp only [DAllG, push_cast, Option.isSome_some, Option.isSome_none]
         repeat' apply And.intro
         all_goals (apply DOne_V; simp only [push_cast, Nat.reduceAdd, Nat.reduceSub, Nat.reduceMul, Nat.reduceLT, Nat.reduceLeDiff, Nat.reduceEqDiff, Int.reduceToNat, ↓reduceIte, hGl, hg0, hgk, hsk, hs0] <;> first | exact rfl | omega | exact ⟨rfl, rfl⟩ | exact trivial | exact ⟨by omega, rfl⟩ | exact ⟨by omega, by omega, rfl⟩ | exact ⟨by omega, rfl, rfl⟩ | exact ⟨by omega, by omega, rfl, rfl⟩ | (refine (clone_ac p (by omega) _).mono ?_; rintro r H' (⟨hcl, rfl, rfl⟩ | ⟨hcl, rfl, rfl⟩) <;> first | exact absurd hcl hp0 | exact ⟨rfl, rfl⟩) | (refine AOp_append_own _ _ _ _ _ rfl rfl ((hgk _ _ _ 2).trans (by rw [encP_length]; rfl)) sl30 sz3 by3 zr3 rfl (by decide) (uni_encP p) (by intro x hx; simp at hx; subst hx; rfl) (by simp [flat, AV.cells, AV.isCell]) (by simp only [encP_length, List.length_cons, List.length_nil]; omega) (by simp only [encP_length, List.length_cons, List.length_nil]; omega) ?_; simp only [push_cast, Nat.reduceAdd, Nat.reduceSub, Nat.reduceMul, Nat.reduceLT, Nat.reduceLeDiff, Nat.reduceEqDiff, Int.reduceToNat, ↓reduceIte, hGl, hsk]; exact ⟨rfl, rfl⟩) | (refine ACall.forget (args' := [encT xs[i], .sl .none (encP (p ++ [(i : Int)])), .yld id]) ⟨Forget.refl _, by first | (rw [← encP_snoc]; exact Forget.tok _ _) | (have he : encP (p ++ [(i : Int)]) = [.int .i64 i] := (by rw [hp0]; rfl); rw [he]; exact Forget.tok _ _), Forget.refl _, trivial⟩ ((ih' xs[i] hmem (p ++ [(i : Int)]) _ _ _ (by simp; omega) hit hi.2).to ⟨rfl, rfl⟩)))
        case' hQ => skip
        simp only [push_cast, Nat.reduceAdd, Nat.reduceSub, Nat.reduceMul, Nat.reduceLT, Nat.reduceLeDiff, Nat.reduceEqDiff, Int.reduceToNat, ↓reduceIte, hr, hGl, hg0, hgk, hsk, hs0, hou0, ht0]
        refine cI (fun hj => ?_) (fun hj => ?_)
        · obtain ⟨rfl, rfl, hq2⟩ := hfin1 hj
          repeat' first | refine ⟨by omega, ?_⟩ | refine cI (fun _ => ?_) (fun _ => ?_)
          exact loopW_n (i + 1) ⟨by omega, hq2⟩ (by omega) (by simp only [push_cast, Nat.reduceAdd, Nat.reduceSub, Nat.reduceMul, Nat.reduceLT, Nat.reduceLeDiff, Nat.reduceEqDiff, Int.reduceToNat, ↓reduceIte, hGl, houk, htk, hidk, hNk, Nat.lt_succ_self])
        · obtain ⟨e1, e2⟩ := hfin2 hj
          rw [e1]
          exact ⟨e2.symm, rfl⟩
    · have hs : xs.take i = xs := List.take_of_length_le (by omega)
      rw [hs] at hi ⊢
      have e := runTo_all nx _ _ hi.2
      rw [e]; simp
  · obtain ⟨c, hc0⟩ := hnx0 (by simpa only [Bool.not_eq_true] using h0)
    simp [runTo, hc0]
end Ab
set_option maxRecDepth 10000
namespace Ab
open Go Go.Proofs
theorem walk_iter (t : Term) (hb : t.bulk ≤ 1099511627775) (b : Nat) : IterC Tryd.prog 96 [.ptr b 0] (walkT t []) encItem (fun H => H[b]? = some (.cells [.str t.name, .bool t.var, .sl .none (encTs t.args)])) := by
  intro id n hp nx hid hlen hsc hA hy
  obtain ⟨H, hH⟩ : ∃ H, H = hp [] none := ⟨_, rfl⟩
  rw [← hH] at hA ⊢
  have hd := t.depth_le
  have hsz := t.size_le
  have hout : ∀ q j, OutOk H (hp q j) n := fun q j => by
    have := outok_hp (A := hp [] none) (B := hp q j) (X := []) (L := []) (m := n) 0 (by rw [hlen, hlen]) (fun o ho => by rw [hlen]; exact hsc _ _ o ho) (by simp [hlen]) (Nat.zero_le _) (by simp)
    simpa [hH] using this
  refine ACall_W (n) 4 [] Tryd.func96 rfl rfl rfl ?_
  simp only [push_cast, Nat.reduceAdd, Nat.reduceSub, Nat.reduceMul, Nat.reduceLT, Nat.reduceLeDiff, Nat.reduceEqDiff, Int.reduceToNat, ↓reduceIte, hA]
  refine ACall.forget (args' := [encT t, .sl .none (encP []), .yld id]) ⟨Forget.refl _, Forget.tok _ _, Forget.refl _, trivial⟩ ?_
  have hw := walk_ac id n hp nx (walkT t []) hid hlen hsc hy t hb [] [] [] [] (by simp; omega) (by simp) AllNone.nil
  simp only [List.append_nil, ← hH] at hw
  refine hw.to ?_
  simp only [push_cast, Nat.reduceAdd, Nat.reduceSub, Nat.reduceMul, Nat.reduceLT, Nat.reduceLeDiff, Nat.reduceEqDiff, Int.reduceToNat, ↓reduceIte]
  refine ⟨hout _ _, ?_⟩
  rw [List.take_of_length_le (by rw [hlen]; exact Nat.le_refl _)]
  exact iterOut_runTo nx _ hp
theorem walkF_ac (t : Term) (H : List AObj) : ACall Tryd.prog 55 [encT t] H (fun r H' => r = .fn 96 [.ptr H.length 0] ∧ H' = H ++ [.cells [.str t.name, .bool t.var, .sl .none (encTs t.args)]]) := by
  refine ACall_W (H.length + 1) 3 [.tmp 2] Tryd.func55 rfl rfl rfl ?_
  simp only [push_cast, Nat.reduceAdd, Nat.reduceSub, Nat.reduceMul, Nat.reduceLT, Nat.reduceLeDiff, Nat.reduceEqDiff, Int.reduceToNat, ↓reduceIte]
  trace_state
end Ab
set_option maxRecDepth 10000
namespace Ab
open Go Go.Proofs
theorem own_ac (t : Term) : t.bulk ≤ 1099511627775 → ∀ H, ACall Tryd.prog 58 [encT t] H (fun r H' => r = encT t ∧ H' = H) := by
  induction t using Term.ind with | _ n v xs ih
  intro hb H
  have hlen := Term.len_le (n := n) (v := v) (xs := xs)
  refine ACall_V (H.length) 26 [.cell 2 24] Tryd.func58 rfl rfl rfl ?_
  simp only [push_cast, Nat.reduceAdd, Nat.reduceSub, Nat.reduceMul, Nat.reduceLT, Nat.reduceLeDiff, Nat.reduceEqDiff, Int.reduceToNat, ↓reduceIte]
  refine AW_reserve 1 ?_
  refine AW_loopW (maskG 27 [2, 0, 8, 0, 0]) (fun (i : Nat) => [(14, .int .i64 i)]) (fun i => H ++ [.cells [.str n, .bool v, .sl .none (encTs xs)], .cells [.str [], .bool false, .sl .zero []], .cells [.str n, .bool v, gSl (H.length + 3) (encTs (xs.take i))], gTok 24 3 (encTs (xs.take i))]) (fun i => i ≤ xs.length) (fun i => xs.length - i) 0 (Nat.zero_le _) (by simp only [push_cast, Nat.reduceAdd, Nat.reduceSub, Nat.reduceMul, Nat.reduceLT, Nat.reduceLeDiff, Nat.reduceEqDiff, Int.reduceToNat, ↓reduceIte]) (fun i hi => ?_)
  simp only [push_cast, Nat.reduceAdd, Nat.reduceSub, Nat.reduceMul, Nat.reduceLT, Nat.reduceLeDiff, Nat.reduceEqDiff, Int.reduceToNat, ↓reduceIte]
  refine cI (fun h => ⟨by omega, ?_⟩) (fun h => ?_)
  · skip
    apply AW_drawE [some 18, some 19, some 20, some 21, some 22, some 23, some 24, none] [([false, false], _), ([true, false], _), ([true, true], _)] [none, none, none, none, none, some 0, none, some 1] 2 [(0, [false, false], [3]), (1, [false, false], [18]), (2, [false, false], [5]), (3, [false, false], [20]), (4, [false, false], [21]), (5, [false, false], [19, 2]), (6, [true, false], [3]), (7, [true, false], [23, 0]), (0, [true, false], [3]), (2, [true, false], [5])] [_, _, _, _, _, _, _, _]
    case' hm => exact dr
    case' hn => rfl
    case' hok => rfl
    case' hlen => rfl
    case' hd => rfl
    case' h0 => rfl
    case' hstep =>
     simp only [DAllG, push_cast, Option.isSome_some, Option.isSome_none]
     repeat' apply And.intro
     all_goals (apply DOne_V; simp only [push_cast, Nat.reduceAdd, Nat.reduceSub, Nat.reduceMul, Nat.reduceLT, Nat.reduceLeDiff, Nat.reduceEqDiff, Int.reduceToNat, ↓reduceIte] <;> first | exact rfl | omega | exact ⟨rfl, rfl⟩ | exact trivial | exact ⟨by omega, rfl⟩ | exact ⟨by omega, by omega, rfl⟩ | exact ⟨by omega, rfl, rfl⟩ | exact ⟨by omega, by omega, rfl, rfl⟩ | exact (ih _ (List.getElem_mem _) (arg_bulk hb i (by omega)) _).to ⟨rfl, rfl⟩ | (refine app1_T _ (H.length + 3) (xs.take i) xs[i] _ rfl rfl (by exact (agetN _ _ 3).trans rfl) sl22 sz24 by24 zr24 rfl (by decide) (by simp; omega) ?_; simp only [push_cast, Nat.reduceAdd, Nat.reduceSub, Nat.reduceMul, Nat.reduceLT, Nat.reduceLeDiff, Nat.reduceEqDiff, Int.reduceToNat, ↓reduceIte]; exact ⟨rfl, rfl⟩))
    case' hQ => skip
    simp only [push_cast, Nat.reduceAdd, Nat.reduceSub, Nat.reduceMul, Nat.reduceLT, Nat.reduceLeDiff, Nat.reduceEqDiff, Int.reduceToNat, ↓reduceIte, ← List.take_succ_eq_append_getElem (show i < xs.length by omega)]
    repeat' first | refine ⟨by omega, ?_⟩ | refine cI (fun _ => ?_) (fun _ => ?_)
    exact loopW_n (i + 1) (by omega) (by omega) (by simp only [push_cast, Nat.reduceAdd, Nat.reduceSub, Nat.reduceMul, Nat.reduceLT, Nat.reduceLeDiff, Nat.reduceEqDiff, Int.reduceToNat, ↓reduceIte])
  · simp only [push_cast, Nat.reduceAdd, Nat.reduceSub, Nat.reduceMul, Nat.reduceLT, Nat.reduceLeDiff, Nat.reduceEqDiff, Int.reduceToNat, ↓reduceIte, List.take_of_length_le (show xs.length ≤ i by omega)]
def zeroT : Term := .mk [] false []
@[reducible] def encRE (q : Term × Int) : AV := .tup [encT q.1, .int .i64 q.2]
theorem zeroT_n : zeroT.name = [] := rfl
theorem zeroT_v : zeroT.var = false := rfl
theorem zeroT_a : encTs zeroT.args = [] := encTs_nil
attribute [push_cast] zeroT_n zeroT_v zeroT_a
end Ab
set_option maxRecDepth 10000
namespace Ab
open Go Go.Proofs
@[reducible] def encQ (p : List Int) : AV := .sl .none (encP p)
theorem uniQ (l : List (List Int)) : Uni (0 + 1) (encL encQ l) = True := eq_true (uni_encL (enc := encQ) (k := 1) (fun _ => rfl) l)
theorem scQ_ (n : Nat) (l : List (List Int)) : ScopedL n (encL encQ l) = True := eq_true (scoped_encL (fun p => by simp [Scoped, scoped_encP]) l)
theorem strip_encQ (n : Nat) (l : List (List Int)) : stripL n (encL encQ l) = encL encQ l := by rw [stripL_eq, encL, List.map_map]; congr 1; funext p; simp only [Function.comp, strip, stripTok, stripL_encP]
attribute [push_cast] uniQ scQ_ strip_encQ
def posP (t : Term) : List (List Int) := (walkT t []).map (·.1)
theorem clone2_ac (p : List Int) (hb : p.length ≤ 1099511627776) (H : List AObj) : ACall Tryd.prog 56 [.sl .none (encP p)] H (fun r H' => r = encQ p ∧ H' = H) := by
  have hl : (encP p).length = p.length := encL_length _ _
  refine ACall_V (H.length) 7 [.tmp 2] Tryd.func56 rfl rfl rfl ?_
  simp only [push_cast, Nat.reduceAdd, Nat.reduceSub, Nat.reduceMul, Nat.reduceLT, Nat.reduceLeDiff, Nat.reduceEqDiff, Int.reduceToNat, ↓reduceIte]
  refine AOp_eql_nil _ _ rfl sl30 (fun b hb => ?_)
  simp only [push_cast, Nat.reduceAdd, Nat.reduceSub, Nat.reduceMul, Nat.reduceLT, Nat.reduceLeDiff, Nat.reduceEqDiff, Int.reduceToNat, ↓reduceIte]
  by_cases hp : p = []
  · subst hp
    refine cI (fun _ => ?_) (fun _ => ?_)
    · simp only [push_cast, Nat.reduceAdd, Nat.reduceSub, Nat.reduceMul, Nat.reduceLT, Nat.reduceLeDiff, Nat.reduceEqDiff, Int.reduceToNat, ↓reduceIte]
    · refine AOp_append_zero0 _ _ rfl rfl sl30 sz3 by3 zr3 ?_
      simp only [push_cast, Nat.reduceAdd, Nat.reduceSub, Nat.reduceMul, Nat.reduceLT, Nat.reduceLeDiff, Nat.reduceEqDiff, Int.reduceToNat, ↓reduceIte]
  · have hne : encP p ≠ [] := fun h => hp (List.eq_nil_of_length_eq_zero (by rw [← hl, h]; rfl))
    have hfl : flat (encP p) ≠ [] := fun h => by
      have := flat_length (uni_encP p)
      rw [h, hl] at this
      have := List.length_pos_iff.2 hp
      simp at *; omega
    refine cI (fun hb' => by rw [hb hfl] at hb'; cases hb') (fun _ => ?_)
    refine AOp_append_zero _ _ _ rfl rfl sl30 sz3 by3 zr3 rfl (by decide) (uni_encP p) (cell_encP p) hne (by omega) (by omega) ?_
    simp only [push_cast, Nat.reduceAdd, Nat.reduceSub, Nat.reduceMul, Nat.reduceLT, Nat.reduceLeDiff, Nat.reduceEqDiff, Int.reduceToNat, ↓reduceIte]
theorem walkL_pos (xs : List Term) : ∀ (i : Int) (q : List Int) x, x ∈ walkL xs i q → x.1.length ≤ q.length + (xs.map Term.size).sum := by
  have key : ∀ n (xs : List Term), (xs.map Term.size).sum < n → ∀ (i : Int) (q : List Int) x, x ∈ walkL xs i q → x.1.length ≤ q.length + (xs.map Term.size).sum := by
    intro n
    induction n with
    | zero => intro xs h; omega
    | succ n ih =>
      intro xs hn i q x hx
      cases xs with
      | nil => simp [walkL] at hx
      | cons t r =>
        cases t with
        | mk nm v ys =>
          simp only [List.map_cons, List.sum_cons, Term.size_mk] at hn ⊢
          simp only [walkL, List.mem_cons, List.mem_append] at hx
          rcases hx with rfl | hx | hx
          · simp; omega
          · have := ih ys (by omega) 0 _ x hx; simp at this; omega
          · have := ih r (by omega) _ _ x hx; omega
  exact key _ xs (Nat.lt_succ_self _)
theorem walk_pos_len (t : Term) (q : List Int) : ∀ x, x ∈ walkT t q → x.1.length < q.length + t.size := by
  intro x hx
  cases t with
  | mk n v xs =>
    rw [Term.size_mk]
    simp only [walkT, List.mem_cons, Term.mk_args] at hx
    rcases hx with rfl | hx
    · simp; omega
    · have := walkL_pos xs 0 q x hx; omega
theorem positions_ac (t : Term) (hb : t.bulk ≤ 1099511627775) (H : List AObj) : ACall Tryd.prog 14 [encT t] H
    (fun r H' => r = (if checkP t = 0 then .tup [.sl .none (encL encQ (posP t)), .int .i64 0] else .tup [.sl .none [], .int .i64 (checkP t)]) ∧ H' = H) := by
  have hsz := t.size_le
  refine ACall_V (H.length) 21 [.tmp 2, .tmp 3] Tryd.func14 rfl rfl rfl ?_
  simp only [push_cast, Nat.reduceAdd, Nat.reduceSub, Nat.reduceMul, Nat.reduceLT, Nat.reduceLeDiff, Nat.reduceEqDiff, Int.reduceToNat, ↓reduceIte]
  refine (check_ac t hb _).to ?_
  simp only [push_cast, Nat.reduceAdd, Nat.reduceSub, Nat.reduceMul, Nat.reduceLT, Nat.reduceLeDiff, Nat.reduceEqDiff, Int.reduceToNat, ↓reduceIte]
  refine cI (fun h => ?_) (fun h => ?_)
  · refine (walkF_ac t _).to ?_
    simp only [push_cast, Nat.reduceAdd, Nat.reduceSub, Nat.reduceMul, Nat.reduceLT, Nat.reduceLeDiff, Nat.reduceEqDiff, Int.reduceToNat, ↓reduceIte]
    refine AW_reserve 1 ?_
    refine AW_iterW _ _ (walk_iter t hb _) H (fun pre => [.cells [.str t.name, .bool t.var, .sl .none (encTs t.args)], .cells [gSl (H.length + 3) (encL encQ (pre.map (·.1)))], .cells [.str t.name, .bool t.var, .sl .none (encTs t.args)], gTok 30 1 (encL encQ (pre.map (·.1)))]) 4 (fun _ _ => none) rfl ok96 (by simp only [push_cast, Nat.reduceAdd, Nat.reduceSub, Nat.reduceMul, Nat.reduceLT, Nat.reduceLeDiff, Nat.reduceEqDiff, Int.reduceToNat, ↓reduceIte]) (fun _ => rfl) (fun lp => by simp only [push_cast, Nat.reduceAdd, Nat.reduceSub, Nat.reduceMul, Nat.reduceLT, Nat.reduceLeDiff, Nat.reduceEqDiff, Int.reduceToNat, ↓reduceIte]) (fun p => by simp only [push_cast, Nat.reduceAdd, Nat.reduceSub, Nat.reduceMul, Nat.reduceLT, Nat.reduceLeDiff, Nat.reduceEqDiff, Int.reduceToNat, ↓reduceIte]) (fun _ => rfl) (fun pre x suf X l lp lp' he hn => ?_) (fun _ lp => ?_) (fun pre x suf c lp _ _ h => by cases h)
    · have hx := walk_pos_len t [] x (by rw [he]; simp)
      have hpl : pre.length < t.size := by have := walkT_length t []; rw [he] at this; simp at this; omega
      simp only [push_cast, Nat.reduceAdd, Nat.reduceSub, Nat.reduceMul, Nat.reduceLT, Nat.reduceLeDiff, Nat.reduceEqDiff, Int.reduceToNat, ↓reduceIte, List.drop_length]
      apply AW_drawE [some 16, some 17, some 18, some 19, some 20, none] [([false, false], _), ([true, false], _), ([true, true], _)] [none, none, none, none, some 0, some 1] 2 [(0, [false, false], [5]), (1, [false, false], [6]), (2, [false, false], [17]), (3, [false, false], [18]), (4, [false, false], [16, 2]), (5, [true, false], [5, 14]), (1, [true, false], [6])] [_, _, _, _, _, _]
      case' hm => exact dr
      case' hn => rfl
      case' hok => rfl
      case' hlen => rfl
      case' hd => rfl
      case' h0 => rfl
      case' hstep =>
       simp only [DAllG, push_cast, Option.isSome_some, Option.isSome_none]
       repeat' apply And.intro
       all_goals (apply DOne_V; simp only [push_cast, Nat.reduceAdd, Nat.reduceSub, Nat.reduceMul, Nat.reduceLT, Nat.reduceLeDiff, Nat.reduceEqDiff, Int.reduceToNat, ↓reduceIte] <;> first | exact rfl | omega | exact ⟨rfl, rfl⟩ | exact trivial | exact ⟨by omega, rfl⟩ | exact ⟨by omega, by omega, rfl⟩ | exact ⟨by omega, rfl, rfl⟩ | exact ⟨by omega, by omega, rfl, rfl⟩ | exact (clone2_ac x.1 (by simp at hx; omega) _).to ⟨rfl, rfl⟩ | (refine app1_L encQ (sz := 1) (fun _ => rfl) (by intro x c hc; simp [AV.cells] at hc; subst hc; rfl) _ (H.length + 3) (pre.map (·.1)) x.1 _ rfl rfl (by exact (agetN _ _ 3).trans rfl) sl31 sz30 by30 zr30 rfl (by decide) (by decide) (by simp; omega) ?_; simp only [push_cast, Nat.reduceAdd, Nat.reduceSub, Nat.reduceMul, Nat.reduceLT, Nat.reduceLeDiff, Nat.reduceEqDiff, Int.reduceToNat, ↓reduceIte]; exact ⟨rfl, rfl⟩))
      case' hQ => skip
      simp only [push_cast, Nat.reduceAdd, Nat.reduceSub, Nat.reduceMul, Nat.reduceLT, Nat.reduceLeDiff, Nat.reduceEqDiff, Int.reduceToNat, ↓reduceIte]
      simp
    · simp only [push_cast, Nat.reduceAdd, Nat.reduceSub, Nat.reduceMul, Nat.reduceLT, Nat.reduceLeDiff, Nat.reduceEqDiff, Int.reduceToNat, ↓reduceIte, h, posP]
  · simp only [push_cast, Nat.reduceAdd, Nat.reduceSub, Nat.reduceMul, Nat.reduceLT, Nat.reduceLeDiff, Nat.reduceEqDiff, Int.reduceToNat, ↓reduceIte, h]
end Ab
namespace Go.Proofs
open Go.Shelf Go.Sort Go.RowKit
def Tryd.laysM171_ren : Go.Shelf.Ren := ⟨fun | 171 => 92 | 243 => 111 | 246 => 126 | 283 => 141 | 284 => 142 | 285 => 143 | 286 => 144 | 129 => 125 | 317 => 150 | 318 => 151 | 319 => 152 | 320 => 153 | 337 => 155 | 338 => 156 | n => n, fun | 3 => 3 | 9 => 9 | 2 => 2 | 4 => 4 | 171 => 151 | 0 => 0 | 53 => 138 | 37 => 88 | 5 => 5 | 173 => 153 | 212 => 161 | 51 => 136 | 20 => 20 | 213 => 162 | 46 => 124 | 232 => 164 | 233 => 165 | n => n, fun | 17 => 1 | 18 => 2 | 19 => 3 | n => n⟩
theorem Tryd.laysM171 : Go.Proofs.LaysM.n171 Tryd.prog Tryd.laysM171_ren := {
  mixed := by kernel_rfl
  f129 := Tryd.func125.trans (congrArg some (by kernel_rfl))
  f171 := Tryd.func92.trans (congrArg some (by kernel_rfl))
  f243 := Tryd.func111.trans (congrArg some (by kernel_rfl))
  f246 := Tryd.func126.trans (congrArg some (by kernel_rfl))
  f283 := Tryd.func141.trans (congrArg some (by kernel_rfl))
  f284 := Tryd.func142.trans (congrArg some (by kernel_rfl))
  f285 := Tryd.func143.trans (congrArg some (by kernel_rfl))
  f286 := Tryd.func144.trans (congrArg some (by kernel_rfl))
  f317 := Tryd.func150.trans (congrArg some (by kernel_rfl))
  f318 := Tryd.func151.trans (congrArg some (by kernel_rfl))
  f319 := Tryd.func152.trans (congrArg some (by kernel_rfl))
  f320 := Tryd.func153.trans (congrArg some (by kernel_rfl))
  f337 := Tryd.func155.trans (congrArg some (by kernel_rfl))
  f338 := Tryd.func156.trans (congrArg some (by kernel_rfl))
  t0 := Tryd.underlying0
  a0 := Tryd.isAgg0
  z0 := Tryd.sizeOf0
  v0 := Tryd.zeroValue0
  t2 := Tryd.underlying2
  a2 := Tryd.isAgg2
  z2 := Tryd.sizeOf2
  v2 := Tryd.zeroValue2
  t3 := Tryd.underlying3
  a3 := Tryd.isAgg3
  z3 := Tryd.sizeOf3
  v3 := Tryd.zeroValue3
  t4 := Tryd.underlying4
  a4 := Tryd.isAgg4
  z4 := Tryd.sizeOf4
  v4 := Tryd.zeroValue4
  t5 := Tryd.underlying5
  a5 := Tryd.isAgg5
  z5 := Tryd.sizeOf5
  v5 := Tryd.zeroValue5
  t9 := Tryd.underlying9
  a9 := Tryd.isAgg9
  z9 := Tryd.sizeOf9
  v9 := Tryd.zeroValue9
  t20 := Tryd.underlying20
  a20 := Tryd.isAgg20
  z20 := Tryd.sizeOf20
  v20 := Tryd.zeroValue20
  t37 := Tryd.underlying88
  a37 := Tryd.isAgg88
  z37 := Tryd.sizeOf88
  v37 := Tryd.zeroValue88
  t46 := Tryd.underlying124
  a46 := Tryd.isAgg124
  z46 := Tryd.sizeOf124
  v46 := Tryd.zeroValue124
  t51 := Tryd.underlying136
  a51 := Tryd.isAgg136
  z51 := Tryd.sizeOf136
  v51 := Tryd.zeroValue136
  t53 := Tryd.underlying138
  a53 := Tryd.isAgg138
  z53 := Tryd.sizeOf138
  v53 := Tryd.zeroValue138
  t171 := Tryd.underlying151
  a171 := Tryd.isAgg151
  z171 := Tryd.sizeOf151
  v171 := Tryd.zeroValue151
  t173 := Tryd.underlying153
  a173 := Tryd.isAgg153
  z173 := Tryd.sizeOf153
  v173 := Tryd.zeroValue153
  t212 := Tryd.underlying161
  a212 := Tryd.isAgg161
  z212 := Tryd.sizeOf161
  v212 := Tryd.zeroValue161
  t213 := Tryd.underlying162
  a213 := Tryd.isAgg162
  z213 := Tryd.sizeOf162
  t232 := Tryd.underlying164
  a232 := Tryd.isAgg164
  z232 := Tryd.sizeOf164
  v232 := Tryd.zeroValue164
  t233 := Tryd.underlying165
  a233 := Tryd.isAgg165
  z233 := Tryd.sizeOf165
  v233 := Tryd.zeroValue165
  g17 := by kernel_rfl
  g18 := by kernel_rfl
  g19 := by kernel_rfl
  i0 := by kernel_rfl
  i2 := by kernel_rfl
  i3 := by kernel_rfl
  i4 := by kernel_rfl
  i5 := by kernel_rfl
  i9 := by kernel_rfl
  i20 := by kernel_rfl
  i37 := by kernel_rfl
  i46 := by kernel_rfl
  i51 := by kernel_rfl
  i53 := by kernel_rfl
  i171 := by kernel_rfl
  i173 := by kernel_rfl
  i212 := by kernel_rfl
  i232 := by kernel_rfl
  i233 := by kernel_rfl
  m17 := by kernel_rfl
  m18 := by kernel_rfl
  m19 := by kernel_rfl }
theorem Tryd.strconv_Itoa (n : Int) (h0 : -9223372036854775808 ≤ n) (h1 : n ≤ 9223372036854775807) (w : World) (htab : Lib.TabIs Tryd.prog w "internal/strconv.uint64pow10" .u64 Lib.pow10Tab) :
    Calls Tryd.prog 92 #[.int .i64 n] w fun e w' => e = .returned (.string ⟨(Lib.itoa n).toArray⟩) ∧ ∃ k os, w' = grow (w.drewN k) os := Any.strconv_Itoa Tryd.laysM171 n h0 h1 w htab
end Go.Proofs
set_option maxRecDepth 10000
namespace Ab
open Go Go.Proofs Go.Proofs.YtakpnikkcinckaaDoor
section
variable {H : Type}
theorem kdStr : kindOf Tryd.prog 9 = .str := by kernel_rfl
theorem kdBool : kindOf Tryd.prog 4 = .bool := by kernel_rfl
theorem kdTerm : kindOf Tryd.prog 24 = .struct [9, 4, 22] := by kernel_rfl
theorem kdTerms : kindOf Tryd.prog 22 = .slice 24 := by kernel_rfl
theorem agTerm : aggK Tryd.prog 24 = true := by unfold aggK; rw [kdTerm]
theorem bulkAll_sum : ∀ ds : List (DataW H), Rows.uptoBulkAll ds = (ds.map Rows.uptoBulk).sum
  | [] => by simp [Rows.uptoBulkAll]
  | d :: ds => by simp [Rows.uptoBulkAll, bulkAll_sum ds]
theorem bulk_row {d : DataW H} {ds : List (DataW H)} (h : (d = .nil ∧ ds = []) ∨ ∃ sp, d = .slice ds sp) : (ds.map Rows.uptoBulk).sum + 1 ≤ Rows.uptoBulk d := by
  rcases h with ⟨rfl, rfl⟩ | ⟨sp, rfl⟩
  · simp [Rows.uptoBulk]
  · rw [← bulkAll_sum]; simp only [Rows.uptoBulk]; omega
theorem term_form : ∀ (n : Nat) (d : DataW H) (avs : List AV), toAV Tryd.prog n 24 d = some avs → ∃ t : Term, .agg avs = encT t ∧ t.bulk ≤ Rows.uptoBulk d := by
  intro n
  induction n using Nat.strongRecOn with
  | ind n ih =>
    intro d avs h
    obtain ⟨m, parts, avss, rfl, rfl, hl, hm, rfl⟩ := toAV_struct kdTerm h
    match parts, hl, hm with
    | [d1, d2, d3], _, hm =>
      obtain ⟨h1, h2⟩ := mapM_get hm
      match avss, h1, h2 with
      | [a1, a2, a3], _, h2 =>
        obtain ⟨bs, rfl, rfl⟩ := toAV_str kdStr (h2 0 (by simp) (by simp))
        obtain ⟨b, rfl, rfl⟩ := toAV_bool kdBool (h2 1 (by simp) (by simp))
        obtain ⟨xs, ds, e3, hw, _, hd⟩ := row_form encT Term.bulk Rows.uptoBulk kdTerms (n := m) (fun k d avs hk he => by
          obtain ⟨t, x1, x2⟩ := ih k (by omega) d avs he
          exact ⟨t, by rw [agTerm]; exact x1, x2⟩) (h2 2 (by simp) (by simp))
        simp only [List.getElem_cons_succ, List.getElem_cons_zero] at e3 hd
        subst e3
        have hb := bulk_row (d := d3) hd
        simp only [Rows.uptoBulk, Rows.uptoBulkAll]
        refine ⟨.mk bs b xs, ?_, ?_⟩
        · simp [Term.name, Term.var, Term.args, encTs_map]
        · rw [Term.bulk_mk]; omega
end
theorem tabW_of {W : World} (h : laidMetH Tryd.prog Rows.termPlacesUptoRow.laid W) : TabW W := fun _ => by
  rw [MakeChecks.laidMetH_plain _ _ _ (by kernel_rfl)] at h
  have h3 : laidMet Tryd.prog [("internal/strconv.uint64pow10", Lib.tabData .u64 Lib.pow10Tab)] W := h.tail.tail
  have h4 := Lib.tabIs_of_head (g := 1) (t := 161) (e := 138) (n := 20) (by kernel_rfl) (by kernel_rfl) (by kernel_rfl) (by kernel_rfl) (by kernel_rfl) (by kernel_rfl) h3
  unfold Lib.TabIs World.var? at h4
  rw [show Tryd.prog.globalNamed "internal/strconv.uint64pow10" = some 1 by kernel_rfl] at h4
  simp only [Option.bind_some] at h4
  split at h4
  · rename_i cs e fr he
    injection h4 with h4
    exact ⟨e, fr, by show W.heap[1]? = _; rw [he, h4]; rfl⟩
  · cases h4
theorem itoa_ac (i : Nat) (H : List AObj) (hi : i < 1099511627776) : ACall Tryd.prog 92 [.int .i64 (i : Nat)] H (fun r H' => r = .str (Lib.decDigits i) ∧ H' = H) := by
  intro C vs hg hH hsz hv
  match vs, hsz, hv with
  | ⟨[v]⟩, _, hv =>
    have h0 := hv 0 (by simp) (by simp)
    simp only [List.getElem_cons_zero] at h0
    cases h0 with
    | int k n =>
      obtain ⟨⟨e, fr, htb⟩, _⟩ := hg.tab rfl
      have htab : Lib.TabIs Tryd.prog C.w "internal/strconv.uint64pow10" .u64 Lib.pow10Tab := by
        unfold Lib.TabIs World.var?
        rw [show Tryd.prog.globalNamed "internal/strconv.uint64pow10" = some tabB by kernel_rfl]
        simp only [Option.bind_some, htb]; rfl
      refine (Tryd.strconv_Itoa (i : Int) (by omega) (by omega) C.w htab).mono fun e w' ⟨he, k, os, hw⟩ => ?_
      subst hw
      obtain ⟨hg', hx'⟩ := step_more hg (Go.Sort.grow (C.w.drewN k) os) os rfl ⟨rfl, rfl, rfl⟩
      refine ⟨_, .str (Lib.decDigits i), _, he, rfl, hg', hx', ?_, rfl, hH⟩
      rw [Lib.itoa_nonneg]
      exact .str _
end Ab
set_option maxRecDepth 10000
namespace Ab
open Go Go.Proofs
section
variable {S : Type} (f : S → List UInt8 → S × List UInt8)
def renL : S → List Term → S × List Term
  | s, [] => (s, [])
  | s, .mk n v xs :: r => if v then ((renL (f s n).1 r).1, .mk (f s n).2 true [] :: (renL (f s n).1 r).2) else ((renL (renL s xs).1 r).1, .mk n false (renL s xs).2 :: (renL (renL s xs).1 r).2)
def renP (s : S) (t : Term) : S × Term := match t with
  | .mk n v xs => if v then ((f s n).1, .mk (f s n).2 true []) else ((renL f s xs).1, .mk n false (renL f s xs).2)
theorem renL_cons (s : S) (t : Term) (r : List Term) : renL f s (t :: r) = ((renL f (renP f s t).1 r).1, (renP f s t).2 :: (renL f (renP f s t).1 r).2) := by
  cases t with | mk n v xs => cases v <;> simp [renL, renP]
theorem renL_snoc : ∀ (xs : List Term) (s : S) (t : Term), renL f s (xs ++ [t]) = ((renP f (renL f s xs).1 t).1, (renL f s xs).2 ++ [(renP f (renL f s xs).1 t).2])
  | [], s, t => by rw [List.nil_append, renL_cons]; simp [renL]
  | x :: xs, s, t => by rw [List.cons_append, renL_cons, renL_snoc xs _ t, renL_cons]; simp
theorem renL_length : ∀ (xs : List Term) (s : S), (renL f s xs).2.length = xs.length
  | [], s => by simp [renL]
  | x :: xs, s => by rw [renL_cons]; simp [renL_length xs]
theorem ren_mu (μ : S → Nat) (hμ : ∀ s v, μ (f s v).1 ≤ μ s + 1) (t : Term) : ∀ s, μ (renP f s t).1 ≤ μ s + t.size := by
  induction t using Term.ind with | _ n v xs ih
  intro s
  have key : ∀ (xs : List Term), (∀ x, x ∈ xs → ∀ s, μ (renP f s x).1 ≤ μ s + x.size) → ∀ s, μ (renL f s xs).1 ≤ μ s + (xs.map Term.size).sum := by
    intro xs
    induction xs with
    | nil => intro _ s; simp [renL]
    | cons x xs ih2 =>
      intro h s
      have h1 := h x (by simp) s
      have h2 := ih2 (fun y hy => h y (by simp [hy])) (renP f s x).1
      rw [renL_cons]; simp only [List.map_cons, List.sum_cons]; omega
  rw [Term.size_mk]
  cases v with
  | true => have := hμ s n; simp [renP]; omega
  | false => have := key xs ih s; simp [renP]; omega
theorem renL_mu (μ : S → Nat) (hμ : ∀ s v, μ (f s v).1 ≤ μ s + 1) : ∀ (xs : List Term) s, μ (renL f s xs).1 ≤ μ s + (xs.map Term.size).sum
  | [], s => by simp [renL]
  | x :: xs, s => by
    have h1 := ren_mu f μ hμ x s
    have h2 := renL_mu μ hμ xs (renP f s x).1
    rw [renL_cons]; simp only [List.map_cons, List.sum_cons]; omega
theorem renamed_ac (hp : S → List AObj) (n : Nat) (hlen : ∀ s, (hp s).length = n) (hsc : ∀ s o, o ∈ hp s → OScoped n o) (μ : S → Nat) (hμ : ∀ s v, μ (f s v).1 ≤ μ s + 1) (K : Nat) (g : Nat) (caps : List AV) (hg : callOk Tryd.prog g = true) (hcp : ScopedL n caps)
    (hf : ∀ s v X, μ s < K → v.length ≤ 1099511627775 → ACall Tryd.prog g (.str v :: caps) (hp s ++ X) (fun r H' => r = .str (f s v).2 ∧ H' = hp (f s v).1 ++ X)) (t : Term) :
    t.bulk ≤ 1099511627775 → ∀ s X, μ s + t.size ≤ K → ACall Tryd.prog 70 [encT t, .fn g caps] (hp s ++ X) (fun r H' => r = encT (renP f s t).2 ∧ H' = hp (renP f s t).1 ++ X) := by
  induction t using Term.ind with | _ nm v xs ih
  intro hb s X hK
  have hlen2 := Term.len_le (n := nm) (v := v) (xs := xs)
  have hnl := Term.name_le (n := nm) (v := v) (xs := xs)
  rw [Term.size_mk] at hK
  obtain ⟨G, hG⟩ : ∃ G : S → List AObj, ∀ s, G s = hp s ++ X := ⟨fun s => hp s ++ X, fun _ => rfl⟩
  obtain ⟨N, hN⟩ : ∃ N, N = n + X.length := ⟨_, rfl⟩
  have hGl : ∀ s, (G s).length = N := fun s => by rw [hG, hN]; simp [hlen]
  have hg0 : ∀ s L, (G s ++ L)[N]? = L[0]? := fun q L => by have := agetN (G q) L 0; rw [hGl] at this; exact this
  have hgk : ∀ s L k, (G s ++ L)[N + k]? = L[k]? := fun q L k => by rw [← hGl q]; exact agetN _ _ _
  have ht0 : ∀ s L, (G s ++ L).take N = G s := fun q L => takeE0 (hGl q)
  have htk : ∀ s L k, (G s ++ L).take (N + k) = G s ++ L.take k := fun q L k => takeEN (hGl q)
  have hsk : ∀ s L k x, (G s ++ L).set (N + k) x = G s ++ L.set k x := fun q L k x => hsetEN (hGl q)
  have hs0 : ∀ s L x, (G s ++ L).set N x = G s ++ L.set 0 x := fun q L x => hsetE0 (hGl q)
  have hout : ∀ q k L, scT (N + k) k L → OutOk (G s) (G q ++ L) (N + k) := fun q k L h => by
    rw [hG, hG]; exact outok_hp k (by rw [hlen, hlen]) (fun o ho => by rw [hlen]; exact hsc _ o ho) (by simp [hlen, hN]) (scT_spec h).1 (scT_spec h).2
  have hou0 : ∀ q L, OutOk (G s) (G q ++ L) N = True := fun q L => eq_true (hout q 0 L trivial)
  have houk : ∀ q k L, scT (N + k) k L → OutOk (G s) (G q ++ L) (N + k) = True := fun q k L h => eq_true (hout q k L h)
  have hcpk : ∀ k, ScopedL (N + k) caps := fun k => scopedL_le (n := n) (by omega) caps hcp
  have hcp0 : ScopedL N caps := scopedL_le (n := n) (by omega) caps hcp
  have hf' : ∀ q v L, μ q < K → v.length ≤ 1099511627775 → ACall Tryd.prog g (.str v :: caps) (G q ++ L) (fun r H' => r = .str (f q v).2 ∧ H' = G (f q v).1 ++ L) := fun q v L h1 h2 => by
    have := hf q v (X ++ L) h1 h2
    simpa only [hG, List.append_assoc] using this
  have ih' : ∀ x, x ∈ xs → ∀ q L, μ q + x.size ≤ K → ACall Tryd.prog 70 [encT x, .fn g caps] (G q ++ L) (fun r H' => r = encT (renP f q x).2 ∧ H' = G (renP f q x).1 ++ L) := fun x hx q L h1 => by
    have hbx := Term.arg_le (n := nm) (v := v) hx
    have := ih x hx (by omega) q (X ++ L) h1
    simpa only [hG, List.append_assoc] using this
  have hgoal : ∀ (r : AV) (H' : List AObj), (r = encT (renP f s (.mk nm v xs)).2 ∧ H' = G (renP f s (.mk nm v xs)).1) → (r = encT (renP f s (.mk nm v xs)).2 ∧ H' = hp (renP f s (.mk nm v xs)).1 ++ X) := fun r H' h => by rw [← hG]; exact h
  rw [← hG]
  refine ACall.mono ?_ hgoal
  clear hgoal hG
  refine ACall_V (N) 33 [.cell 4 24] Tryd.func70 rfl rfl rfl ?_
  simp only [push_cast, Nat.reduceAdd, Nat.reduceSub, Nat.reduceMul, Nat.reduceLT, Nat.reduceLeDiff, Nat.reduceEqDiff, Int.reduceToNat, ↓reduceIte, hGl, hg0, hgk, hsk, hs0, hg]
  refine cI (fun hv => ?_) (fun hv => ?_)
  · subst hv
    refine (hf' s nm _ (by omega) (by omega)).to ?_
    simp only [push_cast, Nat.reduceAdd, Nat.reduceSub, Nat.reduceMul, Nat.reduceLT, Nat.reduceLeDiff, Nat.reduceEqDiff, Int.reduceToNat, ↓reduceIte, hGl, hg0, hgk, hsk, hs0, hou0, ht0, renP]
  · have hv : v = false := by simpa using hv
    subst hv
    refine AW_reserve 1 ?_
    refine AW_loopW (maskG 35 [1, 2, 0, 13, 0, 0]) (fun (i : Nat) => [(21, .int .i64 i)]) (fun i => G (renL f s (xs.take i)).1 ++ [.cells [.str nm, .bool false, .sl .none (encTs xs)], .cells [.str [], .bool false, .sl .zero []], .cells [.str nm, .bool false, gSl (N + 3) (encTs (renL f s (xs.take i)).2)], gTok 24 3 (encTs (renL f s (xs.take i)).2)]) (fun i => i ≤ xs.length) (fun i => xs.length - i) 0 (Nat.zero_le _) (by simp only [push_cast, Nat.reduceAdd, Nat.reduceSub, Nat.reduceMul, Nat.reduceLT, Nat.reduceLeDiff, Nat.reduceEqDiff, Int.reduceToNat, ↓reduceIte, hGl, houk, htk, hcpk, renL]) (fun i hi => ?_)
    simp only [push_cast, Nat.reduceAdd, Nat.reduceSub, Nat.reduceMul, Nat.reduceLT, Nat.reduceLeDiff, Nat.reduceEqDiff, Int.reduceToNat, ↓reduceIte, hGl, hg0, hgk, hsk, hs0, hou0, ht0]
    refine cI (fun h => ?_) (fun h => ?_)
    · repeat refine ⟨by omega, ?_⟩
      have hrl := renL_length f (xs.take i) s
      have hmu := renL_mu f μ hμ (xs.take i) s
      have hts := take_sum Term.size xs i (by omega)
      have htl := take_sum_le Term.size xs (i + 1)
      apply AW_drawE [some 25, some 26, some 27, some 28, some 29, some 30, some 31, some 32, none] [([false, false, false], _), ([true, false, false], _), ([true, true, false], _), ([true, true, true], _)] [none, none, none, none, some 0, none, some 1, none, some 2] 3 [(0, [false, false, false], [5]), (1, [false, false, false], [25]), (2, [false, false, false], [7]), (3, [false, false, false], [1]), (4, [false, false, false], [27, 0]), (5, [true, false, false], [29]), (6, [true, false, false], [26, 3]), (7, [true, true, false], [5]), (8, [true, true, false], [31, 0]), (0, [true, false, false], [5]), (0, [true, true, false], [5]), (1, [true, false, false], [25])] [_, _, _, _, _, _, _, _, _]
      case' hm => exact dr
      case' hn => rfl
      case' hok => rfl
      case' hlen => rfl
      case' hd => rfl
      case' h0 => rfl
      case' hstep =>
       simp only [DAllG, push_cast, Option.isSome_some, Option.isSome_none]
       repeat' apply And.intro
       all_goals (apply DOne_V; simp only [push_cast, Nat.reduceAdd, Nat.reduceSub, Nat.reduceMul, Nat.reduceLT, Nat.reduceLeDiff, Nat.reduceEqDiff, Int.reduceToNat, ↓reduceIte, hGl, hg0, hgk, hsk, hs0] <;> first | exact rfl | omega | exact ⟨rfl, rfl⟩ | exact trivial | exact ⟨by omega, rfl⟩ | exact ⟨by omega, by omega, rfl⟩ | exact ⟨by omega, rfl, rfl⟩ | exact ⟨by omega, by omega, rfl, rfl⟩ | exact (ih' _ (List.getElem_mem _) _ _ (by omega)).to ⟨rfl, rfl⟩ | (refine app1_T _ (N + 3) (renL f s (xs.take i)).2 (renP f (renL f s (xs.take i)).1 xs[i]).2 _ rfl rfl (by exact (hgk _ _ 3).trans rfl) sl22 sz24 by24 zr24 rfl (by decide) (by rw [hrl]; simp; omega) ?_; simp only [push_cast, Nat.reduceAdd, Nat.reduceSub, Nat.reduceMul, Nat.reduceLT, Nat.reduceLeDiff, Nat.reduceEqDiff, Int.reduceToNat, ↓reduceIte, hGl, hg0, hgk, hsk, hs0]; exact ⟨rfl, rfl⟩))
      case' hQ => skip
      simp only [push_cast, Nat.reduceAdd, Nat.reduceSub, Nat.reduceMul, Nat.reduceLT, Nat.reduceLeDiff, Nat.reduceEqDiff, Int.reduceToNat, ↓reduceIte, hGl, hg0, hgk, hsk, hs0, hou0, ht0]
      repeat' first | refine ⟨by omega, ?_⟩ | refine cI (fun _ => ?_) (fun _ => ?_)
      exact loopW_n (i + 1) (by omega) (by omega) (by simp only [push_cast, Nat.reduceAdd, Nat.reduceSub, Nat.reduceMul, Nat.reduceLT, Nat.reduceLeDiff, Nat.reduceEqDiff, Int.reduceToNat, ↓reduceIte, List.take_succ_eq_append_getElem (show i < xs.length by omega), renL_snoc, hGl, houk, htk, hcpk])
    · simp only [push_cast, Nat.reduceAdd, Nat.reduceSub, Nat.reduceMul, Nat.reduceLT, Nat.reduceLeDiff, Nat.reduceEqDiff, Int.reduceToNat, ↓reduceIte, List.take_of_length_le (show xs.length ≤ i by omega), renP]
end
end Ab
set_option maxRecDepth 10000
namespace Ab
open Go Go.Proofs
def xName (i : Nat) : List UInt8 := 120 :: Lib.decDigits i
def stdF (l : List (List UInt8)) (v : List UInt8) : List (List UInt8) × List UInt8 := if v ∈ l then (l, xName (l.idxOf v)) else (l ++ [v], xName l.length)
def stdM (l : List (List UInt8)) : List (List UInt8 × List UInt8) := l.zipIdx.map fun p => (p.1, xName p.2)
theorem stdF_len (l : List (List UInt8)) (v : List UInt8) : (stdF l v).1.length ≤ l.length + 1 := by unfold stdF; split <;> simp
theorem stdM_get (l : List (List UInt8)) (v : List UInt8) : aget (stdM l) v = if v ∈ l then some (xName (l.idxOf v)) else none := by
  have key : ∀ (l : List (List UInt8)) (k : Nat), aget ((l.zipIdx k).map fun p => (p.1, xName p.2)) v = if v ∈ l then some (xName (k + l.idxOf v)) else none := by
    intro l
    induction l with
    | nil => intro k; simp [aget]
    | cons a l ih =>
      intro k
      simp only [List.zipIdx_cons, List.map_cons, aget, ih]
      by_cases h : a = v
      · subst h; simp
      · have h' : ¬ v = a := fun e => h e.symm
        simp only [h, if_false, List.mem_cons, h', false_or, List.idxOf_cons]
        have hb : (a == v) = false := by simp [h]
        simp only [hb, cond_false]
        split
        · congr 2; omega
        · rfl
  have := key l 0
  simpa [stdM] using this
theorem stdM_set (l : List (List UInt8)) (v : List UInt8) (h : v ∉ l) : aset (stdM l) v (xName l.length) = stdM (l ++ [v]) := by
  have := (aget_none (k := v) (m := stdM l) (fun p hp => by
    simp only [stdM, List.mem_map] at hp
    obtain ⟨q, hq, rfl⟩ := hp
    intro e
    have := List.fst_mem_of_mem_zipIdx (x := q) hq
    exact h (e ▸ this))).2 (xName l.length)
  rw [this]; simp [stdM, List.zipIdx_append]
theorem stdM_len (l : List (List UInt8)) : (stdM l).length = l.length := by simp [stdM]
@[reducible] def stdO (n : Nat) (l : List (List UInt8)) : List AObj := [.map l.length (amap AV.str AV.str (stdM l)), .cells [.map n]]
theorem std11_ac (H : List AObj) (K : Nat) (hit : ∀ i H, i < K → ACall Tryd.prog 92 [.int .i64 (i : Nat)] H (fun r H' => r = .str (Lib.decDigits i) ∧ H' = H)) (l : List (List UInt8)) (v : List UInt8) (X : List AObj) (hl : l.length < K) (hK : K ≤ 1099511627776) (hv : v.length ≤ 1099511627775) (hd : (Lib.decDigits l.length).length ≤ 1099511627775) :
    ACall Tryd.prog 91 [.str v, .ptr (H.length + 1) 0] (H ++ stdO H.length l ++ X) (fun r H' => r = .str (stdF l v).2 ∧ H' = H ++ stdO H.length (stdF l v).1 ++ X) := by
  refine ACall_sc (fun hsc _ => ?_)
  refine ACall_V ((H ++ stdO H.length l ++ X).length) 15 [.tmp 3] Tryd.func91 rfl rfl rfl ?_
  simp only [push_cast, Nat.reduceAdd, Nat.reduceSub, Nat.reduceMul, Nat.reduceLT, Nat.reduceLeDiff, Nat.reduceEqDiff, Int.reduceToNat, ↓reduceIte]
  refine AOp_lookup (strKey un9) AV.str (stdM l) H.length _ v (.str []) rfl (by exact aget0 _ _ _) rfl un105 (ZeroV_of (.string ⟨#[]⟩) (by kernel_rfl)) ?_
  rw [stdM_get]
  by_cases hm : v ∈ l
  · have hs : stdF l v = (l, xName (l.idxOf v)) := by unfold stdF; rw [if_pos hm]
    rw [hs]
    simp only [push_cast, Nat.reduceAdd, Nat.reduceSub, Nat.reduceMul, Nat.reduceLT, Nat.reduceLeDiff, Nat.reduceEqDiff, Int.reduceToNat, ↓reduceIte, hm, xName]
    refine AOp_lookup (strKey un9) AV.str (stdM l) H.length _ v (.str []) rfl (by exact aget0 _ _ _) rfl un105 (ZeroV_of (.string ⟨#[]⟩) (by kernel_rfl)) ?_
    rw [stdM_get]
    simp only [push_cast, Nat.reduceAdd, Nat.reduceSub, Nat.reduceMul, Nat.reduceLT, Nat.reduceLeDiff, Nat.reduceEqDiff, Int.reduceToNat, ↓reduceIte, hm, xName]
    exact outok_upd [_, _] [_, _] rfl (by intro o ho; simp only [List.mem_cons, List.not_mem_nil, or_false] at ho; rcases ho with rfl | rfl; exact osc_amap _ _ _ _ _ (fun _ => trivial) (fun _ => trivial); simp [OScoped, ScopedL, Scoped]) (by simp)
  · have hs : stdF l v = (l ++ [v], xName l.length) := by unfold stdF; rw [if_neg hm]
    rw [hs]
    simp only [push_cast, Nat.reduceAdd, Nat.reduceSub, Nat.reduceMul, Nat.reduceLT, Nat.reduceLeDiff, Nat.reduceEqDiff, Int.reduceToNat, ↓reduceIte, hm]
    apply AW_drawE [some 8, some 9, some 10, some 11, some 12, some 13, none] [([false], _), ([true], _)] [none, none, none, none, none, none, some 0] 1 [(0, [false], [1]), (1, [false], [0]), (2, [false], [1]), (3, [false], [10]), (4, [false], [11]), (5, [false], [12]), (6, [false], [8, 0, 3])] [_, _, _, _, _, _, _]
    case' hm => exact dr
    case' hn => rfl
    case' hok => rfl
    case' hlen => rfl
    case' hd => rfl
    case' h0 => rfl
    case' hstep =>
     simp only [DAllG, push_cast, Option.isSome_some, Option.isSome_none]
     repeat' apply And.intro
     all_goals (apply DOne_V; simp only [push_cast, Nat.reduceAdd, Nat.reduceSub, Nat.reduceMul, Nat.reduceLT, Nat.reduceLeDiff, Nat.reduceEqDiff, Int.reduceToNat, ↓reduceIte, amap_length, stdM_len] <;> first | exact rfl | omega | exact ⟨rfl, rfl⟩ | exact trivial | exact ⟨by omega, rfl⟩ | exact ⟨by omega, by omega, rfl⟩ | exact ⟨by omega, rfl, rfl⟩ | exact ⟨by omega, by omega, rfl, rfl⟩ | (refine AOp_len_map _ _ _ rfl (by exact aget0 _ _ _) un105 ?_; simp only [push_cast, Nat.reduceAdd, Nat.reduceSub, Nat.reduceMul, Nat.reduceLT, Nat.reduceLeDiff, Nat.reduceEqDiff, Int.reduceToNat, ↓reduceIte, amap_length, stdM_len]; first | exact rfl | exact ⟨rfl, rfl⟩) | exact (hit _ _ hl).to ⟨rfl, rfl⟩ | (refine AOp_mapUpdate (strKey un9) AV.str (stdM l) _ _ v (xName l.length) rfl (by exact aget0 _ _ _) rfl rfl un105 ?_; rw [stdM_set l v hm]; simp only [push_cast, Nat.reduceAdd, Nat.reduceSub, Nat.reduceMul, Nat.reduceLT, Nat.reduceLeDiff, Nat.reduceEqDiff, Int.reduceToNat, ↓reduceIte]; exact ⟨rfl, rfl⟩))
    case' hQ => skip
    simp only [push_cast, Nat.reduceAdd, Nat.reduceSub, Nat.reduceMul, Nat.reduceLT, Nat.reduceLeDiff, Nat.reduceEqDiff, Int.reduceToNat, ↓reduceIte]
    refine AOp_lookup (strKey un9) AV.str (stdM (l ++ [v])) H.length _ v (.str []) rfl (by exact aget0 _ _ _) rfl un105 (ZeroV_of (.string ⟨#[]⟩) (by kernel_rfl)) ?_
    have hx : (l ++ [v]).idxOf v = l.length := by rw [List.idxOf_append]; simp [hm]
    rw [stdM_get, if_pos (by simp), hx]
    simp only [push_cast, Nat.reduceAdd, Nat.reduceSub, Nat.reduceMul, Nat.reduceLT, Nat.reduceLeDiff, Nat.reduceEqDiff, Int.reduceToNat, ↓reduceIte, List.length_append]
    exact outok_upd [_, _] [_, _] rfl (by intro o ho; simp only [List.mem_cons, List.not_mem_nil, or_false] at ho; rcases ho with rfl | rfl; exact osc_amap _ _ _ _ _ (fun _ => trivial) (fun _ => trivial); simp [OScoped, ScopedL, Scoped]) (by simp)
theorem standard_ac (H : List AObj) : ACall Tryd.prog 51 [] H (fun r H' => r = .fn 90 [.ptr (H.length + 1) 0] ∧ H' = H ++ stdO H.length []) := by
  refine ACall_V (H.length + 2) 4 [.tmp 0] Tryd.func51 rfl rfl rfl ?_
  simp only [push_cast, Nat.reduceAdd, Nat.reduceSub, Nat.reduceMul, Nat.reduceLT, Nat.reduceLeDiff, Nat.reduceEqDiff, Int.reduceToNat, ↓reduceIte]
  refine ⟨outok_app (L := stdO H.length []) 2 rfl (Nat.le_refl _) ?_, rfl⟩
  intro o ho
  simp only [List.take_succ_cons, List.take_zero, List.mem_cons, List.not_mem_nil, or_false] at ho
  rcases ho with rfl | rfl
  · intro e he; cases he
  · simp [OScoped, ScopedL, Scoped]
def canonP (t : Term) : Term := (renP stdF [] t).2
theorem std1_ac (H : List AObj) (hH : ∀ o, o ∈ H → OScoped H.length o) (K : Nat) (hit : ∀ i H, i < K → ACall Tryd.prog 92 [.int .i64 (i : Nat)] H (fun r H' => r = .str (Lib.decDigits i) ∧ H' = H)) (hK : K ≤ 1099511627776) (hd : ∀ i, i < K → (Lib.decDigits i).length ≤ 1099511627775) (l : List (List UInt8)) (t : Term) (hb : t.bulk ≤ 1099511627775) (hl : l.length + t.size ≤ K) :
    ACall Tryd.prog 90 [encT t, .ptr (H.length + 1) 0] (H ++ stdO H.length l) (fun r H' => r = encT (renP stdF l t).2 ∧ H' = H ++ stdO H.length (renP stdF l t).1) := by
  have hso : ∀ l o, o ∈ H ++ stdO H.length l → OScoped (H.length + 2) o := by
    intro l o ho
    rcases List.mem_append.1 ho with h | h
    · exact (hH o h).le (by omega)
    · simp only [List.mem_cons, List.not_mem_nil, or_false] at h
      rcases h with rfl | rfl
      · exact osc_amap _ _ _ _ _ (fun _ => trivial) (fun _ => trivial)
      · simp [OScoped, ScopedL, Scoped]
  refine ACall_V (H.length + 2) 5 [.cell 3 24] Tryd.func90 rfl rfl rfl ?_
  simp only [push_cast, Nat.reduceAdd, Nat.reduceSub, Nat.reduceMul, Nat.reduceLT, Nat.reduceLeDiff, Nat.reduceEqDiff, Int.reduceToNat, ↓reduceIte]
  have hr := renamed_ac stdF (fun l => H ++ stdO H.length l) (H.length + 2) (fun _ => by simp) hso List.length stdF_len K 91 [.ptr (H.length + 1) 0] ok91 (by simp [ScopedL, Scoped]) (fun l v X h1 h2 => std11_ac H K hit l v X h1 hK h2 (hd _ h1)) t hb l [.cells [.str t.name, .bool t.var, .sl .none (encTs t.args)], .cells [.str [], .bool false, .sl .zero []]] hl
  simp only [push_cast, Nat.reduceAdd, Nat.reduceSub, Nat.reduceMul, Nat.reduceLT, Nat.reduceLeDiff, Nat.reduceEqDiff, Int.reduceToNat, ↓reduceIte] at hr
  refine hr.to ?_
  simp only [push_cast, Nat.reduceAdd, Nat.reduceSub, Nat.reduceMul, Nat.reduceLT, Nat.reduceLeDiff, Nat.reduceEqDiff, Int.reduceToNat, ↓reduceIte]
  exact outok_upd2 (stdO H.length l) [_, _] [_, _] rfl (fun o ho => hso (renP stdF l t).1 o (List.mem_append_right _ ho)) rfl
theorem canonical_ac (K : Nat) (hit : ∀ i H, i < K → ACall Tryd.prog 92 [.int .i64 (i : Nat)] H (fun r H' => r = .str (Lib.decDigits i) ∧ H' = H)) (hK : K ≤ 1099511627776) (hd : ∀ i, i < K → (Lib.decDigits i).length ≤ 1099511627775) (t : Term) (hb : t.bulk ≤ 1099511627775) (hs : checkP t = 0 → t.size ≤ K) (H : List AObj) :
    ACall Tryd.prog 10 [encT t] H (fun r H' => r = encRE (if checkP t = 0 then (canonP t, 0) else (zeroT, checkP t)) ∧ H' = H) := by
  refine ACall_sc (fun hsc _ => ?_)
  refine ACall_V (H.length) 13 [.cell 2 24, .tmp 3] Tryd.func10 rfl rfl rfl ?_
  simp only [push_cast, Nat.reduceAdd, Nat.reduceSub, Nat.reduceMul, Nat.reduceLT, Nat.reduceLeDiff, Nat.reduceEqDiff, Int.reduceToNat, ↓reduceIte]
  refine (check_ac t hb _).to ?_
  simp only [push_cast, Nat.reduceAdd, Nat.reduceSub, Nat.reduceMul, Nat.reduceLT, Nat.reduceLeDiff, Nat.reduceEqDiff, Int.reduceToNat, ↓reduceIte]
  refine cI (fun h => ?_) (fun h => ?_)
  · have hr := std1_ac (H ++ [.cells [.str t.name, .bool t.var, .sl .none (encTs t.args)], .cells [.str [], .bool false, .sl .zero []]]) (by
      intro o ho
      rcases List.mem_append.1 ho with h | h
      · exact (hsc o h).le (by simp)
      · simp only [List.mem_cons, List.not_mem_nil, or_false] at h
        rcases h with rfl | rfl <;> simp [OScoped, ScopedL, Scoped, scoped_encTs]) K hit hK hd [] t hb (by have := hs h; simp; omega)
    simp only [push_cast, Nat.reduceAdd, Nat.reduceSub, Nat.reduceMul, Nat.reduceLT, Nat.reduceLeDiff, Nat.reduceEqDiff, Int.reduceToNat, ↓reduceIte] at hr
    apply AW_drawE [some 11, some 12, some 13, none, some 3] [([false, false, false], _), ([true, false, false], _), ([true, true, false], _), ([true, true, true], _)] [some 0, none, some 1, some 2, none] 3 [(0, [false, false, false], []), (1, [true, false, false], [1]), (2, [true, false, false], [11, 0]), (3, [true, true, false], [2, 10]), (4, [true, true, true], []), (1, [false, false, false], [1])] [_, _, _, _, _]
    case' hm => exact dr
    case' hn => rfl
    case' hok => rfl
    case' hlen => rfl
    case' hd => rfl
    case' h0 => rfl
    case' hstep =>
     simp only [DAllG, push_cast, Option.isSome_some, Option.isSome_none]
     repeat' apply And.intro
     all_goals (apply DOne_V; simp only [push_cast, Nat.reduceAdd, Nat.reduceSub, Nat.reduceMul, Nat.reduceLT, Nat.reduceLeDiff, Nat.reduceEqDiff, Int.reduceToNat, ↓reduceIte] <;> first | exact rfl | omega | exact ⟨rfl, rfl⟩ | exact trivial | exact ⟨by omega, rfl⟩ | exact ⟨by omega, by omega, rfl⟩ | exact ⟨by omega, rfl, rfl⟩ | exact ⟨by omega, by omega, rfl, rfl⟩ | exact (standard_ac _).to ⟨rfl, rfl⟩ | exact hr.to ⟨rfl, rfl⟩)
    case' hQ => skip
    simp only [push_cast, Nat.reduceAdd, Nat.reduceSub, Nat.reduceMul, Nat.reduceLT, Nat.reduceLeDiff, Nat.reduceEqDiff, Int.reduceToNat, ↓reduceIte, h, canonP]
  · simp only [push_cast, Nat.reduceAdd, Nat.reduceSub, Nat.reduceMul, Nat.reduceLT, Nat.reduceLeDiff, Nat.reduceEqDiff, Int.reduceToNat, ↓reduceIte, h]
end Ab
set_option maxRecDepth 10000
namespace Ab
open Go Go.Proofs
def markedP (s : List UInt8) : Bool := decide (s.getLast? = some 35)
theorem trim_marked (s : List UInt8) : trimSuffix s [35] = if markedP s then s.take (s.length - 1) else s := by
  unfold trimSuffix markedP
  rcases Nat.eq_zero_or_pos s.length with h0 | h0
  · have hn : s = [] := List.eq_nil_of_length_eq_zero h0
    subst hn; simp
  · have hd : s.drop (s.length - 1) = [s[s.length - 1]'(by omega)] := by
      rw [List.drop_eq_getElem_cons (show s.length - 1 < s.length by omega), List.drop_eq_nil_of_le (by omega)]
    have hgl : s.getLast? = some (s[s.length - 1]'(by omega)) := by rw [List.getLast?_eq_getElem?, List.getElem?_eq_getElem]
    have h1 : 1 ≤ s.length := h0
    simp [hd, hgl, h1]
theorem marked_pos (s : List UInt8) (h : markedP s = true) : 0 < s.length := by
  cases s with
  | nil => simp [markedP] at h
  | cons a r => simp
theorem all_not_any (s : List UInt8) : (!s.any fun c => !inNameB c) = s.all inNameB := by simp [List.not_any_eq_all_not]
def cmpI (a b : Int) : Int := if a < b then -1 else if b < a then 1 else 0
theorem compareBytes_drop : ∀ (a b : List UInt8) (i : Nat), a.take i = b.take i → i ≤ a.length → i ≤ b.length → Lib.compareBytes a b = Lib.compareBytes (a.drop i) (b.drop i)
  | a, b, 0, _, _, _ => rfl
  | [], _, _ + 1, _, h, _ => by simp at h
  | _ :: _, [], _ + 1, _, _, h => by simp at h
  | x :: a, y :: b, i + 1, h, h1, h2 => by
    simp only [List.take_succ_cons, List.cons.injEq] at h
    rw [List.drop_succ_cons, List.drop_succ_cons, ← compareBytes_drop a b i h.2 (by simpa using h1) (by simpa using h2)]
    rw [h.1]
    have : ¬ y < y := by simp
    conv => lhs; unfold Lib.compareBytes
    simp [this]
theorem cmpI_len (a b : Nat) : (cmpI a b = 0 ↔ a = b) ∧ (¬ cmpI a b = 0 → ∀ r : Int, (if a < b then -1 else if b < a then 1 else r) = cmpI a b) := by
  unfold cmpI
  constructor
  · split
    · simp; omega
    · split
      · simp; omega
      · simp; omega
  · intro h r
    rcases Nat.lt_trichotomy a b with hl | hl | hl
    · simp [hl]
    · simp [hl] at h
    · have h2 : ¬ a < b := by omega
      simp [hl, h2]
theorem compareBytes_eq : ∀ a b : List UInt8, Lib.compareBytes a b = 0 ↔ a = b
  | [], [] => by simp [Lib.compareBytes]
  | [], _ :: _ => by simp [Lib.compareBytes]
  | _ :: _, [] => by simp [Lib.compareBytes]
  | a :: ar, b :: bs => by
    have ih := compareBytes_eq ar bs
    unfold Lib.compareBytes
    by_cases h1 : a < b
    · simp [h1]; intro e; subst e; exact absurd h1 (by simp)
    · by_cases h2 : b < a
      · simp [h1, h2]; intro e; subst e; exact absurd h2 (by simp)
      · have : a = b := by
          apply UInt8.le_antisymm
          · simpa using h2
          · simpa using h1
        simp [h1, h2, this, ih]
def cmpC (n : List UInt8) (v : Bool) (k : Nat) (m : List UInt8) (u : Bool) (j : Nat) (rest : Int) : Int :=
  if v ≠ u then (if v then -1 else 1) else if Lib.compareBytes n m ≠ 0 then Lib.compareBytes n m else if k < j then -1 else if j < k then 1 else rest
def cmpTs : List Term → List Term → Int
  | .mk n v xs :: r, .mk m u ys :: r' => if cmpC n v xs.length m u ys.length (cmpTs xs ys) ≠ 0 then cmpC n v xs.length m u ys.length (cmpTs xs ys) else cmpTs r r'
  | _, _ => 0
def cmpT (a b : Term) : Int := cmpC a.name a.var a.args.length b.name b.var b.args.length (cmpTs a.args b.args)
theorem cmpTs_cons (x y : Term) (r r' : List Term) : cmpTs (x :: r) (y :: r') = if cmpT x y ≠ 0 then cmpT x y else cmpTs r r' := by
  cases x; cases y; simp only [cmpTs, cmpT, Term.name, Term.var, Term.args]; rfl
theorem cmpTs_nil (ys : List Term) : cmpTs [] ys = 0 := by cases ys <;> simp [cmpTs]
theorem cmpTs_drop : ∀ (xs ys : List Term) (i : Nat), (∀ j (h1 : j < xs.length) (h2 : j < ys.length), j < i → cmpT xs[j] ys[j] = 0) → xs.length = ys.length → cmpTs xs ys = cmpTs (xs.drop i) (ys.drop i)
  | xs, ys, 0, _, _ => rfl
  | [], [], _ + 1, _, _ => rfl
  | [], _ :: _, _ + 1, _, h => by simp at h
  | _ :: _, [], _ + 1, _, h => by simp at h
  | x :: xs, y :: ys, i + 1, h, hl => by
    have h0 := h 0 (by simp) (by simp) (by omega)
    simp only [List.getElem_cons_zero] at h0
    rw [cmpTs_cons, List.drop_succ_cons, List.drop_succ_cons, if_neg (by omega)]
    refine cmpTs_drop xs ys i (fun j h1 h2 hj => ?_) (by simpa using hl)
    have h3 := h (j + 1) (by simp; omega) (by simp; omega) (by omega)
    simp only [List.getElem_cons_succ] at h3; exact h3
theorem cmpTs_iff : ∀ (xs ys : List Term), xs.length = ys.length → (cmpTs xs ys = 0 ↔ xs = ys)
  | [], [], _ => by simp [cmpTs]
  | [], _ :: _, h => by simp at h
  | _ :: _, [], h => by simp at h
  | .mk n v xs :: r, .mk m u ys :: r', h => by
    have h1 := cmpTs_iff r r' (by simpa using h)
    have h2 := cmpTs_iff xs ys
    have h3 := compareBytes_eq n m
    unfold cmpTs cmpC
    have h0 : Lib.compareBytes m m = 0 := (compareBytes_eq m m).2 rfl
    by_cases hv : v = u
    · by_cases hn : n = m
      · rcases Nat.lt_trichotomy xs.length ys.length with hl | hl | hl
        · have : ¬ xs = ys := fun e => by rw [e] at hl; omega
          simp [hv, h3.2 hn, hl, this]
        · have h2 := h2 hl
          simp only [hv, h3.2 hn, hl, Nat.lt_irrefl, if_false, ne_eq, not_true_eq_false, hn, List.cons.injEq, Term.mk.injEq, true_and, and_assoc]
          by_cases hc : cmpTs xs ys = 0
          · have e := h2.1 hc; simp [h0, h1, e, e ▸ hc]
          · have : ¬ xs = ys := fun e => hc (h2.2 e)
            simp [h0, hc, this]
        · have : ¬ xs = ys := fun e => by rw [e] at hl; omega
          have h4 : ¬ xs.length < ys.length := by omega
          simp [hv, h3.2 hn, hl, h4, this]
      · have h3' : ¬ Lib.compareBytes n m = 0 := fun e => hn (h3.1 e)
        simp [hv, h3', hn]
    · cases v <;> cases u <;> simp_all
theorem cmpT_iff (a b : Term) : cmpT a b = 0 ↔ a = b := by
  have := cmpTs_iff [a] [b] rfl
  rw [cmpTs_cons] at this
  simp only [cmpTs, List.cons.injEq, and_true] at this
  rw [← this]
  by_cases h : cmpT a b = 0 <;> simp [h]
theorem letter_ac (c : Int) (H : List AObj) : ACall Tryd.prog 72 [.int .u8 c] H (fun r H' => r = .bool (inName c) ∧ H' = H) := by
  refine ACall_V (H.length) 32 [.tmp 2] Tryd.func72 rfl rfl rfl ?_
  simp only [push_cast, Nat.reduceAdd, Nat.reduceSub, Nat.reduceMul, Nat.reduceLT, Nat.reduceLeDiff, Nat.reduceEqDiff, Int.reduceToNat, ↓reduceIte]
  unfold inName
  repeat' first | refine ⟨by omega, ?_⟩ | refine cI (fun _ => ?_) (fun _ => ?_)
  all_goals (rw [Bool.eq_iff_iff]; simp; omega)
theorem letters_ac (s : List UInt8) (hlen : s.length < 1099511627776) (H : List AObj) : ACall Tryd.prog 28 [.str s] H (fun r H' => r = .bool (s.all inNameB) ∧ H' = H) := by
  refine ACall_V (H.length) 14 [.tmp 2] Tryd.func28 rfl rfl rfl ?_
  simp only [push_cast, Nat.reduceAdd, Nat.reduceSub, Nat.reduceMul, Nat.reduceLT, Nat.reduceLeDiff, Nat.reduceEqDiff, Int.reduceToNat, ↓reduceIte]
  refine AW_loopW (maskG 15 [0, 4, 0]) (fun (i : Nat) => [(6, .int .i64 i)]) (fun _ => H) (fun i => i ≤ s.length ∧ (s.take i).all inNameB = true) (fun i => s.length - i) 0 ⟨Nat.zero_le _, by simp⟩ (by simp only [push_cast, Nat.reduceAdd, Nat.reduceSub, Nat.reduceMul, Nat.reduceLT, Nat.reduceLeDiff, Nat.reduceEqDiff, Int.reduceToNat, ↓reduceIte]) (fun i hi => ?_)
  simp only [push_cast, Nat.reduceAdd, Nat.reduceSub, Nat.reduceMul, Nat.reduceLT, Nat.reduceLeDiff, Nat.reduceEqDiff, Int.reduceToNat, ↓reduceIte]
  refine cI (fun h => ?_) (fun h => ?_)
  · repeat refine ⟨by omega, ?_⟩
    refine (letter_ac _ _).to ?_
    simp only [push_cast, Nat.reduceAdd, Nat.reduceSub, Nat.reduceMul, Nat.reduceLT, Nat.reduceLeDiff, Nat.reduceEqDiff, Int.reduceToNat, ↓reduceIte]
    refine cI (fun hb => ?_) (fun hb => ?_)
    · repeat' first | refine ⟨by omega, ?_⟩ | refine cI (fun _ => ?_) (fun _ => ?_)
      exact loopW_n (i + 1) ⟨by omega, all_take_true hi.2 (by omega) hb⟩ (by omega) (by simp only [push_cast, Nat.reduceAdd, Nat.reduceSub, Nat.reduceMul, Nat.reduceLT, Nat.reduceLeDiff, Nat.reduceEqDiff, Int.reduceToNat, ↓reduceIte])
    · rw [all_get (p := inNameB) (i := i) (by omega) (by simpa [inNameB] using hb)]
  · have hs : s.take i = s := List.take_of_length_le (by omega)
    rw [hs] at hi
    rw [hi.2]
theorem markedR_ac (s : List UInt8) (hlen : s.length < 1099511627776) (H : List AObj) : ACall Tryd.prog 67 [.str s] H (fun r H' => r = .bool (markedP s) ∧ H' = H) := by
  refine ACall_V (H.length) 12 [.tmp 2] Tryd.func67 rfl rfl rfl ?_
  simp only [push_cast, Nat.reduceAdd, Nat.reduceSub, Nat.reduceMul, Nat.reduceLT, Nat.reduceLeDiff, Nat.reduceEqDiff, Int.reduceToNat, ↓reduceIte]
  refine cI (fun h => ?_) (fun h => ?_)
  · subst h; simp [markedP]
  · have h0 : 0 < s.length := List.length_pos_iff.2 h
    repeat refine ⟨by omega, ?_⟩
    have hgl : s.getLast? = some (s[s.length - 1]'(by omega)) := by rw [List.getLast?_eq_getElem?, List.getElem?_eq_getElem]
    unfold markedP
    rw [hgl, Bool.eq_iff_iff, decide_eq_true_iff, decide_eq_true_iff]
    constructor
    · intro h
      have : (s[s.length - 1]'(by omega)).toNat = (35 : UInt8).toNat := by show _ = 35; omega
      rw [UInt8.toNat_inj.1 this]
    · intro h; injection h with h; rw [h]; rfl
theorem isNameR_ac (s : List UInt8) (m : Bool) (hlen : s.length < 1099511627776) (H : List AObj) : ACall Tryd.prog 25 [.str s, .bool m] H (fun r H' => r = .bool (isNameP s m) ∧ H' = H) := by
  have ht := trim_marked s
  refine ACall_V (H.length) 22 [.tmp 4] Tryd.func25 rfl rfl rfl ?_
  simp only [push_cast, Nat.reduceAdd, Nat.reduceSub, Nat.reduceMul, Nat.reduceLT, Nat.reduceLeDiff, Nat.reduceEqDiff, Int.reduceToNat, ↓reduceIte]
  refine cI (fun h => ?_) (fun h => ?_)
  · have h24 : ¬ s.length ≤ 24 := by omega
    simp [isNameP, h24]
  · have h24 : s.length ≤ 24 := by omega
    refine cI (fun hm => (markedR_ac s hlen _).to ?_) (fun hm => ?_)
    · simp only [push_cast, Nat.reduceAdd, Nat.reduceSub, Nat.reduceMul, Nat.reduceLT, Nat.reduceLeDiff, Nat.reduceEqDiff, Int.reduceToNat, ↓reduceIte]
      refine cI (fun hk => ?_) (fun hk => ?_)
      · have h0 := marked_pos s hk
        repeat refine ⟨by omega, ?_⟩
        rw [hk] at ht
        simp only [if_true] at ht
        refine cI (fun he => ?_) (fun he => ?_)
        · simp [isNameP, hm, ht, he, h24]
        · refine (letters_ac _ (by simp only [List.length_take]; omega) _).to ?_
          simp only [push_cast, Nat.reduceAdd, Nat.reduceSub, Nat.reduceMul, Nat.reduceLT, Nat.reduceLeDiff, Nat.reduceEqDiff, Int.reduceToNat, ↓reduceIte]
          simp [isNameP, hm, ht, he, h24, all_not_any]
      · simp only [Bool.not_eq_true] at hk
        rw [hk] at ht
        simp at ht
        refine cI (fun he => ?_) (fun he => ?_)
        · subst he; simp [isNameP, trimSuffix]
        · refine (letters_ac _ (by omega) _).to ?_
          simp only [push_cast, Nat.reduceAdd, Nat.reduceSub, Nat.reduceMul, Nat.reduceLT, Nat.reduceLeDiff, Nat.reduceEqDiff, Int.reduceToNat, ↓reduceIte]
          simp [isNameP, hm, ht, he, h24, all_not_any]
    · refine cI (fun he => ?_) (fun he => ?_)
      · simp [isNameP, hm, he, h24]
      · refine (letters_ac _ (by omega) _).to ?_
        simp only [push_cast, Nat.reduceAdd, Nat.reduceSub, Nat.reduceMul, Nat.reduceLT, Nat.reduceLeDiff, Nat.reduceEqDiff, Int.reduceToNat, ↓reduceIte]
        simp [isNameP, hm, he, h24, all_not_any]
theorem sizeR_ac (t : Term) : t.bulk ≤ 1099511627776 → ∀ H, ACall Tryd.prog 34 [encT t] H (fun r H' => r = .int .i64 t.size ∧ H' = H) := by
  induction t using Term.ind with | _ n v xs ih
  intro hb H
  have hs := (Term.mk n v xs).size_le
  have hlen := Term.len_le (n := n) (v := v) (xs := xs)
  rw [Term.size_mk] at hs ⊢
  refine ACall_W (H.length) 18 [.tmp 2] Tryd.func34 rfl rfl rfl ?_
  simp only [push_cast, Nat.reduceAdd, Nat.reduceSub, Nat.reduceMul, Nat.reduceLT, Nat.reduceLeDiff, Nat.reduceEqDiff, Int.reduceToNat, ↓reduceIte]
  refine AW_loopW (maskG 19 [3, 3, 0, 0]) (fun (i : Nat) => [(9, .int .i64 i), (3, .int .i64 (1 + ((xs.take i).map Term.size).sum : Nat))]) (fun _ => H) (fun i => i ≤ xs.length) (fun i => xs.length - i) 0 (Nat.zero_le _) (by simp only [push_cast, Nat.reduceAdd, Nat.reduceSub, Nat.reduceMul, Nat.reduceLT, Nat.reduceLeDiff, Nat.reduceEqDiff, Int.reduceToNat, ↓reduceIte]; simp) (fun i hi => ?_)
  simp only [push_cast, Nat.reduceAdd, Nat.reduceSub, Nat.reduceMul, Nat.reduceLT, Nat.reduceLeDiff, Nat.reduceEqDiff, Int.reduceToNat, ↓reduceIte]
  refine cI (fun h => ⟨by omega, (ih _ (List.getElem_mem _) (arg_bulk hb i (by omega)) _).to ?_⟩) (fun h => ?_)
  · have e := take_sum Term.size xs i (by omega)
    have hle := take_sum_le Term.size xs (i + 1)
    simp only [push_cast, Nat.reduceAdd, Nat.reduceSub, Nat.reduceMul, Nat.reduceLT, Nat.reduceLeDiff, Nat.reduceEqDiff, Int.reduceToNat, ↓reduceIte]
    repeat' first | refine ⟨by omega, ?_⟩ | refine cI (fun _ => ?_) (fun _ => ?_)
    exact loopW_n (i + 1) (by omega) (by omega) (by simp only [push_cast, Nat.reduceAdd, Nat.reduceSub, Nat.reduceMul, Nat.reduceLT, Nat.reduceLeDiff, Nat.reduceEqDiff, Int.reduceToNat, ↓reduceIte]; omega)
  · simp only [push_cast, Nat.reduceAdd, Nat.reduceSub, Nat.reduceMul, Nat.reduceLT, Nat.reduceLeDiff, Nat.reduceEqDiff, Int.reduceToNat, ↓reduceIte, List.take_of_length_le (show xs.length ≤ i by omega)]
theorem depthR_ac (t : Term) : t.bulk ≤ 1099511627776 → ∀ H, ACall Tryd.prog 36 [encT t] H (fun r H' => r = .int .i64 t.depth ∧ H' = H) := by
  induction t using Term.ind with | _ n v xs ih
  intro hb H
  have hs := (Term.mk n v xs).size_le
  have hd := (Term.mk n v xs).depth_le
  have hlen := Term.len_le (n := n) (v := v) (xs := xs)
  rw [Term.depth_mk] at hd ⊢
  refine ACall_W (H.length) 19 [.tmp 2] Tryd.func36 rfl rfl rfl ?_
  simp only [push_cast, Nat.reduceAdd, Nat.reduceSub, Nat.reduceMul, Nat.reduceLT, Nat.reduceLeDiff, Nat.reduceEqDiff, Int.reduceToNat, ↓reduceIte]
  refine AW_loopW (maskG 20 [3, 3, 0, 0]) (fun (i : Nat) => [(9, .int .i64 i), (3, .int .i64 (((xs.take i).map Term.depth).foldl max 0 : Nat))]) (fun _ => H) (fun i => i ≤ xs.length ∧ ((xs.take i).map Term.depth).foldl max 0 ≤ 1099511627776) (fun i => xs.length - i) 0 ⟨Nat.zero_le _, by simp⟩ (by simp only [push_cast, Nat.reduceAdd, Nat.reduceSub, Nat.reduceMul, Nat.reduceLT, Nat.reduceLeDiff, Nat.reduceEqDiff, Int.reduceToNat, ↓reduceIte]; simp) (fun i hi => ?_)
  simp only [push_cast, Nat.reduceAdd, Nat.reduceSub, Nat.reduceMul, Nat.reduceLT, Nat.reduceLeDiff, Nat.reduceEqDiff, Int.reduceToNat, ↓reduceIte]
  refine cI (fun h => ⟨by omega, (ih _ (List.getElem_mem _) (arg_bulk hb i (by omega)) _).to ?_⟩) (fun h => ?_)
  · have e := take_depth xs i (by omega)
    have hdx := (xs[i]'(by omega)).depth_le
    have hsx := (xs[i]'(by omega)).size_le
    have hbx := arg_bulk hb i (by omega)
    simp only [push_cast, Nat.reduceAdd, Nat.reduceSub, Nat.reduceMul, Nat.reduceLT, Nat.reduceLeDiff, Nat.reduceEqDiff, Int.reduceToNat, ↓reduceIte]
    repeat' first | refine ⟨by omega, ?_⟩ | refine cI (fun _ => ?_) (fun _ => ?_)
    exact loopW_n (i + 1) (by omega) (by omega) (by simp only [push_cast, Nat.reduceAdd, Nat.reduceSub, Nat.reduceMul, Nat.reduceLT, Nat.reduceLeDiff, Nat.reduceEqDiff, Int.reduceToNat, ↓reduceIte]; omega)
  · simp only [push_cast, Nat.reduceAdd, Nat.reduceSub, Nat.reduceMul, Nat.reduceLT, Nat.reduceLeDiff, Nat.reduceEqDiff, Int.reduceToNat, ↓reduceIte, List.take_of_length_le (show xs.length ≤ i by omega)]
    omega
theorem formedR_ac (t : Term) : t.bulk ≤ 1099511627775 → ∀ H, ACall Tryd.prog 61 [encT t] H (fun r H' => r = .bool (formedP t) ∧ H' = H) := by
  induction t using Term.ind with | _ n v xs ih
  intro hb H
  have hlen := Term.len_le (n := n) (v := v) (xs := xs)
  have hnl := Term.name_le (n := n) (v := v) (xs := xs)
  rw [formedP_mk]
  refine ACall_V (H.length) 36 [.tmp 2] Tryd.func61 rfl rfl rfl ?_
  simp only [push_cast, Nat.reduceAdd, Nat.reduceSub, Nat.reduceMul, Nat.reduceLT, Nat.reduceLeDiff, Nat.reduceEqDiff, Int.reduceToNat, ↓reduceIte]
  refine cI (fun hv => (isNameR_ac n _ (by omega) _).to ?_) (fun hv => (isNameR_ac n _ (by omega) _).to ?_)
  · simp only [push_cast, Nat.reduceAdd, Nat.reduceSub, Nat.reduceMul, Nat.reduceLT, Nat.reduceLeDiff, Nat.reduceEqDiff, Int.reduceToNat, ↓reduceIte]
    refine cI (fun hn => ?_) (fun hn => ?_)
    · simp [hv, hn]
    · simp [hv, hn]
  · simp only [push_cast, Nat.reduceAdd, Nat.reduceSub, Nat.reduceMul, Nat.reduceLT, Nat.reduceLeDiff, Nat.reduceEqDiff, Int.reduceToNat, ↓reduceIte]
    refine cI (fun hn => cI (fun h8 => ?_) (fun h8 => ?_)) (fun hn => ?_)
    · have h8 : ¬ xs.length ≤ 8 := by omega
      simp [hv, h8]
    · have h8 : xs.length ≤ 8 := by omega
      refine AW_loopW (maskG 37 [27, 0, 0]) (fun (i : Nat) => [(29, .int .i64 i)]) (fun _ => H) (fun i => i ≤ xs.length ∧ (xs.take i).all formedP = true) (fun i => xs.length - i) 0 ⟨Nat.zero_le _, by simp⟩ (by simp only [push_cast, Nat.reduceAdd, Nat.reduceSub, Nat.reduceMul, Nat.reduceLT, Nat.reduceLeDiff, Nat.reduceEqDiff, Int.reduceToNat, ↓reduceIte]) (fun i hi => ?_)
      simp only [push_cast, Nat.reduceAdd, Nat.reduceSub, Nat.reduceMul, Nat.reduceLT, Nat.reduceLeDiff, Nat.reduceEqDiff, Int.reduceToNat, ↓reduceIte]
      refine cI (fun h => ?_) (fun h => ?_)
      · repeat refine ⟨by omega, ?_⟩
        refine (ih _ (List.getElem_mem _) (arg_bulk hb i (by omega)) _).to ?_
        simp only [push_cast, Nat.reduceAdd, Nat.reduceSub, Nat.reduceMul, Nat.reduceLT, Nat.reduceLeDiff, Nat.reduceEqDiff, Int.reduceToNat, ↓reduceIte]
        refine cI (fun hf => ?_) (fun hf => ?_)
        · repeat' first | refine ⟨by omega, ?_⟩ | refine cI (fun _ => ?_) (fun _ => ?_)
          exact loopW_n (i + 1) ⟨by omega, all_take_true hi.2 (by omega) hf⟩ (by omega) (by simp only [push_cast, Nat.reduceAdd, Nat.reduceSub, Nat.reduceMul, Nat.reduceLT, Nat.reduceLeDiff, Nat.reduceEqDiff, Int.reduceToNat, ↓reduceIte])
        · rw [all_get (p := formedP) (i := i) (by omega) (by simpa using hf)]; simp [hv]
      · have hs : xs.take i = xs := List.take_of_length_le (by omega)
        rw [hs] at hi
        rw [hi.2]; simp [hv, h8, hn]
    · simp [hv, hn]
theorem checkR_ac (t : Term) (hb : t.bulk ≤ 1099511627775) (H : List AObj) : ACall Tryd.prog 17 [encT t] H (fun r H' => r = .int .i64 (checkP t) ∧ H' = H) := by
  refine ACall_V (H.length) 13 [.tmp 2] Tryd.func17 rfl rfl rfl ?_
  simp only [push_cast, Nat.reduceAdd, Nat.reduceSub, Nat.reduceMul, Nat.reduceLT, Nat.reduceLeDiff, Nat.reduceEqDiff, Int.reduceToNat, ↓reduceIte]
  unfold checkP fitsP
  refine (formedR_ac t hb _).to ?_
  simp only [push_cast, Nat.reduceAdd, Nat.reduceSub, Nat.reduceMul, Nat.reduceLT, Nat.reduceLeDiff, Nat.reduceEqDiff, Int.reduceToNat, ↓reduceIte]
  refine cI (fun hf => (sizeR_ac t (by omega) _).to ?_) (fun hf => ?_)
  · simp only [push_cast, Nat.reduceAdd, Nat.reduceSub, Nat.reduceMul, Nat.reduceLT, Nat.reduceLeDiff, Nat.reduceEqDiff, Int.reduceToNat, ↓reduceIte]
    refine cI (fun h => ?_) (fun h => (depthR_ac t (by omega) _).to ?_)
    · have h4 : ¬ t.size ≤ 4000 := by omega
      simp [hf, h4]
    · simp only [push_cast, Nat.reduceAdd, Nat.reduceSub, Nat.reduceMul, Nat.reduceLT, Nat.reduceLeDiff, Nat.reduceEqDiff, Int.reduceToNat, ↓reduceIte]
      have h4 : t.size ≤ 4000 := by omega
      refine cI (fun h => ?_) (fun h => ?_)
      · have h2 : ¬ t.depth ≤ 200 := by omega
        simp [hf, h4, h2]
      · have h2 : t.depth ≤ 200 := by omega
        simp [hf, h4, h2]
  · simp [hf]
end Ab
set_option maxRecDepth 10000
namespace Ab
open Go Go.Proofs
theorem cmpInts_ac (a b : Int) (H : List AObj) : ACall Tryd.prog 83 [.int .i64 a, .int .i64 b] H (fun r H' => r = .int .i64 (cmpI a b) ∧ H' = H) := by
  refine ACall_V (H.length) 9 [.tmp 4] Tryd.func83 rfl rfl rfl ?_
  simp only [push_cast, Nat.reduceAdd, Nat.reduceSub, Nat.reduceMul, Nat.reduceLT, Nat.reduceLeDiff, Nat.reduceEqDiff, Int.reduceToNat, ↓reduceIte]
  unfold cmpI
  repeat' first | refine ⟨by omega, ?_⟩ | refine cI (fun _ => ?_) (fun _ => ?_)
  all_goals simp [*]
theorem cmpNames_ac (a b : List UInt8) (ha : a.length < 1099511627776) (hb : b.length < 1099511627776) (H : List AObj) : ACall Tryd.prog 82 [.str a, .str b] H (fun r H' => r = .int .i64 (Lib.compareBytes a b) ∧ H' = H) := by
  refine ACall_V (H.length) 34 [.tmp 4] Tryd.func82 rfl rfl rfl ?_
  simp only [push_cast, Nat.reduceAdd, Nat.reduceSub, Nat.reduceMul, Nat.reduceLT, Nat.reduceLeDiff, Nat.reduceEqDiff, Int.reduceToNat, ↓reduceIte]
  refine AW_loopW (maskG 36 [0, 0, 8, 0]) (fun (i : Nat) => [(11, .int .i64 i)]) (fun _ => H) (fun i => i ≤ a.length ∧ i ≤ b.length ∧ a.take i = b.take i) (fun i => a.length - i) 0 ⟨Nat.zero_le _, Nat.zero_le _, by simp⟩ (by simp only [push_cast, Nat.reduceAdd, Nat.reduceSub, Nat.reduceMul, Nat.reduceLT, Nat.reduceLeDiff, Nat.reduceEqDiff, Int.reduceToNat, ↓reduceIte]) (fun i hi => ?_)
  simp only [push_cast, Nat.reduceAdd, Nat.reduceSub, Nat.reduceMul, Nat.reduceLT, Nat.reduceLeDiff, Nat.reduceEqDiff, Int.reduceToNat, ↓reduceIte]
  refine cI (fun h => ?_) (fun h => ?_)
  · have hil : i < a.length ∧ i < b.length := by omega
    apply AW_drawE [some 14, some 15, some 16, some 17, some 18, some 19, some 20] [([], _)] [none, none, none, none, none, none, none] 0 [(0, [], [0]), (1, [], [5]), (2, [], [14, 0]), (3, [], [1]), (4, [], [5]), (5, [], [17, 0]), (6, [], [16, 2])] [_, _, _, _, _, _, _]
    case' hm => exact dr
    case' hn => rfl
    case' hok => rfl
    case' hlen => rfl
    case' hd => rfl
    case' h0 => rfl
    case' hstep =>
     simp only [DAllG, push_cast, Option.isSome_some, Option.isSome_none]
     repeat' apply And.intro
     all_goals (apply DOne_V; simp only [push_cast, Nat.reduceAdd, Nat.reduceSub, Nat.reduceMul, Nat.reduceLT, Nat.reduceLeDiff, Nat.reduceEqDiff, Int.reduceToNat, ↓reduceIte] <;> first | exact rfl | omega | exact ⟨rfl, rfl⟩ | exact trivial | exact ⟨by omega, rfl⟩ | exact ⟨by omega, by omega, rfl⟩ | exact ⟨by omega, rfl, rfl⟩ | exact ⟨by omega, by omega, rfl, rfl⟩ | skip)
    case' hQ => skip
    simp only [push_cast, Nat.reduceAdd, Nat.reduceSub, Nat.reduceMul, Nat.reduceLT, Nat.reduceLeDiff, Nat.reduceEqDiff, Int.reduceToNat, ↓reduceIte]
    have hl1 := (a[i]'hil.1).toNat_lt
    have hl2 := (b[i]'hil.2).toNat_lt
    refine cI (fun he => ?_) (fun hne => ?_)
    · repeat' first | refine ⟨by omega, ?_⟩ | refine cI (fun _ => ?_) (fun _ => ?_)
      refine loopW_n (i + 1) ⟨by omega, by omega, ?_⟩ (by omega) (by simp only [push_cast, Nat.reduceAdd, Nat.reduceSub, Nat.reduceMul, Nat.reduceLT, Nat.reduceLeDiff, Nat.reduceEqDiff, Int.reduceToNat, ↓reduceIte])
      have he : (a[i]'hil.1) = (b[i]'hil.2) := UInt8.toNat_inj.1 (by omega)
      rw [List.take_succ_eq_append_getElem hil.1, List.take_succ_eq_append_getElem hil.2, hi.2.2, he]
    · skip
      apply AW_drawE [some 21, some 22, some 23, some 24, some 25, some 26, some 27, some 28, some 29, some 4] [([], _)] [none, none, none, none, none, none, none, none, none, none] 0 [(0, [], [0]), (1, [], [5]), (2, [], [21, 0]), (3, [], [23]), (4, [], [1]), (5, [], [5]), (6, [], [25, 0]), (7, [], [27]), (8, [], [24, 3]), (9, [], [29])] [_, _, _, _, _, _, _, _, _, _]
      case' hm => exact dr
      case' hn => rfl
      case' hok => rfl
      case' hlen => rfl
      case' hd => rfl
      case' h0 => rfl
      case' hstep =>
       simp only [DAllG, push_cast, Option.isSome_some, Option.isSome_none]
       repeat' apply And.intro
       all_goals (apply DOne_V; simp only [push_cast, Nat.reduceAdd, Nat.reduceSub, Nat.reduceMul, Nat.reduceLT, Nat.reduceLeDiff, Nat.reduceEqDiff, Int.reduceToNat, ↓reduceIte] <;> first | exact rfl | omega | exact ⟨rfl, rfl⟩ | exact trivial | exact ⟨by omega, rfl⟩ | exact ⟨by omega, by omega, rfl⟩ | exact ⟨by omega, rfl, rfl⟩ | exact ⟨by omega, by omega, rfl, rfl⟩ | exact ⟨by omega, by omega, rfl⟩ | exact (cmpInts_ac _ _ _).to ⟨rfl, rfl⟩)
      case' hQ => skip
      simp only [push_cast, Nat.reduceAdd, Nat.reduceSub, Nat.reduceMul, Nat.reduceLT, Nat.reduceLeDiff, Nat.reduceEqDiff, Int.reduceToNat, ↓reduceIte]
      rw [compareBytes_drop a b i hi.2.2 hi.1 hi.2.1, List.drop_eq_getElem_cons hil.1, List.drop_eq_getElem_cons hil.2]
      unfold cmpI Lib.compareBytes
      simp only [UInt8.lt_iff_toNat_lt]
      have hne : ¬ (a[i]'hil.1).toNat = (b[i]'hil.2).toNat := by omega
      rcases Nat.lt_or_gt_of_ne hne with h | h
      · have h' : ((a[i]'hil.1).toNat : Int) < (b[i]'hil.2).toNat := by omega
        simp [h]
      · have h' : ¬ (a[i]'hil.1).toNat < (b[i]'hil.2).toNat := by omega
        simp [h, h']
  · refine (cmpInts_ac _ _ _).to ?_
    simp only [push_cast, Nat.reduceAdd, Nat.reduceSub, Nat.reduceMul, Nat.reduceLT, Nat.reduceLeDiff, Nat.reduceEqDiff, Int.reduceToNat, ↓reduceIte]
    rw [compareBytes_drop a b i hi.2.2 hi.1 hi.2.1]
    rcases Nat.lt_or_ge a.length b.length with h | h
    · have hia : i = a.length := by omega
      subst hia
      have hd : 0 < (b.drop a.length).length := by simp; omega
      cases hb2 : b.drop a.length with
      | nil => rw [hb2] at hd; simp at hd
      | cons y r =>
        have h9 : ¬ b.length ≤ a.length := by omega
        simp [cmpI, Lib.compareBytes, h, h9]
    · rcases Nat.lt_or_ge b.length a.length with h2 | h2
      · have hib : i = b.length := by omega
        subst hib
        have hd : 0 < (a.drop b.length).length := by simp; omega
        cases ha2 : a.drop b.length with
        | nil => rw [ha2] at hd; simp at hd
        | cons y r =>
          have h3 : ¬ a.length < b.length := by omega
          simp [cmpI, Lib.compareBytes, h2, h3]
      · have hl : a.length = b.length := by omega
        have hia : i = a.length := by omega
        subst hia
        rw [List.drop_eq_nil_of_le (Nat.le_refl _), List.drop_eq_nil_of_le (by omega)]
        simp [cmpI, Lib.compareBytes, hl]
theorem compareR_ac (s : Term) : ∀ t : Term, s.bulk ≤ 1099511627775 → t.bulk ≤ 1099511627775 → ∀ H, ACall Tryd.prog 41 [encT s, encT t] H (fun r H' => r = .int .i64 (cmpT s t) ∧ H' = H) := by
  induction s using Term.ind with | _ n v xs ih
  rintro ⟨m, u, ys⟩ hb hb2 H
  have hl1 := Term.len_le (n := n) (v := v) (xs := xs)
  have hl2 := Term.len_le (n := m) (v := u) (xs := ys)
  have hn1 := Term.name_le (n := n) (v := v) (xs := xs)
  have hn2 := Term.name_le (n := m) (v := u) (xs := ys)
  have hci := cmpI_len xs.length ys.length
  have hcm : cmpT (.mk n v xs) (.mk m u ys) = cmpC n v xs.length m u ys.length (cmpTs xs ys) := rfl
  rw [hcm]
  refine ACall_V (H.length) 53 [.tmp 4] Tryd.func41 rfl rfl rfl ?_
  simp only [push_cast, Nat.reduceAdd, Nat.reduceSub, Nat.reduceMul, Nat.reduceLT, Nat.reduceLeDiff, Nat.reduceEqDiff, Int.reduceToNat, ↓reduceIte]
  refine cI (fun h1 => ?_) (fun h1 => ?_)
  · have h1 : v = u := by simpa using h1
    refine (cmpNames_ac n m (by omega) (by omega) _).to ?_
    simp only [push_cast, Nat.reduceAdd, Nat.reduceSub, Nat.reduceMul, Nat.reduceLT, Nat.reduceLeDiff, Nat.reduceEqDiff, Int.reduceToNat, ↓reduceIte]
    refine cI (fun h2 => (cmpInts_ac _ _ _).to ?_) (fun h2 => ?_)
    · simp only [push_cast, Nat.reduceAdd, Nat.reduceSub, Nat.reduceMul, Nat.reduceLT, Nat.reduceLeDiff, Nat.reduceEqDiff, Int.reduceToNat, ↓reduceIte]
      refine cI (fun h3 => ?_) (fun h3 => ?_)
      · have hll : xs.length = ys.length := hci.1.1 h3
        refine AW_loopW (maskG 55 [2, 0, 32, 0]) (fun (i : Nat) => [(37, .int .i64 i)]) (fun _ => H ++ [.cells [.str n, .bool v, .sl .none (encTs xs)], .cells [.str m, .bool u, .sl .none (encTs ys)]]) (fun i => i ≤ xs.length ∧ ∀ j (h1 : j < xs.length) (h2 : j < ys.length), j < i → cmpT xs[j] ys[j] = 0) (fun i => xs.length - i) 0 ⟨Nat.zero_le _, fun j h1 h2 h => by omega⟩ (by simp only [push_cast, Nat.reduceAdd, Nat.reduceSub, Nat.reduceMul, Nat.reduceLT, Nat.reduceLeDiff, Nat.reduceEqDiff, Int.reduceToNat, ↓reduceIte]) (fun i hi => ?_)
        simp only [push_cast, Nat.reduceAdd, Nat.reduceSub, Nat.reduceMul, Nat.reduceLT, Nat.reduceLeDiff, Nat.reduceEqDiff, Int.reduceToNat, ↓reduceIte]
        refine cI (fun h => ?_) (fun h => ?_)
        · have hix : i < xs.length := by omega
          have hiy : i < ys.length := by omega
          apply AW_drawE [some 40, some 41, some 42, some 43, some 44, some 45, some 46, some 47, some 48, some 49, some 50, some 8] [([], _)] [none, none, none, none, none, none, none, none, none, none, none, none] 0 [(0, [], [2]), (1, [], [40]), (2, [], [7]), (3, [], [41, 0]), (4, [], [43]), (5, [], [3]), (6, [], [45]), (7, [], [7]), (8, [], [46, 0]), (9, [], [48]), (10, [], [44, 4]), (11, [], [50])] [_, _, _, _, _, _, _, _, _, _, _, _]
          case' hm => exact dr
          case' hn => rfl
          case' hok => rfl
          case' hlen => rfl
          case' hd => rfl
          case' h0 => rfl
          case' hstep =>
           simp only [DAllG, push_cast, Option.isSome_some, Option.isSome_none]
           repeat' apply And.intro
           all_goals (apply DOne_V; simp only [push_cast, Nat.reduceAdd, Nat.reduceSub, Nat.reduceMul, Nat.reduceLT, Nat.reduceLeDiff, Nat.reduceEqDiff, Int.reduceToNat, ↓reduceIte] <;> first | exact rfl | omega | exact ⟨rfl, rfl⟩ | exact trivial | exact ⟨by omega, rfl⟩ | exact ⟨by omega, by omega, rfl⟩ | exact ⟨by omega, rfl, rfl⟩ | exact ⟨by omega, by omega, rfl, rfl⟩ | exact (ih _ (List.getElem_mem hix) (ys[i]'hiy) (arg_bulk hb i hix) (arg_bulk hb2 i hiy) _).to ⟨rfl, rfl⟩)
          case' hQ => skip
          simp only [push_cast, Nat.reduceAdd, Nat.reduceSub, Nat.reduceMul, Nat.reduceLT, Nat.reduceLeDiff, Nat.reduceEqDiff, Int.reduceToNat, ↓reduceIte]
          refine cI (fun h4 => ?_) (fun h4 => ?_)
          · repeat' first | refine ⟨by omega, ?_⟩ | refine cI (fun _ => ?_) (fun _ => ?_)
            refine loopW_n (i + 1) ⟨by omega, fun j j1 j2 hj => ?_⟩ (by omega) (by simp only [push_cast, Nat.reduceAdd, Nat.reduceSub, Nat.reduceMul, Nat.reduceLT, Nat.reduceLeDiff, Nat.reduceEqDiff, Int.reduceToNat, ↓reduceIte])
            rcases Nat.lt_or_ge j i with hj | hj
            · exact hi.2 j j1 j2 hj
            · have hji : j = i := by omega
              subst hji; exact h4
          · have hq : cmpTs xs ys = cmpT (xs[i]'hix) (ys[i]'hiy) := by rw [cmpTs_drop xs ys i hi.2 hll, List.drop_eq_getElem_cons hix, List.drop_eq_getElem_cons hiy, cmpTs_cons, if_pos h4]
            simp [cmpC, h1, h2, hll, hq]
        · have hq : cmpTs xs ys = 0 := by rw [cmpTs_drop xs ys i hi.2 hll, List.drop_eq_nil_of_le (show xs.length ≤ i by omega)]; exact cmpTs_nil _
          simp [cmpC, h1, h2, hll, hq]
      · have h4 := hci.2 h3 (cmpTs xs ys)
        simp only [cmpC, h1, h2, h4, ne_eq, not_true_eq_false, if_false]
    · simp [cmpC, h1, h2]
  · have h1 : ¬ v = u := by simpa using h1
    refine cI (fun hv => ?_) (fun hv => ?_) <;> cases v <;> cases u <;> first | exact absurd rfl h1 | (simp [cmpC]; done) | (simp at hv)
theorem equalR_ac (s t : Term) (h1 : s.bulk ≤ 1099511627775) (h2 : t.bulk ≤ 1099511627775) (H : List AObj) : ACall Tryd.prog 12 [encT s, encT t] H (fun r H' => r = .bool (decide (s = t)) ∧ H' = H) := by
  have he := cmpT_iff s t
  refine ACall_V (H.length) 7 [.tmp 4] Tryd.func12 rfl rfl rfl ?_
  simp only [push_cast, Nat.reduceAdd, Nat.reduceSub, Nat.reduceMul, Nat.reduceLT, Nat.reduceLeDiff, Nat.reduceEqDiff, Int.reduceToNat, ↓reduceIte]
  refine (compareR_ac s t h1 h2 _).to ?_
  simp only [push_cast, Nat.reduceAdd, Nat.reduceSub, Nat.reduceMul, Nat.reduceLT, Nat.reduceLeDiff, Nat.reduceEqDiff, Int.reduceToNat, ↓reduceIte, he]
theorem samePosR_ac (p q : List Int) (h1 : p.length < 1099511627776) (h2 : q.length < 1099511627776) (H : List AObj) : ACall Tryd.prog 62 [.sl .none (encP p), .sl .none (encP q)] H (fun r H' => r = .bool (decide (p = q)) ∧ H' = H) := by
  refine ACall_V (H.length) 24 [.tmp 4] Tryd.func62 rfl rfl rfl ?_
  simp only [push_cast, Nat.reduceAdd, Nat.reduceSub, Nat.reduceMul, Nat.reduceLT, Nat.reduceLeDiff, Nat.reduceEqDiff, Int.reduceToNat, ↓reduceIte]
  refine cI (fun hl => ?_) (fun hl => ?_)
  · have hl : p.length = q.length := by omega
    refine AW_loopW (maskG 26 [0, 0, 10, 0]) (fun (i : Nat) => [(13, .int .i64 i)]) (fun _ => H) (fun i => i ≤ p.length ∧ p.take i = q.take i) (fun i => p.length - i) 0 ⟨Nat.zero_le _, rfl⟩ (by simp only [push_cast, Nat.reduceAdd, Nat.reduceSub, Nat.reduceMul, Nat.reduceLT, Nat.reduceLeDiff, Nat.reduceEqDiff, Int.reduceToNat, ↓reduceIte]) (fun i hi => ?_)
    simp only [push_cast, Nat.reduceAdd, Nat.reduceSub, Nat.reduceMul, Nat.reduceLT, Nat.reduceLeDiff, Nat.reduceEqDiff, Int.reduceToNat, ↓reduceIte]
    refine cI (fun h => ?_) (fun h => ?_)
    · repeat refine ⟨by omega, ?_⟩
      have hip : i < p.length := by omega
      have hiq : i < q.length := by omega
      apply AW_drawE [some 16, some 17, some 18, some 19, some 20, some 21, some 22, some 23, some 24] [([], _)] [none, none, none, none, none, none, none, none, none] 0 [(0, [], [0]), (1, [], [5]), (2, [], [16, 0]), (3, [], [18]), (4, [], [1]), (5, [], [5]), (6, [], [20, 0]), (7, [], [22]), (8, [], [19, 3])] [_, _, _, _, _, _, _, _, _]
      case' hm => exact dr
      case' hn => rfl
      case' hok => rfl
      case' hlen => rfl
      case' hd => rfl
      case' h0 => rfl
      case' hstep =>
       simp only [DAllG, push_cast, Option.isSome_some, Option.isSome_none]
       repeat' apply And.intro
       all_goals (apply DOne_V; simp only [push_cast, Nat.reduceAdd, Nat.reduceSub, Nat.reduceMul, Nat.reduceLT, Nat.reduceLeDiff, Nat.reduceEqDiff, Int.reduceToNat, ↓reduceIte] <;> first | exact rfl | omega | exact ⟨rfl, rfl⟩ | exact trivial | exact ⟨by omega, rfl⟩ | exact ⟨by omega, by omega, rfl⟩ | exact ⟨by omega, rfl, rfl⟩ | exact ⟨by omega, by omega, rfl, rfl⟩ | skip)
      case' hQ => skip
      simp only [push_cast, Nat.reduceAdd, Nat.reduceSub, Nat.reduceMul, Nat.reduceLT, Nat.reduceLeDiff, Nat.reduceEqDiff, Int.reduceToNat, ↓reduceIte]
      refine cI (fun he => ?_) (fun he => ?_)
      · repeat' first | refine ⟨by omega, ?_⟩ | refine cI (fun _ => ?_) (fun _ => ?_)
        refine loopW_n (i + 1) ⟨by omega, ?_⟩ (by omega) (by simp only [push_cast, Nat.reduceAdd, Nat.reduceSub, Nat.reduceMul, Nat.reduceLT, Nat.reduceLeDiff, Nat.reduceEqDiff, Int.reduceToNat, ↓reduceIte])
        rw [List.take_succ_eq_append_getElem hip, List.take_succ_eq_append_getElem hiq, hi.2, he]
      · have hne : p ≠ q := fun e => he (by subst e; rfl)
        simp [hne]
    · have e := hi.2
      rw [List.take_of_length_le (by omega), List.take_of_length_le (by omega)] at e
      simp [e]
  · have hne : p ≠ q := fun e => hl (by rw [e])
    simp [hne]
theorem same_ac (a b : List (List Int)) (h1 : a.length < 1099511627776) (h2 : b.length < 1099511627776) (h3 : ∀ p, p ∈ a → p.length < 1099511627776) (h4 : ∀ p, p ∈ b → p.length < 1099511627776) (H : List AObj) :
    ACall Tryd.prog 19 [.sl .none (encL encQ a), .sl .none (encL encQ b)] H (fun r H' => r = .bool (decide (a = b)) ∧ H' = H) := by
  refine ACall_V (H.length) 25 [.tmp 4] Tryd.func19 rfl rfl rfl ?_
  simp only [push_cast, Nat.reduceAdd, Nat.reduceSub, Nat.reduceMul, Nat.reduceLT, Nat.reduceLeDiff, Nat.reduceEqDiff, Int.reduceToNat, ↓reduceIte]
  refine cI (fun hl => ?_) (fun hl => ?_)
  · have hl : a.length = b.length := by omega
    refine AW_loopW (maskG 27 [0, 0, 10, 0]) (fun (i : Nat) => [(13, .int .i64 i)]) (fun _ => H) (fun i => i ≤ a.length ∧ a.take i = b.take i) (fun i => a.length - i) 0 ⟨Nat.zero_le _, rfl⟩ (by simp only [push_cast, Nat.reduceAdd, Nat.reduceSub, Nat.reduceMul, Nat.reduceLT, Nat.reduceLeDiff, Nat.reduceEqDiff, Int.reduceToNat, ↓reduceIte]) (fun i hi => ?_)
    simp only [push_cast, Nat.reduceAdd, Nat.reduceSub, Nat.reduceMul, Nat.reduceLT, Nat.reduceLeDiff, Nat.reduceEqDiff, Int.reduceToNat, ↓reduceIte]
    refine cI (fun h => ?_) (fun h => ?_)
    · repeat refine ⟨by omega, ?_⟩
      have hip : i < a.length := by omega
      have hiq : i < b.length := by omega
      apply AW_drawE [some 16, some 17, some 18, some 19, some 20, some 21, some 22, some 23, some 24, some 25] [([], _)] [none, none, none, none, none, none, none, none, none, none] 0 [(0, [], [0]), (1, [], [5]), (2, [], [16, 0]), (3, [], [18]), (4, [], [1]), (5, [], [5]), (6, [], [20, 0]), (7, [], [22]), (8, [], [19, 3]), (9, [], [24])] [_, _, _, _, _, _, _, _, _, _]
      case' hm => exact dr
      case' hn => rfl
      case' hok => rfl
      case' hlen => rfl
      case' hd => rfl
      case' h0 => rfl
      case' hstep =>
       simp only [DAllG, push_cast, Option.isSome_some, Option.isSome_none]
       repeat' apply And.intro
       all_goals (apply DOne_V; simp only [push_cast, Nat.reduceAdd, Nat.reduceSub, Nat.reduceMul, Nat.reduceLT, Nat.reduceLeDiff, Nat.reduceEqDiff, Int.reduceToNat, ↓reduceIte] <;> first | exact rfl | omega | exact ⟨rfl, rfl⟩ | exact trivial | exact ⟨by omega, rfl⟩ | exact ⟨by omega, by omega, rfl⟩ | exact ⟨by omega, rfl, rfl⟩ | exact ⟨by omega, by omega, rfl, rfl⟩ | exact (samePosR_ac (a[i]'hip) (b[i]'hiq) (h3 _ (List.getElem_mem _)) (h4 _ (List.getElem_mem _)) _).to ⟨rfl, rfl⟩)
      case' hQ => skip
      simp only [push_cast, Nat.reduceAdd, Nat.reduceSub, Nat.reduceMul, Nat.reduceLT, Nat.reduceLeDiff, Nat.reduceEqDiff, Int.reduceToNat, ↓reduceIte]
      refine cI (fun he => ?_) (fun he => ?_)
      · repeat' first | refine ⟨by omega, ?_⟩ | refine cI (fun _ => ?_) (fun _ => ?_)
        refine loopW_n (i + 1) ⟨by omega, ?_⟩ (by omega) (by simp only [push_cast, Nat.reduceAdd, Nat.reduceSub, Nat.reduceMul, Nat.reduceLT, Nat.reduceLeDiff, Nat.reduceEqDiff, Int.reduceToNat, ↓reduceIte])
        rw [List.take_succ_eq_append_getElem hip, List.take_succ_eq_append_getElem hiq, hi.2, he]
      · have hne : a ≠ b := fun e => he (by subst e; rfl)
        simp [hne]
    · have e := hi.2
      rw [List.take_of_length_le (by omega), List.take_of_length_le (by omega)] at e
      simp [e]
  · have hne : a ≠ b := fun e => hl (by rw [e])
    simp [hne]
theorem variable_ac (s : List UInt8) (H : List AObj) : ACall Tryd.prog 30 [.str s] H (fun r H' => r = encT (.mk s true []) ∧ H' = H) := by
  refine ACall_V (H.length) 4 [.cell 2 24] Tryd.func30 rfl rfl rfl ?_
  simp only [push_cast, Nat.reduceAdd, Nat.reduceSub, Nat.reduceMul, Nat.reduceLT, Nat.reduceLeDiff, Nat.reduceEqDiff, Int.reduceToNat, ↓reduceIte]
theorem symbol_ac (s : List UInt8) (l : List Term) (H : List AObj) : ACall Tryd.prog 52 [.str s, .sl .none (encTs l)] H (fun r H' => r = encT (.mk s false l) ∧ H' = H) := by
  refine ACall_V (H.length) 6 [.cell 4 24] Tryd.func52 rfl rfl rfl ?_
  simp only [push_cast, Nat.reduceAdd, Nat.reduceSub, Nat.reduceMul, Nat.reduceLT, Nat.reduceLeDiff, Nat.reduceEqDiff, Int.reduceToNat, ↓reduceIte]
end Ab
set_option maxRecDepth 10000
namespace Ab
open Go Go.Proofs
def aG : List Term := [.mk [118] true []]
def aF : List Term := [.mk [117] true [], .mk [103] false aG, .mk [117] true []]
def cG : List Term := [.mk [120, 49] true []]
def cF : List Term := [.mk [120, 48] true [], .mk [103] false cG, .mk [120, 48] true []]
def aT : Term := .mk [102] false [.mk [117] true [], .mk [103] false [.mk [118] true []], .mk [117] true []]
def cT : Term := .mk [102] false [.mk [120, 48] true [], .mk [103] false [.mk [120, 49] true []], .mk [120, 48] true []]
theorem encAG : encTs aG = [AV.agg [.str [118], .bool true, .sl .none []]] := by simp only [aG, encTs_cons, encTs_nil, encT, Term.mk_name, Term.mk_var, Term.mk_args]
theorem encAF : encTs aF = [AV.agg [.str [117], .bool true, .sl .none []], .agg [.str [103], .bool false, .sl .none (encTs aG)], .agg [.str [117], .bool true, .sl .none []]] := by simp only [aF, encTs_cons, encTs_nil, encT, Term.mk_name, Term.mk_var, Term.mk_args]
theorem encCG : encTs cG = [AV.agg [.str [120, 49], .bool true, .sl .none []]] := by simp only [cG, encTs_cons, encTs_nil, encT, Term.mk_name, Term.mk_var, Term.mk_args]
theorem encCF : encTs cF = [AV.agg [.str [120, 48], .bool true, .sl .none []], .agg [.str [103], .bool false, .sl .none (encTs cG)], .agg [.str [120, 48], .bool true, .sl .none []]] := by simp only [cF, encTs_cons, encTs_nil, encT, Term.mk_name, Term.mk_var, Term.mk_args]
theorem aT_formed : formedP aT = true := by simp only [aT, formedP_mk]; simp [formedP_mk]; decide +kernel
theorem aT_size : aT.size = 5 := by simp [aT, Term.size_mk]
theorem aT_depth : aT.depth = 3 := by simp [aT, Term.depth_mk]
theorem aT_sizeI : ((aT.size : Nat) : Int) = 5 := by rw [aT_size]; rfl
theorem aT_depthI : ((aT.depth : Nat) : Int) = 3 := by rw [aT_depth]; rfl
theorem aT_check : checkP aT = 0 := by unfold checkP fitsP; simp [aT_formed, aT_size, aT_depth]
theorem aT_pos : posP aT = [[], [0], [1], [1, 0], [2]] := by simp [posP, aT, walkT, walkL, Term.mk_args]
theorem decD : Lib.decDigits 0 = [48] ∧ Lib.decDigits 1 = [49] := by decide +kernel
theorem aT_canon : canonP aT = cT := by simp [canonP, aT, cT, renP, renL, stdF, xName, decD]
theorem aT_bulk : aT.bulk ≤ 1099511627775 := by simp [aT, Term.bulk_mk]
theorem cT_bulk : cT.bulk ≤ 1099511627775 := by simp [cT, Term.bulk_mk]
theorem cG_ac (H : List AObj) : ACall Tryd.prog 52 [.str [103], .sl .none [AV.agg [.str [120, 49], .bool true, .sl .none []]]] H (fun r H' => r = encT (.mk [103] false cG) ∧ H' = H) := by
  rw [← encCG]; exact symbol_ac _ _ _
theorem cF_ac (H : List AObj) : ACall Tryd.prog 52 [.str [102], .sl .none [AV.agg [.str [120, 48], .bool true, .sl .none []], .agg [.str [103], .bool false, .sl .none (encTs cG)], .agg [.str [120, 48], .bool true, .sl .none []]]] H (fun r H' => r = encT cT ∧ H' = H) := by
  rw [← encCF]; exact symbol_ac _ cF _
theorem Forget.row (t : Tok) {xs ys : List AV} (hl : xs.length = ys.length) (h : ForgetL (flat xs) (flat ys)) : Forget (.sl t xs) (.sl .none ys) := fun C x hx => by
  obtain ⟨h1, h2⟩ := ForgetL.spec h
  cases hx with
  | sl _ _ a n c f hn hc hrow hrel htok =>
    refine .sl .none ys a n c f (hn.trans hl) hc (fun hne => ?_) (fun j hj => h2 j (by omega) hj _ _ (hrel j (by omega))) trivial
    obtain ⟨b, o, ha, hr⟩ := hrow (fun e => hne (List.eq_nil_of_length_eq_zero (by rw [← h1, e]; rfl)))
    exact ⟨b, o, ha, h1 ▸ hr⟩
theorem sameA_ac (H : List AObj) : ACall Tryd.prog 19 [.sl .none (encL encQ [[], [0], [1], [1, 0], [2]]), .sl .none [.sl .zero [], .sl .none [.int .i64 0], .sl .none [.int .i64 1], .sl .none [.int .i64 1, .int .i64 0], .sl .none [.int .i64 2]]] H (fun r H' => r = .bool true ∧ H' = H) := by
  refine ACall.forget (args' := [.sl .none (encL encQ [[], [0], [1], [1, 0], [2]]), .sl .none (encL encQ [[], [0], [1], [1, 0], [2]])]) ⟨Forget.refl _, ?_, trivial⟩ ((same_ac [[], [0], [1], [1, 0], [2]] [[], [0], [1], [1, 0], [2]] (by simp) (by simp) (by simp) (by simp) _).mono ?_)
  · refine Forget.row _ (by simp [encL]) ?_
    exact ⟨Forget.tok _ _, Forget.refl _, Forget.refl _, Forget.refl _, Forget.refl _, trivial⟩
  · rintro r H' ⟨rfl, rfl⟩; exact ⟨by simp, rfl⟩
theorem equalC_ac (H : List AObj) : ACall Tryd.prog 12 [encT cT, encT cT] H (fun r H' => r = .bool true ∧ H' = H) :=
  (equalR_ac cT cT cT_bulk cT_bulk _).mono (by rintro r H' ⟨rfl, rfl⟩; exact ⟨by simp, rfl⟩)
theorem alive_ac (hit : ∀ i H, i < 100 → ACall Tryd.prog 92 [.int .i64 (i : Nat)] H (fun r H' => r = .str (Lib.decDigits i) ∧ H' = H)) (H : List AObj) :
    ACall Tryd.prog 11 [] H (fun r H' => r = .bool true ∧ H' = H) := by
  have hd : ∀ i, i < 100 → (Lib.decDigits i).length ≤ 1099511627775 := by decide +kernel
  refine ACall_V (H.length) 65 [.tmp 0] Tryd.func11 rfl rfl rfl ?_
  simp only [push_cast, Nat.reduceAdd, Nat.reduceSub, Nat.reduceMul, Nat.reduceLT, Nat.reduceLeDiff, Nat.reduceEqDiff, Int.reduceToNat, ↓reduceIte]
  refine (variable_ac _ _).to ?_
  simp only [push_cast, Nat.reduceAdd, Nat.reduceSub, Nat.reduceMul, Nat.reduceLT, Nat.reduceLeDiff, Nat.reduceEqDiff, Int.reduceToNat, ↓reduceIte]
  refine (variable_ac _ _).to ?_
  simp only [push_cast, Nat.reduceAdd, Nat.reduceSub, Nat.reduceMul, Nat.reduceLT, Nat.reduceLeDiff, Nat.reduceEqDiff, Int.reduceToNat, ↓reduceIte]
  rw [← encAG]
  refine (symbol_ac _ aG _).to ?_
  simp only [push_cast, Nat.reduceAdd, Nat.reduceSub, Nat.reduceMul, Nat.reduceLT, Nat.reduceLeDiff, Nat.reduceEqDiff, Int.reduceToNat, ↓reduceIte]
  refine (variable_ac _ _).to ?_
  simp only [push_cast, Nat.reduceAdd, Nat.reduceSub, Nat.reduceMul, Nat.reduceLT, Nat.reduceLeDiff, Nat.reduceEqDiff, Int.reduceToNat, ↓reduceIte]
  rw [← encAF]
  refine (symbol_ac _ aF _).to ?_
  simp only [push_cast, Nat.reduceAdd, Nat.reduceSub, Nat.reduceMul, Nat.reduceLT, Nat.reduceLeDiff, Nat.reduceEqDiff, Int.reduceToNat, ↓reduceIte]
  refine (positions_ac aT aT_bulk _).to ?_
  simp only [push_cast, Nat.reduceAdd, Nat.reduceSub, Nat.reduceMul, Nat.reduceLT, Nat.reduceLeDiff, Nat.reduceEqDiff, Int.reduceToNat, ↓reduceIte, aT_check, aT_pos]
  refine (canonical_ac 100 hit (by decide) hd aT aT_bulk (fun _ => by rw [aT_size]; decide) _).to ?_
  simp only [push_cast, Nat.reduceAdd, Nat.reduceSub, Nat.reduceMul, Nat.reduceLT, Nat.reduceLeDiff, Nat.reduceEqDiff, Int.reduceToNat, ↓reduceIte, aT_check, aT_canon]
  apply AW_drawE [some 23, some 24, some 25, some 26, some 27, some 28, some 29, some 30, some 31, some 32, some 33, some 34, some 35, some 36, some 37, some 38, some 39, some 40, some 41, some 42, some 43, some 44, some 45, some 46, some 47, some 48, some 49, some 50, some 51, some 52, some 53, some 54, some 55, some 56, some 57, some 58, some 59, some 60, some 61, some 62, some 63, some 64, some 0] [([], _)] [none, none, none, none, none, none, none, none, none, none, none, none, none, none, none, none, none, none, none, none, none, none, none, none, none, none, none, none, none, none, none, none, none, none, none, none, none, none, none, none, none, none, none] 0 [(0, [], [1]), (1, [], [23]), (2, [], [24]), (3, [], [25]), (4, [], [1, 24]), (5, [], [26, 0]), (6, [], [26, 1]), (7, [], [26, 2]), (8, [], [30]), (9, [], [1, 29]), (10, [], [31, 0]), (11, [], [31, 1]), (12, [], [31, 2]), (13, [], [35]), (14, [], [3, 32]), (15, [], [36, 0]), (16, [], [36, 1]), (17, [], [39]), (18, [], [2, 37]), (19, [], [40]), (20, [], [40]), (21, [], [40]), (22, [], [40]), (23, [], [40]), (24, [], [40, 1, 0, 0, 0, 0]), (25, [], [40, 0, 5]), (26, [], [40, 7]), (27, [], [49]), (28, [], [5, 44]), (29, [], [50, 0]), (30, [], [50, 1]), (31, [], [53]), (32, [], [4, 49]), (33, [], [54]), (34, [], [54]), (35, [], [54, 2]), (36, [], [54, 3]), (37, [], [54]), (38, [], [54, 1, 2, 0]), (39, [], [54, 6]), (40, [], [54, 0, 6]), (41, [], [54, 8]), (42, [], [64])] [_, _, _, _, _, _, _, _, _, _, _, _, _, _, _, _, _, _, _, _, _, _, _, _, _, _, _, _, _, _, _, _, _, _, _, _, _, _, _, _, _, _, _]
  case' hm => exact dr
  case' hn => rfl
  case' hok => rfl
  case' hlen => rfl
  case' hd => rfl
  case' h0 => rfl
  case' hstep =>
   simp only [DAllG, push_cast, Option.isSome_some, Option.isSome_none]
   repeat' apply And.intro
   all_goals (apply DOne_V; simp only [push_cast, Nat.reduceAdd, Nat.reduceSub, Nat.reduceMul, Nat.reduceLT, Nat.reduceLeDiff, Nat.reduceEqDiff, Int.reduceToNat, ↓reduceIte, aT_check, aT_sizeI, aT_depthI, true_and, decide_true] <;> first | exact rfl | omega | exact ⟨rfl, rfl⟩ | exact trivial | exact ⟨by omega, rfl⟩ | exact ⟨by omega, by omega, rfl⟩ | exact ⟨by omega, rfl, rfl⟩ | exact ⟨by omega, by omega, rfl, rfl⟩ | exact (check_ac aT aT_bulk _).to ⟨rfl, rfl⟩ | exact (size_ac aT (Nat.le_trans aT_bulk (by decide)) _).to ⟨rfl, rfl⟩ | exact (depth_ac aT (Nat.le_trans aT_bulk (by decide)) _).to ⟨rfl, rfl⟩ | exact (sameA_ac _).to ⟨rfl, rfl⟩ | exact (variable_ac _ _).to ⟨rfl, rfl⟩ | exact (cG_ac _).to ⟨rfl, rfl⟩ | exact (cF_ac _).to ⟨rfl, rfl⟩ | exact (equalC_ac _).to ⟨rfl, rfl⟩)
  case' hQ => skip
  simp only [push_cast, Nat.reduceAdd, Nat.reduceSub, Nat.reduceMul, Nat.reduceLT, Nat.reduceLeDiff, Nat.reduceEqDiff, Int.reduceToNat, ↓reduceIte]
end Ab
namespace Ab
open Go Go.Proofs
def insAt (l : List (List UInt8)) (s : List UInt8) : Nat := (l.takeWhile fun x => decide (Lib.compareBytes x s < 0)).length
def insertP (l : List (List UInt8)) (s : List UInt8) : List (List UInt8) := if l[insAt l s]? = some s then l else l.take (insAt l s) ++ [s] ++ l.drop (insAt l s)
theorem insertP_length (l : List (List UInt8)) (s : List UInt8) : (insertP l s).length ≤ l.length + 1 := by
  unfold insertP
  split
  · omega
  · simp; omega
theorem mem_insertP (l : List (List UInt8)) (s v : List UInt8) : v ∈ insertP l s ↔ v ∈ l ∨ v = s := by
  unfold insertP
  split
  · rename_i h
    have := List.mem_of_getElem? h
    constructor
    · exact .inl
    · rintro (h | rfl)
      · exact h
      · exact this
  · conv => rhs; rw [← List.take_append_drop (insAt l s) l]
    simp only [List.mem_append, List.mem_singleton]
    constructor
    · rintro ((h | h) | h)
      · exact .inl (.inl h)
      · exact .inr h
      · exact .inl (.inr h)
    · rintro ((h | h) | h)
      · exact .inl (.inl h)
      · exact .inr h
      · exact .inl (.inr h)
def imageP (σ : List (List UInt8 × Term)) (v : List UInt8) : Term := ((σ.find? fun b => decide (b.1 = v)).map (·.2)).getD (.mk v true [])
def applyP (σ : List (List UInt8 × Term)) : Term → Term
  | .mk n u xs => if u then imageP σ n else .mk n false (xs.map (applyP σ))
theorem applyP_mk (σ : List (List UInt8 × Term)) (n : List UInt8) (u : Bool) (xs : List Term) : applyP σ (.mk n u xs) = if u then imageP σ n else .mk n false (xs.map (applyP σ)) := by simp [applyP]
def sortedP (l : List (List UInt8)) : List (List UInt8) := l.foldl insertP []
theorem mem_sortedP (l : List (List UInt8)) (v : List UInt8) : v ∈ sortedP l ↔ v ∈ l := by
  have : ∀ (l m : List (List UInt8)), v ∈ l.foldl insertP m ↔ v ∈ m ∨ v ∈ l := by
    intro l
    induction l with
    | nil => intro m; simp
    | cons a l ih => intro m; rw [List.foldl_cons, ih, mem_insertP]; simp [or_assoc]
  simpa [sortedP] using this l []
end Ab
set_option maxRecDepth 10000
namespace Ab
open Go Go.Proofs
@[reducible] def encN (l : List (List UInt8)) : List AV := encL AV.str l
theorem uniN (l : List (List UInt8)) : Uni (0 + 1) (encN l) = True := eq_true (uni_encL (enc := AV.str) (k := 1) (fun _ => rfl) l)
theorem scN_ (n : Nat) (l : List (List UInt8)) : ScopedL n (encN l) = True := eq_true (scoped_encL (fun x => by simp [Scoped]) l)
theorem strip_encN (n : Nat) (l : List (List UInt8)) : stripL n (encN l) = encN l := by rw [stripL_eq]; simp [encN, encL, strip]
attribute [push_cast] uniN scN_ strip_encN
@[reducible] def encBd (b : List UInt8 × Term) : AV := .agg [.str b.1, .str b.2.name, .bool b.2.var, .sl .none (encTs b.2.args)]
theorem uniS (l : List (List UInt8 × Term)) : Uni (3 + 1) (encL encBd l) = True := eq_true (uni_encL (enc := encBd) (k := 4) (fun _ => rfl) l)
theorem scS_ (n : Nat) (l : List (List UInt8 × Term)) : ScopedL n (encL encBd l) = True := eq_true (scoped_encL (fun x => by simp [Scoped, ScopedL, scoped_encTs]) l)
theorem cellBd : ∀ (x : List UInt8 × Term) c, c ∈ (encBd x).cells → c.isCell = true := by
  intro x c hc; simp [AV.cells] at hc; rcases hc with rfl | rfl | rfl | rfl <;> rfl
attribute [push_cast] uniS scS_
section
variable {P : Program} {ro : Option Nat} {st : ASt} {dst : Option Tmp} {ty : TypeId} {pos : String} {after : Array Edge} {guard : Option (Nat × Bool)} {K : AV → List AObj → Prop}
end
end Ab
set_option maxRecDepth 10000
namespace Ab
open Go Go.Proofs Go.Proofs.YtakpnikkcinckaaDoor
section
variable {H : Type}
theorem names_sum {α : Type} (f : α → Nat) (xs : List α) {k : Nat} (h : (xs.map fun x => f x + 1).sum ≤ k) : xs.length ≤ k ∧ ∀ x, x ∈ xs → f x ≤ k := by
  induction xs generalizing k with
  | nil => simp
  | cons a r ih =>
    simp only [List.map_cons, List.sum_cons] at h
    obtain ⟨h1, h2⟩ := ih (k := k - (f a + 1)) (by omega)
    refine ⟨by simp; omega, fun x hx => ?_⟩
    rcases List.mem_cons.1 hx with rfl | hx
    · omega
    · have := h2 x hx; omega
theorem kdBind : kindOf Tryd.prog 57 = .struct [9, 24] := by kernel_rfl
theorem kdBinds : kindOf Tryd.prog 52 = .slice 57 := by kernel_rfl
theorem agBind : aggK Tryd.prog 57 = true := by unfold aggK; rw [kdBind]
theorem bind_form (n : Nat) (d : DataW H) (avs : List AV) (h : toAV Tryd.prog n 57 d = some avs) : ∃ b : List UInt8 × Term, .agg avs = encBd b ∧ b.1.length + b.2.bulk + 1 ≤ Rows.uptoBulk d := by
  obtain ⟨m, parts, avss, rfl, rfl, hl, hm, rfl⟩ := toAV_struct kdBind h
  match parts, hl, hm with
  | [d1, d2], _, hm =>
    obtain ⟨h1, h2⟩ := mapM_get hm
    match avss, h1, h2 with
    | [a1, a2], _, h2 =>
      obtain ⟨bs, rfl, rfl⟩ := toAV_str kdStr (h2 0 (by simp) (by simp))
      obtain ⟨t, e, hb⟩ := term_form m d2 a2 (h2 1 (by simp) (by simp))
      injection e with e
      subst e
      exact ⟨(bs, t), by simp, by simp only [Rows.uptoBulk, Rows.uptoBulkAll]; omega⟩
theorem binds_form (n : Nat) (d : DataW H) (avs : List AV) (h : toAV Tryd.prog n 52 d = some avs) : ∃ σ : List (List UInt8 × Term), avs = [.sl .none (encL encBd σ)] ∧ σ.length ≤ Rows.uptoBulk d ∧ ∀ b, b ∈ σ → b.1.length + b.2.bulk ≤ Rows.uptoBulk d := by
  obtain ⟨xs, ds, e3, hw, _, hd⟩ := row_form (fun b : List UInt8 × Term => encBd b) (fun b => b.1.length + b.2.bulk + 1) Rows.uptoBulk kdBinds (n := n) (fun k d avs _ he => by
    obtain ⟨t, x1, x2⟩ := bind_form k d avs he
    exact ⟨t, by rw [agBind]; exact x1, x2⟩) h
  have hb := bulk_row hd
  have := names_sum (fun b : List UInt8 × Term => b.1.length + b.2.bulk) xs (k := Rows.uptoBulk d) (by omega)
  exact ⟨xs, e3, this.1, this.2⟩
theorem kdB3 : kindOf Tryd.prog 76 = .array 3 52 := by kernel_rfl
theorem b3_form (n : Nat) (d : DataW H) (avs : List AV) (h : toAV Tryd.prog n 76 d = some avs) : ∃ a b c : List (List UInt8 × Term), AV.agg avs = .agg [.sl .none (encL encBd a), .sl .none (encL encBd b), .sl .none (encL encBd c)] ∧ ∀ x, x = a ∨ x = b ∨ x = c → x.length ≤ Rows.uptoBulk d ∧ ∀ y, y ∈ x → y.1.length + y.2.bulk ≤ Rows.uptoBulk d := by
  obtain ⟨m, parts, avss, rfl, rfl, hl, hm, rfl⟩ := toAV_array kdB3 h
  match parts, hl, hm with
  | [d1, d2, d3], _, hm =>
    obtain ⟨h1, h2⟩ := mapM_get hm
    match avss, h1, h2 with
    | [a1, a2, a3], _, h2 =>
      obtain ⟨a, rfl, b1, b1'⟩ := binds_form m d1 a1 (h2 0 (by simp) (by simp))
      obtain ⟨b, rfl, b2, b2'⟩ := binds_form m d2 a2 (h2 1 (by simp) (by simp))
      obtain ⟨c, rfl, b3, b3'⟩ := binds_form m d3 a3 (h2 2 (by simp) (by simp))
      refine ⟨a, b, c, rfl, ?_⟩
      simp only [Rows.uptoBulk, Rows.uptoBulkAll]
      rintro x (rfl | rfl | rfl)
      · exact ⟨by omega, fun y hy => by have := b1' y hy; omega⟩
      · exact ⟨by omega, fun y hy => by have := b2' y hy; omega⟩
      · exact ⟨by omega, fun y hy => by have := b3' y hy; omega⟩
end
end Ab
set_option maxRecDepth 10000
namespace Ab
open Go Go.Proofs
theorem putRow_heapG {α : Type} [Inhabited α] (enc : α → Value) (w : World) (b off : Nat) (d : Array α) (cur : Array Value) (e : TypeId) (fr : Nat × Nat) (hb : w.heap[b]? = some (.cells cur e fr)) :
    (Go.Sort.putRow enc w b off d).heap = w.heap.setIfInBounds b (.cells (Go.Sort.putCells enc off d cur) e fr) := by
  have hlt := (Array.getElem?_eq_some_iff.1 hb).1
  unfold Go.Sort.putRow Go.Sort.mapBlock
  apply Array.ext_getElem?
  intro k
  simp only [Array.getElem?_modify, Array.getElem?_setIfInBounds]
  by_cases hk : b = k
  · subst hk
    rw [if_pos rfl, if_pos rfl, if_pos hlt, hb]; rfl
  · rw [if_neg hk, if_neg hk]
theorem putCells_getG {α : Type} [Inhabited α] (enc : α → Value) (d : Array α) (cur : Array Value) (j : Nat) (hj : j < d.size) (hj' : j < (Go.Sort.putCells enc 0 d cur).size) : (Go.Sort.putCells enc 0 d cur)[j] = enc d[j] := by
  unfold Go.Sort.putCells
  simp [hj]
theorem sortG {P : Program} {ρ : Go.Shelf.Ren} {α β : Type} [Inhabited α] (L : SlLaysF0.n6 P ρ) (k : Nat) (hk0 : 0 < k) (aE : ∀ w, (isAgg (ρ.t 24)).run P w = .ok true w) (zE : ∀ w, (Go.sizeOf (ρ.t 24)).run P w = .ok k w)
    (encA : β → AV) (hu : ∀ x, (encA x).cells.length = k) (hcell : ∀ x c, c ∈ (encA x).cells → c.isCell = true)
    (enc : α → List Value) (hk : ∀ a, (enc a).length = k) (h1 : ∀ a, ∀ v ∈ enc a, v.oneCell' = true) (abs : α → β)
    (hrep : ∀ (C : Ctx) (x : β) (vs : List Value), vs.length = k → (∀ j (h : j < (encA x).cells.length) (h' : j < vs.length), VRel C (encA x).cells[j] vs[j]) → ∃ a, enc a = vs ∧ abs a = x)
    (cf : β → β → Int) (hO : Go.Sort.SWO (ltOf fun a b : α => cf (abs a) (abs b))) (g : Nat) (eg : ∀ args w, (callFunc g args).run P w = .ok (.enter g args) w)
    (hcalls : ∀ w a b, Calls P g #[.agg (enc a).toArray, .agg (enc b).toArray] w fun e w' => e = .returned (.int .i64 (cf (abs a) (abs b))) ∧ ∃ q os', w' = Go.Sort.grow (w.drewN q) os')
    (id : Nat) (xs : List β) (e : TypeId) (hlen : xs.length < 1099511627776) (H : List AObj) (hkH : H[id]? = some (grO e k (encL encA xs))) :
    ACall P (ρ.f 6) [grS id (encL encA xs), .fn g []] H (fun r H' => ∃ xs', xs.Perm xs' ∧ xs'.Pairwise (fun a b => ¬ cf b a < 0) ∧ r = .tup [] ∧ H' = H.set id (grO e k (encL encA xs'))) := by
  intro C vs hg hH hsz hv
  match vs, hsz, hv with
  | ⟨[v, fv]⟩, _, hv =>
    have h0 := hv 0 (by simp) (by simp)
    have hf := hv 1 (by simp) (by simp)
    simp only [List.getElem_cons_zero, List.getElem_cons_succ] at h0 hf
    have htup : ∀ C' : Ctx, VRel C' (.tup []) (.tuple #[]) := fun C' => .tup [] #[] rfl (fun i h => absurd h (by simp))
    have hfv : fv = .func (.func g) #[] #[] := by
      cases hf with
      | fn _ _ us hs _ =>
        have : us = #[] := Array.eq_empty_of_size_eq_zero hs
        rw [this]
    subst hfv
    cases xs with
    | nil =>
      have h0' : VRel C (.sl .zero []) v := h0
      have hset : H.set id (grO e k (encL encA [])) = H := by
        apply List.ext_getElem?
        intro i
        rw [List.getElem?_set]
        split
        · rename_i h; subst h
          have hl := (List.getElem?_eq_some_iff.1 hkH).1
          simp only [hl, if_true]; exact hkH.symm
        · rfl
      cases h0' with
      | sl _ _ a n c f hn hc hrow hrel htok =>
        subst hn
        refine (show Calls P (ρ.f 6) #[.slice a 0 c, .func (.func g) #[] #[]] C.w (fun e w' => e = .returned (.tuple #[]) ∧ w' = C.w) from AnyF.slices_SortFunc_none L a c _ C.w).mono fun e w' ⟨he, hw⟩ => ?_
        subst hw
        exact ⟨_, .tup [], C, he, rfl, hg, Ext.refl C, htup C, [], List.Perm.refl _, List.Pairwise.nil, rfl, by rw [hset]; exact hH⟩
    | cons s ss' =>
      have hlf : ∀ l : List β, (flat (encL encA l)).length = l.length * k := fun l => by rw [flat_length (uni_encL (enc := encA) (k := k) hu l), encL_length]
      have h0' : VRel C (.gr id (encL encA (s :: ss')).length) v := h0
      have hkC : C.H[id]? = some (.grow e k (flat (encL encA (s :: ss')))) := by rw [hH, hkH]; rfl
      have hne : s :: ss' ≠ [] := by simp
      generalize s :: ss' = xs at *
      have hxl : 0 < xs.length := List.length_pos_iff.2 hne
      cases h0' with
      | gr _ _ ad c hgr =>
        obtain ⟨e', sz', vs', hk2, _, _, hr⟩ := hgr
        rw [hkC] at hk2
        injection hk2 with hk2; injection hk2 with q1 q2 q3
        subst q1 q2 q3
        rw [encL_length] at hr ⊢
        obtain ⟨cur, rfl, hb, hcm, hc1, hcs⟩ := hr (hlf xs).symm
        obtain ⟨cur2, hb2, hfit, hS, hrel⟩ := hg.obj id _ hkC
        rw [hb] at hb2
        injection hb2 with hb2; injection hb2 with hb2 _ _
        subst hb2
        rw [hlf] at hfit
        have hpos : ∀ i j, i < xs.length → j < k → i * k + j < xs.length * k := fun i j hi hj => by
          have := Nat.mul_le_mul_right k (show i + 1 ≤ xs.length from hi)
          rw [Nat.add_mul] at this; omega
        have hlt := hg.lt id _ hkC (by simp [AObj.kind])
        have hcv : ∀ i j (hi : i < xs.length) (hj : j < k), VRel C ((encA xs[i]).cells[j]'(by rw [hu]; exact hj)) (cur[i * k + j]'(by have := hpos i j hi hj; omega)) := by
          intro i j hi hj
          have hp := hpos i j hi hj
          have h2 := (hrel (i * k + j) (by rw [hlf]; exact hp) (by omega)).1
          have h3 := flat_get (uni_encL (enc := encA) (k := k) hu xs) i j (by rw [encL_length]; exact hi) hj
          rw [List.getElem?_eq_getElem (by rw [hlf]; exact hp), encL_get, List.getElem?_eq_getElem (by rw [hu]; exact hj)] at h3
          injection h3 with h3
          rw [h3] at h2
          exact h2
        have hex : ∀ i : Fin xs.length, ∃ a, enc a = ((List.range k).map fun j => cur[i.1 * k + j]!) ∧ abs a = xs[i.1] := fun i => hrep C xs[i.1] _ (by simp) (fun j h h' => by
          have hj : j < k := by rw [hu] at h; exact h
          have := hcv i.1 j i.2 hj
          have hp := hpos i.1 j i.2 hj
          simpa [getElem!_pos cur (i.1 * k + j) (by omega)] using this)
        obtain ⟨fn, hfn⟩ := Classical.axiomOfChoice hex
        obtain ⟨d, hd⟩ : ∃ d : Array α, d = Array.ofFn fn := ⟨_, rfl⟩
        have hds : d.size = xs.length := by rw [hd]; simp
        have hdg : ∀ i (h : i < xs.length), d[i]! = fn ⟨i, h⟩ := fun i h => by rw [hd, getElem!_pos _ i (by simpa using h)]; simp
        have hdx : d.toList.map abs = xs := by
          apply List.ext_getElem
          · simp [hds]
          · intro i h1 h2
            have h3 : i < d.size := by simpa using h1
            simp only [List.getElem_map, Array.getElem_toList]
            rw [← getElem!_pos d i h3, hdg i h2]
            exact (hfn ⟨i, h2⟩).2
        have hHolds : Go.Sort.HoldsK enc k C.w (C.μ id) 0 d := fun t ht => by
          rw [Go.Sort.size_flatK, hds] at ht
          have hki : t / k < xs.length := Nat.div_lt_of_lt_mul (by rw [Nat.mul_comm]; exact ht)
          have hkj : t % k < k := Nat.mod_lt _ hk0
          have hsum : t / k * k + t % k = t := by rw [Nat.mul_comm]; exact Nat.div_add_mod t k
          have htc : t < cur.size := by omega
          refine ⟨?_, by simp [World.frozen?, hb]⟩
          rw [Go.Sort.get_flatK enc k d t (by rw [hds]; exact ht), hdg _ hki, (hfn ⟨t / k, hki⟩).1]
          simp only [Nat.zero_add, _root_.id]
          rw [getElem!_pos _ _ (by simpa using hkj)]
          simp only [List.getElem_map, List.getElem_range, hsum]
          simp [World.cell?, hb, htc]
        have hcmp : CmpLays P g #[] enc k (fun a b => cf (abs a) (abs b)) (C.μ id) 0 d.size C.w := fun m os dk _ x y => by
          rw [Array.append_empty]; exact hcalls _ x y
        have hcall := AnyQ.slices_SortFunc L k aE zE enc hk h1 (fun a b => cf (abs a) (abs b)) hO g #[] (C.μ id) 0 c d C.w eg hcmp hHolds hlt (by omega)
        rw [hds] at hcall
        refine hcall.mono fun e2 w' ⟨he, d', q, os, hperm, hsort, hw⟩ => ?_
        subst hw
        have hd's : d'.size = xs.length := by rw [hperm.1, hds]
        have hpl : d'.toList.Perm d.toList := by
          have h5 := hperm.2.2
          rwa [← hds, ← hperm.1, Array.extract_size, hperm.1, Array.extract_size] at h5
        have hxl' : (d'.toList.map abs).length = xs.length := by simp [hd's]
        have hF : (Go.Sort.flatK enc k d').size = xs.length * k := by rw [Go.Sort.size_flatK, hd's]
        have hputs : (Go.Sort.putCells _root_.id 0 (Go.Sort.flatK enc k d') cur).size = cur.size := by simp [Go.Sort.putCells]
        have hheap := putRow_heapG _root_.id (Go.Sort.ahead C.w q) (C.μ id) 0 (Go.Sort.flatK enc k d') cur e (0, 0) hb
        obtain ⟨hg1, hx1⟩ := step_gr_in hg id (vs' := flat (encL encA (d'.toList.map abs))) hkC hb (w' := Go.Sort.putRowK enc k (Go.Sort.ahead C.w q) (C.μ id) 0 d') hheap ⟨rfl, rfl, rfl⟩ hputs (by rw [hlf, hlf, hxl']; omega) rfl (fun hxx => by
          refine ⟨Go.Sort.putCells _root_.id 0 (Go.Sort.flatK enc k d') cur, by show (Go.Sort.putRow _ _ _ _ _).heap[_]? = _; rw [hheap]; simp [hlt, Go.Sort.ahead], by rw [hlf, hputs, hxl']; omega, hS, fun j hj hj' => ?_⟩
          rw [hlf, hxl'] at hj
          have hi : j / k < xs.length := Nat.div_lt_of_lt_mul (by rw [Nat.mul_comm]; exact hj)
          have hr : j % k < k := Nat.mod_lt _ hk0
          have hsum : j / k * k + j % k = j := by rw [Nat.mul_comm]; exact Nat.div_add_mod j k
          have hi' : j / k < d'.size := by omega
          have h3 := flat_get (uni_encL (enc := encA) (k := k) hu (d'.toList.map abs)) (j / k) (j % k) (by rw [encL_length, hxl']; exact hi) hr
          rw [hsum, List.getElem?_eq_getElem (by rw [hlf, hxl']; exact hj), encL_get, List.getElem?_eq_getElem (by rw [hu]; exact hr)] at h3
          injection h3 with h3
          rw [h3, putCells_getG _root_.id (Go.Sort.flatK enc k d') cur j (by rw [hF]; exact hj) hj']
          refine ⟨?_, hcell _ _ (List.getElem_mem _)⟩
          simp only [List.getElem_map, Array.getElem_toList, _root_.id]
          rw [← getElem!_pos (Go.Sort.flatK enc k d') j (by rw [hF]; exact hj), Go.Sort.get_flatK enc k d' j (by rw [hd's]; exact hj), getElem!_pos d' (j / k) hi']
          have hmem : d'[j / k] ∈ d.toList := hpl.subset (by simp)
          obtain ⟨i0, hi0, he0⟩ := List.getElem_of_mem hmem
          have hi0' : i0 < xs.length := by simpa [hds] using hi0
          have hd0 : d'[j / k] = fn ⟨i0, hi0'⟩ := by
            rw [← he0, Array.getElem_toList, ← getElem!_pos d i0 (by omega), hdg i0 hi0']
          have h7 := hfn ⟨i0, hi0'⟩
          rw [← hd0] at h7
          have h8 := (hcv i0 (j % k) hi0' hr).ext hxx
          have h9 : ((encA (abs d'[j / k])).cells[j % k]'(by rw [hu]; exact hr)) = (encA xs[i0]).cells[j % k]'(by rw [hu]; exact hr) := by simp only [h7.2]
          rw [h9, h7.1, getElem!_pos _ _ (by simpa using hr)]
          simp only [List.getElem_map, List.getElem_range]
          have hp := hpos i0 (j % k) hi0' hr
          rw [getElem!_pos cur _ (by omega)]
          exact h8)
        obtain ⟨hg2, hx2⟩ := step_more hg1 (Go.Sort.grow (Go.Sort.putRowK enc k (Go.Sort.ahead C.w q) (C.μ id) 0 d') os) os rfl ⟨rfl, rfl, rfl⟩
        refine ⟨_, .tup [], _, he, rfl, hg2, hx1.trans hx2, htup _, d'.toList.map abs, ?_, ?_, rfl, ?_⟩
        · rw [← hdx]; exact (hpl.map abs).symm
        · rw [List.pairwise_map, List.pairwise_iff_getElem]
          intro i j hi hj hij
          have := hsort i j (Nat.zero_le _) hij (by simpa [hd's] using hj)
          rw [getElem!_pos d' j (by simpa using hj), getElem!_pos d' i (by simpa using hi)] at this
          simpa [ltOf] using this
        · have hgo : grO e k (encL encA (d'.toList.map abs)) = .grow e k (flat (encL encA (d'.toList.map abs))) := by
            cases hq : d'.toList.map abs with
            | nil => rw [hq] at hxl'; simp at hxl'; omega
            | cons a r => rfl
          rw [hgo, ← hH]
end Ab
namespace Go.Proofs
open Go.Shelf Go.Sort Go.RowKit
def Tryd.lays106_ren : Go.Shelf.Ren := ⟨fun | 106 => 79 | 213 => 103 | 265 => 115 | n => n, fun | 9 => 9 | 3 => 3 | n => n, fun | n => n⟩
theorem Tryd.lays106 : Go.Proofs.Lays.n106 Tryd.prog Tryd.lays106_ren := {
  mixed := by kernel_rfl
  f106 := Tryd.func79.trans (congrArg some (by kernel_rfl))
  f213 := Tryd.func103.trans (congrArg some (by kernel_rfl))
  f265 := Tryd.func115.trans (congrArg some (by kernel_rfl))
  t3 := Tryd.underlying3
  a3 := Tryd.isAgg3
  z3 := Tryd.sizeOf3
  v3 := Tryd.zeroValue3
  t9 := Tryd.underlying9
  a9 := Tryd.isAgg9
  z9 := Tryd.sizeOf9
  v9 := Tryd.zeroValue9 }
theorem Tryd.strings_Compare (a b : ByteArray) (w : World) :
    Calls Tryd.prog 79 #[.string a, .string b] w fun e w' => e = .returned (.int .i64 (Lib.compareBytes a.data.toList b.data.toList)) ∧ w' = w := Any.strings_Compare Tryd.lays106 a b w
def Tryd.sortBind_ren : Go.Shelf.Ren := ⟨fun | 6 => 86 | 15 => 110 | 14 => 109 | 28 => 124 | 29 => 125 | 20 => 116 | 21 => 117 | 22 => 118 | 23 => 119 | 24 => 120 | 25 => 121 | 26 => 122 | 27 => 123 | 46 => 136 | 47 => 137 | 48 => 138 | 49 => 139 | 50 => 140 | 57 => 149 | n => n, fun | 22 => 52 | 24 => 57 | 25 => 101 | 3 => 3 | 39 => 124 | 0 => 0 | 53 => 136 | 55 => 138 | 4 => 4 | 46 => 130 | 45 => 129 | 50 => 119 | 5 => 5 | 9 => 9 | 66 => 145 | 70 => 149 | 76 => 157 | 77 => 102 | n => n, fun | n => n⟩
theorem Tryd.sortBind : Go.Proofs.SlLaysF0.n6 Tryd.prog Tryd.sortBind_ren := {
  mixed := by kernel_rfl
  f6 := ⟨Tryd.f86.name, by decide, Tryd.func86.trans (congrArg some (by kernel_rfl))⟩
  f14 := ⟨Tryd.f109.name, by decide, Tryd.func109.trans (congrArg some (by kernel_rfl))⟩
  f15 := Tryd.func110.trans (congrArg some (by kernel_rfl))
  f20 := ⟨Tryd.f116.name, by decide, Tryd.func116.trans (congrArg some (by kernel_rfl))⟩
  f21 := ⟨Tryd.f117.name, by decide, Tryd.func117.trans (congrArg some (by kernel_rfl))⟩
  f22 := ⟨Tryd.f118.name, by decide, Tryd.func118.trans (congrArg some (by kernel_rfl))⟩
  f23 := ⟨Tryd.f119.name, by decide, Tryd.func119.trans (congrArg some (by kernel_rfl))⟩
  f24 := ⟨Tryd.f120.name, by decide, Tryd.func120.trans (congrArg some (by kernel_rfl))⟩
  f25 := ⟨Tryd.f121.name, by decide, Tryd.func121.trans (congrArg some (by kernel_rfl))⟩
  f26 := ⟨Tryd.f122.name, by decide, Tryd.func122.trans (congrArg some (by kernel_rfl))⟩
  f27 := ⟨Tryd.f123.name, by decide, Tryd.func123.trans (congrArg some (by kernel_rfl))⟩
  f28 := Tryd.func124.trans (congrArg some (by kernel_rfl))
  f29 := Tryd.func125.trans (congrArg some (by kernel_rfl))
  f46 := ⟨Tryd.f136.name, by decide, Tryd.func136.trans (congrArg some (by kernel_rfl))⟩
  f47 := Tryd.func137.trans (congrArg some (by kernel_rfl))
  f48 := Tryd.func138.trans (congrArg some (by kernel_rfl))
  f49 := ⟨Tryd.f139.name, by decide, Tryd.func139.trans (congrArg some (by kernel_rfl))⟩
  f50 := ⟨Tryd.f140.name, by decide, Tryd.func140.trans (congrArg some (by kernel_rfl))⟩
  f57 := ⟨Tryd.f149.name, by decide, Tryd.func149.trans (congrArg some (by kernel_rfl))⟩
  t0 := Tryd.underlying0
  a0 := Tryd.isAgg0
  z0 := Tryd.sizeOf0
  v0 := Tryd.zeroValue0
  t3 := Tryd.underlying3
  a3 := Tryd.isAgg3
  z3 := Tryd.sizeOf3
  v3 := Tryd.zeroValue3
  t4 := Tryd.underlying4
  a4 := Tryd.isAgg4
  z4 := Tryd.sizeOf4
  v4 := Tryd.zeroValue4
  t5 := Tryd.underlying5
  a5 := Tryd.isAgg5
  z5 := Tryd.sizeOf5
  v5 := Tryd.zeroValue5
  t9 := Tryd.underlying9
  a9 := Tryd.isAgg9
  z9 := Tryd.sizeOf9
  v9 := Tryd.zeroValue9
  t22 := Tryd.underlying52
  a22 := Tryd.isAgg52
  z22 := Tryd.sizeOf52
  v22 := Tryd.zeroValue52
  t25 := Tryd.underlying101
  a25 := Tryd.isAgg101
  z25 := Tryd.sizeOf101
  v25 := Tryd.zeroValue101
  t39 := Tryd.underlying124
  a39 := Tryd.isAgg124
  z39 := Tryd.sizeOf124
  v39 := Tryd.zeroValue124
  t45 := Tryd.underlying129
  a45 := Tryd.isAgg129
  z45 := Tryd.sizeOf129
  v45 := Tryd.zeroValue129
  t46 := Tryd.underlying130
  a46 := Tryd.isAgg130
  z46 := Tryd.sizeOf130
  v46 := Tryd.zeroValue130
  t50 := Tryd.underlying119
  a50 := Tryd.isAgg119
  z50 := Tryd.sizeOf119
  v50 := Tryd.zeroValue119
  t53 := Tryd.underlying136
  a53 := Tryd.isAgg136
  z53 := Tryd.sizeOf136
  v53 := Tryd.zeroValue136
  t55 := Tryd.underlying138
  a55 := Tryd.isAgg138
  z55 := Tryd.sizeOf138
  v55 := Tryd.zeroValue138
  t66 := Tryd.underlying145
  a66 := Tryd.isAgg145
  z66 := Tryd.sizeOf145
  v66 := Tryd.zeroValue145
  t70 := Tryd.underlying149
  a70 := Tryd.isAgg149
  z70 := Tryd.sizeOf149
  v70 := Tryd.zeroValue149
  t76 := Tryd.underlying157
  a76 := Tryd.isAgg157
  z76 := Tryd.sizeOf157
  v76 := Tryd.zeroValue157
  t77 := Tryd.underlying102
  a77 := Tryd.isAgg102
  z77 := Tryd.sizeOf102
  v77 := Tryd.zeroValue102 }
end Go.Proofs
set_option maxRecDepth 10000
namespace Ab
open Go Go.Proofs
theorem flat_encN (l : List (List UInt8)) : flat (encN l) = encN l := flat_cells _ (fun v hv => by simp [encN, encL] at hv; obtain ⟨b, _, rfl⟩ := hv; rfl)
end Ab
set_option maxRecDepth 10000
namespace Ab
open Go Go.Proofs
def tA (ks : List (List UInt8)) : List (AV × AV) := ks.map fun k => (AV.str k, AV.bool true)
def lA (o : Option (List UInt8)) : Option (AV × AV) := o.map fun k => (AV.str k, AV.bool true)
theorem osc_tA (n ver : Nat) (ks : List (List UInt8)) : OScoped n (.map ver (tA ks)) = True := by
  refine eq_true ?_
  intro e he
  simp only [tA, List.mem_map] at he
  obtain ⟨k, _, rfl⟩ := he
  exact ⟨trivial, trivial⟩
theorem osc_it (n m ver : Nat) (ks : List (List UInt8)) (o : Option (List UInt8)) (h : m < n) : OScoped n (.iter m ver (tA ks) (lA o)) = True := by
  refine eq_true ⟨h, ?_⟩
  rintro e (he | he)
  · simp only [tA, List.mem_map] at he
    obtain ⟨k, _, rfl⟩ := he
    exact ⟨trivial, trivial⟩
  · cases o with
    | none => cases he
    | some k => simp only [lA, Option.map_some, Option.some.injEq] at he; subst he; exact ⟨trivial, trivial⟩
theorem osc_m0 (n ver : Nat) : OScoped n (.map ver []) = True := eq_true (fun e he => by cases he)
theorem osc_itn (n m ver : Nat) (ks : List (List UInt8)) (h : m < n) : OScoped n (.iter m ver (tA ks) none) = True := osc_it n m ver ks none h
theorem osc_its (n m ver : Nat) (ks : List (List UInt8)) (k : List UInt8) (h : m < n) : OScoped n (.iter m ver (tA ks) (some (.str k, .bool true))) = True := osc_it n m ver ks (some k) h
theorem scflN (n : Nat) (l : List (List UInt8)) : ScopedL n (flat (encL AV.str l)) = True := by rw [show flat (encL AV.str l) = encN l from flat_encN l]; exact scN_ n l
attribute [push_cast] osc_tA osc_it osc_itn osc_its osc_m0 scflN
theorem grS_len (k : Nat) {xs ys : List AV} (h : xs.length = ys.length) : grS k xs = grS k ys := by
  cases xs <;> cases ys <;> simp [grS] at h ⊢ <;> omega
end Ab
namespace Ab
open Go Go.Proofs
def oneP (v n : List UInt8) (u : Bool) : Int := if u = true ∧ n = v then 1 else 0
def countP (v : List UInt8) : Term → Int
  | .mk n u xs => oneP v n u + (xs.map (countP v)).sum
theorem cb_cons (a b : UInt8) (x y : List UInt8) : Lib.compareBytes (a :: x) (b :: y) = if a < b then -1 else if b < a then 1 else Lib.compareBytes x y := by rw [Lib.compareBytes]
theorem cb_trans : ∀ (x y z : List UInt8), Lib.compareBytes x y < 0 → Lib.compareBytes y z < 0 → Lib.compareBytes x z < 0
  | [], [], _, h, _ => by simp [Lib.compareBytes] at h
  | [], _ :: _, [], _, h => by simp [Lib.compareBytes] at h
  | [], _ :: _, _ :: _, _, _ => by simp [Lib.compareBytes]
  | _ :: _, [], _, h, _ => by simp [Lib.compareBytes] at h
  | _ :: _, _ :: _, [], _, h => by simp [Lib.compareBytes] at h
  | a :: x, b :: y, c :: z, h1, h2 => by
    rw [cb_cons] at h1 h2 ⊢
    simp only [UInt8.lt_iff_toNat_lt] at h1 h2 ⊢
    split at h1
    · split at h2
      · rw [if_pos (by omega)]; decide
      · split at h2
        · exact absurd h2 (by decide)
        · rw [if_pos (by omega)]; decide
    · split at h1
      · exact absurd h1 (by decide)
      · split at h2
        · rw [if_pos (by omega)]; decide
        · split at h2
          · exact absurd h2 (by decide)
          · rw [if_neg (by omega), if_neg (by omega)]; exact cb_trans x y z h1 h2
theorem cb_tot : ∀ (x y : List UInt8), ¬ Lib.compareBytes x y < 0 → x ≠ y → Lib.compareBytes y x < 0
  | [], [], _, h => absurd rfl h
  | [], _ :: _, h, _ => by simp [Lib.compareBytes] at h
  | _ :: _, [], _, _ => by simp [Lib.compareBytes]
  | a :: x, b :: y, h, hne => by
    rw [cb_cons] at h ⊢
    split at h
    · exact absurd (by decide) h
    · rename_i h1
      split at h
      · rename_i h2; rw [if_pos h2]; decide
      · rename_i h2
        rw [if_neg h2, if_neg h1]
        have hab : a = b := by rw [UInt8.lt_iff_toNat_lt] at h1 h2; exact UInt8.toNat_inj.1 (by omega)
        exact cb_tot x y h (fun e => hne (by rw [hab, e]))
def SortedN (l : List (List UInt8)) : Prop := l.Pairwise fun a b => Lib.compareBytes a b < 0
theorem takeW_all {α : Type} (p : α → Bool) : ∀ (l : List α) x, x ∈ l.take (l.takeWhile p).length → p x = true
  | [], x, h => by simp at h
  | a :: l, x, h => by
    rw [List.takeWhile_cons] at h
    split at h
    · rename_i ha
      simp only [List.length_cons, List.take_succ_cons, List.mem_cons] at h
      rcases h with rfl | h
      · exact ha
      · exact takeW_all p l x h
    · simp at h
theorem takeW_next {α : Type} (p : α → Bool) : ∀ (l : List α) a r, l.drop (l.takeWhile p).length = a :: r → p a = false
  | [], a, r, h => by simp at h
  | b :: l, a, r, h => by
    rw [List.takeWhile_cons] at h
    split at h
    · simp only [List.length_cons, List.drop_succ_cons] at h; exact takeW_next p l a r h
    · rename_i hb
      simp only [List.length_nil, List.drop_zero, List.cons.injEq] at h
      rw [← h.1]; simpa using hb
theorem insertP_sorted (l : List (List UInt8)) (s : List UInt8) (h : SortedN l) : SortedN (insertP l s) := by
  unfold insertP
  split
  · exact h
  · rename_i hne
    have hl : l.take (insAt l s) ++ l.drop (insAt l s) = l := List.take_append_drop _ _
    have h' : SortedN (l.take (insAt l s) ++ l.drop (insAt l s)) := by rw [hl]; exact h
    unfold SortedN at h' ⊢
    rw [List.pairwise_append] at h'
    obtain ⟨g1, g2, g3⟩ := h'
    have hlt : ∀ x, x ∈ l.take (insAt l s) → Lib.compareBytes x s < 0 := fun x hx => by
      have := takeW_all (fun x => decide (Lib.compareBytes x s < 0)) l x hx
      simpa using this
    have hgt : ∀ x, x ∈ l.drop (insAt l s) → Lib.compareBytes s x < 0 := by
      cases hd : l.drop (insAt l s) with
      | nil => intro x hx; cases hx
      | cons a r =>
        have h1 := takeW_next (fun x => decide (Lib.compareBytes x s < 0)) l a r hd
        have h1 : ¬ Lib.compareBytes a s < 0 := by simpa using h1
        have h0 : l[insAt l s]? = some a := by
          have := congrArg (fun z => z[0]?) hd
          simpa using this
        have ha : Lib.compareBytes s a < 0 := cb_tot a s h1 (fun e => hne (by rw [h0, e]))
        rw [hd] at g2
        intro x hx
        rcases List.mem_cons.1 hx with rfl | hx
        · exact ha
        · exact cb_trans _ _ _ ha ((List.pairwise_cons.1 g2).1 x hx)
    rw [List.append_assoc, List.pairwise_append]
    refine ⟨g1, ?_, ?_⟩
    · rw [List.singleton_append, List.pairwise_cons]
      exact ⟨hgt, g2⟩
    · intro a ha b hb
      rcases List.mem_append.1 hb with hb | hb
      · rw [List.mem_singleton] at hb; subst hb; exact hlt a ha
      · exact g3 a ha b hb
theorem sortedN_nodup {l : List (List UInt8)} (h : SortedN l) : l.Nodup := List.Pairwise.imp (fun {a b} hab e => by
  subst e
  have := (compareBytes_eq a a).2 rfl
  omega) h
end Ab
set_option maxRecDepth 10000
namespace Ab
open Go Go.Proofs
theorem firstErr_drop : ∀ (ts : List Term) (i : Nat), firstErr (ts.take i) = 0 → firstErr ts = firstErr (ts.drop i)
  | ts, 0, _ => rfl
  | [], _ + 1, _ => rfl
  | a :: r, i + 1, h => by
    simp only [List.take_succ_cons, firstErr] at h
    by_cases h0 : checkP a = 0
    · simp only [h0, if_true] at h
      simp only [firstErr, h0, if_true, List.drop_succ_cons]
      exact firstErr_drop r i h
    · rw [if_neg h0] at h; exact absurd h h0
theorem firstErr_take : ∀ (ts : List Term) (i : Nat) (hi : i < ts.length), firstErr (ts.take i) = 0 → checkP ts[i] = 0 → firstErr (ts.take (i + 1)) = 0
  | [], _, hi, _, _ => absurd hi (by simp)
  | a :: r, 0, _, _, h => by have h' : checkP a = 0 := h
                             simp [firstErr, h']
  | a :: r, i + 1, hi, h, h2 => by
    simp only [List.take_succ_cons, firstErr] at h ⊢
    by_cases h0 : checkP a = 0
    · simp only [h0, if_true] at h ⊢; exact firstErr_take r i (by simpa using hi) h (by simpa using h2)
    · rw [if_neg h0] at h; exact absurd h h0
theorem firstErr_iff : ∀ ts : List Term, firstErr ts = 0 ↔ ∀ t, t ∈ ts → checkP t = 0
  | [] => by simp [firstErr]
  | t :: r => by
    have ih := firstErr_iff r
    unfold firstErr
    by_cases h : checkP t = 0 <;> simp [h, ih]
theorem bytesLess_cmp : ∀ a b : List UInt8, (Op.bytesLess a b = true ↔ Lib.compareBytes a b < 0) ∧ (Lib.compareBytes b a < 0 ↔ 0 < Lib.compareBytes a b)
  | [], [] => by simp [Op.bytesLess, Lib.compareBytes]
  | [], _ :: _ => by simp [Op.bytesLess, Lib.compareBytes]
  | _ :: _, [] => by simp [Op.bytesLess, Lib.compareBytes]
  | a :: x, b :: y => by
    have ih := bytesLess_cmp x y
    unfold Op.bytesLess Lib.compareBytes
    simp only [UInt8.lt_iff_toNat_lt]
    rcases Nat.lt_trichotomy a.toNat b.toNat with h | h | h
    · have h2 : ¬ b.toNat < a.toNat := by omega
      simp [h, h2]
    · have e : a = b := UInt8.toNat_inj.1 h
      subst e
      have h2 : ¬ a.toNat < a.toNat := by omega
      simp only [h2, if_false, decide_false, Bool.false_or, beq_self_eq_true, Bool.true_and]; exact ih
    · have h2 : ¬ a.toNat < b.toNat := by omega
      have h3 : ¬ a = b := fun e => by subst e; omega
      simp [h, h2, h3]
theorem leS_cmp (a b : List UInt8) : (Op.bytesLess a b || decide (a = b)) = !decide (Lib.compareBytes b a < 0) := by
  have h1 := bytesLess_cmp a b
  have h3 := bytesLess_cmp b a
  have h2 := compareBytes_eq b a
  rw [Bool.eq_iff_iff, Bool.or_eq_true, decide_eq_true_eq, h1.1, Bool.not_eq_true', decide_eq_false_iff_not]
  constructor
  · rintro (h | h) h4
    · have := h1.2.1 h4; omega
    · have := h2.2 h.symm; omega
  · intro h
    rcases Int.lt_trichotomy (Lib.compareBytes b a) 0 with h4 | h4 | h4
    · exact absurd h4 h
    · exact .inr (h2.1 h4).symm
    · exact .inl (h3.2.2 h4)
theorem cb_self (a : List UInt8) : Lib.compareBytes a a = 0 := (compareBytes_eq a a).2 rfl
def subAt (σ : List (List UInt8 × Term)) (i : Nat) : Bool := isNameP (σ.getD i ([], .mk [] false [])).1 false && (decide (i = 0) || decide (Lib.compareBytes (σ.getD (i - 1) ([], .mk [] false [])).1 (σ.getD i ([], .mk [] false [])).1 < 0))
def subCheck (σ : List (List UInt8 × Term)) : Int := if (List.range σ.length).all (subAt σ) then firstErr (σ.map (·.2)) else 4
theorem subAt_eq (σ : List (List UInt8 × Term)) (i : Nat) (h : i < σ.length) : subAt σ i = (isNameP σ[i].1 false && (decide (i = 0) || decide (Lib.compareBytes (σ[i - 1]'(by omega)).1 σ[i].1 < 0))) := by
  unfold subAt
  rw [show σ.getD i ([], .mk [] false []) = σ[i] from by simp [h], show σ.getD (i - 1) ([], .mk [] false []) = σ[i - 1]'(by omega) from by simp [show i - 1 < σ.length by omega]]
theorem sub_sorted {σ : List (List UInt8 × Term)} (h : (List.range σ.length).all (subAt σ) = true) : SortedN (σ.map (·.1)) := by
  rw [List.all_eq_true] at h
  have step : ∀ k (hk : k + 1 < σ.length), Lib.compareBytes σ[k].1 σ[k + 1].1 < 0 := by
    intro k hk
    have h1 := h (k + 1) (by simpa using hk)
    rw [subAt_eq σ (k + 1) hk] at h1
    simp only [Bool.and_eq_true, Bool.or_eq_true, decide_eq_true_eq] at h1
    rcases h1.2 with h2 | h2
    · omega
    · exact h2
  unfold SortedN
  rw [List.pairwise_map, List.pairwise_iff_getElem]
  intro i j hi hj hij
  obtain ⟨d, rfl⟩ : ∃ d, j = i + 1 + d := ⟨j - (i + 1), by omega⟩
  clear hij
  induction d with
  | zero => exact step i hj
  | succ d ih => exact cb_trans _ _ _ (ih (by omega)) (step (i + 1 + d) (by omega))
theorem sub_names {σ : List (List UInt8 × Term)} (h : (List.range σ.length).all (subAt σ) = true) : ∀ b, b ∈ σ → isNameP b.1 false = true := by
  intro b hb
  obtain ⟨i, hi, rfl⟩ := List.getElem_of_mem hb
  rw [List.all_eq_true] at h
  have h1 := h i (by simpa using hi)
  rw [subAt_eq σ i hi, Bool.and_eq_true] at h1
  exact h1.1
theorem subCheck_iff (σ : List (List UInt8 × Term)) : subCheck σ = 0 ↔ SortedN (σ.map (·.1)) ∧ ∀ b, b ∈ σ → isNameP b.1 false = true ∧ checkP b.2 = 0 := by
  unfold subCheck
  constructor
  · intro h
    split at h
    · rename_i h1
      rw [firstErr_iff] at h
      exact ⟨sub_sorted h1, fun b hb => ⟨sub_names h1 b hb, h _ (List.mem_map_of_mem hb)⟩⟩
    · exact absurd h (by decide)
  · rintro ⟨h1, h2⟩
    rw [if_pos, firstErr_iff]
    · intro t ht
      obtain ⟨b, hb, rfl⟩ := List.mem_map.1 ht
      exact (h2 b hb).2
    · rw [List.all_eq_true]
      intro i hi
      have hi : i < σ.length := by simpa using hi
      rw [subAt_eq σ i hi, (h2 _ (List.getElem_mem hi)).1]
      by_cases h0 : i = 0
      · simp [h0]
      · unfold SortedN at h1
        rw [List.pairwise_map, List.pairwise_iff_getElem] at h1
        have := h1 (i - 1) i (by omega) hi (by omega)
        simp [this]
theorem sortedS_get {σ : List (List UInt8 × Term)} (h : SortedN (σ.map (·.1))) (i j : Nat) (hi : i < σ.length) (hj : j < σ.length) (hij : i < j) : Lib.compareBytes σ[i].1 σ[j].1 < 0 := by
  unfold SortedN at h
  rw [List.pairwise_map, List.pairwise_iff_getElem] at h
  exact h i j hi hj hij
def look (σ : List (List UInt8 × Term)) (v : List UInt8) : Option Term := (σ.find? fun b => decide (b.1 = v)).map (·.2)
theorem image_look (σ : List (List UInt8 × Term)) (v : List UInt8) : imageP σ v = (look σ v).getD (.mk v true []) := rfl
theorem look_some {σ : List (List UInt8 × Term)} (h : SortedN (σ.map (·.1))) (i : Nat) (hi : i < σ.length) : look σ σ[i].1 = some σ[i].2 := by
  unfold look
  have : σ.find? (fun b => decide (b.1 = σ[i].1)) = some σ[i] := by
    rw [List.find?_eq_some_iff_getElem]
    refine ⟨by simp, i, hi, rfl, fun j hj => ?_⟩
    have h1 := sortedS_get h j i (by omega) hi hj
    simp only [decide_eq_true_eq, Bool.not_eq_true', decide_eq_false_iff_not]
    intro e
    rw [e, cb_self] at h1
    omega
  rw [this]; rfl
theorem look_mem {σ : List (List UInt8 × Term)} (h : SortedN (σ.map (·.1))) {b : List UInt8 × Term} (hb : b ∈ σ) : look σ b.1 = some b.2 := by
  obtain ⟨i, hi, rfl⟩ := List.getElem_of_mem hb
  exact look_some h i hi
theorem look_none {σ : List (List UInt8 × Term)} {v : List UInt8} (h : ∀ b, b ∈ σ → b.1 ≠ v) : look σ v = none := by
  unfold look
  rw [List.find?_eq_none.2 (fun b hb => by simpa using h b hb)]; rfl
theorem look_some_mem {σ : List (List UInt8 × Term)} {v : List UInt8} {t : Term} (h : look σ v = some t) : (v, t) ∈ σ := by
  unfold look at h
  cases hf : σ.find? (fun b => decide (b.1 = v)) with
  | none => rw [hf] at h; cases h
  | some b =>
    rw [hf] at h
    injection h with h
    have h1 := List.find?_some hf
    have h2 := List.mem_of_find?_eq_some hf
    simp only [decide_eq_true_eq] at h1
    rw [← h1, ← h]; exact h2
theorem look_cases {σ : List (List UInt8 × Term)} (v : List UInt8) : (∃ b, b ∈ σ ∧ b.1 = v ∧ look σ v = some b.2) ∨ look σ v = none := by
  cases h : look σ v with
  | none => exact .inr rfl
  | some t => exact .inl ⟨(v, t), look_some_mem h, rfl, rfl⟩
theorem apply_size (σ : List (List UInt8 × Term)) (B : Nat) (hB : 1 ≤ B) (h : ∀ b, b ∈ σ → b.2.size ≤ B) (t : Term) : (applyP σ t).size ≤ t.size * B := by
  induction t using Term.ind with | _ n u xs ih
  rw [applyP_mk]
  split
  · have h1 : 1 ≤ (Term.mk n u xs).size := Term.size_pos _
    have h2 : (imageP σ n).size ≤ B := by
      rw [image_look]
      rcases look_cases (σ := σ) n with ⟨b, hb, _, e⟩ | e
      · rw [e]; exact h b hb
      · rw [e]; simpa [Term.size_mk] using hB
    calc (imageP σ n).size ≤ 1 * B := by omega
      _ ≤ _ := Nat.mul_le_mul_right B h1
  · rw [Term.size_mk, Term.size_mk, Nat.add_mul]
    have h2 : ((xs.map (applyP σ)).map Term.size).sum ≤ (xs.map Term.size).sum * B := by
      clear hB
      induction xs with
      | nil => simp
      | cons a r ih2 =>
        have h3 := ih a (by simp)
        have h4 := ih2 (fun x hx => ih x (by simp [hx]))
        simp only [List.map_cons, List.sum_cons, Nat.add_mul]
        omega
    omega
theorem name_small {s : List UInt8} {m : Bool} (h : isNameP s m = true) : s.length ≤ 24 := by
  unfold isNameP at h
  rw [Bool.and_eq_true, decide_eq_true_eq] at h
  exact h.1
theorem formed_bulk (t : Term) : formedP t = true → t.bulk ≤ 25 * t.size := by
  induction t using Term.ind with | _ n u xs ih
  intro h
  rw [formedP_mk] at h
  rw [Term.bulk_mk, Term.size_mk]
  split at h
  · rw [Bool.and_eq_true, decide_eq_true_eq] at h
    have h1 := name_small h.2
    have h2 := List.eq_nil_of_length_eq_zero h.1
    subst h2
    simp; omega
  · rw [Bool.and_eq_true, Bool.and_eq_true, List.all_eq_true] at h
    have h1 := name_small h.1.2
    have h2 : (xs.map Term.bulk).sum ≤ 25 * (xs.map Term.size).sum := by
      have h3 := h.2
      clear h
      induction xs with
      | nil => simp
      | cons a r ih2 =>
        have h4 := ih a (by simp) (h3 a (by simp))
        have h5 := ih2 (fun x hx => ih x (by simp [hx])) (fun x hx => h3 x (by simp [hx]))
        simp only [List.map_cons, List.sum_cons]
        omega
    omega
theorem check_iff (t : Term) : checkP t = 0 ↔ formedP t = true ∧ fitsP t = true := by
  unfold checkP
  cases formedP t <;> cases fitsP t <;> simp
theorem fits_size {t : Term} (h : fitsP t = true) : t.size ≤ 4000 := by
  unfold fitsP at h
  rw [Bool.and_eq_true, decide_eq_true_eq] at h
  exact h.1
theorem check_small {t : Term} (h : checkP t = 0) : t.size ≤ 4000 ∧ t.bulk ≤ 100000 := by
  have h1 := (check_iff t).1 h
  have h2 := fits_size h1.2
  have h3 := formed_bulk t h1.1
  omega
theorem formed_apply (σ : List (List UInt8 × Term)) (h : ∀ b, b ∈ σ → formedP b.2 = true) (t : Term) : formedP t = true → formedP (applyP σ t) = true := by
  induction t using Term.ind with | _ n u xs ih
  intro ht
  rw [applyP_mk]
  rw [formedP_mk] at ht
  cases u with
  | true =>
    simp only [if_true] at ht ⊢
    rw [image_look]
    rcases look_cases (σ := σ) n with ⟨b, hb, _, e⟩ | e
    · rw [e]; exact h b hb
    · rw [e]
      show formedP (.mk n true []) = true
      rw [formedP_mk]
      rw [Bool.and_eq_true] at ht
      simp [ht.2]
  | false =>
    simp only [Bool.false_eq_true, if_false] at ht ⊢
    rw [formedP_mk]
    simp only [Bool.false_eq_true, if_false, List.length_map, List.all_map]
    rw [Bool.and_eq_true, List.all_eq_true] at ht ⊢
    exact ⟨ht.1, fun x hx => ih x hx (ht.2 x hx)⟩
def insOnly (σ τ : List (List UInt8 × Term)) : List (List UInt8 × Term) := τ.filter fun b => (look σ b.1).isNone
def compL (σ τ : List (List UInt8 × Term)) : List (List UInt8 × Term) := (σ.map fun b => (b.1, applyP τ b.2)) ++ insOnly σ τ
def compNames (σ τ : List (List UInt8 × Term)) : List (List UInt8) := sortedP ((σ ++ τ).map (·.1))
def compS (σ τ : List (List UInt8 × Term)) : List (List UInt8 × Term) := (compNames σ τ).map fun v => (v, applyP τ (imageP σ v))
theorem map_id_snd {β γ : Type} (f : β → γ) (l : List β) : (l.map fun v => (v, f v)).map (·.1) = l := by
  rw [List.map_map]; exact List.map_id' _
theorem sortedP_sorted (l : List (List UInt8)) : SortedN (sortedP l) := by
  have : ∀ (l m : List (List UInt8)), SortedN m → SortedN (l.foldl insertP m) := by
    intro l
    induction l with
    | nil => intro m h; exact h
    | cons a l ih => intro m h; exact ih _ (insertP_sorted m a h)
  exact this l [] List.Pairwise.nil
theorem compS_sorted (σ τ : List (List UInt8 × Term)) : SortedN ((compS σ τ).map (·.1)) := by
  unfold compS
  rw [map_id_snd]; exact sortedP_sorted _
theorem mem_compNames (σ τ : List (List UInt8 × Term)) (v : List UInt8) : v ∈ compNames σ τ ↔ (∃ b, b ∈ σ ∧ b.1 = v) ∨ ∃ b, b ∈ τ ∧ b.1 = v := by
  unfold compNames
  rw [mem_sortedP, List.map_append, List.mem_append, List.mem_map, List.mem_map]
theorem look_isNone {σ : List (List UInt8 × Term)} {v : List UInt8} : (look σ v).isNone = true ↔ ∀ b, b ∈ σ → b.1 ≠ v := by
  constructor
  · intro h b hb e
    subst e
    unfold look at h
    rw [Option.isNone_iff_eq_none, Option.map_eq_none_iff, List.find?_eq_none] at h
    exact h b hb (by simp)
  · intro h; rw [look_none h]; rfl
theorem apply_var (τ : List (List UInt8 × Term)) (v : List UInt8) : applyP τ (.mk v true []) = imageP τ v := by rw [applyP_mk]; simp
theorem mem_compL {σ τ : List (List UInt8 × Term)} (hs : SortedN (σ.map (·.1))) (ht : SortedN (τ.map (·.1))) (p : List UInt8 × Term) : p ∈ compL σ τ ↔ p ∈ compS σ τ := by
  unfold compL insOnly compS
  rw [List.mem_append, List.mem_map, List.mem_filter, List.mem_map]
  constructor
  · rintro (⟨b, hb, rfl⟩ | ⟨hp, hn⟩)
    · refine ⟨b.1, (mem_compNames σ τ _).2 (.inl ⟨b, hb, rfl⟩), ?_⟩
      rw [image_look, look_mem hs hb]; rfl
    · refine ⟨p.1, (mem_compNames σ τ _).2 (.inr ⟨p, hp, rfl⟩), ?_⟩
      rw [image_look σ, look_none (look_isNone.1 hn)]
      show (p.1, applyP τ (.mk p.1 true [])) = p
      rw [apply_var, image_look, look_mem ht hp]; rfl
  · rintro ⟨v, hv, rfl⟩
    rcases look_cases (σ := σ) v with ⟨b, hb, rfl, e⟩ | e
    · refine .inl ⟨b, hb, ?_⟩
      rw [image_look, e]; rfl
    · refine .inr ?_
      have hn := look_isNone (σ := σ).1 (by rw [e]; rfl)
      rcases (mem_compNames σ τ v).1 hv with ⟨b, hb, hbv⟩ | ⟨b, hb, rfl⟩
      · exact absurd hbv (hn b hb)
      · rw [image_look σ, e]
        show (b.1, applyP τ (.mk b.1 true [])) ∈ τ ∧ _
        rw [apply_var, image_look, look_mem ht hb]
        exact ⟨hb, rfl⟩
theorem nodup_of_map {β γ : Type} (f : β → γ) {l : List β} (h : (l.map f).Nodup) : l.Nodup := by
  unfold List.Nodup at *
  rw [List.pairwise_map] at h
  exact h.imp fun {a b} hab e => hab (by rw [e])
theorem sortedS_nodup {σ : List (List UInt8 × Term)} (h : SortedN (σ.map (·.1))) : σ.Nodup := nodup_of_map _ (sortedN_nodup h)
theorem compL_nodup {σ τ : List (List UInt8 × Term)} (hs : SortedN (σ.map (·.1))) (ht : SortedN (τ.map (·.1))) : ((compL σ τ).map (·.1)).Nodup := by
  unfold compL insOnly
  rw [List.map_append, List.map_map, List.nodup_append]
  refine ⟨sortedN_nodup hs, ?_, ?_⟩
  · exact (sortedN_nodup ht).sublist (List.Sublist.map _ List.filter_sublist)
  · intro a ha b hb e
    subst e
    obtain ⟨x, hx, rfl⟩ := List.mem_map.1 ha
    obtain ⟨y, hy, hxy⟩ := List.mem_map.1 hb
    rw [List.mem_filter] at hy
    exact look_isNone.1 hy.2 x hx hxy.symm
theorem compL_perm {σ τ : List (List UInt8 × Term)} (hs : SortedN (σ.map (·.1))) (ht : SortedN (τ.map (·.1))) : (compS σ τ).Perm (compL σ τ) :=
  (List.perm_ext_iff_of_nodup (sortedS_nodup (compS_sorted σ τ)) (nodup_of_map _ (compL_nodup hs ht))).2 fun p => (mem_compL hs ht p).symm
theorem sortedS_unique {l l' : List (List UInt8 × Term)} (hp : l.Perm l') (h : SortedN (l.map (·.1))) (hs : l'.Pairwise fun a b => ¬ Lib.compareBytes b.1 a.1 < 0) : l' = l := by
  have hn : (l'.map (·.1)).Nodup := (hp.map _).nodup_iff.1 (sortedN_nodup h)
  have h2 : SortedN (l'.map (·.1)) := by
    unfold SortedN
    rw [List.pairwise_map]
    unfold List.Nodup at hn
    rw [List.pairwise_map] at hn
    refine (hs.and hn).imp ?_
    rintro a b ⟨h3, h4⟩
    rcases Int.lt_trichotomy (Lib.compareBytes a.1 b.1) 0 with h5 | h5 | h5
    · exact h5
    · exact absurd ((compareBytes_eq _ _).1 h5) h4
    · exact absurd ((bytesLess_cmp a.1 b.1).2.2 h5) h3
  unfold SortedN at h h2
  rw [List.pairwise_map] at h h2
  exact List.Perm.eq_of_pairwise (fun a b _ _ h1 h3 => by have := cb_trans _ _ _ h1 h3; rw [cb_self] at this; omega) h2 h hp.symm
theorem image_comp {σ τ : List (List UInt8 × Term)} (ht : SortedN (τ.map (·.1))) (v : List UInt8) : imageP (compS σ τ) v = applyP τ (imageP σ v) := by
  by_cases hv : v ∈ compNames σ τ
  · have hm : (v, applyP τ (imageP σ v)) ∈ compS σ τ := List.mem_map_of_mem hv
    rw [image_look, look_mem (compS_sorted σ τ) hm]; rfl
  · have hn : ∀ b, b ∈ compS σ τ → b.1 ≠ v := by
      intro b hb e
      obtain ⟨w, hw, rfl⟩ := List.mem_map.1 hb
      exact hv (e ▸ hw)
    rw [mem_compNames] at hv
    rw [image_look, look_none hn, image_look σ, look_none (fun b hb e => hv (.inl ⟨b, hb, e⟩))]
    show Term.mk v true [] = applyP τ (.mk v true [])
    rw [apply_var, image_look, look_none (fun b hb e => hv (.inr ⟨b, hb, e⟩))]; rfl
theorem apply_comp {σ τ : List (List UInt8 × Term)} (ht : SortedN (τ.map (·.1))) (t : Term) : applyP (compS σ τ) t = applyP τ (applyP σ t) := by
  induction t using Term.ind with | _ n u xs ih
  rw [applyP_mk, applyP_mk]
  cases u with
  | true => simp only [if_true]; exact image_comp ht n
  | false =>
    simp only [Bool.false_eq_true, if_false]
    rw [applyP_mk]
    simp only [Bool.false_eq_true, if_false, List.map_map, Term.mk.injEq, true_and]
    exact List.map_congr_left fun x hx => ih x hx
end Ab
set_option maxRecDepth 10000
namespace Ab
open Go Go.Proofs
theorem compareString_ac (a b : List UInt8) (H : List AObj) : ACall Tryd.prog 103 [.str a, .str b] H (fun r H' => r = .int .i64 (Lib.compareBytes a b) ∧ H' = H) := by
  refine ACall_V (H.length) 6 [.tmp 4] Tryd.func103 rfl rfl rfl ?_
  simp only [push_cast, Nat.reduceAdd, Nat.reduceSub, Nat.reduceMul, Nat.reduceLT, Nat.reduceLeDiff, Nat.reduceEqDiff, Int.reduceToNat, ↓reduceIte]
  refine AOp_cmpstring a b xc115 rfl rfl ?_
  simp only [push_cast, Nat.reduceAdd, Nat.reduceSub, Nat.reduceMul, Nat.reduceLT, Nat.reduceLeDiff, Nat.reduceEqDiff, Int.reduceToNat, ↓reduceIte]
theorem compareStr_ac (a b : List UInt8) (H : List AObj) : ACall Tryd.prog 79 [.str a, .str b] H (fun r H' => r = .int .i64 (Lib.compareBytes a b) ∧ H' = H) := by
  refine ACall_V (H.length) 6 [.tmp 4] Tryd.func79 rfl rfl rfl ?_
  simp only [push_cast, Nat.reduceAdd, Nat.reduceSub, Nat.reduceMul, Nat.reduceLT, Nat.reduceLeDiff, Nat.reduceEqDiff, Int.reduceToNat, ↓reduceIte]
  refine (compareString_ac a b _).to ?_
  simp only [push_cast, Nat.reduceAdd, Nat.reduceSub, Nat.reduceMul, Nat.reduceLT, Nat.reduceLeDiff, Nat.reduceEqDiff, Int.reduceToNat, ↓reduceIte]
end Ab
set_option maxRecDepth 10000
namespace Ab
open Go Go.Proofs
theorem subBad (σ : List (List UInt8 × Term)) (i : Nat) (h : i < σ.length) (hb : subAt σ i = false) : subCheck σ = 4 := by
  unfold subCheck
  rw [if_neg]
  intro ha
  rw [List.all_eq_true] at ha
  rw [ha i (by simpa using h)] at hb
  cases hb
theorem subErr (σ : List (List UInt8 × Term)) (j : Nat) (h : j < σ.length) (ha : (List.range σ.length).all (subAt σ) = true) (hj : firstErr ((σ.map (·.2)).take j) = 0) (he : ¬ checkP σ[j].2 = 0) : subCheck σ = checkP σ[j].2 := by
  unfold subCheck
  rw [if_pos ha, firstErr_drop _ j hj, List.drop_eq_getElem_cons (by simpa using h)]
  simp only [firstErr, List.getElem_map, he, if_false]
theorem subOk (σ : List (List UInt8 × Term)) (j : Nat) (h : σ.length ≤ j) (ha : (List.range σ.length).all (subAt σ) = true) (hj : firstErr ((σ.map (·.2)).take j) = 0) : subCheck σ = 0 := by
  unfold subCheck
  rw [if_pos ha]
  rwa [List.take_of_length_le (by simpa using h)] at hj
theorem subCheckT_ac (σ : List (List UInt8 × Term)) (hlen : σ.length < 1099511627776) (hnl : ∀ b, b ∈ σ → b.1.length < 1099511627776 ∧ b.2.bulk ≤ 1099511627775) (H : List AObj) : ACall Tryd.prog 45 [.sl .none (encL encBd σ)] H (fun r H' => r = .int .i64 (subCheck σ) ∧ H' = H) := by
  refine ACall_V (H.length) 47 [.tmp 2] Tryd.func45 rfl rfl rfl ?_
  simp only [push_cast, Nat.reduceAdd, Nat.reduceSub, Nat.reduceMul, Nat.reduceLT, Nat.reduceLeDiff, Nat.reduceEqDiff, Int.reduceToNat, ↓reduceIte]
  refine AW_loopW (maskG 48 [0, 7, 0, 0]) (fun (i : Nat) => [(10, .int .i64 i)]) (fun _ => H) (fun i => i ≤ σ.length ∧ (List.range i).all (subAt σ) = true) (fun i => σ.length - i) 0 ⟨Nat.zero_le _, by simp⟩ (by simp only [push_cast, Nat.reduceAdd, Nat.reduceSub, Nat.reduceMul, Nat.reduceLT, Nat.reduceLeDiff, Nat.reduceEqDiff, Int.reduceToNat, ↓reduceIte]) (fun i hi => ?_)
  simp only [push_cast, Nat.reduceAdd, Nat.reduceSub, Nat.reduceMul, Nat.reduceLT, Nat.reduceLeDiff, Nat.reduceEqDiff, Int.reduceToNat, ↓reduceIte]
  refine cI (fun h => ?_) (fun h => ?_)
  · repeat refine ⟨by omega, ?_⟩
    have hil : i < σ.length := by omega
    have hnli := (hnl σ[i] (List.getElem_mem hil)).1
    have hat := subAt_eq σ i hil
    have hnm := fun H => isName_ac σ[i].1 false H hnli
    cases hb : isNameP σ[i].1 false with
    | false =>
      rw [hb] at hat hnm
      apply AW_drawE [some 15, some 16, some 17, some 18, some 19, some 20, some 21, some 22, some 23, some 24, some 25, some 26, some 27, some 28, some 29, some 30, some 31, some 32, some 33] [([], _)] [none, none, none, none, none, none, none, none, none, none, none, none, none, none, none, none, none, none, none] 0 [(0, [], [4]), (1, [], [15]), (2, [], [16]), (3, [], [17]), (4, [], [18]), (5, [], [3, 15]), (6, [], [19, 0]), (7, [], [19, 1]), (8, [], [4, 17]), (9, [], [22, 0]), (10, [], [0, 21]), (11, [], [3, 18]), (12, [], [22, 3]), (13, [], [22, 2, 1]), (14, [], [22, 5]), (15, [], [22, 6]), (16, [], [22, 1, 5]), (17, [], [19, 2, 8]), (18, [], [19, 12])] [_, _, _, _, _, _, _, _, _, _, _, _, _, _, _, _, _, _, _]
      case' hm => exact dr
      case' hn => rfl
      case' hok => rfl
      case' hlen => rfl
      case' hd => rfl
      case' h0 => rfl
      case' hstep =>
       simp only [DAllG, push_cast, Option.isSome_some, Option.isSome_none]
       repeat' apply And.intro
       all_goals (apply DOne_V; simp only [push_cast, Nat.reduceAdd, Nat.reduceSub, Nat.reduceMul, Nat.reduceLT, Nat.reduceLeDiff, Nat.reduceEqDiff, Int.reduceToNat, ↓reduceIte] <;> first | exact rfl | omega | exact ⟨rfl, rfl⟩ | exact trivial | exact ⟨by omega, rfl⟩ | exact ⟨by omega, by omega, rfl⟩ | exact ⟨by omega, rfl, rfl⟩ | exact ⟨by omega, by omega, rfl, rfl⟩ | exact (hnm _).to ⟨rfl, rfl⟩)
      case' hQ => skip
      simp only [push_cast, Nat.reduceAdd, Nat.reduceSub, Nat.reduceMul, Nat.reduceLT, Nat.reduceLeDiff, Nat.reduceEqDiff, Int.reduceToNat, ↓reduceIte, subBad σ i hil hat]
    | true =>
      rw [hb] at hat hnm
      by_cases h0 : 0 < i
      · have hd : decide ((0 : Int) < (i : Int)) = true := by simp; omega
        have hx : (i : Int) - 1 = ((i - 1 : Nat) : Int) := by omega
        have hat : subAt σ i = decide (Lib.compareBytes (σ[i - 1]'(by omega)).1 σ[i].1 < 0) := by rw [hat]; simp; omega
        skip
        apply AW_drawE [some 15, some 16, some 17, some 18, some 19, some 20, some 21, some 22, some 23, some 24, some 25, some 26, some 27, some 28, some 29, some 30, some 31, some 32, some 33] [([], _)] [none, none, none, none, none, none, none, none, none, none, none, none, none, none, none, none, none, none, none] 0 [(0, [], [4]), (1, [], [15]), (2, [], [16]), (3, [], [17]), (4, [], [18]), (5, [], [3, 15]), (6, [], [19, 0]), (7, [], [19, 1]), (8, [], [4, 17]), (9, [], [22, 0]), (10, [], [0, 21]), (11, [], [3, 18]), (12, [], [22, 3]), (13, [], [22, 2, 1]), (14, [], [22, 5]), (15, [], [22, 6]), (16, [], [22, 1, 5]), (17, [], [19, 2, 8]), (18, [], [19, 12])] [_, _, _, _, _, _, _, _, _, _, _, _, _, _, _, _, _, _, _]
        case' hm => exact dr
        case' hn => rfl
        case' hok => rfl
        case' hlen => rfl
        case' hd => rfl
        case' h0 => rfl
        case' hstep =>
         simp only [DAllG, push_cast, Option.isSome_some, Option.isSome_none]
         repeat' apply And.intro
         all_goals (apply DOne_V; simp only [push_cast, Nat.reduceAdd, Nat.reduceSub, Nat.reduceMul, Nat.reduceLT, Nat.reduceLeDiff, Nat.reduceEqDiff, Int.reduceToNat, ↓reduceIte, hd, hx, leS_cmp] <;> first | exact rfl | omega | exact ⟨rfl, rfl⟩ | exact trivial | exact ⟨by omega, rfl⟩ | exact ⟨by omega, by omega, rfl⟩ | exact ⟨by omega, rfl, rfl⟩ | exact ⟨by omega, by omega, rfl, rfl⟩ | exact (hnm _).to ⟨rfl, rfl⟩ | skip)
        case' hQ => skip
        simp only [push_cast, Nat.reduceAdd, Nat.reduceSub, Nat.reduceMul, Nat.reduceLT, Nat.reduceLeDiff, Nat.reduceEqDiff, Int.reduceToNat, ↓reduceIte, leS_cmp]
        refine cI (fun hc => ?_) (fun hc => ?_)
        rotate_left
        · simp only [push_cast, Nat.reduceAdd, Nat.reduceSub, Nat.reduceMul, Nat.reduceLT, Nat.reduceLeDiff, Nat.reduceEqDiff, Int.reduceToNat, ↓reduceIte, subBad σ i hil (by rw [hat]; simpa using hc)]
        · repeat' first | refine ⟨by omega, ?_⟩ | refine cI (fun _ => ?_) (fun _ => ?_)
          refine loopW_n (i + 1) ⟨by omega, ?_⟩ (by omega) (by simp only [push_cast, Nat.reduceAdd, Nat.reduceSub, Nat.reduceMul, Nat.reduceLT, Nat.reduceLeDiff, Nat.reduceEqDiff, Int.reduceToNat, ↓reduceIte])
          rw [List.range_succ, List.all_append, hi.2]
          have : subAt σ i = true := by rw [hat]; simpa using hc
          simp [this]
      · have hd : decide ((0 : Int) < (i : Int)) = false := by simp; omega
        have hat : subAt σ i = true := by rw [hat]; simp; omega
        apply AW_drawE [some 15, some 16, some 17, some 18, some 19, some 20, some 21, some 22, some 23, some 24, some 25, some 26, some 27, some 28, some 29, some 30, some 31, some 32, some 33] [([], _)] [none, none, none, none, none, none, none, none, none, none, none, none, none, none, none, none, none, none, none] 0 [(0, [], [4]), (1, [], [15]), (2, [], [16]), (3, [], [17]), (4, [], [18]), (5, [], [3, 15]), (6, [], [19, 0]), (7, [], [19, 1]), (8, [], [4, 17]), (9, [], [22, 0]), (10, [], [0, 21]), (11, [], [3, 18]), (12, [], [22, 3]), (13, [], [22, 2, 1]), (14, [], [22, 5]), (15, [], [22, 6]), (16, [], [22, 1, 5]), (17, [], [19, 2, 8]), (18, [], [19, 12])] [_, _, _, _, _, _, _, _, _, _, _, _, _, _, _, _, _, _, _]
        case' hm => exact dr
        case' hn => rfl
        case' hok => rfl
        case' hlen => rfl
        case' hd => rfl
        case' h0 => rfl
        case' hstep =>
         simp only [DAllG, push_cast, Option.isSome_some, Option.isSome_none]
         repeat' apply And.intro
         all_goals (apply DOne_V; simp only [push_cast, Nat.reduceAdd, Nat.reduceSub, Nat.reduceMul, Nat.reduceLT, Nat.reduceLeDiff, Nat.reduceEqDiff, Int.reduceToNat, ↓reduceIte, hd] <;> first | exact rfl | omega | exact ⟨rfl, rfl⟩ | exact trivial | exact ⟨by omega, rfl⟩ | exact ⟨by omega, by omega, rfl⟩ | exact ⟨by omega, rfl, rfl⟩ | exact ⟨by omega, by omega, rfl, rfl⟩ | exact (hnm _).to ⟨rfl, rfl⟩)
        case' hQ => skip
        simp only [push_cast, Nat.reduceAdd, Nat.reduceSub, Nat.reduceMul, Nat.reduceLT, Nat.reduceLeDiff, Nat.reduceEqDiff, Int.reduceToNat, ↓reduceIte]
        repeat' first | refine ⟨by omega, ?_⟩ | refine cI (fun _ => ?_) (fun _ => ?_)
        refine loopW_n (i + 1) ⟨by omega, ?_⟩ (by omega) (by simp only [push_cast, Nat.reduceAdd, Nat.reduceSub, Nat.reduceMul, Nat.reduceLT, Nat.reduceLeDiff, Nat.reduceEqDiff, Int.reduceToNat, ↓reduceIte])
        rw [List.range_succ, List.all_append, hi.2]
        simp [hat]
  · have hil : i = σ.length := by omega
    rw [hil] at hi
    refine AW_loopW (maskG 48 [35, 0, 0]) (fun (j : Nat) => [(37, .int .i64 j)]) (fun _ => H) (fun j => j ≤ σ.length ∧ firstErr ((σ.map (·.2)).take j) = 0) (fun j => σ.length - j) 0 ⟨Nat.zero_le _, rfl⟩ (by simp only [push_cast, Nat.reduceAdd, Nat.reduceSub, Nat.reduceMul, Nat.reduceLT, Nat.reduceLeDiff, Nat.reduceEqDiff, Int.reduceToNat, ↓reduceIte]) (fun j hj => ?_)
    simp only [push_cast, Nat.reduceAdd, Nat.reduceSub, Nat.reduceMul, Nat.reduceLT, Nat.reduceLeDiff, Nat.reduceEqDiff, Int.reduceToNat, ↓reduceIte]
    refine cI (fun h2 => ?_) (fun h2 => ?_)
    · repeat refine ⟨by omega, ?_⟩
      have hjl : j < σ.length := by omega
      refine (check_ac (σ[j]'hjl).2 (hnl _ (List.getElem_mem hjl)).2 _).to ?_
      simp only [push_cast, Nat.reduceAdd, Nat.reduceSub, Nat.reduceMul, Nat.reduceLT, Nat.reduceLeDiff, Nat.reduceEqDiff, Int.reduceToNat, ↓reduceIte]
      refine cI (fun he => ?_) (fun he => ?_)
      · repeat' first | refine ⟨by omega, ?_⟩ | refine cI (fun _ => ?_) (fun _ => ?_)
        exact loopW_n (j + 1) ⟨by omega, firstErr_take _ j (by simpa using hjl) hj.2 (by simpa using he)⟩ (by omega) (by simp only [push_cast, Nat.reduceAdd, Nat.reduceSub, Nat.reduceMul, Nat.reduceLT, Nat.reduceLeDiff, Nat.reduceEqDiff, Int.reduceToNat, ↓reduceIte])
      · simp only [push_cast, Nat.reduceAdd, Nat.reduceSub, Nat.reduceMul, Nat.reduceLT, Nat.reduceLeDiff, Nat.reduceEqDiff, Int.reduceToNat, ↓reduceIte, subErr σ j hjl hi.2 hj.2 he]
    · simp only [push_cast, Nat.reduceAdd, Nat.reduceSub, Nat.reduceMul, Nat.reduceLT, Nat.reduceLeDiff, Nat.reduceEqDiff, Int.reduceToNat, ↓reduceIte, subOk σ j (by omega) hi.2 hj.2]
end Ab
set_option maxRecDepth 10000
namespace Ab
open Go Go.Proofs
theorem sortedP_len (l : List (List UInt8)) : (sortedP l).length ≤ l.length := by
  have : ∀ (l m : List (List UInt8)), (l.foldl insertP m).length ≤ m.length + l.length := by
    intro l
    induction l with
    | nil => intro m; simp
    | cons a l ih => intro m; have h1 := ih (insertP m a); have h2 := insertP_length m a; simp only [List.foldl_cons, List.length_cons]; omega
  simpa [sortedP] using this l []
def appL (σ : List (List UInt8 × Term)) (xs : List Term) : List Term := xs.map (applyP σ)
theorem appL_take (σ : List (List UInt8 × Term)) (xs : List Term) (i : Nat) (h : i < xs.length) : appL σ (xs.take (i + 1)) = appL σ (xs.take i) ++ [applyP σ xs[i]] := by
  unfold appL; rw [List.take_succ_eq_append_getElem h, List.map_append]; rfl
theorem appL_nil (σ : List (List UInt8 × Term)) : appL σ [] = [] := (rfl)
theorem appL_len (σ : List (List UInt8 × Term)) (xs : List Term) : (appL σ xs).length = xs.length := by simp [appL]
theorem applyP_t (σ : List (List UInt8 × Term)) (n : List UInt8) (xs : List Term) : applyP σ (.mk n true xs) = imageP σ n := by rw [applyP_mk]; simp
theorem applyP_f (σ : List (List UInt8 × Term)) (n : List UInt8) (xs : List Term) : applyP σ (.mk n false xs) = .mk n false (appL σ xs) := by rw [applyP_mk]; rfl
end Ab
set_option maxRecDepth 10000
namespace Ab
open Go Go.Proofs
theorem searchB_ac (xs : List (List UInt8 × Term)) (v : List UInt8) (g : Nat) (caps : List AV) (c : List UInt8 × Term → Int) (H : List AObj) (hlen : xs.length < 1099511627776) (hg : callOk Tryd.prog g = true) (hsc : ScopedL H.length caps)
    (hmono : ∀ i j (hi : i < xs.length) (hj : j < xs.length), i ≤ j → c xs[j] < 0 → c xs[i] < 0)
    (hf : ∀ i (h : i < xs.length) X, ACall Tryd.prog g (encBd xs[i] :: .str v :: caps) X (fun r H' => r = .int .i64 (c xs[i]) ∧ H' = X)) :
    ACall Tryd.prog 107 [.sl .none (encL encBd xs), .str v, .fn g caps] H
      (fun r H' => ∃ i : Nat, i ≤ xs.length ∧ (∀ j (hj : j < xs.length), j < i → c xs[j] < 0) ∧ (∀ j (hj : j < xs.length), i ≤ j → ¬ c xs[j] < 0) ∧ r = .tup [.int .i64 i, .bool (decide (∃ h : i < xs.length, c xs[i] = 0))] ∧ H' = H) := by
  refine ACall_W (H.length) 46 [.tmp 6, .tmp 7] Tryd.func107 rfl rfl rfl ?_
  simp only [push_cast, Nat.reduceAdd, Nat.reduceSub, Nat.reduceMul, Nat.reduceLT, Nat.reduceLeDiff, Nat.reduceEqDiff, Int.reduceToNat, ↓reduceIte]
  refine AW_loopW (maskG 49 [0, 0, 0, 5, 0, 0]) (fun (q : Nat × Nat) => [(9, .int .i64 q.1), (10, .int .i64 q.2)]) (fun _ => H) (fun q => q.1 ≤ q.2 ∧ q.2 ≤ xs.length ∧ (∀ j (hj : j < xs.length), j < q.1 → c xs[j] < 0) ∧ (∀ j (hj : j < xs.length), q.2 ≤ j → ¬ c xs[j] < 0)) (fun q => q.2 - q.1) (0, xs.length) ⟨by simp, by simp, fun j hj h => by simp at h, fun j hj h => by simp at h; omega⟩ (by simp only [push_cast, Nat.reduceAdd, Nat.reduceSub, Nat.reduceMul, Nat.reduceLT, Nat.reduceLeDiff, Nat.reduceEqDiff, Int.reduceToNat, ↓reduceIte, hsc]) (fun q hq => ?_)
  obtain ⟨i, j⟩ := q
  obtain ⟨hi1, hi2, hi3, hi4⟩ := hq
  simp only at hi1 hi2 hi3 hi4
  simp only [push_cast, Nat.reduceAdd, Nat.reduceSub, Nat.reduceMul, Nat.reduceLT, Nat.reduceLeDiff, Nat.reduceEqDiff, Int.reduceToNat, ↓reduceIte, hg]
  refine cI (fun h => ?_) (fun h => ?_)
  · have e1 : ((i : Int) + j) / 2 ^ 1 = (((i + j) / 2 : Nat) : Int) := by rw [Int.pow_one]; omega
    have e2 : 1 ≤ IntKind.u64.bits := by decide
    obtain ⟨m, hm⟩ : ∃ m, m = (i + j) / 2 := ⟨_, rfl⟩
    rw [← hm] at e1
    rw [e1]
    repeat refine ⟨by omega, ?_⟩
    have hmx : m < xs.length := by omega
    refine (hf m hmx _).to ?_
    simp only [push_cast, Nat.reduceAdd, Nat.reduceSub, Nat.reduceMul, Nat.reduceLT, Nat.reduceLeDiff, Nat.reduceEqDiff, Int.reduceToNat, ↓reduceIte]
    refine cI (fun hc => ?_) (fun hc => ?_)
    · repeat' first | refine ⟨by omega, ?_⟩ | refine cI (fun _ => ?_) (fun _ => ?_)
      exact loopW_n (m + 1, j) ⟨by simp only; omega, by simp only; omega, fun k hk hkm => hmono k m hk hmx (by simp only at hkm; omega) hc, hi4⟩ (by simp only; omega) (by simp only [push_cast, Nat.reduceAdd, Nat.reduceSub, Nat.reduceMul, Nat.reduceLT, Nat.reduceLeDiff, Nat.reduceEqDiff, Int.reduceToNat, ↓reduceIte, hsc])
    · repeat' first | refine ⟨by omega, ?_⟩ | refine cI (fun _ => ?_) (fun _ => ?_)
      exact loopW_n (i, m) ⟨by simp only; omega, by simp only; omega, hi3, fun k hk hmk hneg => absurd (hmono m k hmx hk hmk hneg) hc⟩ (by simp only; omega) (by simp only [push_cast, Nat.reduceAdd, Nat.reduceSub, Nat.reduceMul, Nat.reduceLT, Nat.reduceLeDiff, Nat.reduceEqDiff, Int.reduceToNat, ↓reduceIte, hsc])
  · have hall : ∀ k (hk : k < xs.length), i ≤ k → ¬ c xs[k] < 0 := fun k hk hik => hi4 k hk (by omega)
    refine cI (fun hl => ?_) (fun hl => ?_)
    · have hil : i < xs.length := by omega
      repeat refine ⟨by omega, ?_⟩
      refine (hf i hil _).to ?_
      simp only [push_cast, Nat.reduceAdd, Nat.reduceSub, Nat.reduceMul, Nat.reduceLT, Nat.reduceLeDiff, Nat.reduceEqDiff, Int.reduceToNat, ↓reduceIte]
      refine ⟨i, by omega, hi3, hall, rfl, ?_⟩
      simp [hil]
    · refine ⟨i, by omega, hi3, hall, rfl, ?_⟩
      have hil : ¬ i < xs.length := by omega
      simp [hil]
theorem imageC_ac (x : List UInt8 × Term) (v : List UInt8) (H : List AObj) : ACall Tryd.prog 108 [encBd x, .str v] H (fun r H' => r = .int .i64 (Lib.compareBytes x.1 v) ∧ H' = H) := by
  refine ACall_V (H.length) 7 [.tmp 4] Tryd.func108 rfl rfl rfl ?_
  simp only [push_cast, Nat.reduceAdd, Nat.reduceSub, Nat.reduceMul, Nat.reduceLT, Nat.reduceLeDiff, Nat.reduceEqDiff, Int.reduceToNat, ↓reduceIte]
  refine (compareStr_ac x.1 v _).to ?_
  simp only [push_cast, Nat.reduceAdd, Nat.reduceSub, Nat.reduceMul, Nat.reduceLT, Nat.reduceLeDiff, Nat.reduceEqDiff, Int.reduceToNat, ↓reduceIte]
theorem imageT_ac (σ : List (List UInt8 × Term)) (hs : SortedN (σ.map (·.1))) (v : List UInt8) (hlen : σ.length < 1099511627776) (H : List AObj) : ACall Tryd.prog 85 [.sl .none (encL encBd σ), .str v] H (fun r H' => r = .tup [encT ((look σ v).getD (.mk [] false [])), .bool (look σ v).isSome] ∧ H' = H) := by
  refine ACall_V (H.length) 20 [.cell 4 24, .tmp 5] Tryd.func85 rfl rfl rfl ?_
  simp only [push_cast, Nat.reduceAdd, Nat.reduceSub, Nat.reduceMul, Nat.reduceLT, Nat.reduceLeDiff, Nat.reduceEqDiff, Int.reduceToNat, ↓reduceIte]
  refine (searchB_ac σ v 108 [] (fun b => Lib.compareBytes b.1 v) _ hlen ok108 (by simp [ScopedL]) (fun i j hi hj hij hc => ?_) (fun i h X => imageC_ac _ v _)).mono ?_
  · rcases Nat.lt_or_eq_of_le hij with h | h
    · exact cb_trans _ _ _ (sortedS_get hs i j hi hj h) hc
    · subst h; exact hc
  rintro r H' ⟨i, h1, h2, h3, rfl, rfl⟩
  by_cases hx : ∃ h : i < σ.length, Lib.compareBytes σ[i].1 v = 0
  · obtain ⟨hil, he⟩ := hx
    have hv := (compareBytes_eq _ _).1 he
    have hl : look σ v = some σ[i].2 := by rw [← hv]; exact look_some hs i hil
    have hd : decide (∃ h : i < σ.length, Lib.compareBytes σ[i].1 v = 0) = true := by rw [decide_eq_true_eq]; exact ⟨hil, he⟩
    simp only [push_cast, Nat.reduceAdd, Nat.reduceSub, Nat.reduceMul, Nat.reduceLT, Nat.reduceLeDiff, Nat.reduceEqDiff, Int.reduceToNat, ↓reduceIte, hd]
    repeat refine ⟨by omega, ?_⟩
    simp only [push_cast, Nat.reduceAdd, Nat.reduceSub, Nat.reduceMul, Nat.reduceLT, Nat.reduceLeDiff, Nat.reduceEqDiff, Int.reduceToNat, ↓reduceIte, hl]
    simp
  · have hl : look σ v = none := look_none fun b hb e => by
      obtain ⟨j, hj, rfl⟩ := List.getElem_of_mem hb
      have hj0 : Lib.compareBytes σ[j].1 v = 0 := by rw [e]; exact cb_self v
      rcases Nat.lt_trichotomy j i with h | h | h
      · have := h2 j hj h; omega
      · subst h; exact hx ⟨hj, hj0⟩
      · have h4 := sortedS_get hs i j (by omega) hj h
        rw [e] at h4
        exact h3 i (by omega) (Nat.le_refl _) h4
    have hd : decide (∃ h : i < σ.length, Lib.compareBytes σ[i].1 v = 0) = false := by rw [decide_eq_false_iff_not]; exact hx
    simp only [push_cast, Nat.reduceAdd, Nat.reduceSub, Nat.reduceMul, Nat.reduceLT, Nat.reduceLeDiff, Nat.reduceEqDiff, Int.reduceToNat, ↓reduceIte, hd, hl]
    simp
theorem image_bulk (σ : List (List UInt8 × Term)) (B : Nat) (hb : ∀ b, b ∈ σ → b.2.bulk ≤ B) (n : List UInt8) (hn : n.length < B) : (imageP σ n).bulk ≤ B := by
  rw [image_look]
  rcases look_cases (σ := σ) n with ⟨b, hbm, _, e⟩ | e
  · rw [e]; exact hb b hbm
  · rw [e]
    show (Term.mk n true []).bulk ≤ B
    rw [Term.bulk_mk]; simp; omega
theorem sizes_take (σ : List (List UInt8 × Term)) (xs : List Term) (i : Nat) (h : i < xs.length) : ((appL σ (xs.take (i + 1))).map Term.size).sum = ((appL σ (xs.take i)).map Term.size).sum + (applyP σ xs[i]).size ∧ ((appL σ (xs.take (i + 1))).map Term.depth).foldl max 0 = max (((appL σ (xs.take i)).map Term.depth).foldl max 0) (applyP σ xs[i]).depth := by
  rw [appL_take σ xs i h, List.map_append, List.map_append, List.sum_append, List.foldl_append]
  exact ⟨by simp, by simp⟩
theorem sizes_le (σ : List (List UInt8 × Term)) (xs : List Term) (i : Nat) : ((appL σ (xs.take i)).map Term.size).sum ≤ ((appL σ xs).map Term.size).sum ∧ ((appL σ (xs.take i)).map Term.depth).foldl max 0 ≤ ((appL σ xs).map Term.size).sum := by
  have h1 : appL σ (xs.take i) = (appL σ xs).take i := by simp [appL, List.map_take]
  have h2 := take_sum_le Term.size (appL σ xs) i
  have h3 := foldl_max_le Term.depth ((appL σ xs).take i) 0
  have h4 : (((appL σ xs).take i).map Term.depth).sum ≤ (((appL σ xs).take i).map Term.size).sum := by
    generalize (appL σ xs).take i = l
    induction l with
    | nil => simp
    | cons a r ih => have := a.depth_le; simp only [List.map_cons, List.sum_cons]; omega
  rw [h1]; omega
theorem measure_ac (σ : List (List UInt8 × Term)) (hs : SortedN (σ.map (·.1))) (hlen : σ.length < 1099511627776) (hbk : ∀ b, b ∈ σ → b.2.bulk ≤ 1099511627775) (t : Term) : t.bulk ≤ 1099511627775 → (applyP σ t).size ≤ 1099511627775 → ∀ H, ACall Tryd.prog 105 [.sl .none (encL encBd σ), encT t] H (fun r H' => r = .agg [.int .i64 (applyP σ t).size, .int .i64 (applyP σ t).depth] ∧ H' = H) := by
  induction t using Term.ind with | _ n u xs ih
  intro hb hb2 H
  have hl := Term.len_le (n := n) (v := u) (xs := xs)
  have hnl := Term.name_le (n := n) (v := u) (xs := xs)
  cases u with
  | true =>
    rw [applyP_t]
    have hib := image_bulk σ 1099511627775 hbk n (by omega)
    rw [image_look] at hib ⊢
    refine ACall_V (H.length) 54 [.cell 4 117] Tryd.func105 rfl rfl rfl ?_
    simp only [push_cast, Nat.reduceAdd, Nat.reduceSub, Nat.reduceMul, Nat.reduceLT, Nat.reduceLeDiff, Nat.reduceEqDiff, Int.reduceToNat, ↓reduceIte]
    refine (imageT_ac σ hs n hlen _).to ?_
    rcases look_cases (σ := σ) n with ⟨b, hbm, _, e⟩ | e
    · have hbb := hbk b hbm
      simp only [push_cast, Nat.reduceAdd, Nat.reduceSub, Nat.reduceMul, Nat.reduceLT, Nat.reduceLeDiff, Nat.reduceEqDiff, Int.reduceToNat, ↓reduceIte, e, Option.isSome_some, Option.getD_some]
      apply AW_drawE [some 21, some 22, some 23, some 24, some 25, none] [([false], _), ([true], _)] [none, none, none, none, none, some 0] 1 [(0, [false], [5]), (1, [false], [21]), (2, [false], [5]), (3, [false], [23]), (4, [false], [22, 1]), (5, [false], [4, 20])] [_, _, _, _, _, _]
      case' hm => exact dr
      case' hn => rfl
      case' hok => rfl
      case' hlen => rfl
      case' hd => rfl
      case' h0 => rfl
      case' hstep =>
       simp only [DAllG, push_cast, Option.isSome_some, Option.isSome_none]
       repeat' apply And.intro
       all_goals (apply DOne_V; simp only [push_cast, Nat.reduceAdd, Nat.reduceSub, Nat.reduceMul, Nat.reduceLT, Nat.reduceLeDiff, Nat.reduceEqDiff, Int.reduceToNat, ↓reduceIte] <;> first | exact rfl | omega | exact ⟨rfl, rfl⟩ | exact trivial | exact ⟨by omega, rfl⟩ | exact ⟨by omega, by omega, rfl⟩ | exact ⟨by omega, rfl, rfl⟩ | exact ⟨by omega, by omega, rfl, rfl⟩ | exact (size_ac b.2 (by omega) _).to ⟨rfl, rfl⟩ | exact (depth_ac b.2 (by omega) _).to ⟨rfl, rfl⟩)
      case' hQ => skip
      simp only [push_cast, Nat.reduceAdd, Nat.reduceSub, Nat.reduceMul, Nat.reduceLT, Nat.reduceLeDiff, Nat.reduceEqDiff, Int.reduceToNat, ↓reduceIte]
    · simp only [push_cast, Nat.reduceAdd, Nat.reduceSub, Nat.reduceMul, Nat.reduceLT, Nat.reduceLeDiff, Nat.reduceEqDiff, Int.reduceToNat, ↓reduceIte, e, Option.isSome_none, Option.getD_none, Term.size_mk, Term.depth_mk]
      simp
  | false =>
    rw [applyP_f] at hb2 ⊢
    have hdp := (Term.mk n false (appL σ xs)).depth_le
    rw [Term.size_mk] at hb2 hdp ⊢
    rw [Term.depth_mk] at hdp ⊢
    refine ACall_V (H.length) 54 [.cell 4 117] Tryd.func105 rfl rfl rfl ?_
    simp only [push_cast, Nat.reduceAdd, Nat.reduceSub, Nat.reduceMul, Nat.reduceLT, Nat.reduceLeDiff, Nat.reduceEqDiff, Int.reduceToNat, ↓reduceIte]
    refine AW_loopW (maskG 56 [0, 3, 2, 21, 0, 0]) (fun (i : Nat) => [(31, .int .i64 i)]) (fun i => H ++ [.cells [.str n, .bool false, .sl .none (encTs xs)], .cells [.int .i64 0, .int .i64 0], .cells [.int .i64 (1 + ((appL σ (xs.take i)).map Term.size).sum : Nat), .int .i64 (((appL σ (xs.take i)).map Term.depth).foldl max 0 : Nat)]]) (fun i => i ≤ xs.length) (fun i => xs.length - i) 0 (Nat.zero_le _) (by simp only [push_cast, Nat.reduceAdd, Nat.reduceSub, Nat.reduceMul, Nat.reduceLT, Nat.reduceLeDiff, Nat.reduceEqDiff, Int.reduceToNat, ↓reduceIte, List.take_zero, appL_nil]; simp) (fun i hi => ?_)
    simp only [push_cast, Nat.reduceAdd, Nat.reduceSub, Nat.reduceMul, Nat.reduceLT, Nat.reduceLeDiff, Nat.reduceEqDiff, Int.reduceToNat, ↓reduceIte]
    refine cI (fun h => ?_) (fun h => ?_)
    · have hil : i < xs.length := by omega
      repeat refine ⟨by omega, ?_⟩
      obtain ⟨hq1, hq2⟩ := sizes_take σ xs i hil
      obtain ⟨hw1, hw2⟩ := sizes_le σ xs (i + 1)
      obtain ⟨hw3, hw4⟩ := sizes_le σ xs i
      refine (ih _ (List.getElem_mem hil) (arg_bulk hb i hil) (by omega) _).to ?_
      simp only [push_cast, Nat.reduceAdd, Nat.reduceSub, Nat.reduceMul, Nat.reduceLT, Nat.reduceLeDiff, Nat.reduceEqDiff, Int.reduceToNat, ↓reduceIte]
      apply AW_drawE [some 38, some 39, some 40, some 41, some 42, some 43, some 44, some 45, some 46, some 47, some 48, none, some 49, none] [([false, false], _), ([true, false], _), ([true, true], _)] [none, none, none, none, none, none, none, none, none, none, none, some 0, none, some 1] 2 [(0, [false, false], [7]), (1, [false, false], [38]), (2, [false, false], [10]), (3, [false, false], [40]), (4, [false, false], [39, 1]), (5, [false, false], [7]), (6, [false, false], [43]), (7, [false, false], [10]), (8, [false, false], [45]), (9, [false, false], [44, 1]), (10, [false, false], [7]), (11, [false, false], [42, 5]), (12, [true, false], [7]), (13, [true, false], [47, 1]), (7, [true, false], [10]), (8, [true, false], [45]), (9, [true, false], [44, 1])] [_, _, _, _, _, _, _, _, _, _, _, _, _, _]
      case' hm => exact dr
      case' hn => rfl
      case' hok => rfl
      case' hlen => rfl
      case' hd => rfl
      case' h0 => rfl
      case' hstep =>
       simp only [DAllG, push_cast, Option.isSome_some, Option.isSome_none]
       repeat' apply And.intro
       all_goals (apply DOne_V; simp only [push_cast, Nat.reduceAdd, Nat.reduceSub, Nat.reduceMul, Nat.reduceLT, Nat.reduceLeDiff, Nat.reduceEqDiff, Int.reduceToNat, ↓reduceIte] <;> first | exact rfl | omega | exact ⟨rfl, rfl⟩ | exact trivial | exact ⟨by omega, rfl⟩ | exact ⟨by omega, by omega, rfl⟩ | exact ⟨by omega, rfl, rfl⟩ | exact ⟨by omega, by omega, rfl, rfl⟩ | skip)
      case' hQ => skip
      simp only [push_cast, Nat.reduceAdd, Nat.reduceSub, Nat.reduceMul, Nat.reduceLT, Nat.reduceLeDiff, Nat.reduceEqDiff, Int.reduceToNat, ↓reduceIte]
      repeat' first | refine ⟨by omega, ?_⟩ | refine cI (fun _ => ?_) (fun _ => ?_)
      exact loopW_n (i + 1) (by omega) (by omega) (by simp only [push_cast, Nat.reduceAdd, Nat.reduceSub, Nat.reduceMul, Nat.reduceLT, Nat.reduceLeDiff, Nat.reduceEqDiff, Int.reduceToNat, ↓reduceIte, hq1, hq2]; simp only [AObj.cells.injEq, List.cons.injEq, AV.int.injEq, and_true, true_and]; omega)
    · obtain ⟨hw3, hw4⟩ := sizes_le σ xs xs.length
      rw [List.take_of_length_le (Nat.le_refl _)] at hw3 hw4
      simp only [push_cast, Nat.reduceAdd, Nat.reduceSub, Nat.reduceMul, Nat.reduceLT, Nat.reduceLeDiff, Nat.reduceEqDiff, Int.reduceToNat, ↓reduceIte, List.take_of_length_le (show xs.length ≤ i by omega)]
      omega
end Ab
