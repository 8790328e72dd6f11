import Derived.Test.YtjhpgkjnkgknnaaGreatDoorProg
import Derived.Test.YtjhpgkjnkgknnaaGreatDoorHc
import Derived.Test.YtjhpgkjnkgknnaaGreatDoorHe
import Derived.KernelRfl
set_option maxRecDepth 100000
namespace Go.Proofs.YtjhpgkjnkgknnaaGreatDoor.Av
open Go Go.Av Go.Proofs
def ti1 : TI := ⟨.func, 1, 8, .nilFunc, false, false, false⟩
def ti2 : TI := ⟨(.int .i64), 1, 8, .int .i64 (0), false, false, true⟩
def ti3 : TI := ⟨(.int .i64), 1, 8, .int .i64 (0), false, false, true⟩
def ti4 : TI := ⟨.bool, 1, 1, .bool false, false, false, false⟩
def ti5 : TI := ⟨(.int .u8), 1, 1, .int .u8 (0), false, false, true⟩
def ti6 : TI := ⟨(.int .u8), 1, 1, .int .u8 (0), false, false, true⟩
def ti7 : TI := ⟨(.struct [(0, 2), (1, 3), (2, 4), (3, 6)]), 4, 24, .agg [.int .i64 (0), .int .i64 (0), .bool false, .int .u8 (0)], false, false, false⟩
def ti8 : TI := ⟨(.struct [(0, 2), (1, 3), (2, 4), (3, 6)]), 4, 24, .agg [.int .i64 (0), .int .i64 (0), .bool false, .int .u8 (0)], false, false, false⟩
def ti9 : TI := ⟨.str, 1, 16, .str [], false, false, false⟩
def ti10 : TI := ⟨.str, 1, 16, .str [], false, false, false⟩
def ti11 : TI := ⟨.str, 1, 16, .str [], false, false, false⟩
def ti12 : TI := ⟨(.int .u64), 1, 8, .int .u64 (0), false, false, true⟩
def ti13 : TI := ⟨(.struct [(0, 9), (1, 12)]), 2, 24, .agg [.str [], .int .u64 (0)], false, false, false⟩
def ti14 : TI := ⟨(.struct [(0, 9), (1, 12)]), 2, 24, .agg [.str [], .int .u64 (0)], false, false, false⟩
def ti15 : TI := ⟨(.ptr 248), 1, 8, .nilptr, false, false, false⟩
def ti16 : TI := ⟨(.ptr 251), 1, 8, .nilptr, false, false, false⟩
def ti17 : TI := ⟨(.ptr 258), 1, 8, .nilptr, false, false, false⟩
def ti18 : TI := ⟨(.struct [(0, 17)]), 1, 8, .agg [.nilptr], false, false, false⟩
def ti19 : TI := ⟨(.struct [(0, 17)]), 1, 8, .agg [.nilptr], false, false, false⟩
def ti20 : TI := ⟨.iface, 1, 16, .nilIface, false, false, false⟩
def ti21 : TI := ⟨(.int .i32), 1, 4, .int .i32 (0), false, false, true⟩
def ti22 : TI := ⟨.func, 1, 8, .nilFunc, false, false, false⟩
def ti23 : TI := ⟨(.slice 9), 1, 24, .slice [] .nil, false, true, false⟩
def ti24 : TI := ⟨(.int .i64), 1, 8, .int .i64 (0), false, false, true⟩
def ti25 : TI := ⟨(.slice 24), 1, 24, .slice [] .nil, false, false, false⟩
def ti26 : TI := ⟨.func, 1, 8, .nilFunc, false, false, false⟩
def ti27 : TI := ⟨(.slice 127), 1, 24, .slice [] .nil, false, false, false⟩
def ti28 : TI := ⟨(.slice 36), 1, 24, .slice [] .nil, false, false, false⟩
def ti29 : TI := ⟨(.struct [(0, 3), (1, 9), (2, 9), (3, 9)]), 4, 56, .agg [.int .i64 (0), .str [], .str [], .str []], false, false, false⟩
def ti30 : TI := ⟨(.struct [(0, 3), (1, 9), (2, 9), (3, 9)]), 4, 56, .agg [.int .i64 (0), .str [], .str [], .str []], false, false, false⟩
def ti31 : TI := ⟨(.slice 33), 1, 24, .slice [] .nil, false, true, false⟩
def ti32 : TI := ⟨(.struct [(0, 3), (1, 30), (5, 31)]), 6, 88, .agg [.int .i64 (0), .int .i64 (0), .str [], .str [], .str [], .slice [] .nil], false, false, false⟩
def ti33 : TI := ⟨(.struct [(0, 3), (1, 30), (5, 31)]), 6, 88, .agg [.int .i64 (0), .int .i64 (0), .str [], .str [], .str [], .slice [] .nil], false, false, false⟩
def ti34 : TI := ⟨(.slice 30), 1, 24, .slice [] .nil, false, false, false⟩
def ti35 : TI := ⟨(.struct [(0, 3), (1, 27), (2, 28), (3, 33), (9, 9), (10, 34)]), 11, 184, .agg [.int .i64 (0), .slice [] .nil, .slice [] .nil, .int .i64 (0), .int .i64 (0), .str [], .str [], .str [], .slice [] .nil, .str [], .slice [] .nil], false, false, false⟩
def ti36 : TI := ⟨(.struct [(0, 3), (1, 27), (2, 28), (3, 33), (9, 9), (10, 34)]), 11, 184, .agg [.int .i64 (0), .slice [] .nil, .slice [] .nil, .int .i64 (0), .int .i64 (0), .str [], .str [], .str [], .slice [] .nil, .str [], .slice [] .nil], false, false, false⟩
def ti37 : TI := ⟨(.slice 92), 1, 24, .slice [] .nil, false, false, false⟩
def ti38 : TI := ⟨(.slice 109), 1, 24, .slice [] .nil, false, false, false⟩
def ti39 : TI := ⟨(.struct [(0, 3), (1, 23), (2, 4), (3, 36), (14, 27), (15, 23), (16, 37), (17, 38), (18, 3), (19, 3)]), 20, 336, .agg [.int .i64 (0), .slice [] .nil, .bool false, .int .i64 (0), .slice [] .nil, .slice [] .nil, .int .i64 (0), .int .i64 (0), .str [], .str [], .str [], .slice [] .nil, .str [], .slice [] .nil, .slice [] .nil, .slice [] .nil, .slice [] .nil, .slice [] .nil, .int .i64 (0), .int .i64 (0)], false, false, false⟩
def ti40 : TI := ⟨(.struct [(0, 3), (1, 23), (2, 4), (3, 36), (14, 27), (15, 23), (16, 37), (17, 38), (18, 3), (19, 3)]), 20, 336, .agg [.int .i64 (0), .slice [] .nil, .bool false, .int .i64 (0), .slice [] .nil, .slice [] .nil, .int .i64 (0), .int .i64 (0), .str [], .str [], .str [], .slice [] .nil, .str [], .slice [] .nil, .slice [] .nil, .slice [] .nil, .slice [] .nil, .slice [] .nil, .int .i64 (0), .int .i64 (0)], false, false, false⟩
def ti42 : TI := ⟨.func, 1, 8, .nilFunc, false, false, false⟩
def ti43 : TI := ⟨.func, 1, 8, .nilFunc, false, false, false⟩
def ti44 : TI := ⟨.func, 1, 8, .nilFunc, false, false, false⟩
def ti45 : TI := ⟨.func, 1, 8, .nilFunc, false, false, false⟩
def ti46 : TI := ⟨(.slice 3), 1, 24, .slice [] .nil, false, false, false⟩
def ti47 : TI := ⟨(.slice 5), 1, 24, .slice [] .nil, false, false, false⟩
def ti48 : TI := ⟨.func, 1, 8, .nilFunc, false, false, false⟩
def ti49 : TI := ⟨.func, 1, 8, .nilFunc, false, false, false⟩
def ti50 : TI := ⟨.func, 1, 8, .nilFunc, false, false, false⟩
def ti51 : TI := ⟨(.struct [(0, 4), (1, 27), (2, 27), (3, 36)]), 14, 240, .agg [.bool false, .slice [] .nil, .slice [] .nil, .int .i64 (0), .slice [] .nil, .slice [] .nil, .int .i64 (0), .int .i64 (0), .str [], .str [], .str [], .slice [] .nil, .str [], .slice [] .nil], false, false, false⟩
def ti52 : TI := ⟨(.struct [(0, 4), (1, 27), (2, 27), (3, 36)]), 14, 240, .agg [.bool false, .slice [] .nil, .slice [] .nil, .int .i64 (0), .slice [] .nil, .slice [] .nil, .int .i64 (0), .int .i64 (0), .str [], .str [], .str [], .slice [] .nil, .str [], .slice [] .nil], false, false, false⟩
def ti54 : TI := ⟨.func, 1, 8, .nilFunc, false, false, false⟩
def ti55 : TI := ⟨(.ptr 67), 1, 8, .nilptr, false, false, false⟩
def ti57 : TI := ⟨.func, 1, 8, .nilFunc, false, false, false⟩
def ti58 : TI := ⟨.func, 1, 8, .nilFunc, false, false, false⟩
def ti59 : TI := ⟨.func, 1, 8, .nilFunc, false, false, false⟩
def ti60 : TI := ⟨(.ptr 40), 1, 8, .nilptr, false, false, false⟩
def ti61 : TI := ⟨.func, 1, 8, .nilFunc, false, false, false⟩
def ti62 : TI := ⟨.func, 1, 8, .nilFunc, false, false, false⟩
def ti63 : TI := ⟨.func, 1, 8, .nilFunc, false, false, false⟩
def ti64 : TI := ⟨(.slice 101), 1, 24, .slice [] .nil, false, false, false⟩
def ti65 : TI := ⟨(.slice 79), 1, 24, .slice [] .nil, false, false, false⟩
def ti66 : TI := ⟨(.struct [(0, 64), (1, 65), (2, 3), (3, 24), (4, 4), (5, 4), (6, 4)]), 7, 72, .agg [.slice [] .nil, .slice [] .nil, .int .i64 (0), .int .i64 (0), .bool false, .bool false, .bool false], false, false, false⟩
def ti67 : TI := ⟨(.struct [(0, 64), (1, 65), (2, 3), (3, 24), (4, 4), (5, 4), (6, 4)]), 7, 72, .agg [.slice [] .nil, .slice [] .nil, .int .i64 (0), .int .i64 (0), .bool false, .bool false, .bool false], false, false, false⟩
def ti68 : TI := ⟨.func, 1, 8, .nilFunc, false, false, false⟩
def ti69 : TI := ⟨.func, 1, 8, .nilFunc, false, false, false⟩
def ti70 : TI := ⟨.func, 1, 8, .nilFunc, false, false, false⟩
def ti71 : TI := ⟨(.ptr 52), 1, 8, .nilptr, false, false, false⟩
def ti73 : TI := ⟨.func, 1, 8, .nilFunc, false, false, false⟩
def ti75 : TI := ⟨.func, 1, 8, .nilFunc, false, false, false⟩
def ti77 : TI := ⟨.func, 1, 8, .nilFunc, false, false, false⟩
def ti78 : TI := ⟨(.struct [(0, 9), (1, 9)]), 2, 32, .agg [.str [], .str []], false, false, false⟩
def ti79 : TI := ⟨(.struct [(0, 9), (1, 9)]), 2, 32, .agg [.str [], .str []], false, false, false⟩
def ti80 : TI := ⟨.func, 1, 8, .nilFunc, false, false, false⟩
def ti81 : TI := ⟨.func, 1, 8, .nilFunc, false, false, false⟩
def ti82 : TI := ⟨.func, 1, 8, .nilFunc, false, false, false⟩
def ti83 : TI := ⟨.func, 1, 8, .nilFunc, false, false, false⟩
def ti84 : TI := ⟨.func, 1, 8, .nilFunc, false, false, false⟩
def ti85 : TI := ⟨.func, 1, 8, .nilFunc, false, false, false⟩
def ti86 : TI := ⟨(.slice 27), 1, 24, .slice [] .nil, false, false, false⟩
def ti87 : TI := ⟨.func, 1, 8, .nilFunc, false, false, false⟩
def ti88 : TI := ⟨.func, 1, 8, .nilFunc, false, false, false⟩
def ti89 : TI := ⟨.func, 1, 8, .nilFunc, false, false, false⟩
def ti90 : TI := ⟨.func, 1, 8, .nilFunc, false, false, false⟩
def ti91 : TI := ⟨(.struct [(0, 3), (1, 9), (2, 9), (3, 4)]), 4, 48, .agg [.int .i64 (0), .str [], .str [], .bool false], false, false, false⟩
def ti92 : TI := ⟨(.struct [(0, 3), (1, 9), (2, 9), (3, 4)]), 4, 48, .agg [.int .i64 (0), .str [], .str [], .bool false], false, false, false⟩
def ti93 : TI := ⟨.func, 1, 8, .nilFunc, false, false, false⟩
def ti94 : TI := ⟨.func, 1, 8, .nilFunc, false, false, false⟩
def ti95 : TI := ⟨.func, 1, 8, .nilFunc, false, false, false⟩
def ti96 : TI := ⟨(.ptr 98), 1, 8, .nilptr, false, false, false⟩
def ti97 : TI := ⟨(.struct [(0, 9), (1, 64)]), 2, 40, .agg [.str [], .slice [] .nil], false, false, false⟩
def ti98 : TI := ⟨(.struct [(0, 9), (1, 64)]), 2, 40, .agg [.str [], .slice [] .nil], false, false, false⟩
def ti99 : TI := ⟨.func, 1, 8, .nilFunc, false, false, false⟩
def ti100 : TI := ⟨(.struct [(0, 3), (1, 9)]), 2, 24, .agg [.int .i64 (0), .str []], false, false, false⟩
def ti101 : TI := ⟨(.struct [(0, 3), (1, 9)]), 2, 24, .agg [.int .i64 (0), .str []], false, false, false⟩
def ti102 : TI := ⟨.func, 1, 8, .nilFunc, false, false, false⟩
def ti103 : TI := ⟨.func, 1, 8, .nilFunc, false, false, false⟩
def ti104 : TI := ⟨.func, 1, 8, .nilFunc, false, false, false⟩
def ti106 : TI := ⟨.func, 1, 8, .nilFunc, false, false, false⟩
def ti107 : TI := ⟨.func, 1, 8, .nilFunc, false, false, false⟩
def ti108 : TI := ⟨(.struct [(0, 9), (1, 4)]), 2, 24, .agg [.str [], .bool false], false, false, false⟩
def ti109 : TI := ⟨(.struct [(0, 9), (1, 4)]), 2, 24, .agg [.str [], .bool false], false, false, false⟩
def ti111 : TI := ⟨.func, 1, 8, .nilFunc, false, false, false⟩
def ti112 : TI := ⟨.iface, 1, 16, .nilIface, false, false, false⟩
def ti113 : TI := ⟨.iface, 1, 16, .nilIface, false, false, false⟩
def ti115 : TI := ⟨.func, 1, 8, .nilFunc, false, false, false⟩
def ti116 : TI := ⟨(.ptr 118), 1, 8, .nilptr, false, false, false⟩
def ti117 : TI := ⟨(.struct [(0, 36), (11, 4), (12, 31)]), 13, 216, .agg [.int .i64 (0), .slice [] .nil, .slice [] .nil, .int .i64 (0), .int .i64 (0), .str [], .str [], .str [], .slice [] .nil, .str [], .slice [] .nil, .bool false, .slice [] .nil], false, false, false⟩
def ti118 : TI := ⟨(.struct [(0, 36), (11, 4), (12, 31)]), 13, 216, .agg [.int .i64 (0), .slice [] .nil, .slice [] .nil, .int .i64 (0), .int .i64 (0), .str [], .str [], .str [], .slice [] .nil, .str [], .slice [] .nil, .bool false, .slice [] .nil], false, false, false⟩
def ti119 : TI := ⟨.func, 1, 8, .nilFunc, false, false, false⟩
def ti120 : TI := ⟨.func, 1, 8, .nilFunc, false, false, false⟩
def ti121 : TI := ⟨.func, 1, 8, .nilFunc, false, false, false⟩
def ti122 : TI := ⟨.func, 1, 8, .nilFunc, false, false, false⟩
def ti123 : TI := ⟨(.slice 125), 1, 24, .slice [] .nil, false, false, false⟩
def ti124 : TI := ⟨(.struct [(0, 3), (1, 9), (2, 123)]), 3, 48, .agg [.int .i64 (0), .str [], .slice [] .nil], false, false, false⟩
def ti125 : TI := ⟨(.struct [(0, 3), (1, 9), (2, 123)]), 3, 48, .agg [.int .i64 (0), .str [], .slice [] .nil], false, false, false⟩
def ti126 : TI := ⟨(.struct [(0, 30), (4, 30), (8, 30), (12, 125)]), 15, 216, .agg [.int .i64 (0), .str [], .str [], .str [], .int .i64 (0), .str [], .str [], .str [], .int .i64 (0), .str [], .str [], .str [], .int .i64 (0), .str [], .slice [] .nil], false, false, false⟩
def ti127 : TI := ⟨(.struct [(0, 30), (4, 30), (8, 30), (12, 125)]), 15, 216, .agg [.int .i64 (0), .str [], .str [], .str [], .int .i64 (0), .str [], .str [], .str [], .int .i64 (0), .str [], .str [], .str [], .int .i64 (0), .str [], .slice [] .nil], false, false, false⟩
def ti128 : TI := ⟨.func, 1, 8, .nilFunc, false, false, false⟩
def ti129 : TI := ⟨.func, 1, 8, .nilFunc, false, false, false⟩
def ti130 : TI := ⟨(.int .u64), 1, 8, .int .u64 (0), false, false, true⟩
def ti131 : TI := ⟨.func, 1, 8, .nilFunc, false, false, false⟩
def ti132 : TI := ⟨.func, 1, 8, .nilFunc, false, false, false⟩
def ti133 : TI := ⟨.func, 1, 8, .nilFunc, false, false, false⟩
def ti134 : TI := ⟨.func, 1, 8, .nilFunc, false, false, false⟩
def ti135 : TI := ⟨.func, 1, 8, .nilFunc, false, false, false⟩
def ti136 : TI := ⟨.func, 1, 8, .nilFunc, false, false, false⟩
def ti137 : TI := ⟨.func, 1, 8, .nilFunc, false, false, false⟩
def ti138 : TI := ⟨.func, 1, 8, .nilFunc, false, false, false⟩
def ti139 : TI := ⟨.func, 1, 8, .nilFunc, false, false, false⟩
def ti140 : TI := ⟨.func, 1, 8, .nilFunc, false, false, false⟩
def ti142 : TI := ⟨.func, 1, 8, .nilFunc, false, false, false⟩
def ti143 : TI := ⟨.func, 1, 8, .nilFunc, false, false, false⟩
def ti144 : TI := ⟨.func, 1, 8, .nilFunc, false, false, false⟩
def ti145 : TI := ⟨.func, 1, 8, .nilFunc, false, false, false⟩
def ti146 : TI := ⟨.func, 1, 8, .nilFunc, false, false, false⟩
def ti147 : TI := ⟨.func, 1, 8, .nilFunc, false, false, false⟩
def ti149 : TI := ⟨.func, 1, 8, .nilFunc, false, false, false⟩
def ti150 : TI := ⟨.func, 1, 8, .nilFunc, false, false, false⟩
def ti151 : TI := ⟨(.int .i64), 1, 8, .int .i64 (0), false, false, true⟩
def ti153 : TI := ⟨.func, 1, 8, .nilFunc, false, false, false⟩
def ti154 : TI := ⟨.func, 1, 8, .nilFunc, false, false, false⟩
def ti155 : TI := ⟨.func, 1, 8, .nilFunc, false, false, false⟩
def ti157 : TI := ⟨.func, 1, 8, .nilFunc, false, false, false⟩
def ti158 : TI := ⟨.func, 1, 8, .nilFunc, false, false, false⟩
def ti159 : TI := ⟨(.int .u32), 1, 4, .int .u32 (0), false, false, true⟩
def ti160 : TI := ⟨.func, 1, 8, .nilFunc, false, false, false⟩
def ti161 : TI := ⟨(.int .u64), 1, 8, .int .u64 (0), false, false, true⟩
def ti162 : TI := ⟨.func, 1, 8, .nilFunc, false, false, false⟩
def ti163 : TI := ⟨(.arr 256 4), 256, 256, .agg [.bool false, .bool false, .bool false, .bool false, .bool false, .bool false, .bool false, .bool false, .bool false, .bool false, .bool false, .bool false, .bool false, .bool false, .bool false, .bool false, .bool false, .bool false, .bool false, .bool false, .bool false, .bool false, .bool false, .bool false, .bool false, .bool false, .bool false, .bool false, .bool false, .bool false, .bool false, .bool false, .bool false, .bool false, .bool false, .bool false, .bool false, .bool false, .bool false, .bool false, .bool false, .bool false, .bool false, .bool false, .bool false, .bool false, .bool false, .bool false, .bool false, .bool false, .bool false, .bool false, .bool false, .bool false, .bool false, .bool false, .bool false, .bool false, .bool false, .bool false, .bool false, .bool false, .bool false, .bool false, .bool false, .bool false, .bool false, .bool false, .bool false, .bool false, .bool false, .bool false, .bool false, .bool false, .bool false, .bool false, .bool false, .bool false, .bool false, .bool false, .bool false, .bool false, .bool false, .bool false, .bool false, .bool false, .bool false, .bool false, .bool false, .bool false, .bool false, .bool false, .bool false, .bool false, .bool false, .bool false, .bool false, .bool false, .bool false, .bool false, .bool false, .bool false, .bool false, .bool false, .bool false, .bool false, .bool false, .bool false, .bool false, .bool false, .bool false, .bool false, .bool false, .bool false, .bool false, .bool false, .bool false, .bool false, .bool false, .bool false, .bool false, .bool false, .bool false, .bool false, .bool false, .bool false, .bool false, .bool false, .bool false, .bool false, .bool false, .bool false, .bool false, .bool false, .bool false, .bool false, .bool false, .bool false, .bool false, .bool false, .bool false, .bool false, .bool false, .bool false, .bool false, .bool false, .bool false, .bool false, .bool false, .bool false, .bool false, .bool false, .bool false, .bool false, .bool false, .bool false, .bool false, .bool false, .bool false, .bool false, .bool false, .bool false, .bool false, .bool false, .bool false, .bool false, .bool false, .bool false, .bool false, .bool false, .bool false, .bool false, .bool false, .bool false, .bool false, .bool false, .bool false, .bool false, .bool false, .bool false, .bool false, .bool false, .bool false, .bool false, .bool false, .bool false, .bool false, .bool false, .bool false, .bool false, .bool false, .bool false, .bool false, .bool false, .bool false, .bool false, .bool false, .bool false, .bool false, .bool false, .bool false, .bool false, .bool false, .bool false, .bool false, .bool false, .bool false, .bool false, .bool false, .bool false, .bool false, .bool false, .bool false, .bool false, .bool false, .bool false, .bool false, .bool false, .bool false, .bool false, .bool false, .bool false, .bool false, .bool false, .bool false, .bool false, .bool false, .bool false, .bool false, .bool false, .bool false, .bool false, .bool false, .bool false, .bool false, .bool false, .bool false, .bool false, .bool false, .bool false, .bool false, .bool false, .bool false, .bool false, .bool false, .bool false, .bool false, .bool false, .bool false, .bool false, .bool false, .bool false, .bool false, .bool false, .bool false, .bool false], false, false, false⟩
def ti164 : TI := ⟨(.arr 256 4), 256, 256, .agg [.bool false, .bool false, .bool false, .bool false, .bool false, .bool false, .bool false, .bool false, .bool false, .bool false, .bool false, .bool false, .bool false, .bool false, .bool false, .bool false, .bool false, .bool false, .bool false, .bool false, .bool false, .bool false, .bool false, .bool false, .bool false, .bool false, .bool false, .bool false, .bool false, .bool false, .bool false, .bool false, .bool false, .bool false, .bool false, .bool false, .bool false, .bool false, .bool false, .bool false, .bool false, .bool false, .bool false, .bool false, .bool false, .bool false, .bool false, .bool false, .bool false, .bool false, .bool false, .bool false, .bool false, .bool false, .bool false, .bool false, .bool false, .bool false, .bool false, .bool false, .bool false, .bool false, .bool false, .bool false, .bool false, .bool false, .bool false, .bool false, .bool false, .bool false, .bool false, .bool false, .bool false, .bool false, .bool false, .bool false, .bool false, .bool false, .bool false, .bool false, .bool false, .bool false, .bool false, .bool false, .bool false, .bool false, .bool false, .bool false, .bool false, .bool false, .bool false, .bool false, .bool false, .bool false, .bool false, .bool false, .bool false, .bool false, .bool false, .bool false, .bool false, .bool false, .bool false, .bool false, .bool false, .bool false, .bool false, .bool false, .bool false, .bool false, .bool false, .bool false, .bool false, .bool false, .bool false, .bool false, .bool false, .bool false, .bool false, .bool false, .bool false, .bool false, .bool false, .bool false, .bool false, .bool false, .bool false, .bool false, .bool false, .bool false, .bool false, .bool false, .bool false, .bool false, .bool false, .bool false, .bool false, .bool false, .bool false, .bool false, .bool false, .bool false, .bool false, .bool false, .bool false, .bool false, .bool false, .bool false, .bool false, .bool false, .bool false, .bool false, .bool false, .bool false, .bool false, .bool false, .bool false, .bool false, .bool false, .bool false, .bool false, .bool false, .bool false, .bool false, .bool false, .bool false, .bool false, .bool false, .bool false, .bool false, .bool false, .bool false, .bool false, .bool false, .bool false, .bool false, .bool false, .bool false, .bool false, .bool false, .bool false, .bool false, .bool false, .bool false, .bool false, .bool false, .bool false, .bool false, .bool false, .bool false, .bool false, .bool false, .bool false, .bool false, .bool false, .bool false, .bool false, .bool false, .bool false, .bool false, .bool false, .bool false, .bool false, .bool false, .bool false, .bool false, .bool false, .bool false, .bool false, .bool false, .bool false, .bool false, .bool false, .bool false, .bool false, .bool false, .bool false, .bool false, .bool false, .bool false, .bool false, .bool false, .bool false, .bool false, .bool false, .bool false, .bool false, .bool false, .bool false, .bool false, .bool false, .bool false, .bool false, .bool false, .bool false, .bool false, .bool false, .bool false, .bool false, .bool false, .bool false, .bool false, .bool false, .bool false, .bool false, .bool false, .bool false, .bool false, .bool false, .bool false, .bool false, .bool false, .bool false, .bool false, .bool false, .bool false], false, false, false⟩
def ti166 : TI := ⟨.func, 1, 8, .nilFunc, false, false, false⟩
def ti167 : TI := ⟨.func, 1, 8, .nilFunc, false, false, false⟩
def ti168 : TI := ⟨(.ptr 164), 1, 8, .nilptr, false, false, false⟩
def ti169 : TI := ⟨.func, 1, 8, .nilFunc, false, false, false⟩
def ti170 : TI := ⟨(.int .u16), 1, 2, .int .u16 (0), false, false, true⟩
def ti171 : TI := ⟨(.arr 128 170), 128, 256, .agg [.int .u16 (0), .int .u16 (0), .int .u16 (0), .int .u16 (0), .int .u16 (0), .int .u16 (0), .int .u16 (0), .int .u16 (0), .int .u16 (0), .int .u16 (0), .int .u16 (0), .int .u16 (0), .int .u16 (0), .int .u16 (0), .int .u16 (0), .int .u16 (0), .int .u16 (0), .int .u16 (0), .int .u16 (0), .int .u16 (0), .int .u16 (0), .int .u16 (0), .int .u16 (0), .int .u16 (0), .int .u16 (0), .int .u16 (0), .int .u16 (0), .int .u16 (0), .int .u16 (0), .int .u16 (0), .int .u16 (0), .int .u16 (0), .int .u16 (0), .int .u16 (0), .int .u16 (0), .int .u16 (0), .int .u16 (0), .int .u16 (0), .int .u16 (0), .int .u16 (0), .int .u16 (0), .int .u16 (0), .int .u16 (0), .int .u16 (0), .int .u16 (0), .int .u16 (0), .int .u16 (0), .int .u16 (0), .int .u16 (0), .int .u16 (0), .int .u16 (0), .int .u16 (0), .int .u16 (0), .int .u16 (0), .int .u16 (0), .int .u16 (0), .int .u16 (0), .int .u16 (0), .int .u16 (0), .int .u16 (0), .int .u16 (0), .int .u16 (0), .int .u16 (0), .int .u16 (0), .int .u16 (0), .int .u16 (0), .int .u16 (0), .int .u16 (0), .int .u16 (0), .int .u16 (0), .int .u16 (0), .int .u16 (0), .int .u16 (0), .int .u16 (0), .int .u16 (0), .int .u16 (0), .int .u16 (0), .int .u16 (0), .int .u16 (0), .int .u16 (0), .int .u16 (0), .int .u16 (0), .int .u16 (0), .int .u16 (0), .int .u16 (0), .int .u16 (0), .int .u16 (0), .int .u16 (0), .int .u16 (0), .int .u16 (0), .int .u16 (0), .int .u16 (0), .int .u16 (0), .int .u16 (0), .int .u16 (0), .int .u16 (0), .int .u16 (0), .int .u16 (0), .int .u16 (0), .int .u16 (0), .int .u16 (0), .int .u16 (0), .int .u16 (0), .int .u16 (0), .int .u16 (0), .int .u16 (0), .int .u16 (0), .int .u16 (0), .int .u16 (0), .int .u16 (0), .int .u16 (0), .int .u16 (0), .int .u16 (0), .int .u16 (0), .int .u16 (0), .int .u16 (0), .int .u16 (0), .int .u16 (0), .int .u16 (0), .int .u16 (0), .int .u16 (0), .int .u16 (0), .int .u16 (0), .int .u16 (0), .int .u16 (0), .int .u16 (0), .int .u16 (0), .int .u16 (0)], false, false, false⟩
def ti172 : TI := ⟨(.slice 174), 1, 24, .slice [] .nil, false, false, false⟩
def ti173 : TI := ⟨(.struct [(0, 170), (1, 170)]), 2, 4, .agg [.int .u16 (0), .int .u16 (0)], false, false, false⟩
def ti174 : TI := ⟨(.struct [(0, 170), (1, 170)]), 2, 4, .agg [.int .u16 (0), .int .u16 (0)], false, false, false⟩
def ti175 : TI := ⟨(.ptr 208), 1, 8, .nilptr, false, false, false⟩
def ti176 : TI := ⟨.func, 1, 8, .nilFunc, false, false, false⟩
def ti177 : TI := ⟨(.slice 208), 1, 24, .slice [] .nil, false, false, false⟩
def ti178 : TI := ⟨.func, 1, 8, .nilFunc, false, false, false⟩
def ti179 : TI := ⟨(.int .i64), 1, 8, .int .i64 (0), false, false, true⟩
def ti181 : TI := ⟨.func, 1, 8, .nilFunc, false, false, false⟩
def ti182 : TI := ⟨(.ptr 213), 1, 8, .nilptr, false, false, false⟩
def ti183 : TI := ⟨.func, 1, 8, .nilFunc, false, false, false⟩
def ti184 : TI := ⟨.func, 1, 8, .nilFunc, false, false, false⟩
def ti185 : TI := ⟨.func, 1, 8, .nilFunc, false, false, false⟩
def ti186 : TI := ⟨(.struct [(0, 9), (1, 3)]), 2, 24, .agg [.str [], .int .i64 (0)], false, false, false⟩
def ti187 : TI := ⟨(.struct [(0, 9), (1, 3)]), 2, 24, .agg [.str [], .int .i64 (0)], false, false, false⟩
def ti188 : TI := ⟨.func, 1, 8, .nilFunc, false, false, false⟩
def ti189 : TI := ⟨.func, 1, 8, .nilFunc, false, false, false⟩
def ti190 : TI := ⟨.func, 1, 8, .nilFunc, false, false, false⟩
def ti191 : TI := ⟨(.int .u64), 1, 8, .int .u64 (0), false, false, true⟩
def ti192 : TI := ⟨.func, 1, 8, .nilFunc, false, false, false⟩
def ti193 : TI := ⟨.func, 1, 8, .nilFunc, false, false, false⟩
def ti194 : TI := ⟨.func, 1, 8, .nilFunc, false, false, false⟩
def ti195 : TI := ⟨(.ptr 3), 1, 8, .nilptr, false, false, false⟩
def ti196 : TI := ⟨.func, 1, 8, .nilFunc, false, false, false⟩
def ti197 : TI := ⟨.func, 1, 8, .nilFunc, false, false, false⟩
def ti198 : TI := ⟨.func, 1, 8, .nilFunc, false, false, false⟩
def ti200 : TI := ⟨.func, 1, 8, .nilFunc, false, false, false⟩
def ti201 : TI := ⟨(.arr 256 5), 256, 256, .agg [.int .u8 (0), .int .u8 (0), .int .u8 (0), .int .u8 (0), .int .u8 (0), .int .u8 (0), .int .u8 (0), .int .u8 (0), .int .u8 (0), .int .u8 (0), .int .u8 (0), .int .u8 (0), .int .u8 (0), .int .u8 (0), .int .u8 (0), .int .u8 (0), .int .u8 (0), .int .u8 (0), .int .u8 (0), .int .u8 (0), .int .u8 (0), .int .u8 (0), .int .u8 (0), .int .u8 (0), .int .u8 (0), .int .u8 (0), .int .u8 (0), .int .u8 (0), .int .u8 (0), .int .u8 (0), .int .u8 (0), .int .u8 (0), .int .u8 (0), .int .u8 (0), .int .u8 (0), .int .u8 (0), .int .u8 (0), .int .u8 (0), .int .u8 (0), .int .u8 (0), .int .u8 (0), .int .u8 (0), .int .u8 (0), .int .u8 (0), .int .u8 (0), .int .u8 (0), .int .u8 (0), .int .u8 (0), .int .u8 (0), .int .u8 (0), .int .u8 (0), .int .u8 (0), .int .u8 (0), .int .u8 (0), .int .u8 (0), .int .u8 (0), .int .u8 (0), .int .u8 (0), .int .u8 (0), .int .u8 (0), .int .u8 (0), .int .u8 (0), .int .u8 (0), .int .u8 (0), .int .u8 (0), .int .u8 (0), .int .u8 (0), .int .u8 (0), .int .u8 (0), .int .u8 (0), .int .u8 (0), .int .u8 (0), .int .u8 (0), .int .u8 (0), .int .u8 (0), .int .u8 (0), .int .u8 (0), .int .u8 (0), .int .u8 (0), .int .u8 (0), .int .u8 (0), .int .u8 (0), .int .u8 (0), .int .u8 (0), .int .u8 (0), .int .u8 (0), .int .u8 (0), .int .u8 (0), .int .u8 (0), .int .u8 (0), .int .u8 (0), .int .u8 (0), .int .u8 (0), .int .u8 (0), .int .u8 (0), .int .u8 (0), .int .u8 (0), .int .u8 (0), .int .u8 (0), .int .u8 (0), .int .u8 (0), .int .u8 (0), .int .u8 (0), .int .u8 (0), .int .u8 (0), .int .u8 (0), .int .u8 (0), .int .u8 (0), .int .u8 (0), .int .u8 (0), .int .u8 (0), .int .u8 (0), .int .u8 (0), .int .u8 (0), .int .u8 (0), .int .u8 (0), .int .u8 (0), .int .u8 (0), .int .u8 (0), .int .u8 (0), .int .u8 (0), .int .u8 (0), .int .u8 (0), .int .u8 (0), .int .u8 (0), .int .u8 (0), .int .u8 (0), .int .u8 (0), .int .u8 (0), .int .u8 (0), .int .u8 (0), .int .u8 (0), .int .u8 (0), .int .u8 (0), .int .u8 (0), .int .u8 (0), .int .u8 (0), .int .u8 (0), .int .u8 (0), .int .u8 (0), .int .u8 (0), .int .u8 (0), .int .u8 (0), .int .u8 (0), .int .u8 (0), .int .u8 (0), .int .u8 (0), .int .u8 (0), .int .u8 (0), .int .u8 (0), .int .u8 (0), .int .u8 (0), .int .u8 (0), .int .u8 (0), .int .u8 (0), .int .u8 (0), .int .u8 (0), .int .u8 (0), .int .u8 (0), .int .u8 (0), .int .u8 (0), .int .u8 (0), .int .u8 (0), .int .u8 (0), .int .u8 (0), .int .u8 (0), .int .u8 (0), .int .u8 (0), .int .u8 (0), .int .u8 (0), .int .u8 (0), .int .u8 (0), .int .u8 (0), .int .u8 (0), .int .u8 (0), .int .u8 (0), .int .u8 (0), .int .u8 (0), .int .u8 (0), .int .u8 (0), .int .u8 (0), .int .u8 (0), .int .u8 (0), .int .u8 (0), .int .u8 (0), .int .u8 (0), .int .u8 (0), .int .u8 (0), .int .u8 (0), .int .u8 (0), .int .u8 (0), .int .u8 (0), .int .u8 (0), .int .u8 (0), .int .u8 (0), .int .u8 (0), .int .u8 (0), .int .u8 (0), .int .u8 (0), .int .u8 (0), .int .u8 (0), .int .u8 (0), .int .u8 (0), .int .u8 (0), .int .u8 (0), .int .u8 (0), .int .u8 (0), .int .u8 (0), .int .u8 (0), .int .u8 (0), .int .u8 (0), .int .u8 (0), .int .u8 (0), .int .u8 (0), .int .u8 (0), .int .u8 (0), .int .u8 (0), .int .u8 (0), .int .u8 (0), .int .u8 (0), .int .u8 (0), .int .u8 (0), .int .u8 (0), .int .u8 (0), .int .u8 (0), .int .u8 (0), .int .u8 (0), .int .u8 (0), .int .u8 (0), .int .u8 (0), .int .u8 (0), .int .u8 (0), .int .u8 (0), .int .u8 (0), .int .u8 (0), .int .u8 (0), .int .u8 (0), .int .u8 (0), .int .u8 (0), .int .u8 (0), .int .u8 (0), .int .u8 (0), .int .u8 (0), .int .u8 (0), .int .u8 (0), .int .u8 (0), .int .u8 (0), .int .u8 (0), .int .u8 (0), .int .u8 (0), .int .u8 (0), .int .u8 (0), .int .u8 (0), .int .u8 (0), .int .u8 (0), .int .u8 (0)], false, false, false⟩
def ti202 : TI := ⟨(.struct [(0, 5), (1, 5)]), 2, 2, .agg [.int .u8 (0), .int .u8 (0)], false, false, false⟩
def ti203 : TI := ⟨(.struct [(0, 5), (1, 5)]), 2, 2, .agg [.int .u8 (0), .int .u8 (0)], false, false, false⟩
def ti204 : TI := ⟨(.arr 16 203), 32, 32, .agg [.int .u8 (0), .int .u8 (0), .int .u8 (0), .int .u8 (0), .int .u8 (0), .int .u8 (0), .int .u8 (0), .int .u8 (0), .int .u8 (0), .int .u8 (0), .int .u8 (0), .int .u8 (0), .int .u8 (0), .int .u8 (0), .int .u8 (0), .int .u8 (0), .int .u8 (0), .int .u8 (0), .int .u8 (0), .int .u8 (0), .int .u8 (0), .int .u8 (0), .int .u8 (0), .int .u8 (0), .int .u8 (0), .int .u8 (0), .int .u8 (0), .int .u8 (0), .int .u8 (0), .int .u8 (0), .int .u8 (0), .int .u8 (0)], false, false, false⟩
def ti205 : TI := ⟨(.arr 3 21), 3, 12, .agg [.int .i32 (0), .int .i32 (0), .int .i32 (0)], false, false, false⟩
def ti206 : TI := ⟨(.arr 3 21), 3, 12, .agg [.int .i32 (0), .int .i32 (0), .int .i32 (0)], false, false, false⟩
def ti207 : TI := ⟨(.struct [(0, 159), (1, 159), (2, 206)]), 5, 20, .agg [.int .u32 (0), .int .u32 (0), .int .i32 (0), .int .i32 (0), .int .i32 (0)], false, false, false⟩
def ti208 : TI := ⟨(.struct [(0, 159), (1, 159), (2, 206)]), 5, 20, .agg [.int .u32 (0), .int .u32 (0), .int .i32 (0), .int .i32 (0), .int .i32 (0)], false, false, false⟩
def ti210 : TI := ⟨.func, 1, 8, .nilFunc, false, false, false⟩
def ti211 : TI := ⟨.func, 1, 8, .nilFunc, false, false, false⟩
def ti212 : TI := ⟨(.struct [(0, 9), (1, 9), (2, 113)]), 3, 48, .agg [.str [], .str [], .nilIface], false, false, false⟩
def ti213 : TI := ⟨(.struct [(0, 9), (1, 9), (2, 113)]), 3, 48, .agg [.str [], .str [], .nilIface], false, false, false⟩
def ti214 : TI := ⟨.func, 1, 8, .nilFunc, false, false, false⟩
def ti215 : TI := ⟨(.slice 187), 1, 24, .slice [] .nil, false, false, false⟩
def ti216 : TI := ⟨.func, 1, 8, .nilFunc, false, false, false⟩
def ti217 : TI := ⟨.func, 1, 8, .nilFunc, false, false, false⟩
def ti218 : TI := ⟨.func, 1, 8, .nilFunc, false, false, false⟩
def ti219 : TI := ⟨(.ptr 191), 1, 8, .nilptr, false, false, false⟩
def ti221 : TI := ⟨.func, 1, 8, .nilFunc, false, false, false⟩
def ti222 : TI := ⟨.func, 1, 8, .nilFunc, false, false, false⟩
def ti223 : TI := ⟨.func, 1, 8, .nilFunc, false, false, false⟩
def ti224 : TI := ⟨(.ptr 5), 1, 8, .nilptr, false, false, false⟩
def ti225 : TI := ⟨(.ptr 227), 1, 8, .nilptr, false, false, false⟩
def ti226 : TI := ⟨(.struct [(0, 9)]), 1, 16, .agg [.str []], false, false, false⟩
def ti227 : TI := ⟨(.struct [(0, 9)]), 1, 16, .agg [.str []], false, false, false⟩
def ti228 : TI := ⟨.func, 1, 8, .nilFunc, false, false, false⟩
def ti229 : TI := ⟨.func, 1, 8, .nilFunc, false, false, false⟩
def ti230 : TI := ⟨.func, 1, 8, .nilFunc, false, false, false⟩
def ti231 : TI := ⟨.func, 1, 8, .nilFunc, false, false, false⟩
def ti232 : TI := ⟨.func, 1, 8, .nilFunc, false, false, false⟩
def ti233 : TI := ⟨(.arr 24 5), 24, 24, .agg [.int .u8 (0), .int .u8 (0), .int .u8 (0), .int .u8 (0), .int .u8 (0), .int .u8 (0), .int .u8 (0), .int .u8 (0), .int .u8 (0), .int .u8 (0), .int .u8 (0), .int .u8 (0), .int .u8 (0), .int .u8 (0), .int .u8 (0), .int .u8 (0), .int .u8 (0), .int .u8 (0), .int .u8 (0), .int .u8 (0), .int .u8 (0), .int .u8 (0), .int .u8 (0), .int .u8 (0)], false, false, false⟩
def ti234 : TI := ⟨.func, 1, 8, .nilFunc, false, false, false⟩
def ti236 : TI := ⟨.func, 1, 8, .nilFunc, false, false, false⟩
def ti237 : TI := ⟨.func, 1, 8, .nilFunc, false, false, false⟩
def ti238 : TI := ⟨(.arr 20 161), 20, 160, .agg [.int .u64 (0), .int .u64 (0), .int .u64 (0), .int .u64 (0), .int .u64 (0), .int .u64 (0), .int .u64 (0), .int .u64 (0), .int .u64 (0), .int .u64 (0), .int .u64 (0), .int .u64 (0), .int .u64 (0), .int .u64 (0), .int .u64 (0), .int .u64 (0), .int .u64 (0), .int .u64 (0), .int .u64 (0), .int .u64 (0)], false, false, false⟩
def ti239 : TI := ⟨(.arr 65 5), 65, 65, .agg [.int .u8 (0), .int .u8 (0), .int .u8 (0), .int .u8 (0), .int .u8 (0), .int .u8 (0), .int .u8 (0), .int .u8 (0), .int .u8 (0), .int .u8 (0), .int .u8 (0), .int .u8 (0), .int .u8 (0), .int .u8 (0), .int .u8 (0), .int .u8 (0), .int .u8 (0), .int .u8 (0), .int .u8 (0), .int .u8 (0), .int .u8 (0), .int .u8 (0), .int .u8 (0), .int .u8 (0), .int .u8 (0), .int .u8 (0), .int .u8 (0), .int .u8 (0), .int .u8 (0), .int .u8 (0), .int .u8 (0), .int .u8 (0), .int .u8 (0), .int .u8 (0), .int .u8 (0), .int .u8 (0), .int .u8 (0), .int .u8 (0), .int .u8 (0), .int .u8 (0), .int .u8 (0), .int .u8 (0), .int .u8 (0), .int .u8 (0), .int .u8 (0), .int .u8 (0), .int .u8 (0), .int .u8 (0), .int .u8 (0), .int .u8 (0), .int .u8 (0), .int .u8 (0), .int .u8 (0), .int .u8 (0), .int .u8 (0), .int .u8 (0), .int .u8 (0), .int .u8 (0), .int .u8 (0), .int .u8 (0), .int .u8 (0), .int .u8 (0), .int .u8 (0), .int .u8 (0), .int .u8 (0)], false, false, false⟩
def ti240 : TI := ⟨(.slice 243), 1, 24, .slice [] .nil, false, false, false⟩
def ti241 : TI := ⟨.func, 1, 8, .nilFunc, false, false, false⟩
def ti242 : TI := ⟨(.struct [(0, 9), (1, 3), (2, 3), (3, 3)]), 4, 40, .agg [.str [], .int .i64 (0), .int .i64 (0), .int .i64 (0)], false, false, false⟩
def ti243 : TI := ⟨(.struct [(0, 9), (1, 3), (2, 3), (3, 3)]), 4, 40, .agg [.str [], .int .i64 (0), .int .i64 (0), .int .i64 (0)], false, false, false⟩
def ti244 : TI := ⟨.func, 1, 8, .nilFunc, false, false, false⟩
def ti245 : TI := ⟨(.arr 32 5), 32, 32, .agg [.int .u8 (0), .int .u8 (0), .int .u8 (0), .int .u8 (0), .int .u8 (0), .int .u8 (0), .int .u8 (0), .int .u8 (0), .int .u8 (0), .int .u8 (0), .int .u8 (0), .int .u8 (0), .int .u8 (0), .int .u8 (0), .int .u8 (0), .int .u8 (0), .int .u8 (0), .int .u8 (0), .int .u8 (0), .int .u8 (0), .int .u8 (0), .int .u8 (0), .int .u8 (0), .int .u8 (0), .int .u8 (0), .int .u8 (0), .int .u8 (0), .int .u8 (0), .int .u8 (0), .int .u8 (0), .int .u8 (0), .int .u8 (0)], false, false, false⟩
def ti246 : TI := ⟨(.arr 64 5), 64, 64, .agg [.int .u8 (0), .int .u8 (0), .int .u8 (0), .int .u8 (0), .int .u8 (0), .int .u8 (0), .int .u8 (0), .int .u8 (0), .int .u8 (0), .int .u8 (0), .int .u8 (0), .int .u8 (0), .int .u8 (0), .int .u8 (0), .int .u8 (0), .int .u8 (0), .int .u8 (0), .int .u8 (0), .int .u8 (0), .int .u8 (0), .int .u8 (0), .int .u8 (0), .int .u8 (0), .int .u8 (0), .int .u8 (0), .int .u8 (0), .int .u8 (0), .int .u8 (0), .int .u8 (0), .int .u8 (0), .int .u8 (0), .int .u8 (0), .int .u8 (0), .int .u8 (0), .int .u8 (0), .int .u8 (0), .int .u8 (0), .int .u8 (0), .int .u8 (0), .int .u8 (0), .int .u8 (0), .int .u8 (0), .int .u8 (0), .int .u8 (0), .int .u8 (0), .int .u8 (0), .int .u8 (0), .int .u8 (0), .int .u8 (0), .int .u8 (0), .int .u8 (0), .int .u8 (0), .int .u8 (0), .int .u8 (0), .int .u8 (0), .int .u8 (0), .int .u8 (0), .int .u8 (0), .int .u8 (0), .int .u8 (0), .int .u8 (0), .int .u8 (0), .int .u8 (0), .int .u8 (0)], false, false, false⟩
def ti247 : TI := ⟨(.struct [(0, 17), (1, 17), (2, 17), (3, 9)]), 4, 40, .agg [.nilptr, .nilptr, .nilptr, .str []], false, false, false⟩
def ti248 : TI := ⟨(.struct [(0, 17), (1, 17), (2, 17), (3, 9)]), 4, 40, .agg [.nilptr, .nilptr, .nilptr, .str []], false, false, false⟩
def ti249 : TI := ⟨(.arr 0 16), 0, 0, .agg [], false, false, false⟩
def ti250 : TI := ⟨(.struct [(0, 249)]), 0, 0, .agg [], false, false, false⟩
def ti251 : TI := ⟨(.struct [(0, 249)]), 0, 0, .agg [], false, false, false⟩
def ti252 : TI := ⟨(.int .u8), 1, 1, .int .u8 (0), false, false, true⟩
def ti253 : TI := ⟨(.int .u8), 1, 1, .int .u8 (0), false, false, true⟩
def ti254 : TI := ⟨.func, 1, 8, .nilFunc, false, false, false⟩
def ti255 : TI := ⟨(.int .i32), 1, 4, .int .i32 (0), false, false, true⟩
def ti256 : TI := ⟨(.int .i32), 1, 4, .int .i32 (0), false, false, true⟩
def ti257 : TI := ⟨(.struct [(0, 12), (1, 12), (2, 159), (3, 252), (4, 5), (5, 5), (6, 253), (7, 254), (8, 224), (9, 255), (10, 256)]), 11, 48, .agg [.int .u64 (0), .int .u64 (0), .int .u32 (0), .int .u8 (0), .int .u8 (0), .int .u8 (0), .int .u8 (0), .nilFunc, .nilptr, .int .i32 (0), .int .i32 (0)], false, false, false⟩
def ti258 : TI := ⟨(.struct [(0, 12), (1, 12), (2, 159), (3, 252), (4, 5), (5, 5), (6, 253), (7, 254), (8, 224), (9, 255), (10, 256)]), 11, 48, .agg [.int .u64 (0), .int .u64 (0), .int .u32 (0), .int .u8 (0), .int .u8 (0), .int .u8 (0), .int .u8 (0), .nilFunc, .nilptr, .int .i32 (0), .int .i32 (0)], false, false, false⟩
def ti259 : TI := ⟨.other, 1, 8, .nilptr, false, false, false⟩
def tree : Tree TI := (.node none (.node (some ti1) (.node (some ti3) (.node (some ti7) (.node (some ti15) (.node (some ti31) (.node (some ti63) (.node (some ti127) (.node (some ti255) .leaf .leaf) .leaf) (.node (some ti191) .leaf .leaf)) (.node (some ti95) (.node (some ti159) .leaf .leaf) (.node (some ti223) .leaf .leaf))) (.node (some ti47) (.node (some ti79) (.node (some ti143) .leaf .leaf) (.node (some ti207) .leaf .leaf)) (.node (some ti111) (.node (some ti175) .leaf .leaf) (.node (some ti239) .leaf .leaf)))) (.node (some ti23) (.node (some ti39) (.node (some ti71) (.node (some ti135) .leaf .leaf) (.node none .leaf .leaf)) (.node (some ti103) (.node (some ti167) .leaf .leaf) (.node (some ti231) .leaf .leaf))) (.node (some ti55) (.node (some ti87) (.node (some ti151) .leaf .leaf) (.node (some ti215) .leaf .leaf)) (.node (some ti119) (.node (some ti183) .leaf .leaf) (.node (some ti247) .leaf .leaf))))) (.node (some ti11) (.node (some ti19) (.node (some ti35) (.node (some ti67) (.node (some ti131) (.node (some ti259) .leaf .leaf) .leaf) (.node (some ti195) .leaf .leaf)) (.node (some ti99) (.node (some ti163) .leaf .leaf) (.node (some ti227) .leaf .leaf))) (.node (some ti51) (.node (some ti83) (.node (some ti147) .leaf .leaf) (.node (some ti211) .leaf .leaf)) (.node (some ti115) (.node (some ti179) .leaf .leaf) (.node (some ti243) .leaf .leaf)))) (.node (some ti27) (.node (some ti43) (.node (some ti75) (.node (some ti139) .leaf .leaf) (.node (some ti203) .leaf .leaf)) (.node (some ti107) (.node (some ti171) .leaf .leaf) (.node none .leaf .leaf))) (.node (some ti59) (.node (some ti91) (.node (some ti155) .leaf .leaf) (.node (some ti219) .leaf .leaf)) (.node (some ti123) (.node (some ti187) .leaf .leaf) (.node (some ti251) .leaf .leaf)))))) (.node (some ti5) (.node (some ti9) (.node (some ti17) (.node (some ti33) (.node (some ti65) (.node (some ti129) (.node (some ti257) .leaf .leaf) .leaf) (.node (some ti193) .leaf .leaf)) (.node (some ti97) (.node (some ti161) .leaf .leaf) (.node (some ti225) .leaf .leaf))) (.node (some ti49) (.node (some ti81) (.node (some ti145) .leaf .leaf) (.node none .leaf .leaf)) (.node (some ti113) (.node (some ti177) .leaf .leaf) (.node (some ti241) .leaf .leaf)))) (.node (some ti25) (.node none (.node (some ti73) (.node (some ti137) .leaf .leaf) (.node (some ti201) .leaf .leaf)) (.node none (.node (some ti169) .leaf .leaf) (.node (some ti233) .leaf .leaf))) (.node (some ti57) (.node (some ti89) (.node (some ti153) .leaf .leaf) (.node (some ti217) .leaf .leaf)) (.node (some ti121) (.node (some ti185) .leaf .leaf) (.node (some ti249) .leaf .leaf))))) (.node (some ti13) (.node (some ti21) (.node (some ti37) (.node (some ti69) (.node (some ti133) .leaf .leaf) (.node (some ti197) .leaf .leaf)) (.node (some ti101) (.node none .leaf .leaf) (.node (some ti229) .leaf .leaf))) (.node none (.node (some ti85) (.node (some ti149) .leaf .leaf) (.node (some ti213) .leaf .leaf)) (.node (some ti117) (.node (some ti181) .leaf .leaf) (.node (some ti245) .leaf .leaf)))) (.node (some ti29) (.node (some ti45) (.node (some ti77) (.node none .leaf .leaf) (.node (some ti205) .leaf .leaf)) (.node (some ti109) (.node (some ti173) .leaf .leaf) (.node (some ti237) .leaf .leaf))) (.node (some ti61) (.node (some ti93) (.node (some ti157) .leaf .leaf) (.node (some ti221) .leaf .leaf)) (.node (some ti125) (.node (some ti189) .leaf .leaf) (.node (some ti253) .leaf .leaf))))))) (.node (some ti2) (.node (some ti4) (.node (some ti8) (.node (some ti16) (.node (some ti32) (.node (some ti64) (.node (some ti128) (.node (some ti256) .leaf .leaf) .leaf) (.node (some ti192) .leaf .leaf)) (.node (some ti96) (.node (some ti160) .leaf .leaf) (.node (some ti224) .leaf .leaf))) (.node (some ti48) (.node (some ti80) (.node (some ti144) .leaf .leaf) (.node (some ti208) .leaf .leaf)) (.node (some ti112) (.node (some ti176) .leaf .leaf) (.node (some ti240) .leaf .leaf)))) (.node (some ti24) (.node (some ti40) (.node none (.node (some ti136) .leaf .leaf) (.node (some ti200) .leaf .leaf)) (.node (some ti104) (.node (some ti168) .leaf .leaf) (.node (some ti232) .leaf .leaf))) (.node none (.node (some ti88) (.node none .leaf .leaf) (.node (some ti216) .leaf .leaf)) (.node (some ti120) (.node (some ti184) .leaf .leaf) (.node (some ti248) .leaf .leaf))))) (.node (some ti12) (.node (some ti20) (.node (some ti36) (.node (some ti68) (.node (some ti132) .leaf .leaf) (.node (some ti196) .leaf .leaf)) (.node (some ti100) (.node (some ti164) .leaf .leaf) (.node (some ti228) .leaf .leaf))) (.node (some ti52) (.node (some ti84) (.node none .leaf .leaf) (.node (some ti212) .leaf .leaf)) (.node (some ti116) (.node none .leaf .leaf) (.node (some ti244) .leaf .leaf)))) (.node (some ti28) (.node (some ti44) (.node none (.node (some ti140) .leaf .leaf) (.node (some ti204) .leaf .leaf)) (.node (some ti108) (.node (some ti172) .leaf .leaf) (.node (some ti236) .leaf .leaf))) (.node (some ti60) (.node (some ti92) (.node none .leaf .leaf) (.node none .leaf .leaf)) (.node (some ti124) (.node (some ti188) .leaf .leaf) (.node (some ti252) .leaf .leaf)))))) (.node (some ti6) (.node (some ti10) (.node (some ti18) (.node (some ti34) (.node (some ti66) (.node (some ti130) (.node (some ti258) .leaf .leaf) .leaf) (.node (some ti194) .leaf .leaf)) (.node (some ti98) (.node (some ti162) .leaf .leaf) (.node (some ti226) .leaf .leaf))) (.node (some ti50) (.node (some ti82) (.node (some ti146) .leaf .leaf) (.node (some ti210) .leaf .leaf)) (.node none (.node (some ti178) .leaf .leaf) (.node (some ti242) .leaf .leaf)))) (.node (some ti26) (.node (some ti42) (.node none (.node (some ti138) .leaf .leaf) (.node (some ti202) .leaf .leaf)) (.node (some ti106) (.node (some ti170) .leaf .leaf) (.node (some ti234) .leaf .leaf))) (.node (some ti58) (.node (some ti90) (.node (some ti154) .leaf .leaf) (.node (some ti218) .leaf .leaf)) (.node (some ti122) (.node (some ti186) .leaf .leaf) (.node (some ti250) .leaf .leaf))))) (.node (some ti14) (.node (some ti22) (.node (some ti38) (.node (some ti70) (.node (some ti134) .leaf .leaf) (.node (some ti198) .leaf .leaf)) (.node (some ti102) (.node (some ti166) .leaf .leaf) (.node (some ti230) .leaf .leaf))) (.node (some ti54) (.node (some ti86) (.node (some ti150) .leaf .leaf) (.node (some ti214) .leaf .leaf)) (.node (some ti118) (.node (some ti182) .leaf .leaf) (.node (some ti246) .leaf .leaf)))) (.node (some ti30) (.node (some ti46) (.node (some ti78) (.node (some ti142) .leaf .leaf) (.node (some ti206) .leaf .leaf)) (.node none (.node (some ti174) .leaf .leaf) (.node (some ti238) .leaf .leaf))) (.node (some ti62) (.node (some ti94) (.node (some ti158) .leaf .leaf) (.node (some ti222) .leaf .leaf)) (.node (some ti126) (.node (some ti190) .leaf .leaf) (.node (some ti254) .leaf .leaf))))))))
def env : Env := tree.get
theorem env_1 : env 1 = some ⟨.func, 1, 8, .nilFunc, false, false, false⟩ := by kernel_rfl
theorem env_2 : env 2 = some ⟨(.int .i64), 1, 8, .int .i64 (0), false, false, true⟩ := by kernel_rfl
theorem env_3 : env 3 = some ⟨(.int .i64), 1, 8, .int .i64 (0), false, false, true⟩ := by kernel_rfl
theorem env_4 : env 4 = some ⟨.bool, 1, 1, .bool false, false, false, false⟩ := by kernel_rfl
theorem env_5 : env 5 = some ⟨(.int .u8), 1, 1, .int .u8 (0), false, false, true⟩ := by kernel_rfl
theorem env_6 : env 6 = some ⟨(.int .u8), 1, 1, .int .u8 (0), false, false, true⟩ := by kernel_rfl
theorem env_7 : env 7 = some ⟨(.struct [(0, 2), (1, 3), (2, 4), (3, 6)]), 4, 24, .agg [.int .i64 (0), .int .i64 (0), .bool false, .int .u8 (0)], false, false, false⟩ := by kernel_rfl
theorem env_8 : env 8 = some ⟨(.struct [(0, 2), (1, 3), (2, 4), (3, 6)]), 4, 24, .agg [.int .i64 (0), .int .i64 (0), .bool false, .int .u8 (0)], false, false, false⟩ := by kernel_rfl
theorem env_9 : env 9 = some ⟨.str, 1, 16, .str [], false, false, false⟩ := by kernel_rfl
theorem env_10 : env 10 = some ⟨.str, 1, 16, .str [], false, false, false⟩ := by kernel_rfl
theorem env_11 : env 11 = some ⟨.str, 1, 16, .str [], false, false, false⟩ := by kernel_rfl
theorem env_12 : env 12 = some ⟨(.int .u64), 1, 8, .int .u64 (0), false, false, true⟩ := by kernel_rfl
theorem env_13 : env 13 = some ⟨(.struct [(0, 9), (1, 12)]), 2, 24, .agg [.str [], .int .u64 (0)], false, false, false⟩ := by kernel_rfl
theorem env_14 : env 14 = some ⟨(.struct [(0, 9), (1, 12)]), 2, 24, .agg [.str [], .int .u64 (0)], false, false, false⟩ := by kernel_rfl
theorem env_15 : env 15 = some ⟨(.ptr 248), 1, 8, .nilptr, false, false, false⟩ := by kernel_rfl
theorem env_16 : env 16 = some ⟨(.ptr 251), 1, 8, .nilptr, false, false, false⟩ := by kernel_rfl
theorem env_17 : env 17 = some ⟨(.ptr 258), 1, 8, .nilptr, false, false, false⟩ := by kernel_rfl
theorem env_18 : env 18 = some ⟨(.struct [(0, 17)]), 1, 8, .agg [.nilptr], false, false, false⟩ := by kernel_rfl
theorem env_19 : env 19 = some ⟨(.struct [(0, 17)]), 1, 8, .agg [.nilptr], false, false, false⟩ := by kernel_rfl
theorem env_20 : env 20 = some ⟨.iface, 1, 16, .nilIface, false, false, false⟩ := by kernel_rfl
theorem env_21 : env 21 = some ⟨(.int .i32), 1, 4, .int .i32 (0), false, false, true⟩ := by kernel_rfl
theorem env_22 : env 22 = some ⟨.func, 1, 8, .nilFunc, false, false, false⟩ := by kernel_rfl
theorem env_23 : env 23 = some ⟨(.slice 9), 1, 24, .slice [] .nil, false, true, false⟩ := by kernel_rfl
theorem env_24 : env 24 = some ⟨(.int .i64), 1, 8, .int .i64 (0), false, false, true⟩ := by kernel_rfl
theorem env_25 : env 25 = some ⟨(.slice 24), 1, 24, .slice [] .nil, false, false, false⟩ := by kernel_rfl
theorem env_26 : env 26 = some ⟨.func, 1, 8, .nilFunc, false, false, false⟩ := by kernel_rfl
theorem env_27 : env 27 = some ⟨(.slice 127), 1, 24, .slice [] .nil, false, false, false⟩ := by kernel_rfl
theorem env_28 : env 28 = some ⟨(.slice 36), 1, 24, .slice [] .nil, false, false, false⟩ := by kernel_rfl
theorem env_29 : env 29 = some ⟨(.struct [(0, 3), (1, 9), (2, 9), (3, 9)]), 4, 56, .agg [.int .i64 (0), .str [], .str [], .str []], false, false, false⟩ := by kernel_rfl
theorem env_30 : env 30 = some ⟨(.struct [(0, 3), (1, 9), (2, 9), (3, 9)]), 4, 56, .agg [.int .i64 (0), .str [], .str [], .str []], false, false, false⟩ := by kernel_rfl
theorem env_31 : env 31 = some ⟨(.slice 33), 1, 24, .slice [] .nil, false, true, false⟩ := by kernel_rfl
theorem env_32 : env 32 = some ⟨(.struct [(0, 3), (1, 30), (5, 31)]), 6, 88, .agg [.int .i64 (0), .int .i64 (0), .str [], .str [], .str [], .slice [] .nil], false, false, false⟩ := by kernel_rfl
theorem env_33 : env 33 = some ⟨(.struct [(0, 3), (1, 30), (5, 31)]), 6, 88, .agg [.int .i64 (0), .int .i64 (0), .str [], .str [], .str [], .slice [] .nil], false, false, false⟩ := by kernel_rfl
theorem env_34 : env 34 = some ⟨(.slice 30), 1, 24, .slice [] .nil, false, false, false⟩ := by kernel_rfl
theorem env_35 : env 35 = some ⟨(.struct [(0, 3), (1, 27), (2, 28), (3, 33), (9, 9), (10, 34)]), 11, 184, .agg [.int .i64 (0), .slice [] .nil, .slice [] .nil, .int .i64 (0), .int .i64 (0), .str [], .str [], .str [], .slice [] .nil, .str [], .slice [] .nil], false, false, false⟩ := by kernel_rfl
theorem env_36 : env 36 = some ⟨(.struct [(0, 3), (1, 27), (2, 28), (3, 33), (9, 9), (10, 34)]), 11, 184, .agg [.int .i64 (0), .slice [] .nil, .slice [] .nil, .int .i64 (0), .int .i64 (0), .str [], .str [], .str [], .slice [] .nil, .str [], .slice [] .nil], false, false, false⟩ := by kernel_rfl
theorem env_37 : env 37 = some ⟨(.slice 92), 1, 24, .slice [] .nil, false, false, false⟩ := by kernel_rfl
theorem env_38 : env 38 = some ⟨(.slice 109), 1, 24, .slice [] .nil, false, false, false⟩ := by kernel_rfl
theorem env_39 : env 39 = some ⟨(.struct [(0, 3), (1, 23), (2, 4), (3, 36), (14, 27), (15, 23), (16, 37), (17, 38), (18, 3), (19, 3)]), 20, 336, .agg [.int .i64 (0), .slice [] .nil, .bool false, .int .i64 (0), .slice [] .nil, .slice [] .nil, .int .i64 (0), .int .i64 (0), .str [], .str [], .str [], .slice [] .nil, .str [], .slice [] .nil, .slice [] .nil, .slice [] .nil, .slice [] .nil, .slice [] .nil, .int .i64 (0), .int .i64 (0)], false, false, false⟩ := by kernel_rfl
theorem env_40 : env 40 = some ⟨(.struct [(0, 3), (1, 23), (2, 4), (3, 36), (14, 27), (15, 23), (16, 37), (17, 38), (18, 3), (19, 3)]), 20, 336, .agg [.int .i64 (0), .slice [] .nil, .bool false, .int .i64 (0), .slice [] .nil, .slice [] .nil, .int .i64 (0), .int .i64 (0), .str [], .str [], .str [], .slice [] .nil, .str [], .slice [] .nil, .slice [] .nil, .slice [] .nil, .slice [] .nil, .slice [] .nil, .int .i64 (0), .int .i64 (0)], false, false, false⟩ := by kernel_rfl
theorem env_42 : env 42 = some ⟨.func, 1, 8, .nilFunc, false, false, false⟩ := by kernel_rfl
theorem env_43 : env 43 = some ⟨.func, 1, 8, .nilFunc, false, false, false⟩ := by kernel_rfl
theorem env_44 : env 44 = some ⟨.func, 1, 8, .nilFunc, false, false, false⟩ := by kernel_rfl
theorem env_45 : env 45 = some ⟨.func, 1, 8, .nilFunc, false, false, false⟩ := by kernel_rfl
theorem env_46 : env 46 = some ⟨(.slice 3), 1, 24, .slice [] .nil, false, false, false⟩ := by kernel_rfl
theorem env_47 : env 47 = some ⟨(.slice 5), 1, 24, .slice [] .nil, false, false, false⟩ := by kernel_rfl
theorem env_48 : env 48 = some ⟨.func, 1, 8, .nilFunc, false, false, false⟩ := by kernel_rfl
theorem env_49 : env 49 = some ⟨.func, 1, 8, .nilFunc, false, false, false⟩ := by kernel_rfl
theorem env_50 : env 50 = some ⟨.func, 1, 8, .nilFunc, false, false, false⟩ := by kernel_rfl
theorem env_51 : env 51 = some ⟨(.struct [(0, 4), (1, 27), (2, 27), (3, 36)]), 14, 240, .agg [.bool false, .slice [] .nil, .slice [] .nil, .int .i64 (0), .slice [] .nil, .slice [] .nil, .int .i64 (0), .int .i64 (0), .str [], .str [], .str [], .slice [] .nil, .str [], .slice [] .nil], false, false, false⟩ := by kernel_rfl
theorem env_52 : env 52 = some ⟨(.struct [(0, 4), (1, 27), (2, 27), (3, 36)]), 14, 240, .agg [.bool false, .slice [] .nil, .slice [] .nil, .int .i64 (0), .slice [] .nil, .slice [] .nil, .int .i64 (0), .int .i64 (0), .str [], .str [], .str [], .slice [] .nil, .str [], .slice [] .nil], false, false, false⟩ := by kernel_rfl
theorem env_54 : env 54 = some ⟨.func, 1, 8, .nilFunc, false, false, false⟩ := by kernel_rfl
theorem env_55 : env 55 = some ⟨(.ptr 67), 1, 8, .nilptr, false, false, false⟩ := by kernel_rfl
theorem env_57 : env 57 = some ⟨.func, 1, 8, .nilFunc, false, false, false⟩ := by kernel_rfl
theorem env_58 : env 58 = some ⟨.func, 1, 8, .nilFunc, false, false, false⟩ := by kernel_rfl
theorem env_59 : env 59 = some ⟨.func, 1, 8, .nilFunc, false, false, false⟩ := by kernel_rfl
theorem env_60 : env 60 = some ⟨(.ptr 40), 1, 8, .nilptr, false, false, false⟩ := by kernel_rfl
theorem env_61 : env 61 = some ⟨.func, 1, 8, .nilFunc, false, false, false⟩ := by kernel_rfl
theorem env_62 : env 62 = some ⟨.func, 1, 8, .nilFunc, false, false, false⟩ := by kernel_rfl
theorem env_63 : env 63 = some ⟨.func, 1, 8, .nilFunc, false, false, false⟩ := by kernel_rfl
theorem env_64 : env 64 = some ⟨(.slice 101), 1, 24, .slice [] .nil, false, false, false⟩ := by kernel_rfl
theorem env_65 : env 65 = some ⟨(.slice 79), 1, 24, .slice [] .nil, false, false, false⟩ := by kernel_rfl
theorem env_66 : env 66 = some ⟨(.struct [(0, 64), (1, 65), (2, 3), (3, 24), (4, 4), (5, 4), (6, 4)]), 7, 72, .agg [.slice [] .nil, .slice [] .nil, .int .i64 (0), .int .i64 (0), .bool false, .bool false, .bool false], false, false, false⟩ := by kernel_rfl
theorem env_67 : env 67 = some ⟨(.struct [(0, 64), (1, 65), (2, 3), (3, 24), (4, 4), (5, 4), (6, 4)]), 7, 72, .agg [.slice [] .nil, .slice [] .nil, .int .i64 (0), .int .i64 (0), .bool false, .bool false, .bool false], false, false, false⟩ := by kernel_rfl
theorem env_68 : env 68 = some ⟨.func, 1, 8, .nilFunc, false, false, false⟩ := by kernel_rfl
theorem env_69 : env 69 = some ⟨.func, 1, 8, .nilFunc, false, false, false⟩ := by kernel_rfl
theorem env_70 : env 70 = some ⟨.func, 1, 8, .nilFunc, false, false, false⟩ := by kernel_rfl
theorem env_71 : env 71 = some ⟨(.ptr 52), 1, 8, .nilptr, false, false, false⟩ := by kernel_rfl
theorem env_73 : env 73 = some ⟨.func, 1, 8, .nilFunc, false, false, false⟩ := by kernel_rfl
theorem env_75 : env 75 = some ⟨.func, 1, 8, .nilFunc, false, false, false⟩ := by kernel_rfl
theorem env_77 : env 77 = some ⟨.func, 1, 8, .nilFunc, false, false, false⟩ := by kernel_rfl
theorem env_78 : env 78 = some ⟨(.struct [(0, 9), (1, 9)]), 2, 32, .agg [.str [], .str []], false, false, false⟩ := by kernel_rfl
theorem env_79 : env 79 = some ⟨(.struct [(0, 9), (1, 9)]), 2, 32, .agg [.str [], .str []], false, false, false⟩ := by kernel_rfl
theorem env_80 : env 80 = some ⟨.func, 1, 8, .nilFunc, false, false, false⟩ := by kernel_rfl
theorem env_81 : env 81 = some ⟨.func, 1, 8, .nilFunc, false, false, false⟩ := by kernel_rfl
theorem env_82 : env 82 = some ⟨.func, 1, 8, .nilFunc, false, false, false⟩ := by kernel_rfl
theorem env_83 : env 83 = some ⟨.func, 1, 8, .nilFunc, false, false, false⟩ := by kernel_rfl
theorem env_84 : env 84 = some ⟨.func, 1, 8, .nilFunc, false, false, false⟩ := by kernel_rfl
theorem env_85 : env 85 = some ⟨.func, 1, 8, .nilFunc, false, false, false⟩ := by kernel_rfl
theorem env_86 : env 86 = some ⟨(.slice 27), 1, 24, .slice [] .nil, false, false, false⟩ := by kernel_rfl
theorem env_87 : env 87 = some ⟨.func, 1, 8, .nilFunc, false, false, false⟩ := by kernel_rfl
theorem env_88 : env 88 = some ⟨.func, 1, 8, .nilFunc, false, false, false⟩ := by kernel_rfl
theorem env_89 : env 89 = some ⟨.func, 1, 8, .nilFunc, false, false, false⟩ := by kernel_rfl
theorem env_90 : env 90 = some ⟨.func, 1, 8, .nilFunc, false, false, false⟩ := by kernel_rfl
theorem env_91 : env 91 = some ⟨(.struct [(0, 3), (1, 9), (2, 9), (3, 4)]), 4, 48, .agg [.int .i64 (0), .str [], .str [], .bool false], false, false, false⟩ := by kernel_rfl
theorem env_92 : env 92 = some ⟨(.struct [(0, 3), (1, 9), (2, 9), (3, 4)]), 4, 48, .agg [.int .i64 (0), .str [], .str [], .bool false], false, false, false⟩ := by kernel_rfl
theorem env_93 : env 93 = some ⟨.func, 1, 8, .nilFunc, false, false, false⟩ := by kernel_rfl
theorem env_94 : env 94 = some ⟨.func, 1, 8, .nilFunc, false, false, false⟩ := by kernel_rfl
theorem env_95 : env 95 = some ⟨.func, 1, 8, .nilFunc, false, false, false⟩ := by kernel_rfl
theorem env_96 : env 96 = some ⟨(.ptr 98), 1, 8, .nilptr, false, false, false⟩ := by kernel_rfl
theorem env_97 : env 97 = some ⟨(.struct [(0, 9), (1, 64)]), 2, 40, .agg [.str [], .slice [] .nil], false, false, false⟩ := by kernel_rfl
theorem env_98 : env 98 = some ⟨(.struct [(0, 9), (1, 64)]), 2, 40, .agg [.str [], .slice [] .nil], false, false, false⟩ := by kernel_rfl
theorem env_99 : env 99 = some ⟨.func, 1, 8, .nilFunc, false, false, false⟩ := by kernel_rfl
theorem env_100 : env 100 = some ⟨(.struct [(0, 3), (1, 9)]), 2, 24, .agg [.int .i64 (0), .str []], false, false, false⟩ := by kernel_rfl
theorem env_101 : env 101 = some ⟨(.struct [(0, 3), (1, 9)]), 2, 24, .agg [.int .i64 (0), .str []], false, false, false⟩ := by kernel_rfl
theorem env_102 : env 102 = some ⟨.func, 1, 8, .nilFunc, false, false, false⟩ := by kernel_rfl
theorem env_103 : env 103 = some ⟨.func, 1, 8, .nilFunc, false, false, false⟩ := by kernel_rfl
theorem env_104 : env 104 = some ⟨.func, 1, 8, .nilFunc, false, false, false⟩ := by kernel_rfl
theorem env_106 : env 106 = some ⟨.func, 1, 8, .nilFunc, false, false, false⟩ := by kernel_rfl
theorem env_107 : env 107 = some ⟨.func, 1, 8, .nilFunc, false, false, false⟩ := by kernel_rfl
theorem env_108 : env 108 = some ⟨(.struct [(0, 9), (1, 4)]), 2, 24, .agg [.str [], .bool false], false, false, false⟩ := by kernel_rfl
theorem env_109 : env 109 = some ⟨(.struct [(0, 9), (1, 4)]), 2, 24, .agg [.str [], .bool false], false, false, false⟩ := by kernel_rfl
theorem env_111 : env 111 = some ⟨.func, 1, 8, .nilFunc, false, false, false⟩ := by kernel_rfl
theorem env_112 : env 112 = some ⟨.iface, 1, 16, .nilIface, false, false, false⟩ := by kernel_rfl
theorem env_113 : env 113 = some ⟨.iface, 1, 16, .nilIface, false, false, false⟩ := by kernel_rfl
theorem env_115 : env 115 = some ⟨.func, 1, 8, .nilFunc, false, false, false⟩ := by kernel_rfl
theorem env_116 : env 116 = some ⟨(.ptr 118), 1, 8, .nilptr, false, false, false⟩ := by kernel_rfl
theorem env_117 : env 117 = some ⟨(.struct [(0, 36), (11, 4), (12, 31)]), 13, 216, .agg [.int .i64 (0), .slice [] .nil, .slice [] .nil, .int .i64 (0), .int .i64 (0), .str [], .str [], .str [], .slice [] .nil, .str [], .slice [] .nil, .bool false, .slice [] .nil], false, false, false⟩ := by kernel_rfl
theorem env_118 : env 118 = some ⟨(.struct [(0, 36), (11, 4), (12, 31)]), 13, 216, .agg [.int .i64 (0), .slice [] .nil, .slice [] .nil, .int .i64 (0), .int .i64 (0), .str [], .str [], .str [], .slice [] .nil, .str [], .slice [] .nil, .bool false, .slice [] .nil], false, false, false⟩ := by kernel_rfl
theorem env_119 : env 119 = some ⟨.func, 1, 8, .nilFunc, false, false, false⟩ := by kernel_rfl
theorem env_120 : env 120 = some ⟨.func, 1, 8, .nilFunc, false, false, false⟩ := by kernel_rfl
theorem env_121 : env 121 = some ⟨.func, 1, 8, .nilFunc, false, false, false⟩ := by kernel_rfl
theorem env_122 : env 122 = some ⟨.func, 1, 8, .nilFunc, false, false, false⟩ := by kernel_rfl
theorem env_123 : env 123 = some ⟨(.slice 125), 1, 24, .slice [] .nil, false, false, false⟩ := by kernel_rfl
theorem env_124 : env 124 = some ⟨(.struct [(0, 3), (1, 9), (2, 123)]), 3, 48, .agg [.int .i64 (0), .str [], .slice [] .nil], false, false, false⟩ := by kernel_rfl
theorem env_125 : env 125 = some ⟨(.struct [(0, 3), (1, 9), (2, 123)]), 3, 48, .agg [.int .i64 (0), .str [], .slice [] .nil], false, false, false⟩ := by kernel_rfl
theorem env_126 : env 126 = some ⟨(.struct [(0, 30), (4, 30), (8, 30), (12, 125)]), 15, 216, .agg [.int .i64 (0), .str [], .str [], .str [], .int .i64 (0), .str [], .str [], .str [], .int .i64 (0), .str [], .str [], .str [], .int .i64 (0), .str [], .slice [] .nil], false, false, false⟩ := by kernel_rfl
theorem env_127 : env 127 = some ⟨(.struct [(0, 30), (4, 30), (8, 30), (12, 125)]), 15, 216, .agg [.int .i64 (0), .str [], .str [], .str [], .int .i64 (0), .str [], .str [], .str [], .int .i64 (0), .str [], .str [], .str [], .int .i64 (0), .str [], .slice [] .nil], false, false, false⟩ := by kernel_rfl
theorem env_128 : env 128 = some ⟨.func, 1, 8, .nilFunc, false, false, false⟩ := by kernel_rfl
theorem env_129 : env 129 = some ⟨.func, 1, 8, .nilFunc, false, false, false⟩ := by kernel_rfl
theorem env_130 : env 130 = some ⟨(.int .u64), 1, 8, .int .u64 (0), false, false, true⟩ := by kernel_rfl
theorem env_131 : env 131 = some ⟨.func, 1, 8, .nilFunc, false, false, false⟩ := by kernel_rfl
theorem env_132 : env 132 = some ⟨.func, 1, 8, .nilFunc, false, false, false⟩ := by kernel_rfl
theorem env_133 : env 133 = some ⟨.func, 1, 8, .nilFunc, false, false, false⟩ := by kernel_rfl
theorem env_134 : env 134 = some ⟨.func, 1, 8, .nilFunc, false, false, false⟩ := by kernel_rfl
theorem env_135 : env 135 = some ⟨.func, 1, 8, .nilFunc, false, false, false⟩ := by kernel_rfl
theorem env_136 : env 136 = some ⟨.func, 1, 8, .nilFunc, false, false, false⟩ := by kernel_rfl
theorem env_137 : env 137 = some ⟨.func, 1, 8, .nilFunc, false, false, false⟩ := by kernel_rfl
theorem env_138 : env 138 = some ⟨.func, 1, 8, .nilFunc, false, false, false⟩ := by kernel_rfl
theorem env_139 : env 139 = some ⟨.func, 1, 8, .nilFunc, false, false, false⟩ := by kernel_rfl
theorem env_140 : env 140 = some ⟨.func, 1, 8, .nilFunc, false, false, false⟩ := by kernel_rfl
theorem env_142 : env 142 = some ⟨.func, 1, 8, .nilFunc, false, false, false⟩ := by kernel_rfl
theorem env_143 : env 143 = some ⟨.func, 1, 8, .nilFunc, false, false, false⟩ := by kernel_rfl
theorem env_144 : env 144 = some ⟨.func, 1, 8, .nilFunc, false, false, false⟩ := by kernel_rfl
theorem env_145 : env 145 = some ⟨.func, 1, 8, .nilFunc, false, false, false⟩ := by kernel_rfl
theorem env_146 : env 146 = some ⟨.func, 1, 8, .nilFunc, false, false, false⟩ := by kernel_rfl
theorem env_147 : env 147 = some ⟨.func, 1, 8, .nilFunc, false, false, false⟩ := by kernel_rfl
theorem env_149 : env 149 = some ⟨.func, 1, 8, .nilFunc, false, false, false⟩ := by kernel_rfl
theorem env_150 : env 150 = some ⟨.func, 1, 8, .nilFunc, false, false, false⟩ := by kernel_rfl
theorem env_151 : env 151 = some ⟨(.int .i64), 1, 8, .int .i64 (0), false, false, true⟩ := by kernel_rfl
theorem env_153 : env 153 = some ⟨.func, 1, 8, .nilFunc, false, false, false⟩ := by kernel_rfl
theorem env_154 : env 154 = some ⟨.func, 1, 8, .nilFunc, false, false, false⟩ := by kernel_rfl
theorem env_155 : env 155 = some ⟨.func, 1, 8, .nilFunc, false, false, false⟩ := by kernel_rfl
theorem env_157 : env 157 = some ⟨.func, 1, 8, .nilFunc, false, false, false⟩ := by kernel_rfl
theorem env_158 : env 158 = some ⟨.func, 1, 8, .nilFunc, false, false, false⟩ := by kernel_rfl
theorem env_159 : env 159 = some ⟨(.int .u32), 1, 4, .int .u32 (0), false, false, true⟩ := by kernel_rfl
theorem env_160 : env 160 = some ⟨.func, 1, 8, .nilFunc, false, false, false⟩ := by kernel_rfl
theorem env_161 : env 161 = some ⟨(.int .u64), 1, 8, .int .u64 (0), false, false, true⟩ := by kernel_rfl
theorem env_162 : env 162 = some ⟨.func, 1, 8, .nilFunc, false, false, false⟩ := by kernel_rfl
theorem env_163 : env 163 = some ⟨(.arr 256 4), 256, 256, .agg [.bool false, .bool false, .bool false, .bool false, .bool false, .bool false, .bool false, .bool false, .bool false, .bool false, .bool false, .bool false, .bool false, .bool false, .bool false, .bool false, .bool false, .bool false, .bool false, .bool false, .bool false, .bool false, .bool false, .bool false, .bool false, .bool false, .bool false, .bool false, .bool false, .bool false, .bool false, .bool false, .bool false, .bool false, .bool false, .bool false, .bool false, .bool false, .bool false, .bool false, .bool false, .bool false, .bool false, .bool false, .bool false, .bool false, .bool false, .bool false, .bool false, .bool false, .bool false, .bool false, .bool false, .bool false, .bool false, .bool false, .bool false, .bool false, .bool false, .bool false, .bool false, .bool false, .bool false, .bool false, .bool false, .bool false, .bool false, .bool false, .bool false, .bool false, .bool false, .bool false, .bool false, .bool false, .bool false, .bool false, .bool false, .bool false, .bool false, .bool false, .bool false, .bool false, .bool false, .bool false, .bool false, .bool false, .bool false, .bool false, .bool false, .bool false, .bool false, .bool false, .bool false, .bool false, .bool false, .bool false, .bool false, .bool false, .bool false, .bool false, .bool false, .bool false, .bool false, .bool false, .bool false, .bool false, .bool false, .bool false, .bool false, .bool false, .bool false, .bool false, .bool false, .bool false, .bool false, .bool false, .bool false, .bool false, .bool false, .bool false, .bool false, .bool false, .bool false, .bool false, .bool false, .bool false, .bool false, .bool false, .bool false, .bool false, .bool false, .bool false, .bool false, .bool false, .bool false, .bool false, .bool false, .bool false, .bool false, .bool false, .bool false, .bool false, .bool false, .bool false, .bool false, .bool false, .bool false, .bool false, .bool false, .bool false, .bool false, .bool false, .bool false, .bool false, .bool false, .bool false, .bool false, .bool false, .bool false, .bool false, .bool false, .bool false, .bool false, .bool false, .bool false, .bool false, .bool false, .bool false, .bool false, .bool false, .bool false, .bool false, .bool false, .bool false, .bool false, .bool false, .bool false, .bool false, .bool false, .bool false, .bool false, .bool false, .bool false, .bool false, .bool false, .bool false, .bool false, .bool false, .bool false, .bool false, .bool false, .bool false, .bool false, .bool false, .bool false, .bool false, .bool false, .bool false, .bool false, .bool false, .bool false, .bool false, .bool false, .bool false, .bool false, .bool false, .bool false, .bool false, .bool false, .bool false, .bool false, .bool false, .bool false, .bool false, .bool false, .bool false, .bool false, .bool false, .bool false, .bool false, .bool false, .bool false, .bool false, .bool false, .bool false, .bool false, .bool false, .bool false, .bool false, .bool false, .bool false, .bool false, .bool false, .bool false, .bool false, .bool false, .bool false, .bool false, .bool false, .bool false, .bool false, .bool false, .bool false, .bool false, .bool false, .bool false, .bool false, .bool false, .bool false, .bool false, .bool false, .bool false, .bool false, .bool false, .bool false, .bool false], false, false, false⟩ := by kernel_rfl
theorem env_164 : env 164 = some ⟨(.arr 256 4), 256, 256, .agg [.bool false, .bool false, .bool false, .bool false, .bool false, .bool false, .bool false, .bool false, .bool false, .bool false, .bool false, .bool false, .bool false, .bool false, .bool false, .bool false, .bool false, .bool false, .bool false, .bool false, .bool false, .bool false, .bool false, .bool false, .bool false, .bool false, .bool false, .bool false, .bool false, .bool false, .bool false, .bool false, .bool false, .bool false, .bool false, .bool false, .bool false, .bool false, .bool false, .bool false, .bool false, .bool false, .bool false, .bool false, .bool false, .bool false, .bool false, .bool false, .bool false, .bool false, .bool false, .bool false, .bool false, .bool false, .bool false, .bool false, .bool false, .bool false, .bool false, .bool false, .bool false, .bool false, .bool false, .bool false, .bool false, .bool false, .bool false, .bool false, .bool false, .bool false, .bool false, .bool false, .bool false, .bool false, .bool false, .bool false, .bool false, .bool false, .bool false, .bool false, .bool false, .bool false, .bool false, .bool false, .bool false, .bool false, .bool false, .bool false, .bool false, .bool false, .bool false, .bool false, .bool false, .bool false, .bool false, .bool false, .bool false, .bool false, .bool false, .bool false, .bool false, .bool false, .bool false, .bool false, .bool false, .bool false, .bool false, .bool false, .bool false, .bool false, .bool false, .bool false, .bool false, .bool false, .bool false, .bool false, .bool false, .bool false, .bool false, .bool false, .bool false, .bool false, .bool false, .bool false, .bool false, .bool false, .bool false, .bool false, .bool false, .bool false, .bool false, .bool false, .bool false, .bool false, .bool false, .bool false, .bool false, .bool false, .bool false, .bool false, .bool false, .bool false, .bool false, .bool false, .bool false, .bool false, .bool false, .bool false, .bool false, .bool false, .bool false, .bool false, .bool false, .bool false, .bool false, .bool false, .bool false, .bool false, .bool false, .bool false, .bool false, .bool false, .bool false, .bool false, .bool false, .bool false, .bool false, .bool false, .bool false, .bool false, .bool false, .bool false, .bool false, .bool false, .bool false, .bool false, .bool false, .bool false, .bool false, .bool false, .bool false, .bool false, .bool false, .bool false, .bool false, .bool false, .bool false, .bool false, .bool false, .bool false, .bool false, .bool false, .bool false, .bool false, .bool false, .bool false, .bool false, .bool false, .bool false, .bool false, .bool false, .bool false, .bool false, .bool false, .bool false, .bool false, .bool false, .bool false, .bool false, .bool false, .bool false, .bool false, .bool false, .bool false, .bool false, .bool false, .bool false, .bool false, .bool false, .bool false, .bool false, .bool false, .bool false, .bool false, .bool false, .bool false, .bool false, .bool false, .bool false, .bool false, .bool false, .bool false, .bool false, .bool false, .bool false, .bool false, .bool false, .bool false, .bool false, .bool false, .bool false, .bool false, .bool false, .bool false, .bool false, .bool false, .bool false, .bool false, .bool false, .bool false, .bool false, .bool false, .bool false, .bool false, .bool false, .bool false], false, false, false⟩ := by kernel_rfl
theorem env_166 : env 166 = some ⟨.func, 1, 8, .nilFunc, false, false, false⟩ := by kernel_rfl
theorem env_167 : env 167 = some ⟨.func, 1, 8, .nilFunc, false, false, false⟩ := by kernel_rfl
theorem env_168 : env 168 = some ⟨(.ptr 164), 1, 8, .nilptr, false, false, false⟩ := by kernel_rfl
theorem env_169 : env 169 = some ⟨.func, 1, 8, .nilFunc, false, false, false⟩ := by kernel_rfl
theorem env_170 : env 170 = some ⟨(.int .u16), 1, 2, .int .u16 (0), false, false, true⟩ := by kernel_rfl
theorem env_171 : env 171 = some ⟨(.arr 128 170), 128, 256, .agg [.int .u16 (0), .int .u16 (0), .int .u16 (0), .int .u16 (0), .int .u16 (0), .int .u16 (0), .int .u16 (0), .int .u16 (0), .int .u16 (0), .int .u16 (0), .int .u16 (0), .int .u16 (0), .int .u16 (0), .int .u16 (0), .int .u16 (0), .int .u16 (0), .int .u16 (0), .int .u16 (0), .int .u16 (0), .int .u16 (0), .int .u16 (0), .int .u16 (0), .int .u16 (0), .int .u16 (0), .int .u16 (0), .int .u16 (0), .int .u16 (0), .int .u16 (0), .int .u16 (0), .int .u16 (0), .int .u16 (0), .int .u16 (0), .int .u16 (0), .int .u16 (0), .int .u16 (0), .int .u16 (0), .int .u16 (0), .int .u16 (0), .int .u16 (0), .int .u16 (0), .int .u16 (0), .int .u16 (0), .int .u16 (0), .int .u16 (0), .int .u16 (0), .int .u16 (0), .int .u16 (0), .int .u16 (0), .int .u16 (0), .int .u16 (0), .int .u16 (0), .int .u16 (0), .int .u16 (0), .int .u16 (0), .int .u16 (0), .int .u16 (0), .int .u16 (0), .int .u16 (0), .int .u16 (0), .int .u16 (0), .int .u16 (0), .int .u16 (0), .int .u16 (0), .int .u16 (0), .int .u16 (0), .int .u16 (0), .int .u16 (0), .int .u16 (0), .int .u16 (0), .int .u16 (0), .int .u16 (0), .int .u16 (0), .int .u16 (0), .int .u16 (0), .int .u16 (0), .int .u16 (0), .int .u16 (0), .int .u16 (0), .int .u16 (0), .int .u16 (0), .int .u16 (0), .int .u16 (0), .int .u16 (0), .int .u16 (0), .int .u16 (0), .int .u16 (0), .int .u16 (0), .int .u16 (0), .int .u16 (0), .int .u16 (0), .int .u16 (0), .int .u16 (0), .int .u16 (0), .int .u16 (0), .int .u16 (0), .int .u16 (0), .int .u16 (0), .int .u16 (0), .int .u16 (0), .int .u16 (0), .int .u16 (0), .int .u16 (0), .int .u16 (0), .int .u16 (0), .int .u16 (0), .int .u16 (0), .int .u16 (0), .int .u16 (0), .int .u16 (0), .int .u16 (0), .int .u16 (0), .int .u16 (0), .int .u16 (0), .int .u16 (0), .int .u16 (0), .int .u16 (0), .int .u16 (0), .int .u16 (0), .int .u16 (0), .int .u16 (0), .int .u16 (0), .int .u16 (0), .int .u16 (0), .int .u16 (0), .int .u16 (0), .int .u16 (0), .int .u16 (0), .int .u16 (0)], false, false, false⟩ := by kernel_rfl
theorem env_172 : env 172 = some ⟨(.slice 174), 1, 24, .slice [] .nil, false, false, false⟩ := by kernel_rfl
theorem env_173 : env 173 = some ⟨(.struct [(0, 170), (1, 170)]), 2, 4, .agg [.int .u16 (0), .int .u16 (0)], false, false, false⟩ := by kernel_rfl
theorem env_174 : env 174 = some ⟨(.struct [(0, 170), (1, 170)]), 2, 4, .agg [.int .u16 (0), .int .u16 (0)], false, false, false⟩ := by kernel_rfl
theorem env_175 : env 175 = some ⟨(.ptr 208), 1, 8, .nilptr, false, false, false⟩ := by kernel_rfl
theorem env_176 : env 176 = some ⟨.func, 1, 8, .nilFunc, false, false, false⟩ := by kernel_rfl
theorem env_177 : env 177 = some ⟨(.slice 208), 1, 24, .slice [] .nil, false, false, false⟩ := by kernel_rfl
theorem env_178 : env 178 = some ⟨.func, 1, 8, .nilFunc, false, false, false⟩ := by kernel_rfl
theorem env_179 : env 179 = some ⟨(.int .i64), 1, 8, .int .i64 (0), false, false, true⟩ := by kernel_rfl
theorem env_181 : env 181 = some ⟨.func, 1, 8, .nilFunc, false, false, false⟩ := by kernel_rfl
theorem env_182 : env 182 = some ⟨(.ptr 213), 1, 8, .nilptr, false, false, false⟩ := by kernel_rfl
theorem env_183 : env 183 = some ⟨.func, 1, 8, .nilFunc, false, false, false⟩ := by kernel_rfl
theorem env_184 : env 184 = some ⟨.func, 1, 8, .nilFunc, false, false, false⟩ := by kernel_rfl
theorem env_185 : env 185 = some ⟨.func, 1, 8, .nilFunc, false, false, false⟩ := by kernel_rfl
theorem env_186 : env 186 = some ⟨(.struct [(0, 9), (1, 3)]), 2, 24, .agg [.str [], .int .i64 (0)], false, false, false⟩ := by kernel_rfl
theorem env_187 : env 187 = some ⟨(.struct [(0, 9), (1, 3)]), 2, 24, .agg [.str [], .int .i64 (0)], false, false, false⟩ := by kernel_rfl
theorem env_188 : env 188 = some ⟨.func, 1, 8, .nilFunc, false, false, false⟩ := by kernel_rfl
theorem env_189 : env 189 = some ⟨.func, 1, 8, .nilFunc, false, false, false⟩ := by kernel_rfl
theorem env_190 : env 190 = some ⟨.func, 1, 8, .nilFunc, false, false, false⟩ := by kernel_rfl
theorem env_191 : env 191 = some ⟨(.int .u64), 1, 8, .int .u64 (0), false, false, true⟩ := by kernel_rfl
theorem env_192 : env 192 = some ⟨.func, 1, 8, .nilFunc, false, false, false⟩ := by kernel_rfl
theorem env_193 : env 193 = some ⟨.func, 1, 8, .nilFunc, false, false, false⟩ := by kernel_rfl
theorem env_194 : env 194 = some ⟨.func, 1, 8, .nilFunc, false, false, false⟩ := by kernel_rfl
theorem env_195 : env 195 = some ⟨(.ptr 3), 1, 8, .nilptr, false, false, false⟩ := by kernel_rfl
theorem env_196 : env 196 = some ⟨.func, 1, 8, .nilFunc, false, false, false⟩ := by kernel_rfl
theorem env_197 : env 197 = some ⟨.func, 1, 8, .nilFunc, false, false, false⟩ := by kernel_rfl
theorem env_198 : env 198 = some ⟨.func, 1, 8, .nilFunc, false, false, false⟩ := by kernel_rfl
theorem env_200 : env 200 = some ⟨.func, 1, 8, .nilFunc, false, false, false⟩ := by kernel_rfl
theorem env_201 : env 201 = some ⟨(.arr 256 5), 256, 256, .agg [.int .u8 (0), .int .u8 (0), .int .u8 (0), .int .u8 (0), .int .u8 (0), .int .u8 (0), .int .u8 (0), .int .u8 (0), .int .u8 (0), .int .u8 (0), .int .u8 (0), .int .u8 (0), .int .u8 (0), .int .u8 (0), .int .u8 (0), .int .u8 (0), .int .u8 (0), .int .u8 (0), .int .u8 (0), .int .u8 (0), .int .u8 (0), .int .u8 (0), .int .u8 (0), .int .u8 (0), .int .u8 (0), .int .u8 (0), .int .u8 (0), .int .u8 (0), .int .u8 (0), .int .u8 (0), .int .u8 (0), .int .u8 (0), .int .u8 (0), .int .u8 (0), .int .u8 (0), .int .u8 (0), .int .u8 (0), .int .u8 (0), .int .u8 (0), .int .u8 (0), .int .u8 (0), .int .u8 (0), .int .u8 (0), .int .u8 (0), .int .u8 (0), .int .u8 (0), .int .u8 (0), .int .u8 (0), .int .u8 (0), .int .u8 (0), .int .u8 (0), .int .u8 (0), .int .u8 (0), .int .u8 (0), .int .u8 (0), .int .u8 (0), .int .u8 (0), .int .u8 (0), .int .u8 (0), .int .u8 (0), .int .u8 (0), .int .u8 (0), .int .u8 (0), .int .u8 (0), .int .u8 (0), .int .u8 (0), .int .u8 (0), .int .u8 (0), .int .u8 (0), .int .u8 (0), .int .u8 (0), .int .u8 (0), .int .u8 (0), .int .u8 (0), .int .u8 (0), .int .u8 (0), .int .u8 (0), .int .u8 (0), .int .u8 (0), .int .u8 (0), .int .u8 (0), .int .u8 (0), .int .u8 (0), .int .u8 (0), .int .u8 (0), .int .u8 (0), .int .u8 (0), .int .u8 (0), .int .u8 (0), .int .u8 (0), .int .u8 (0), .int .u8 (0), .int .u8 (0), .int .u8 (0), .int .u8 (0), .int .u8 (0), .int .u8 (0), .int .u8 (0), .int .u8 (0), .int .u8 (0), .int .u8 (0), .int .u8 (0), .int .u8 (0), .int .u8 (0), .int .u8 (0), .int .u8 (0), .int .u8 (0), .int .u8 (0), .int .u8 (0), .int .u8 (0), .int .u8 (0), .int .u8 (0), .int .u8 (0), .int .u8 (0), .int .u8 (0), .int .u8 (0), .int .u8 (0), .int .u8 (0), .int .u8 (0), .int .u8 (0), .int .u8 (0), .int .u8 (0), .int .u8 (0), .int .u8 (0), .int .u8 (0), .int .u8 (0), .int .u8 (0), .int .u8 (0), .int .u8 (0), .int .u8 (0), .int .u8 (0), .int .u8 (0), .int .u8 (0), .int .u8 (0), .int .u8 (0), .int .u8 (0), .int .u8 (0), .int .u8 (0), .int .u8 (0), .int .u8 (0), .int .u8 (0), .int .u8 (0), .int .u8 (0), .int .u8 (0), .int .u8 (0), .int .u8 (0), .int .u8 (0), .int .u8 (0), .int .u8 (0), .int .u8 (0), .int .u8 (0), .int .u8 (0), .int .u8 (0), .int .u8 (0), .int .u8 (0), .int .u8 (0), .int .u8 (0), .int .u8 (0), .int .u8 (0), .int .u8 (0), .int .u8 (0), .int .u8 (0), .int .u8 (0), .int .u8 (0), .int .u8 (0), .int .u8 (0), .int .u8 (0), .int .u8 (0), .int .u8 (0), .int .u8 (0), .int .u8 (0), .int .u8 (0), .int .u8 (0), .int .u8 (0), .int .u8 (0), .int .u8 (0), .int .u8 (0), .int .u8 (0), .int .u8 (0), .int .u8 (0), .int .u8 (0), .int .u8 (0), .int .u8 (0), .int .u8 (0), .int .u8 (0), .int .u8 (0), .int .u8 (0), .int .u8 (0), .int .u8 (0), .int .u8 (0), .int .u8 (0), .int .u8 (0), .int .u8 (0), .int .u8 (0), .int .u8 (0), .int .u8 (0), .int .u8 (0), .int .u8 (0), .int .u8 (0), .int .u8 (0), .int .u8 (0), .int .u8 (0), .int .u8 (0), .int .u8 (0), .int .u8 (0), .int .u8 (0), .int .u8 (0), .int .u8 (0), .int .u8 (0), .int .u8 (0), .int .u8 (0), .int .u8 (0), .int .u8 (0), .int .u8 (0), .int .u8 (0), .int .u8 (0), .int .u8 (0), .int .u8 (0), .int .u8 (0), .int .u8 (0), .int .u8 (0), .int .u8 (0), .int .u8 (0), .int .u8 (0), .int .u8 (0), .int .u8 (0), .int .u8 (0), .int .u8 (0), .int .u8 (0), .int .u8 (0), .int .u8 (0), .int .u8 (0), .int .u8 (0), .int .u8 (0), .int .u8 (0), .int .u8 (0), .int .u8 (0), .int .u8 (0), .int .u8 (0), .int .u8 (0), .int .u8 (0), .int .u8 (0), .int .u8 (0), .int .u8 (0), .int .u8 (0), .int .u8 (0), .int .u8 (0), .int .u8 (0), .int .u8 (0), .int .u8 (0), .int .u8 (0), .int .u8 (0), .int .u8 (0), .int .u8 (0), .int .u8 (0), .int .u8 (0)], false, false, false⟩ := by kernel_rfl
theorem env_202 : env 202 = some ⟨(.struct [(0, 5), (1, 5)]), 2, 2, .agg [.int .u8 (0), .int .u8 (0)], false, false, false⟩ := by kernel_rfl
theorem env_203 : env 203 = some ⟨(.struct [(0, 5), (1, 5)]), 2, 2, .agg [.int .u8 (0), .int .u8 (0)], false, false, false⟩ := by kernel_rfl
theorem env_204 : env 204 = some ⟨(.arr 16 203), 32, 32, .agg [.int .u8 (0), .int .u8 (0), .int .u8 (0), .int .u8 (0), .int .u8 (0), .int .u8 (0), .int .u8 (0), .int .u8 (0), .int .u8 (0), .int .u8 (0), .int .u8 (0), .int .u8 (0), .int .u8 (0), .int .u8 (0), .int .u8 (0), .int .u8 (0), .int .u8 (0), .int .u8 (0), .int .u8 (0), .int .u8 (0), .int .u8 (0), .int .u8 (0), .int .u8 (0), .int .u8 (0), .int .u8 (0), .int .u8 (0), .int .u8 (0), .int .u8 (0), .int .u8 (0), .int .u8 (0), .int .u8 (0), .int .u8 (0)], false, false, false⟩ := by kernel_rfl
theorem env_205 : env 205 = some ⟨(.arr 3 21), 3, 12, .agg [.int .i32 (0), .int .i32 (0), .int .i32 (0)], false, false, false⟩ := by kernel_rfl
theorem env_206 : env 206 = some ⟨(.arr 3 21), 3, 12, .agg [.int .i32 (0), .int .i32 (0), .int .i32 (0)], false, false, false⟩ := by kernel_rfl
theorem env_207 : env 207 = some ⟨(.struct [(0, 159), (1, 159), (2, 206)]), 5, 20, .agg [.int .u32 (0), .int .u32 (0), .int .i32 (0), .int .i32 (0), .int .i32 (0)], false, false, false⟩ := by kernel_rfl
theorem env_208 : env 208 = some ⟨(.struct [(0, 159), (1, 159), (2, 206)]), 5, 20, .agg [.int .u32 (0), .int .u32 (0), .int .i32 (0), .int .i32 (0), .int .i32 (0)], false, false, false⟩ := by kernel_rfl
theorem env_210 : env 210 = some ⟨.func, 1, 8, .nilFunc, false, false, false⟩ := by kernel_rfl
theorem env_211 : env 211 = some ⟨.func, 1, 8, .nilFunc, false, false, false⟩ := by kernel_rfl
theorem env_212 : env 212 = some ⟨(.struct [(0, 9), (1, 9), (2, 113)]), 3, 48, .agg [.str [], .str [], .nilIface], false, false, false⟩ := by kernel_rfl
theorem env_213 : env 213 = some ⟨(.struct [(0, 9), (1, 9), (2, 113)]), 3, 48, .agg [.str [], .str [], .nilIface], false, false, false⟩ := by kernel_rfl
theorem env_214 : env 214 = some ⟨.func, 1, 8, .nilFunc, false, false, false⟩ := by kernel_rfl
theorem env_215 : env 215 = some ⟨(.slice 187), 1, 24, .slice [] .nil, false, false, false⟩ := by kernel_rfl
theorem env_216 : env 216 = some ⟨.func, 1, 8, .nilFunc, false, false, false⟩ := by kernel_rfl
theorem env_217 : env 217 = some ⟨.func, 1, 8, .nilFunc, false, false, false⟩ := by kernel_rfl
theorem env_218 : env 218 = some ⟨.func, 1, 8, .nilFunc, false, false, false⟩ := by kernel_rfl
theorem env_219 : env 219 = some ⟨(.ptr 191), 1, 8, .nilptr, false, false, false⟩ := by kernel_rfl
theorem env_221 : env 221 = some ⟨.func, 1, 8, .nilFunc, false, false, false⟩ := by kernel_rfl
theorem env_222 : env 222 = some ⟨.func, 1, 8, .nilFunc, false, false, false⟩ := by kernel_rfl
theorem env_223 : env 223 = some ⟨.func, 1, 8, .nilFunc, false, false, false⟩ := by kernel_rfl
theorem env_224 : env 224 = some ⟨(.ptr 5), 1, 8, .nilptr, false, false, false⟩ := by kernel_rfl
theorem env_225 : env 225 = some ⟨(.ptr 227), 1, 8, .nilptr, false, false, false⟩ := by kernel_rfl
theorem env_226 : env 226 = some ⟨(.struct [(0, 9)]), 1, 16, .agg [.str []], false, false, false⟩ := by kernel_rfl
theorem env_227 : env 227 = some ⟨(.struct [(0, 9)]), 1, 16, .agg [.str []], false, false, false⟩ := by kernel_rfl
theorem env_228 : env 228 = some ⟨.func, 1, 8, .nilFunc, false, false, false⟩ := by kernel_rfl
theorem env_229 : env 229 = some ⟨.func, 1, 8, .nilFunc, false, false, false⟩ := by kernel_rfl
theorem env_230 : env 230 = some ⟨.func, 1, 8, .nilFunc, false, false, false⟩ := by kernel_rfl
theorem env_231 : env 231 = some ⟨.func, 1, 8, .nilFunc, false, false, false⟩ := by kernel_rfl
theorem env_232 : env 232 = some ⟨.func, 1, 8, .nilFunc, false, false, false⟩ := by kernel_rfl
theorem env_233 : env 233 = some ⟨(.arr 24 5), 24, 24, .agg [.int .u8 (0), .int .u8 (0), .int .u8 (0), .int .u8 (0), .int .u8 (0), .int .u8 (0), .int .u8 (0), .int .u8 (0), .int .u8 (0), .int .u8 (0), .int .u8 (0), .int .u8 (0), .int .u8 (0), .int .u8 (0), .int .u8 (0), .int .u8 (0), .int .u8 (0), .int .u8 (0), .int .u8 (0), .int .u8 (0), .int .u8 (0), .int .u8 (0), .int .u8 (0), .int .u8 (0)], false, false, false⟩ := by kernel_rfl
theorem env_234 : env 234 = some ⟨.func, 1, 8, .nilFunc, false, false, false⟩ := by kernel_rfl
theorem env_236 : env 236 = some ⟨.func, 1, 8, .nilFunc, false, false, false⟩ := by kernel_rfl
theorem env_237 : env 237 = some ⟨.func, 1, 8, .nilFunc, false, false, false⟩ := by kernel_rfl
theorem env_238 : env 238 = some ⟨(.arr 20 161), 20, 160, .agg [.int .u64 (0), .int .u64 (0), .int .u64 (0), .int .u64 (0), .int .u64 (0), .int .u64 (0), .int .u64 (0), .int .u64 (0), .int .u64 (0), .int .u64 (0), .int .u64 (0), .int .u64 (0), .int .u64 (0), .int .u64 (0), .int .u64 (0), .int .u64 (0), .int .u64 (0), .int .u64 (0), .int .u64 (0), .int .u64 (0)], false, false, false⟩ := by kernel_rfl
theorem env_239 : env 239 = some ⟨(.arr 65 5), 65, 65, .agg [.int .u8 (0), .int .u8 (0), .int .u8 (0), .int .u8 (0), .int .u8 (0), .int .u8 (0), .int .u8 (0), .int .u8 (0), .int .u8 (0), .int .u8 (0), .int .u8 (0), .int .u8 (0), .int .u8 (0), .int .u8 (0), .int .u8 (0), .int .u8 (0), .int .u8 (0), .int .u8 (0), .int .u8 (0), .int .u8 (0), .int .u8 (0), .int .u8 (0), .int .u8 (0), .int .u8 (0), .int .u8 (0), .int .u8 (0), .int .u8 (0), .int .u8 (0), .int .u8 (0), .int .u8 (0), .int .u8 (0), .int .u8 (0), .int .u8 (0), .int .u8 (0), .int .u8 (0), .int .u8 (0), .int .u8 (0), .int .u8 (0), .int .u8 (0), .int .u8 (0), .int .u8 (0), .int .u8 (0), .int .u8 (0), .int .u8 (0), .int .u8 (0), .int .u8 (0), .int .u8 (0), .int .u8 (0), .int .u8 (0), .int .u8 (0), .int .u8 (0), .int .u8 (0), .int .u8 (0), .int .u8 (0), .int .u8 (0), .int .u8 (0), .int .u8 (0), .int .u8 (0), .int .u8 (0), .int .u8 (0), .int .u8 (0), .int .u8 (0), .int .u8 (0), .int .u8 (0), .int .u8 (0)], false, false, false⟩ := by kernel_rfl
theorem env_240 : env 240 = some ⟨(.slice 243), 1, 24, .slice [] .nil, false, false, false⟩ := by kernel_rfl
theorem env_241 : env 241 = some ⟨.func, 1, 8, .nilFunc, false, false, false⟩ := by kernel_rfl
theorem env_242 : env 242 = some ⟨(.struct [(0, 9), (1, 3), (2, 3), (3, 3)]), 4, 40, .agg [.str [], .int .i64 (0), .int .i64 (0), .int .i64 (0)], false, false, false⟩ := by kernel_rfl
theorem env_243 : env 243 = some ⟨(.struct [(0, 9), (1, 3), (2, 3), (3, 3)]), 4, 40, .agg [.str [], .int .i64 (0), .int .i64 (0), .int .i64 (0)], false, false, false⟩ := by kernel_rfl
theorem env_244 : env 244 = some ⟨.func, 1, 8, .nilFunc, false, false, false⟩ := by kernel_rfl
theorem env_245 : env 245 = some ⟨(.arr 32 5), 32, 32, .agg [.int .u8 (0), .int .u8 (0), .int .u8 (0), .int .u8 (0), .int .u8 (0), .int .u8 (0), .int .u8 (0), .int .u8 (0), .int .u8 (0), .int .u8 (0), .int .u8 (0), .int .u8 (0), .int .u8 (0), .int .u8 (0), .int .u8 (0), .int .u8 (0), .int .u8 (0), .int .u8 (0), .int .u8 (0), .int .u8 (0), .int .u8 (0), .int .u8 (0), .int .u8 (0), .int .u8 (0), .int .u8 (0), .int .u8 (0), .int .u8 (0), .int .u8 (0), .int .u8 (0), .int .u8 (0), .int .u8 (0), .int .u8 (0)], false, false, false⟩ := by kernel_rfl
theorem env_246 : env 246 = some ⟨(.arr 64 5), 64, 64, .agg [.int .u8 (0), .int .u8 (0), .int .u8 (0), .int .u8 (0), .int .u8 (0), .int .u8 (0), .int .u8 (0), .int .u8 (0), .int .u8 (0), .int .u8 (0), .int .u8 (0), .int .u8 (0), .int .u8 (0), .int .u8 (0), .int .u8 (0), .int .u8 (0), .int .u8 (0), .int .u8 (0), .int .u8 (0), .int .u8 (0), .int .u8 (0), .int .u8 (0), .int .u8 (0), .int .u8 (0), .int .u8 (0), .int .u8 (0), .int .u8 (0), .int .u8 (0), .int .u8 (0), .int .u8 (0), .int .u8 (0), .int .u8 (0), .int .u8 (0), .int .u8 (0), .int .u8 (0), .int .u8 (0), .int .u8 (0), .int .u8 (0), .int .u8 (0), .int .u8 (0), .int .u8 (0), .int .u8 (0), .int .u8 (0), .int .u8 (0), .int .u8 (0), .int .u8 (0), .int .u8 (0), .int .u8 (0), .int .u8 (0), .int .u8 (0), .int .u8 (0), .int .u8 (0), .int .u8 (0), .int .u8 (0), .int .u8 (0), .int .u8 (0), .int .u8 (0), .int .u8 (0), .int .u8 (0), .int .u8 (0), .int .u8 (0), .int .u8 (0), .int .u8 (0), .int .u8 (0)], false, false, false⟩ := by kernel_rfl
theorem env_247 : env 247 = some ⟨(.struct [(0, 17), (1, 17), (2, 17), (3, 9)]), 4, 40, .agg [.nilptr, .nilptr, .nilptr, .str []], false, false, false⟩ := by kernel_rfl
theorem env_248 : env 248 = some ⟨(.struct [(0, 17), (1, 17), (2, 17), (3, 9)]), 4, 40, .agg [.nilptr, .nilptr, .nilptr, .str []], false, false, false⟩ := by kernel_rfl
theorem env_249 : env 249 = some ⟨(.arr 0 16), 0, 0, .agg [], false, false, false⟩ := by kernel_rfl
theorem env_250 : env 250 = some ⟨(.struct [(0, 249)]), 0, 0, .agg [], false, false, false⟩ := by kernel_rfl
theorem env_251 : env 251 = some ⟨(.struct [(0, 249)]), 0, 0, .agg [], false, false, false⟩ := by kernel_rfl
theorem env_252 : env 252 = some ⟨(.int .u8), 1, 1, .int .u8 (0), false, false, true⟩ := by kernel_rfl
theorem env_253 : env 253 = some ⟨(.int .u8), 1, 1, .int .u8 (0), false, false, true⟩ := by kernel_rfl
theorem env_254 : env 254 = some ⟨.func, 1, 8, .nilFunc, false, false, false⟩ := by kernel_rfl
theorem env_255 : env 255 = some ⟨(.int .i32), 1, 4, .int .i32 (0), false, false, true⟩ := by kernel_rfl
theorem env_256 : env 256 = some ⟨(.int .i32), 1, 4, .int .i32 (0), false, false, true⟩ := by kernel_rfl
theorem env_257 : env 257 = some ⟨(.struct [(0, 12), (1, 12), (2, 159), (3, 252), (4, 5), (5, 5), (6, 253), (7, 254), (8, 224), (9, 255), (10, 256)]), 11, 48, .agg [.int .u64 (0), .int .u64 (0), .int .u32 (0), .int .u8 (0), .int .u8 (0), .int .u8 (0), .int .u8 (0), .nilFunc, .nilptr, .int .i32 (0), .int .i32 (0)], false, false, false⟩ := by kernel_rfl
theorem env_258 : env 258 = some ⟨(.struct [(0, 12), (1, 12), (2, 159), (3, 252), (4, 5), (5, 5), (6, 253), (7, 254), (8, 224), (9, 255), (10, 256)]), 11, 48, .agg [.int .u64 (0), .int .u64 (0), .int .u32 (0), .int .u8 (0), .int .u8 (0), .int .u8 (0), .int .u8 (0), .nilFunc, .nilptr, .int .i32 (0), .int .i32 (0)], false, false, false⟩ := by kernel_rfl
theorem env_259 : env 259 = some ⟨.other, 1, 8, .nilptr, false, false, false⟩ := by kernel_rfl
noncomputable def fn2 : AFn := ⟨match Tryz.f2.body with | some c => c | none => .skip, 1, Tryz.f2.results.toList⟩
noncomputable def fn3 : AFn := ⟨match Tryz.f3.body with | some c => c | none => .skip, 30, Tryz.f3.results.toList⟩
noncomputable def fn4 : AFn := ⟨match Tryz.f4.body with | some c => c | none => .skip, 88, Tryz.f4.results.toList⟩
noncomputable def fn5 : AFn := ⟨match Tryz.f5.body with | some c => c | none => .skip, 80, Tryz.f5.results.toList⟩
noncomputable def fn6 : AFn := ⟨match Tryz.f6.body with | some c => c | none => .skip, 41, Tryz.f6.results.toList⟩
noncomputable def fn7 : AFn := ⟨match Tryz.f7.body with | some c => c | none => .skip, 19, Tryz.f7.results.toList⟩
noncomputable def fn8 : AFn := ⟨match Tryz.f8.body with | some c => c | none => .skip, 15, Tryz.f8.results.toList⟩
noncomputable def fn9 : AFn := ⟨match Tryz.f9.body with | some c => c | none => .skip, 91, Tryz.f9.results.toList⟩
noncomputable def fn10 : AFn := ⟨match Tryz.f10.body with | some c => c | none => .skip, 14, Tryz.f10.results.toList⟩
noncomputable def fn11 : AFn := ⟨match Tryz.f11.body with | some c => c | none => .skip, 46, Tryz.f11.results.toList⟩
noncomputable def fn12 : AFn := ⟨match Tryz.f12.body with | some c => c | none => .skip, 65, Tryz.f12.results.toList⟩
noncomputable def fn13 : AFn := ⟨match Tryz.f13.body with | some c => c | none => .skip, 69, Tryz.f13.results.toList⟩
noncomputable def fn14 : AFn := ⟨match Tryz.f14.body with | some c => c | none => .skip, 68, Tryz.f14.results.toList⟩
noncomputable def fn15 : AFn := ⟨match Tryz.f15.body with | some c => c | none => .skip, 19, Tryz.f15.results.toList⟩
noncomputable def fn16 : AFn := ⟨match Tryz.f16.body with | some c => c | none => .skip, 57, Tryz.f16.results.toList⟩
noncomputable def fn17 : AFn := ⟨match Tryz.f17.body with | some c => c | none => .skip, 11, Tryz.f17.results.toList⟩
noncomputable def fn18 : AFn := ⟨match Tryz.f18.body with | some c => c | none => .skip, 36, Tryz.f18.results.toList⟩
noncomputable def fn19 : AFn := ⟨match Tryz.f19.body with | some c => c | none => .skip, 13, Tryz.f19.results.toList⟩
noncomputable def fn20 : AFn := ⟨match Tryz.f20.body with | some c => c | none => .skip, 27, Tryz.f20.results.toList⟩
noncomputable def fn21 : AFn := ⟨match Tryz.f21.body with | some c => c | none => .skip, 56, Tryz.f21.results.toList⟩
noncomputable def fn22 : AFn := ⟨match Tryz.f22.body with | some c => c | none => .skip, 50, Tryz.f22.results.toList⟩
noncomputable def fn23 : AFn := ⟨match Tryz.f23.body with | some c => c | none => .skip, 68, Tryz.f23.results.toList⟩
noncomputable def fn24 : AFn := ⟨match Tryz.f24.body with | some c => c | none => .skip, 23, Tryz.f24.results.toList⟩
noncomputable def fn25 : AFn := ⟨match Tryz.f25.body with | some c => c | none => .skip, 13, Tryz.f25.results.toList⟩
noncomputable def fn26 : AFn := ⟨match Tryz.f26.body with | some c => c | none => .skip, 17, Tryz.f26.results.toList⟩
noncomputable def fn27 : AFn := ⟨match Tryz.f27.body with | some c => c | none => .skip, 47, Tryz.f27.results.toList⟩
noncomputable def fn28 : AFn := ⟨match Tryz.f28.body with | some c => c | none => .skip, 10, Tryz.f28.results.toList⟩
noncomputable def fn29 : AFn := ⟨match Tryz.f29.body with | some c => c | none => .skip, 27, Tryz.f29.results.toList⟩
noncomputable def fn30 : AFn := ⟨match Tryz.f30.body with | some c => c | none => .skip, 28, Tryz.f30.results.toList⟩
noncomputable def fn31 : AFn := ⟨match Tryz.f31.body with | some c => c | none => .skip, 33, Tryz.f31.results.toList⟩
noncomputable def fn32 : AFn := ⟨match Tryz.f32.body with | some c => c | none => .skip, 10, Tryz.f32.results.toList⟩
noncomputable def fn33 : AFn := ⟨match Tryz.f33.body with | some c => c | none => .skip, 32, Tryz.f33.results.toList⟩
noncomputable def fn34 : AFn := ⟨match Tryz.f34.body with | some c => c | none => .skip, 4, Tryz.f34.results.toList⟩
noncomputable def fn35 : AFn := ⟨match Tryz.f35.body with | some c => c | none => .skip, 55, Tryz.f35.results.toList⟩
noncomputable def fn36 : AFn := ⟨match Tryz.f36.body with | some c => c | none => .skip, 35, Tryz.f36.results.toList⟩
noncomputable def fn37 : AFn := ⟨match Tryz.f37.body with | some c => c | none => .skip, 21, Tryz.f37.results.toList⟩
noncomputable def fn38 : AFn := ⟨match Tryz.f38.body with | some c => c | none => .skip, 47, Tryz.f38.results.toList⟩
noncomputable def fn39 : AFn := ⟨match Tryz.f39.body with | some c => c | none => .skip, 37, Tryz.f39.results.toList⟩
noncomputable def fn40 : AFn := ⟨match Tryz.f40.body with | some c => c | none => .skip, 11, Tryz.f40.results.toList⟩
noncomputable def fn41 : AFn := ⟨match Tryz.f41.body with | some c => c | none => .skip, 61, Tryz.f41.results.toList⟩
noncomputable def fn42 : AFn := ⟨match Tryz.f42.body with | some c => c | none => .skip, 8, Tryz.f42.results.toList⟩
noncomputable def fn43 : AFn := ⟨match Tryz.f43.body with | some c => c | none => .skip, 11, Tryz.f43.results.toList⟩
noncomputable def fn44 : AFn := ⟨match Tryz.f44.body with | some c => c | none => .skip, 9, Tryz.f44.results.toList⟩
noncomputable def fn45 : AFn := ⟨match Tryz.f45.body with | some c => c | none => .skip, 14, Tryz.f45.results.toList⟩
noncomputable def fn46 : AFn := ⟨match Tryz.f46.body with | some c => c | none => .skip, 9, Tryz.f46.results.toList⟩
noncomputable def fn47 : AFn := ⟨match Tryz.f47.body with | some c => c | none => .skip, 9, Tryz.f47.results.toList⟩
noncomputable def fn48 : AFn := ⟨match Tryz.f48.body with | some c => c | none => .skip, 25, Tryz.f48.results.toList⟩
noncomputable def fn49 : AFn := ⟨match Tryz.f49.body with | some c => c | none => .skip, 29, Tryz.f49.results.toList⟩
noncomputable def fn50 : AFn := ⟨match Tryz.f50.body with | some c => c | none => .skip, 28, Tryz.f50.results.toList⟩
noncomputable def fn51 : AFn := ⟨match Tryz.f51.body with | some c => c | none => .skip, 32, Tryz.f51.results.toList⟩
noncomputable def fn52 : AFn := ⟨match Tryz.f52.body with | some c => c | none => .skip, 59, Tryz.f52.results.toList⟩
noncomputable def fn53 : AFn := ⟨match Tryz.f53.body with | some c => c | none => .skip, 29, Tryz.f53.results.toList⟩
noncomputable def fn54 : AFn := ⟨match Tryz.f54.body with | some c => c | none => .skip, 35, Tryz.f54.results.toList⟩
noncomputable def fn55 : AFn := ⟨match Tryz.f55.body with | some c => c | none => .skip, 39, Tryz.f55.results.toList⟩
noncomputable def fn56 : AFn := ⟨match Tryz.f56.body with | some c => c | none => .skip, 19, Tryz.f56.results.toList⟩
noncomputable def fn57 : AFn := ⟨match Tryz.f57.body with | some c => c | none => .skip, 37, Tryz.f57.results.toList⟩
noncomputable def fn58 : AFn := ⟨match Tryz.f58.body with | some c => c | none => .skip, 8, Tryz.f58.results.toList⟩
noncomputable def fn59 : AFn := ⟨match Tryz.f59.body with | some c => c | none => .skip, 23, Tryz.f59.results.toList⟩
noncomputable def fn60 : AFn := ⟨match Tryz.f60.body with | some c => c | none => .skip, 23, Tryz.f60.results.toList⟩
noncomputable def fn61 : AFn := ⟨match Tryz.f61.body with | some c => c | none => .skip, 123, Tryz.f61.results.toList⟩
noncomputable def fn62 : AFn := ⟨match Tryz.f62.body with | some c => c | none => .skip, 19, Tryz.f62.results.toList⟩
noncomputable def fn63 : AFn := ⟨match Tryz.f63.body with | some c => c | none => .skip, 51, Tryz.f63.results.toList⟩
noncomputable def fn64 : AFn := ⟨match Tryz.f64.body with | some c => c | none => .skip, 27, Tryz.f64.results.toList⟩
noncomputable def fn65 : AFn := ⟨match Tryz.f65.body with | some c => c | none => .skip, 16, Tryz.f65.results.toList⟩
noncomputable def fn66 : AFn := ⟨match Tryz.f66.body with | some c => c | none => .skip, 36, Tryz.f66.results.toList⟩
noncomputable def fn67 : AFn := ⟨match Tryz.f67.body with | some c => c | none => .skip, 9, Tryz.f67.results.toList⟩
noncomputable def fn68 : AFn := ⟨match Tryz.f68.body with | some c => c | none => .skip, 18, Tryz.f68.results.toList⟩
noncomputable def fn69 : AFn := ⟨match Tryz.f69.body with | some c => c | none => .skip, 17, Tryz.f69.results.toList⟩
noncomputable def fn70 : AFn := ⟨match Tryz.f70.body with | some c => c | none => .skip, 22, Tryz.f70.results.toList⟩
noncomputable def fn71 : AFn := ⟨match Tryz.f71.body with | some c => c | none => .skip, 59, Tryz.f71.results.toList⟩
noncomputable def fn72 : AFn := ⟨match Tryz.f72.body with | some c => c | none => .skip, 43, Tryz.f72.results.toList⟩
noncomputable def fn73 : AFn := ⟨match Tryz.f73.body with | some c => c | none => .skip, 40, Tryz.f73.results.toList⟩
noncomputable def fn74 : AFn := ⟨match Tryz.f74.body with | some c => c | none => .skip, 134, Tryz.f74.results.toList⟩
noncomputable def fn75 : AFn := ⟨match Tryz.f75.body with | some c => c | none => .skip, 8, Tryz.f75.results.toList⟩
noncomputable def fn76 : AFn := ⟨match Tryz.f76.body with | some c => c | none => .skip, 19, Tryz.f76.results.toList⟩
noncomputable def fn77 : AFn := ⟨match Tryz.f77.body with | some c => c | none => .skip, 19, Tryz.f77.results.toList⟩
noncomputable def fn78 : AFn := ⟨match Tryz.f78.body with | some c => c | none => .skip, 37, Tryz.f78.results.toList⟩
noncomputable def fn79 : AFn := ⟨match Tryz.f79.body with | some c => c | none => .skip, 8, Tryz.f79.results.toList⟩
noncomputable def fn80 : AFn := ⟨match Tryz.f80.body with | some c => c | none => .skip, 32, Tryz.f80.results.toList⟩
noncomputable def fn81 : AFn := ⟨match Tryz.f81.body with | some c => c | none => .skip, 5, Tryz.f81.results.toList⟩
noncomputable def fn82 : AFn := ⟨match Tryz.f82.body with | some c => c | none => .skip, 11, Tryz.f82.results.toList⟩
noncomputable def fn83 : AFn := ⟨match Tryz.f83.body with | some c => c | none => .skip, 8, Tryz.f83.results.toList⟩
noncomputable def fn84 : AFn := ⟨match Tryz.f84.body with | some c => c | none => .skip, 19, Tryz.f84.results.toList⟩
noncomputable def fn85 : AFn := ⟨match Tryz.f85.body with | some c => c | none => .skip, 30, Tryz.f85.results.toList⟩
noncomputable def fn86 : AFn := ⟨match Tryz.f86.body with | some c => c | none => .skip, 13, Tryz.f86.results.toList⟩
noncomputable def fn87 : AFn := ⟨match Tryz.f87.body with | some c => c | none => .skip, 17, Tryz.f87.results.toList⟩
noncomputable def fn88 : AFn := ⟨match Tryz.f88.body with | some c => c | none => .skip, 16, Tryz.f88.results.toList⟩
noncomputable def fn89 : AFn := ⟨match Tryz.f89.body with | some c => c | none => .skip, 9, Tryz.f89.results.toList⟩
noncomputable def fn90 : AFn := ⟨match Tryz.f90.body with | some c => c | none => .skip, 11, Tryz.f90.results.toList⟩
noncomputable def fn91 : AFn := ⟨match Tryz.f91.body with | some c => c | none => .skip, 9, Tryz.f91.results.toList⟩
noncomputable def fn92 : AFn := ⟨match Tryz.f92.body with | some c => c | none => .skip, 9, Tryz.f92.results.toList⟩
noncomputable def fn93 : AFn := ⟨match Tryz.f93.body with | some c => c | none => .skip, 13, Tryz.f93.results.toList⟩
noncomputable def fn94 : AFn := ⟨match Tryz.f94.body with | some c => c | none => .skip, 143, Tryz.f94.results.toList⟩
noncomputable def fn95 : AFn := ⟨match Tryz.f95.body with | some c => c | none => .skip, 19, Tryz.f95.results.toList⟩
noncomputable def fn96 : AFn := ⟨match Tryz.f96.body with | some c => c | none => .skip, 80, Tryz.f96.results.toList⟩
noncomputable def fn97 : AFn := ⟨match Tryz.f97.body with | some c => c | none => .skip, 2, Tryz.f97.results.toList⟩
noncomputable def fn98 : AFn := ⟨match Tryz.f98.body with | some c => c | none => .skip, 8, Tryz.f98.results.toList⟩
noncomputable def fn99 : AFn := ⟨match Tryz.f99.body with | some c => c | none => .skip, 77, Tryz.f99.results.toList⟩
noncomputable def fn100 : AFn := ⟨match Tryz.f100.body with | some c => c | none => .skip, 43, Tryz.f100.results.toList⟩
noncomputable def fn101 : AFn := ⟨match Tryz.f101.body with | some c => c | none => .skip, 14, Tryz.f101.results.toList⟩
noncomputable def fn102 : AFn := ⟨match Tryz.f102.body with | some c => c | none => .skip, 20, Tryz.f102.results.toList⟩
noncomputable def fn103 : AFn := ⟨match Tryz.f103.body with | some c => c | none => .skip, 39, Tryz.f103.results.toList⟩
noncomputable def fn104 : AFn := ⟨match Tryz.f104.body with | some c => c | none => .skip, 39, Tryz.f104.results.toList⟩
noncomputable def fn105 : AFn := ⟨match Tryz.f105.body with | some c => c | none => .skip, 14, Tryz.f105.results.toList⟩
noncomputable def fn106 : AFn := ⟨match Tryz.f106.body with | some c => c | none => .skip, 10, Tryz.f106.results.toList⟩
noncomputable def fn107 : AFn := ⟨match Tryz.f107.body with | some c => c | none => .skip, 38, Tryz.f107.results.toList⟩
noncomputable def fn108 : AFn := ⟨match Tryz.f108.body with | some c => c | none => .skip, 32, Tryz.f108.results.toList⟩
noncomputable def fn109 : AFn := ⟨match Tryz.f109.body with | some c => c | none => .skip, 27, Tryz.f109.results.toList⟩
noncomputable def fn110 : AFn := ⟨match Tryz.f110.body with | some c => c | none => .skip, 49, Tryz.f110.results.toList⟩
noncomputable def fn111 : AFn := ⟨match Tryz.f111.body with | some c => c | none => .skip, 56, Tryz.f111.results.toList⟩
noncomputable def fn112 : AFn := ⟨match Tryz.f112.body with | some c => c | none => .skip, 65, Tryz.f112.results.toList⟩
noncomputable def fn113 : AFn := ⟨match Tryz.f113.body with | some c => c | none => .skip, 57, Tryz.f113.results.toList⟩
noncomputable def fn114 : AFn := ⟨match Tryz.f114.body with | some c => c | none => .skip, 32, Tryz.f114.results.toList⟩
noncomputable def fn115 : AFn := ⟨match Tryz.f115.body with | some c => c | none => .skip, 133, Tryz.f115.results.toList⟩
noncomputable def fn116 : AFn := ⟨match Tryz.f116.body with | some c => c | none => .skip, 17, Tryz.f116.results.toList⟩
noncomputable def fn117 : AFn := ⟨match Tryz.f117.body with | some c => c | none => .skip, 84, Tryz.f117.results.toList⟩
noncomputable def fn118 : AFn := ⟨match Tryz.f118.body with | some c => c | none => .skip, 168, Tryz.f118.results.toList⟩
noncomputable def fn119 : AFn := ⟨match Tryz.f119.body with | some c => c | none => .skip, 19, Tryz.f119.results.toList⟩
noncomputable def fn120 : AFn := ⟨match Tryz.f120.body with | some c => c | none => .skip, 25, Tryz.f120.results.toList⟩
noncomputable def fn121 : AFn := ⟨match Tryz.f121.body with | some c => c | none => .skip, 17, Tryz.f121.results.toList⟩
noncomputable def fn122 : AFn := ⟨match Tryz.f122.body with | some c => c | none => .skip, 21, Tryz.f122.results.toList⟩
noncomputable def fn123 : AFn := ⟨match Tryz.f123.body with | some c => c | none => .skip, 16, Tryz.f123.results.toList⟩
noncomputable def fn124 : AFn := ⟨match Tryz.f124.body with | some c => c | none => .skip, 23, Tryz.f124.results.toList⟩
noncomputable def fn125 : AFn := ⟨match Tryz.f125.body with | some c => c | none => .skip, 18, Tryz.f125.results.toList⟩
noncomputable def fn126 : AFn := ⟨match Tryz.f126.body with | some c => c | none => .skip, 8, Tryz.f126.results.toList⟩
noncomputable def fn128 : AFn := ⟨match Tryz.f128.body with | some c => c | none => .skip, 6, Tryz.f128.results.toList⟩
noncomputable def fn129 : AFn := ⟨match Tryz.f129.body with | some c => c | none => .skip, 81, Tryz.f129.results.toList⟩
noncomputable def fn130 : AFn := ⟨match Tryz.f130.body with | some c => c | none => .skip, 117, Tryz.f130.results.toList⟩
noncomputable def fn131 : AFn := ⟨match Tryz.f131.body with | some c => c | none => .skip, 50, Tryz.f131.results.toList⟩
noncomputable def fn132 : AFn := ⟨match Tryz.f132.body with | some c => c | none => .skip, 37, Tryz.f132.results.toList⟩
noncomputable def fn133 : AFn := ⟨match Tryz.f133.body with | some c => c | none => .skip, 73, Tryz.f133.results.toList⟩
noncomputable def fn134 : AFn := ⟨match Tryz.f134.body with | some c => c | none => .skip, 11, Tryz.f134.results.toList⟩
noncomputable def fn135 : AFn := ⟨match Tryz.f135.body with | some c => c | none => .skip, 11, Tryz.f135.results.toList⟩
noncomputable def fn136 : AFn := ⟨match Tryz.f136.body with | some c => c | none => .skip, 16, Tryz.f136.results.toList⟩
noncomputable def fn137 : AFn := ⟨match Tryz.f137.body with | some c => c | none => .skip, 16, Tryz.f137.results.toList⟩
noncomputable def fn138 : AFn := ⟨match Tryz.f138.body with | some c => c | none => .skip, 41, Tryz.f138.results.toList⟩
noncomputable def fn139 : AFn := ⟨match Tryz.f139.body with | some c => c | none => .skip, 14, Tryz.f139.results.toList⟩
noncomputable def fn140 : AFn := ⟨match Tryz.f140.body with | some c => c | none => .skip, 82, Tryz.f140.results.toList⟩
noncomputable def fn141 : AFn := ⟨match Tryz.f141.body with | some c => c | none => .skip, 52, Tryz.f141.results.toList⟩
noncomputable def fn142 : AFn := ⟨match Tryz.f142.body with | some c => c | none => .skip, 46, Tryz.f142.results.toList⟩
noncomputable def fn143 : AFn := ⟨match Tryz.f143.body with | some c => c | none => .skip, 27, Tryz.f143.results.toList⟩
noncomputable def fn144 : AFn := ⟨match Tryz.f144.body with | some c => c | none => .skip, 21, Tryz.f144.results.toList⟩
noncomputable def fn145 : AFn := ⟨match Tryz.f145.body with | some c => c | none => .skip, 76, Tryz.f145.results.toList⟩
noncomputable def fn146 : AFn := ⟨match Tryz.f146.body with | some c => c | none => .skip, 7, Tryz.f146.results.toList⟩
noncomputable def fn147 : AFn := ⟨match Tryz.f147.body with | some c => c | none => .skip, 33, Tryz.f147.results.toList⟩
noncomputable def fn148 : AFn := ⟨match Tryz.f148.body with | some c => c | none => .skip, 15, Tryz.f148.results.toList⟩
noncomputable def fn149 : AFn := ⟨match Tryz.f149.body with | some c => c | none => .skip, 36, Tryz.f149.results.toList⟩
noncomputable def fn150 : AFn := ⟨match Tryz.f150.body with | some c => c | none => .skip, 6, Tryz.f150.results.toList⟩
noncomputable def fn151 : AFn := ⟨match Tryz.f151.body with | some c => c | none => .skip, 10, Tryz.f151.results.toList⟩
noncomputable def fn152 : AFn := ⟨match Tryz.f152.body with | some c => c | none => .skip, 9, Tryz.f152.results.toList⟩
noncomputable def fn154 : AFn := ⟨match Tryz.f154.body with | some c => c | none => .skip, 39, Tryz.f154.results.toList⟩
noncomputable def fn155 : AFn := ⟨match Tryz.f155.body with | some c => c | none => .skip, 172, Tryz.f155.results.toList⟩
noncomputable def fn156 : AFn := ⟨match Tryz.f156.body with | some c => c | none => .skip, 18, Tryz.f156.results.toList⟩
noncomputable def fn157 : AFn := ⟨match Tryz.f157.body with | some c => c | none => .skip, 7, Tryz.f157.results.toList⟩
noncomputable def fn158 : AFn := ⟨match Tryz.f158.body with | some c => c | none => .skip, 5, Tryz.f158.results.toList⟩
noncomputable def fn159 : AFn := ⟨match Tryz.f159.body with | some c => c | none => .skip, 14, Tryz.f159.results.toList⟩
noncomputable def fn160 : AFn := ⟨match Tryz.f160.body with | some c => c | none => .skip, 23, Tryz.f160.results.toList⟩
noncomputable def fn161 : AFn := ⟨match Tryz.f161.body with | some c => c | none => .skip, 22, Tryz.f161.results.toList⟩
noncomputable def fn162 : AFn := ⟨match Tryz.f162.body with | some c => c | none => .skip, 33, Tryz.f162.results.toList⟩
noncomputable def fn163 : AFn := ⟨match Tryz.f163.body with | some c => c | none => .skip, 21, Tryz.f163.results.toList⟩
noncomputable def fn164 : AFn := ⟨match Tryz.f164.body with | some c => c | none => .skip, 37, Tryz.f164.results.toList⟩
noncomputable def fn165 : AFn := ⟨match Tryz.f165.body with | some c => c | none => .skip, 11, Tryz.f165.results.toList⟩
noncomputable def fn166 : AFn := ⟨match Tryz.f166.body with | some c => c | none => .skip, 14, Tryz.f166.results.toList⟩
noncomputable def fn167 : AFn := ⟨match Tryz.f167.body with | some c => c | none => .skip, 28, Tryz.f167.results.toList⟩
noncomputable def fn168 : AFn := ⟨match Tryz.f168.body with | some c => c | none => .skip, 187, Tryz.f168.results.toList⟩
noncomputable def fn169 : AFn := ⟨match Tryz.f169.body with | some c => c | none => .skip, 5, Tryz.f169.results.toList⟩
noncomputable def fn170 : AFn := ⟨match Tryz.f170.body with | some c => c | none => .skip, 94, Tryz.f170.results.toList⟩
noncomputable def fn171 : AFn := ⟨match Tryz.f171.body with | some c => c | none => .skip, 5, Tryz.f171.results.toList⟩
noncomputable def fn172 : AFn := ⟨match Tryz.f172.body with | some c => c | none => .skip, 15, Tryz.f172.results.toList⟩
noncomputable def fn173 : AFn := ⟨match Tryz.f173.body with | some c => c | none => .skip, 29, Tryz.f173.results.toList⟩
noncomputable def fn174 : AFn := ⟨match Tryz.f174.body with | some c => c | none => .skip, 4, Tryz.f174.results.toList⟩
noncomputable def fn175 : AFn := ⟨match Tryz.f175.body with | some c => c | none => .skip, 25, Tryz.f175.results.toList⟩
noncomputable def fn176 : AFn := ⟨match Tryz.f176.body with | some c => c | none => .skip, 17, Tryz.f176.results.toList⟩
noncomputable def fn177 : AFn := ⟨match Tryz.f177.body with | some c => c | none => .skip, 54, Tryz.f177.results.toList⟩
noncomputable def fn178 : AFn := ⟨match Tryz.f178.body with | some c => c | none => .skip, 14, Tryz.f178.results.toList⟩
noncomputable def fn179 : AFn := ⟨match Tryz.f179.body with | some c => c | none => .skip, 19, Tryz.f179.results.toList⟩
noncomputable def fn180 : AFn := ⟨match Tryz.f180.body with | some c => c | none => .skip, 15, Tryz.f180.results.toList⟩
noncomputable def fn181 : AFn := ⟨match Tryz.f181.body with | some c => c | none => .skip, 15, Tryz.f181.results.toList⟩
noncomputable def fn182 : AFn := ⟨match Tryz.f182.body with | some c => c | none => .skip, 15, Tryz.f182.results.toList⟩
noncomputable def fn183 : AFn := ⟨match Tryz.f183.body with | some c => c | none => .skip, 167, Tryz.f183.results.toList⟩
noncomputable def fn184 : AFn := ⟨match Tryz.f184.body with | some c => c | none => .skip, 102, Tryz.f184.results.toList⟩
noncomputable def fn185 : AFn := ⟨match Tryz.f185.body with | some c => c | none => .skip, 19, Tryz.f185.results.toList⟩
noncomputable def fn186 : AFn := ⟨match Tryz.f186.body with | some c => c | none => .skip, 4, Tryz.f186.results.toList⟩
noncomputable def fn187 : AFn := ⟨match Tryz.f187.body with | some c => c | none => .skip, 35, Tryz.f187.results.toList⟩
noncomputable def fn188 : AFn := ⟨match Tryz.f188.body with | some c => c | none => .skip, 6, Tryz.f188.results.toList⟩
noncomputable def fn189 : AFn := ⟨match Tryz.f189.body with | some c => c | none => .skip, 4, Tryz.f189.results.toList⟩
noncomputable def fn190 : AFn := ⟨match Tryz.f190.body with | some c => c | none => .skip, 8, Tryz.f190.results.toList⟩
noncomputable def fn191 : AFn := ⟨match Tryz.f191.body with | some c => c | none => .skip, 8, Tryz.f191.results.toList⟩
noncomputable def fn192 : AFn := ⟨match Tryz.f192.body with | some c => c | none => .skip, 60, Tryz.f192.results.toList⟩
noncomputable def fn193 : AFn := ⟨match Tryz.f193.body with | some c => c | none => .skip, 14, Tryz.f193.results.toList⟩
noncomputable def fn194 : AFn := ⟨match Tryz.f194.body with | some c => c | none => .skip, 14, Tryz.f194.results.toList⟩
noncomputable def fn195 : AFn := ⟨match Tryz.f195.body with | some c => c | none => .skip, 4, Tryz.f195.results.toList⟩
noncomputable def fn196 : AFn := ⟨match Tryz.f196.body with | some c => c | none => .skip, 14, Tryz.f196.results.toList⟩
noncomputable def fn197 : AFn := ⟨match Tryz.f197.body with | some c => c | none => .skip, 25, Tryz.f197.results.toList⟩
noncomputable def fn198 : AFn := ⟨match Tryz.f198.body with | some c => c | none => .skip, 45, Tryz.f198.results.toList⟩
noncomputable def fn231 : AFn := ⟨match Tryz.f231.body with | some c => c | none => .skip, 107, Tryz.f231.results.toList⟩
noncomputable def ftree : Tree AFn := (.node none (.node none (.node (some fn3) (.node (some fn7) (.node (some fn15) (.node (some fn31) (.node (some fn63) (.node none .leaf .leaf) (.node (some fn191) .leaf .leaf)) (.node (some fn95) (.node (some fn159) .leaf .leaf) (.node none .leaf .leaf))) (.node (some fn47) (.node (some fn79) (.node (some fn143) .leaf .leaf) (.node none .leaf .leaf)) (.node (some fn111) (.node (some fn175) .leaf .leaf) .leaf))) (.node (some fn23) (.node (some fn39) (.node (some fn71) (.node (some fn135) .leaf .leaf) (.node none .leaf .leaf)) (.node (some fn103) (.node (some fn167) .leaf .leaf) (.node (some fn231) .leaf .leaf))) (.node (some fn55) (.node (some fn87) (.node (some fn151) .leaf .leaf) (.node none .leaf .leaf)) (.node (some fn119) (.node (some fn183) .leaf .leaf) .leaf)))) (.node (some fn11) (.node (some fn19) (.node (some fn35) (.node (some fn67) (.node (some fn131) .leaf .leaf) (.node (some fn195) .leaf .leaf)) (.node (some fn99) (.node (some fn163) .leaf .leaf) (.node none .leaf .leaf))) (.node (some fn51) (.node (some fn83) (.node (some fn147) .leaf .leaf) (.node none .leaf .leaf)) (.node (some fn115) (.node (some fn179) .leaf .leaf) .leaf))) (.node (some fn27) (.node (some fn43) (.node (some fn75) (.node (some fn139) .leaf .leaf) (.node none .leaf .leaf)) (.node (some fn107) (.node (some fn171) .leaf .leaf) .leaf)) (.node (some fn59) (.node (some fn91) (.node (some fn155) .leaf .leaf) (.node none .leaf .leaf)) (.node (some fn123) (.node (some fn187) .leaf .leaf) .leaf))))) (.node (some fn5) (.node (some fn9) (.node (some fn17) (.node (some fn33) (.node (some fn65) (.node (some fn129) .leaf .leaf) (.node (some fn193) .leaf .leaf)) (.node (some fn97) (.node (some fn161) .leaf .leaf) (.node none .leaf .leaf))) (.node (some fn49) (.node (some fn81) (.node (some fn145) .leaf .leaf) (.node none .leaf .leaf)) (.node (some fn113) (.node (some fn177) .leaf .leaf) .leaf))) (.node (some fn25) (.node (some fn41) (.node (some fn73) (.node (some fn137) .leaf .leaf) (.node none .leaf .leaf)) (.node (some fn105) (.node (some fn169) .leaf .leaf) .leaf)) (.node (some fn57) (.node (some fn89) (.node none .leaf .leaf) (.node none .leaf .leaf)) (.node (some fn121) (.node (some fn185) .leaf .leaf) .leaf)))) (.node (some fn13) (.node (some fn21) (.node (some fn37) (.node (some fn69) (.node (some fn133) .leaf .leaf) (.node (some fn197) .leaf .leaf)) (.node (some fn101) (.node (some fn165) .leaf .leaf) (.node none .leaf .leaf))) (.node (some fn53) (.node (some fn85) (.node (some fn149) .leaf .leaf) (.node none .leaf .leaf)) (.node (some fn117) (.node (some fn181) .leaf .leaf) .leaf))) (.node (some fn29) (.node (some fn45) (.node (some fn77) (.node (some fn141) .leaf .leaf) (.node none .leaf .leaf)) (.node (some fn109) (.node (some fn173) .leaf .leaf) .leaf)) (.node (some fn61) (.node (some fn93) (.node (some fn157) .leaf .leaf) (.node none .leaf .leaf)) (.node (some fn125) (.node (some fn189) .leaf .leaf) .leaf)))))) (.node (some fn2) (.node (some fn4) (.node (some fn8) (.node (some fn16) (.node (some fn32) (.node (some fn64) (.node (some fn128) .leaf .leaf) (.node (some fn192) .leaf .leaf)) (.node (some fn96) (.node (some fn160) .leaf .leaf) (.node none .leaf .leaf))) (.node (some fn48) (.node (some fn80) (.node (some fn144) .leaf .leaf) (.node none .leaf .leaf)) (.node (some fn112) (.node (some fn176) .leaf .leaf) .leaf))) (.node (some fn24) (.node (some fn40) (.node (some fn72) (.node (some fn136) .leaf .leaf) (.node none .leaf .leaf)) (.node (some fn104) (.node (some fn168) .leaf .leaf) .leaf)) (.node (some fn56) (.node (some fn88) (.node (some fn152) .leaf .leaf) (.node none .leaf .leaf)) (.node (some fn120) (.node (some fn184) .leaf .leaf) .leaf)))) (.node (some fn12) (.node (some fn20) (.node (some fn36) (.node (some fn68) (.node (some fn132) .leaf .leaf) (.node (some fn196) .leaf .leaf)) (.node (some fn100) (.node (some fn164) .leaf .leaf) (.node none .leaf .leaf))) (.node (some fn52) (.node (some fn84) (.node (some fn148) .leaf .leaf) (.node none .leaf .leaf)) (.node (some fn116) (.node (some fn180) .leaf .leaf) .leaf))) (.node (some fn28) (.node (some fn44) (.node (some fn76) (.node (some fn140) .leaf .leaf) (.node none .leaf .leaf)) (.node (some fn108) (.node (some fn172) .leaf .leaf) .leaf)) (.node (some fn60) (.node (some fn92) (.node (some fn156) .leaf .leaf) (.node none .leaf .leaf)) (.node (some fn124) (.node (some fn188) .leaf .leaf) .leaf))))) (.node (some fn6) (.node (some fn10) (.node (some fn18) (.node (some fn34) (.node (some fn66) (.node (some fn130) .leaf .leaf) (.node (some fn194) .leaf .leaf)) (.node (some fn98) (.node (some fn162) .leaf .leaf) (.node none .leaf .leaf))) (.node (some fn50) (.node (some fn82) (.node (some fn146) .leaf .leaf) (.node none .leaf .leaf)) (.node (some fn114) (.node (some fn178) .leaf .leaf) .leaf))) (.node (some fn26) (.node (some fn42) (.node (some fn74) (.node (some fn138) .leaf .leaf) (.node none .leaf .leaf)) (.node (some fn106) (.node (some fn170) .leaf .leaf) .leaf)) (.node (some fn58) (.node (some fn90) (.node (some fn154) .leaf .leaf) (.node none .leaf .leaf)) (.node (some fn122) (.node (some fn186) .leaf .leaf) .leaf)))) (.node (some fn14) (.node (some fn22) (.node (some fn38) (.node (some fn70) (.node (some fn134) .leaf .leaf) (.node (some fn198) .leaf .leaf)) (.node (some fn102) (.node (some fn166) .leaf .leaf) (.node none .leaf .leaf))) (.node (some fn54) (.node (some fn86) (.node (some fn150) .leaf .leaf) (.node none .leaf .leaf)) (.node (some fn118) (.node (some fn182) .leaf .leaf) .leaf))) (.node (some fn30) (.node (some fn46) (.node (some fn78) (.node (some fn142) .leaf .leaf) (.node none .leaf .leaf)) (.node (some fn110) (.node (some fn174) .leaf .leaf) .leaf)) (.node (some fn62) (.node (some fn94) (.node (some fn158) .leaf .leaf) (.node none .leaf .leaf)) (.node (some fn126) (.node (some fn190) .leaf .leaf) .leaf)))))))
noncomputable def ftab : FTab := ftree.get
def looses : List (Nat × Nat × List (Nat × Nat)) := [(5, 20, [(11, 15)]), (9, 23, [(4, 5)]), (12, 11, [(4, 10), (4, 15), (6, 10), (6, 15)]), (13, 17, [(4, 5)]), (27, 6, [(4, 6)]), (48, 2, [(4, 6)]), (53, 2, [(4, 6)]), (71, 13, [(3, 5), (10, 13), (13, 10)]), (73, 6, [(1, 4), (2, 4), (5, 4)]), (101, 3, [(0, 2)]), (108, 9, [(1, 2)]), (134, 1, [(3, 2)]), (135, 1, [(3, 2)]), (138, 7, [(1, 4), (2, 4)]), (198, 4, [(1, 3), (10, 12), (12, 10)]), (198, 5, [(1, 3), (8, 10), (10, 8)])]
end Go.Proofs.YtjhpgkjnkgknnaaGreatDoor.Av
