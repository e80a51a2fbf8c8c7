/- What the program's types are: cells, zero values, fields. -/
import Derived.Test.YtodhjpnfokkfeaaProg
import Derived.KernelRfl
import Derived.ProofKit
import Derived.Test.YtodhjpnfokkfeaaSymd
namespace Go.Proofs.Ytodhjpnfokkfeaa.T
open Go Go.RowKit
theorem sc3 : IsSc Try.prog 3 := ⟨_, Try.underlying3, rfl, by kernel_rfl⟩
theorem sc4 : IsSc Try.prog 4 := ⟨_, Try.underlying4, rfl, by kernel_rfl⟩
theorem sc5 : IsSc Try.prog 5 := ⟨_, Try.underlying5, rfl, by kernel_rfl⟩
theorem sc22 : IsSc Try.prog 22 := ⟨_, Try.underlying22, rfl, by kernel_rfl⟩
theorem rw24 : IsRw Try.prog 24 9 := ⟨_, Try.underlying24, rfl, by kernel_rfl⟩
theorem sc27 : IsSc Try.prog 27 := ⟨_, Try.underlying27, rfl, by kernel_rfl⟩
theorem sc38 : IsSc Try.prog 38 := ⟨_, Try.underlying38, rfl, by kernel_rfl⟩
theorem rw40 : IsRw Try.prog 40 2 := ⟨_, Try.underlying40, rfl, by kernel_rfl⟩
theorem sc43 : IsSc Try.prog 43 := ⟨_, Try.underlying43, rfl, by kernel_rfl⟩
theorem rw45 : IsRw Try.prog 45 2 := ⟨_, Try.underlying45, rfl, by kernel_rfl⟩
theorem rw52 : IsRw Try.prog 52 9 := ⟨_, Try.underlying52, rfl, by kernel_rfl⟩
theorem rw67 : IsRw Try.prog 67 3 := ⟨_, Try.underlying67, rfl, by kernel_rfl⟩
theorem rw108 : IsRw Try.prog 108 2 := ⟨_, Try.underlying108, rfl, by kernel_rfl⟩
theorem sc113 : IsSc Try.prog 113 := ⟨_, Try.underlying113, rfl, by kernel_rfl⟩
theorem rw115 : IsRw Try.prog 115 3 := ⟨_, Try.underlying115, rfl, by kernel_rfl⟩
theorem zc3 : zc Try.prog 3 = some [.int .i64 0] := by kernel_rfl
theorem zc4 : zc Try.prog 4 = some [.bool false] := by kernel_rfl
theorem zc5 : zc Try.prog 5 = some [.int .u8 0] := by kernel_rfl
theorem zc22 : zc Try.prog 22 = some [.slice none 0 0] := by kernel_rfl
theorem zc24 : zc Try.prog 24 = some [.int .i64 0, .int .i64 0, .int .i64 0, .int .i64 0, .int .i64 0, .bool false, .int .i64 0, .bool false, .slice none 0 0] := by kernel_rfl
theorem zc27 : zc Try.prog 27 = some [.slice none 0 0] := by kernel_rfl
theorem zc38 : zc Try.prog 38 = some [.slice none 0 0] := by kernel_rfl
theorem zc40 : zc Try.prog 40 = some [.int .i64 0, .slice none 0 0] := by kernel_rfl
theorem zc43 : zc Try.prog 43 = some [.slice none 0 0] := by kernel_rfl
theorem zc45 : zc Try.prog 45 = some [.int .i64 0, .slice none 0 0] := by kernel_rfl
theorem zc52 : zc Try.prog 52 = some [.int .i64 0, .int .i64 0, .int .i64 0, .int .i64 0, .int .i64 0, .bool false, .int .i64 0, .bool false, .slice none 0 0] := by kernel_rfl
theorem zc67 : zc Try.prog 67 = some [.slice none 0 0, .int .i64 0, .bool false] := by kernel_rfl
theorem zc108 : zc Try.prog 108 = some [.slice none 0 0, .int .i64 0] := by kernel_rfl
theorem zc113 : zc Try.prog 113 = some [.slice none 0 0] := by kernel_rfl
theorem zc115 : zc Try.prog 115 = some [.slice none 0 0, .int .i64 0, .bool false] := by kernel_rfl
theorem st24 : IsSt Try.prog 24 [.int .i64 0, .int .i64 0, .int .i64 0, .int .i64 0, .int .i64 0, .bool false, .int .i64 0, .bool false, .slice none 0 0] := ⟨zc24, _, Try.underlying24, by kernel_rfl⟩
theorem fs24_0 : IsFs Try.prog 24 0 0 1 := ⟨_, _, Try.underlying24, rfl, rfl, by kernel_rfl⟩
theorem fs24_1 : IsFs Try.prog 24 1 1 1 := ⟨_, _, Try.underlying24, rfl, rfl, by kernel_rfl⟩
theorem fs24_2 : IsFs Try.prog 24 2 2 1 := ⟨_, _, Try.underlying24, rfl, rfl, by kernel_rfl⟩
theorem fs24_3 : IsFs Try.prog 24 3 3 1 := ⟨_, _, Try.underlying24, rfl, rfl, by kernel_rfl⟩
theorem fs24_4 : IsFs Try.prog 24 4 4 1 := ⟨_, _, Try.underlying24, rfl, rfl, by kernel_rfl⟩
theorem fs24_5 : IsFs Try.prog 24 5 5 1 := ⟨_, _, Try.underlying24, rfl, rfl, by kernel_rfl⟩
theorem fs24_6 : IsFs Try.prog 24 6 6 1 := ⟨_, _, Try.underlying24, rfl, rfl, by kernel_rfl⟩
theorem fs24_7 : IsFs Try.prog 24 7 7 1 := ⟨_, _, Try.underlying24, rfl, rfl, by kernel_rfl⟩
theorem fs24_8 : IsFs Try.prog 24 8 8 1 := ⟨_, _, Try.underlying24, rfl, rfl, by kernel_rfl⟩
theorem st40 : IsSt Try.prog 40 [.int .i64 0, .slice none 0 0] := ⟨zc40, _, Try.underlying40, by kernel_rfl⟩
theorem fs40_0 : IsFs Try.prog 40 0 0 1 := ⟨_, _, Try.underlying40, rfl, rfl, by kernel_rfl⟩
theorem fs40_1 : IsFs Try.prog 40 1 1 1 := ⟨_, _, Try.underlying40, rfl, rfl, by kernel_rfl⟩
theorem st45 : IsSt Try.prog 45 [.int .i64 0, .slice none 0 0] := ⟨zc45, _, Try.underlying45, by kernel_rfl⟩
theorem fs45_0 : IsFs Try.prog 45 0 0 1 := ⟨_, _, Try.underlying45, rfl, rfl, by kernel_rfl⟩
theorem fs45_1 : IsFs Try.prog 45 1 1 1 := ⟨_, _, Try.underlying45, rfl, rfl, by kernel_rfl⟩
theorem st52 : IsSt Try.prog 52 [.int .i64 0, .int .i64 0, .int .i64 0, .int .i64 0, .int .i64 0, .bool false, .int .i64 0, .bool false, .slice none 0 0] := ⟨zc52, _, Try.underlying52, by kernel_rfl⟩
theorem fs52_0 : IsFs Try.prog 52 0 0 1 := ⟨_, _, Try.underlying52, rfl, rfl, by kernel_rfl⟩
theorem fs52_1 : IsFs Try.prog 52 1 1 1 := ⟨_, _, Try.underlying52, rfl, rfl, by kernel_rfl⟩
theorem fs52_2 : IsFs Try.prog 52 2 2 1 := ⟨_, _, Try.underlying52, rfl, rfl, by kernel_rfl⟩
theorem fs52_3 : IsFs Try.prog 52 3 3 1 := ⟨_, _, Try.underlying52, rfl, rfl, by kernel_rfl⟩
theorem fs52_4 : IsFs Try.prog 52 4 4 1 := ⟨_, _, Try.underlying52, rfl, rfl, by kernel_rfl⟩
theorem fs52_5 : IsFs Try.prog 52 5 5 1 := ⟨_, _, Try.underlying52, rfl, rfl, by kernel_rfl⟩
theorem fs52_6 : IsFs Try.prog 52 6 6 1 := ⟨_, _, Try.underlying52, rfl, rfl, by kernel_rfl⟩
theorem fs52_7 : IsFs Try.prog 52 7 7 1 := ⟨_, _, Try.underlying52, rfl, rfl, by kernel_rfl⟩
theorem fs52_8 : IsFs Try.prog 52 8 8 1 := ⟨_, _, Try.underlying52, rfl, rfl, by kernel_rfl⟩
theorem st67 : IsSt Try.prog 67 [.slice none 0 0, .int .i64 0, .bool false] := ⟨zc67, _, Try.underlying67, by kernel_rfl⟩
theorem fs67_0 : IsFs Try.prog 67 0 0 1 := ⟨_, _, Try.underlying67, rfl, rfl, by kernel_rfl⟩
theorem fs67_1 : IsFs Try.prog 67 1 1 1 := ⟨_, _, Try.underlying67, rfl, rfl, by kernel_rfl⟩
theorem fs67_2 : IsFs Try.prog 67 2 2 1 := ⟨_, _, Try.underlying67, rfl, rfl, by kernel_rfl⟩
theorem st108 : IsSt Try.prog 108 [.slice none 0 0, .int .i64 0] := ⟨zc108, _, Try.underlying108, by kernel_rfl⟩
theorem fs108_0 : IsFs Try.prog 108 0 0 1 := ⟨_, _, Try.underlying108, rfl, rfl, by kernel_rfl⟩
theorem fs108_1 : IsFs Try.prog 108 1 1 1 := ⟨_, _, Try.underlying108, rfl, rfl, by kernel_rfl⟩
theorem st115 : IsSt Try.prog 115 [.slice none 0 0, .int .i64 0, .bool false] := ⟨zc115, _, Try.underlying115, by kernel_rfl⟩
theorem fs115_0 : IsFs Try.prog 115 0 0 1 := ⟨_, _, Try.underlying115, rfl, rfl, by kernel_rfl⟩
theorem fs115_1 : IsFs Try.prog 115 1 1 1 := ⟨_, _, Try.underlying115, rfl, rfl, by kernel_rfl⟩
theorem fs115_2 : IsFs Try.prog 115 2 2 1 := ⟨_, _, Try.underlying115, rfl, rfl, by kernel_rfl⟩
theorem fl24_0 : IsFl Try.prog 24 0 0 := ⟨_, _, Try.underlying24, rfl, rfl, by kernel_rfl⟩
theorem fl24_1 : IsFl Try.prog 24 1 1 := ⟨_, _, Try.underlying24, rfl, rfl, by kernel_rfl⟩
theorem fl24_2 : IsFl Try.prog 24 2 2 := ⟨_, _, Try.underlying24, rfl, rfl, by kernel_rfl⟩
theorem fl24_3 : IsFl Try.prog 24 3 3 := ⟨_, _, Try.underlying24, rfl, rfl, by kernel_rfl⟩
theorem fl24_4 : IsFl Try.prog 24 4 4 := ⟨_, _, Try.underlying24, rfl, rfl, by kernel_rfl⟩
theorem fl24_5 : IsFl Try.prog 24 5 5 := ⟨_, _, Try.underlying24, rfl, rfl, by kernel_rfl⟩
theorem fl24_6 : IsFl Try.prog 24 6 6 := ⟨_, _, Try.underlying24, rfl, rfl, by kernel_rfl⟩
theorem fl24_7 : IsFl Try.prog 24 7 7 := ⟨_, _, Try.underlying24, rfl, rfl, by kernel_rfl⟩
theorem fl24_8 : IsFl Try.prog 24 8 8 := ⟨_, _, Try.underlying24, rfl, rfl, by kernel_rfl⟩
theorem fl40_0 : IsFl Try.prog 40 0 0 := ⟨_, _, Try.underlying40, rfl, rfl, by kernel_rfl⟩
theorem fl40_1 : IsFl Try.prog 40 1 1 := ⟨_, _, Try.underlying40, rfl, rfl, by kernel_rfl⟩
theorem fl45_0 : IsFl Try.prog 45 0 0 := ⟨_, _, Try.underlying45, rfl, rfl, by kernel_rfl⟩
theorem fl45_1 : IsFl Try.prog 45 1 1 := ⟨_, _, Try.underlying45, rfl, rfl, by kernel_rfl⟩
theorem fl52_0 : IsFl Try.prog 52 0 0 := ⟨_, _, Try.underlying52, rfl, rfl, by kernel_rfl⟩
theorem fl52_1 : IsFl Try.prog 52 1 1 := ⟨_, _, Try.underlying52, rfl, rfl, by kernel_rfl⟩
theorem fl52_2 : IsFl Try.prog 52 2 2 := ⟨_, _, Try.underlying52, rfl, rfl, by kernel_rfl⟩
theorem fl52_3 : IsFl Try.prog 52 3 3 := ⟨_, _, Try.underlying52, rfl, rfl, by kernel_rfl⟩
theorem fl52_4 : IsFl Try.prog 52 4 4 := ⟨_, _, Try.underlying52, rfl, rfl, by kernel_rfl⟩
theorem fl52_5 : IsFl Try.prog 52 5 5 := ⟨_, _, Try.underlying52, rfl, rfl, by kernel_rfl⟩
theorem fl52_6 : IsFl Try.prog 52 6 6 := ⟨_, _, Try.underlying52, rfl, rfl, by kernel_rfl⟩
theorem fl52_7 : IsFl Try.prog 52 7 7 := ⟨_, _, Try.underlying52, rfl, rfl, by kernel_rfl⟩
theorem fl52_8 : IsFl Try.prog 52 8 8 := ⟨_, _, Try.underlying52, rfl, rfl, by kernel_rfl⟩
theorem fl67_0 : IsFl Try.prog 67 0 0 := ⟨_, _, Try.underlying67, rfl, rfl, by kernel_rfl⟩
theorem fl67_1 : IsFl Try.prog 67 1 1 := ⟨_, _, Try.underlying67, rfl, rfl, by kernel_rfl⟩
theorem fl67_2 : IsFl Try.prog 67 2 2 := ⟨_, _, Try.underlying67, rfl, rfl, by kernel_rfl⟩
theorem fl108_0 : IsFl Try.prog 108 0 0 := ⟨_, _, Try.underlying108, rfl, rfl, by kernel_rfl⟩
theorem fl108_1 : IsFl Try.prog 108 1 1 := ⟨_, _, Try.underlying108, rfl, rfl, by kernel_rfl⟩
theorem fl115_0 : IsFl Try.prog 115 0 0 := ⟨_, _, Try.underlying115, rfl, rfl, by kernel_rfl⟩
theorem fl115_1 : IsFl Try.prog 115 1 1 := ⟨_, _, Try.underlying115, rfl, rfl, by kernel_rfl⟩
theorem fl115_2 : IsFl Try.prog 115 2 2 := ⟨_, _, Try.underlying115, rfl, rfl, by kernel_rfl⟩
theorem sl22 : IsSl Try.prog 22 5 1 := ⟨Try.underlying22, by kernel_rfl⟩
theorem el22 : IsEl Try.prog 22 5 1 1 [.int .u8 0] := isEl Try.underlying22 (by kernel_rfl) (by kernel_rfl) rfl rfl
theorem sl27 : IsSl Try.prog 27 24 9 := ⟨Try.underlying27, by kernel_rfl⟩
theorem el27 : IsEl Try.prog 27 24 9 88 [.int .i64 0, .int .i64 0, .int .i64 0, .int .i64 0, .int .i64 0, .bool false, .int .i64 0, .bool false, .slice none 0 0] := isEl Try.underlying27 (by kernel_rfl) (by kernel_rfl) rfl rfl
theorem sl38 : IsSl Try.prog 38 115 3 := ⟨Try.underlying38, by kernel_rfl⟩
theorem el38 : IsEl Try.prog 38 115 3 40 [.slice none 0 0, .int .i64 0, .bool false] := isEl Try.underlying38 (by kernel_rfl) (by kernel_rfl) rfl rfl
theorem sl43 : IsSl Try.prog 43 67 3 := ⟨Try.underlying43, by kernel_rfl⟩
theorem el43 : IsEl Try.prog 43 67 3 40 [.slice none 0 0, .int .i64 0, .bool false] := isEl Try.underlying43 (by kernel_rfl) (by kernel_rfl) rfl rfl
theorem sl73 : IsSl Try.prog 73 3 1 := ⟨Try.underlying73, by kernel_rfl⟩
theorem el73 : IsEl Try.prog 73 3 1 8 [.int .i64 0] := isEl Try.underlying73 (by kernel_rfl) (by kernel_rfl) rfl rfl
theorem sl110 : IsSl Try.prog 110 4 1 := ⟨Try.underlying110, by kernel_rfl⟩
theorem el110 : IsEl Try.prog 110 4 1 1 [.bool false] := isEl Try.underlying110 (by kernel_rfl) (by kernel_rfl) rfl rfl
theorem sl113 : IsSl Try.prog 113 52 9 := ⟨Try.underlying113, by kernel_rfl⟩
theorem el113 : IsEl Try.prog 113 52 9 88 [.int .i64 0, .int .i64 0, .int .i64 0, .int .i64 0, .int .i64 0, .bool false, .int .i64 0, .bool false, .slice none 0 0] := isEl Try.underlying113 (by kernel_rfl) (by kernel_rfl) rfl rfl
theorem pf11 : plainFn Try.prog 11 = true := by kernel_rfl
theorem pf12 : plainFn Try.prog 12 = true := by kernel_rfl
theorem pf13 : plainFn Try.prog 13 = true := by kernel_rfl
theorem pf14 : plainFn Try.prog 14 = true := by kernel_rfl
theorem pf15 : plainFn Try.prog 15 = true := by kernel_rfl
theorem pf16 : plainFn Try.prog 16 = true := by kernel_rfl
theorem pf17 : plainFn Try.prog 17 = true := by kernel_rfl
theorem pf18 : plainFn Try.prog 18 = true := by kernel_rfl
theorem pf19 : plainFn Try.prog 19 = true := by kernel_rfl
theorem pf20 : plainFn Try.prog 20 = true := by kernel_rfl
theorem pf21 : plainFn Try.prog 21 = true := by kernel_rfl
theorem pf22 : plainFn Try.prog 22 = true := by kernel_rfl
theorem pf23 : plainFn Try.prog 23 = true := by kernel_rfl
theorem pf24 : plainFn Try.prog 24 = true := by kernel_rfl
theorem pf25 : plainFn Try.prog 25 = true := by kernel_rfl
theorem pf26 : plainFn Try.prog 26 = true := by kernel_rfl
theorem pf27 : plainFn Try.prog 27 = true := by kernel_rfl
theorem pf28 : plainFn Try.prog 28 = true := by kernel_rfl
theorem pf29 : plainFn Try.prog 29 = true := by kernel_rfl
theorem pf30 : plainFn Try.prog 30 = true := by kernel_rfl
theorem pf31 : plainFn Try.prog 31 = true := by kernel_rfl
theorem pf32 : plainFn Try.prog 32 = true := by kernel_rfl
theorem pf33 : plainFn Try.prog 33 = true := by kernel_rfl
theorem pf34 : plainFn Try.prog 34 = true := by kernel_rfl
theorem pf35 : plainFn Try.prog 35 = true := by kernel_rfl
theorem pf36 : plainFn Try.prog 36 = true := by kernel_rfl
theorem pf37 : plainFn Try.prog 37 = true := by kernel_rfl
theorem pf38 : plainFn Try.prog 38 = true := by kernel_rfl
theorem pf39 : plainFn Try.prog 39 = true := by kernel_rfl
theorem pf40 : plainFn Try.prog 40 = true := by kernel_rfl
theorem pf41 : plainFn Try.prog 41 = true := by kernel_rfl
theorem pf42 : plainFn Try.prog 42 = true := by kernel_rfl
theorem pf43 : plainFn Try.prog 43 = true := by kernel_rfl
theorem pf44 : plainFn Try.prog 44 = true := by kernel_rfl
theorem pf45 : plainFn Try.prog 45 = true := by kernel_rfl
theorem pf46 : plainFn Try.prog 46 = true := by kernel_rfl
theorem pf47 : plainFn Try.prog 47 = true := by kernel_rfl
theorem pf48 : plainFn Try.prog 48 = true := by kernel_rfl
theorem pf49 : plainFn Try.prog 49 = true := by kernel_rfl
theorem pf50 : plainFn Try.prog 50 = true := by kernel_rfl
theorem pf51 : plainFn Try.prog 51 = true := by kernel_rfl
theorem pf52 : plainFn Try.prog 52 = true := by kernel_rfl
theorem pf53 : plainFn Try.prog 53 = true := by kernel_rfl
theorem pf54 : plainFn Try.prog 54 = true := by kernel_rfl
theorem pf55 : plainFn Try.prog 55 = true := by kernel_rfl
theorem pf56 : plainFn Try.prog 56 = true := by kernel_rfl
theorem pf57 : plainFn Try.prog 57 = true := by kernel_rfl
theorem pf58 : plainFn Try.prog 58 = true := by kernel_rfl
theorem pf59 : plainFn Try.prog 59 = true := by kernel_rfl
theorem pf60 : plainFn Try.prog 60 = true := by kernel_rfl
theorem pf61 : plainFn Try.prog 61 = true := by kernel_rfl
theorem pf62 : plainFn Try.prog 62 = true := by kernel_rfl
theorem pf63 : plainFn Try.prog 63 = true := by kernel_rfl
theorem pf64 : plainFn Try.prog 64 = true := by kernel_rfl
theorem pf65 : plainFn Try.prog 65 = true := by kernel_rfl
theorem pf66 : plainFn Try.prog 66 = true := by kernel_rfl
theorem pf67 : plainFn Try.prog 67 = true := by kernel_rfl
theorem pf68 : plainFn Try.prog 68 = true := by kernel_rfl
theorem pf69 : plainFn Try.prog 69 = true := by kernel_rfl
theorem pf70 : plainFn Try.prog 70 = true := by kernel_rfl
theorem pf71 : plainFn Try.prog 71 = true := by kernel_rfl
theorem pf72 : plainFn Try.prog 72 = true := by kernel_rfl
theorem pf73 : plainFn Try.prog 73 = true := by kernel_rfl
theorem pf74 : plainFn Try.prog 74 = true := by kernel_rfl
theorem pf75 : plainFn Try.prog 75 = true := by kernel_rfl
theorem pf76 : plainFn Try.prog 76 = true := by kernel_rfl
theorem pf77 : plainFn Try.prog 77 = true := by kernel_rfl
theorem pf78 : plainFn Try.prog 78 = true := by kernel_rfl
theorem pf80 : plainFn Try.prog 80 = true := by kernel_rfl
theorem pf81 : plainFn Try.prog 81 = true := by kernel_rfl
theorem pf82 : plainFn Try.prog 82 = true := by kernel_rfl
theorem pf83 : plainFn Try.prog 83 = true := by kernel_rfl
theorem pf84 : plainFn Try.prog 84 = true := by kernel_rfl
theorem pf85 : plainFn Try.prog 85 = true := by kernel_rfl
theorem pf86 : plainFn Try.prog 86 = true := by kernel_rfl
theorem pf88 : plainFn Try.prog 88 = true := by kernel_rfl
theorem pf89 : plainFn Try.prog 89 = true := by kernel_rfl
theorem pf90 : plainFn Try.prog 90 = true := by kernel_rfl
theorem pf91 : plainFn Try.prog 91 = true := by kernel_rfl
theorem pf92 : plainFn Try.prog 92 = true := by kernel_rfl
theorem pf93 : plainFn Try.prog 93 = true := by kernel_rfl
theorem pf94 : plainFn Try.prog 94 = true := by kernel_rfl
theorem pf95 : plainFn Try.prog 95 = true := by kernel_rfl
theorem pf96 : plainFn Try.prog 96 = true := by kernel_rfl
theorem pf97 : plainFn Try.prog 97 = true := by kernel_rfl
theorem pf98 : plainFn Try.prog 98 = true := by kernel_rfl
theorem pf99 : plainFn Try.prog 99 = true := by kernel_rfl
theorem pf100 : plainFn Try.prog 100 = true := by kernel_rfl
theorem pf101 : plainFn Try.prog 101 = true := by kernel_rfl
theorem pf102 : plainFn Try.prog 102 = true := by kernel_rfl
theorem pf103 : plainFn Try.prog 103 = true := by kernel_rfl
theorem pf104 : plainFn Try.prog 104 = true := by kernel_rfl
theorem pf105 : plainFn Try.prog 105 = true := by kernel_rfl
theorem pf106 : plainFn Try.prog 106 = true := by kernel_rfl
theorem pf107 : plainFn Try.prog 107 = true := by kernel_rfl
theorem pf108 : plainFn Try.prog 108 = true := by kernel_rfl
theorem pf109 : plainFn Try.prog 109 = true := by kernel_rfl
theorem pf110 : plainFn Try.prog 110 = true := by kernel_rfl
theorem pf112 : plainFn Try.prog 112 = true := by kernel_rfl
theorem pf113 : plainFn Try.prog 113 = true := by kernel_rfl
theorem pf114 : plainFn Try.prog 114 = true := by kernel_rfl
theorem pf115 : plainFn Try.prog 115 = true := by kernel_rfl
theorem pf116 : plainFn Try.prog 116 = true := by kernel_rfl
theorem pf117 : plainFn Try.prog 117 = true := by kernel_rfl
theorem pf118 : plainFn Try.prog 118 = true := by kernel_rfl
theorem pf119 : plainFn Try.prog 119 = true := by kernel_rfl
theorem pf120 : plainFn Try.prog 120 = true := by kernel_rfl
theorem mixed : Try.prog.follows .mixedOrders = true := by kernel_rfl
end Go.Proofs.Ytodhjpnfokkfeaa.T
