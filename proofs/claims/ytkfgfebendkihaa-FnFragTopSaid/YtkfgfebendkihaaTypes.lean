/- What the program's types are: cells, zero values, fields. -/
import Derived.Test.YtkfgfebendkihaaProg
import Derived.KernelRfl
import Derived.ProofKit
import Derived.Test.YtkfgfebendkihaaSymd
namespace Go.Proofs.Ytkfgfebendkihaa.T
open Go Go.RowKit
theorem sc3 : IsSc Try.prog 3 := ⟨_, Try.underlying3, rfl, by kernel_rfl⟩
theorem sc4 : IsSc Try.prog 4 := ⟨_, Try.underlying4, rfl, by kernel_rfl⟩
theorem sc5 : IsSc Try.prog 5 := ⟨_, Try.underlying5, rfl, by kernel_rfl⟩
theorem sc22 : IsSc Try.prog 22 := ⟨_, Try.underlying22, rfl, by kernel_rfl⟩
theorem rw24 : IsRw Try.prog 24 9 := ⟨_, Try.underlying24, rfl, by kernel_rfl⟩
theorem rw27 : IsRw Try.prog 27 9 := ⟨_, Try.underlying27, rfl, by kernel_rfl⟩
theorem sc38 : IsSc Try.prog 38 := ⟨_, Try.underlying38, rfl, by kernel_rfl⟩
theorem sc50 : IsSc Try.prog 50 := ⟨_, Try.underlying50, rfl, by kernel_rfl⟩
theorem sc55 : IsSc Try.prog 55 := ⟨_, Try.underlying55, rfl, by kernel_rfl⟩
theorem rw57 : IsRw Try.prog 57 2 := ⟨_, Try.underlying57, rfl, by kernel_rfl⟩
theorem sc60 : IsSc Try.prog 60 := ⟨_, Try.underlying60, rfl, by kernel_rfl⟩
theorem rw62 : IsRw Try.prog 62 2 := ⟨_, Try.underlying62, rfl, by kernel_rfl⟩
theorem rw89 : IsRw Try.prog 89 3 := ⟨_, Try.underlying89, rfl, by kernel_rfl⟩
theorem rw94 : IsRw Try.prog 94 2 := ⟨_, Try.underlying94, rfl, by kernel_rfl⟩
theorem rw100 : IsRw Try.prog 100 3 := ⟨_, Try.underlying100, rfl, by kernel_rfl⟩
theorem zc3 : zc Try.prog 3 = some [.int .i64 0] := by kernel_rfl
theorem zc4 : zc Try.prog 4 = some [.bool false] := by kernel_rfl
theorem zc5 : zc Try.prog 5 = some [.int .u8 0] := by kernel_rfl
theorem zc22 : zc Try.prog 22 = some [.slice none 0 0] := by kernel_rfl
theorem zc24 : zc Try.prog 24 = some [.int .i64 0, .int .i64 0, .int .i64 0, .int .i64 0, .int .i64 0, .bool false, .int .i64 0, .bool false, .slice none 0 0] := by kernel_rfl
theorem zc27 : zc Try.prog 27 = some [.int .i64 0, .int .i64 0, .int .i64 0, .int .i64 0, .int .i64 0, .bool false, .int .i64 0, .bool false, .slice none 0 0] := by kernel_rfl
theorem zc38 : zc Try.prog 38 = some [.slice none 0 0] := by kernel_rfl
theorem zc50 : zc Try.prog 50 = some [.slice none 0 0] := by kernel_rfl
theorem zc55 : zc Try.prog 55 = some [.slice none 0 0] := by kernel_rfl
theorem zc57 : zc Try.prog 57 = some [.int .i64 0, .slice none 0 0] := by kernel_rfl
theorem zc60 : zc Try.prog 60 = some [.slice none 0 0] := by kernel_rfl
theorem zc62 : zc Try.prog 62 = some [.int .i64 0, .slice none 0 0] := by kernel_rfl
theorem zc89 : zc Try.prog 89 = some [.slice none 0 0, .int .i64 0, .bool false] := by kernel_rfl
theorem zc94 : zc Try.prog 94 = some [.slice none 0 0, .int .i64 0] := by kernel_rfl
theorem zc100 : zc Try.prog 100 = some [.slice none 0 0, .int .i64 0, .bool false] := by kernel_rfl
theorem st24 : IsSt Try.prog 24 [.int .i64 0, .int .i64 0, .int .i64 0, .int .i64 0, .int .i64 0, .bool false, .int .i64 0, .bool false, .slice none 0 0] := ⟨zc24, _, Try.underlying24, by kernel_rfl⟩
theorem fs24_0 : IsFs Try.prog 24 0 0 1 := ⟨_, _, Try.underlying24, rfl, rfl, by kernel_rfl⟩
theorem fs24_1 : IsFs Try.prog 24 1 1 1 := ⟨_, _, Try.underlying24, rfl, rfl, by kernel_rfl⟩
theorem fs24_2 : IsFs Try.prog 24 2 2 1 := ⟨_, _, Try.underlying24, rfl, rfl, by kernel_rfl⟩
theorem fs24_3 : IsFs Try.prog 24 3 3 1 := ⟨_, _, Try.underlying24, rfl, rfl, by kernel_rfl⟩
theorem fs24_4 : IsFs Try.prog 24 4 4 1 := ⟨_, _, Try.underlying24, rfl, rfl, by kernel_rfl⟩
theorem fs24_5 : IsFs Try.prog 24 5 5 1 := ⟨_, _, Try.underlying24, rfl, rfl, by kernel_rfl⟩
theorem fs24_6 : IsFs Try.prog 24 6 6 1 := ⟨_, _, Try.underlying24, rfl, rfl, by kernel_rfl⟩
theorem fs24_7 : IsFs Try.prog 24 7 7 1 := ⟨_, _, Try.underlying24, rfl, rfl, by kernel_rfl⟩
theorem fs24_8 : IsFs Try.prog 24 8 8 1 := ⟨_, _, Try.underlying24, rfl, rfl, by kernel_rfl⟩
theorem st27 : IsSt Try.prog 27 [.int .i64 0, .int .i64 0, .int .i64 0, .int .i64 0, .int .i64 0, .bool false, .int .i64 0, .bool false, .slice none 0 0] := ⟨zc27, _, Try.underlying27, by kernel_rfl⟩
theorem fs27_0 : IsFs Try.prog 27 0 0 1 := ⟨_, _, Try.underlying27, rfl, rfl, by kernel_rfl⟩
theorem fs27_1 : IsFs Try.prog 27 1 1 1 := ⟨_, _, Try.underlying27, rfl, rfl, by kernel_rfl⟩
theorem fs27_2 : IsFs Try.prog 27 2 2 1 := ⟨_, _, Try.underlying27, rfl, rfl, by kernel_rfl⟩
theorem fs27_3 : IsFs Try.prog 27 3 3 1 := ⟨_, _, Try.underlying27, rfl, rfl, by kernel_rfl⟩
theorem fs27_4 : IsFs Try.prog 27 4 4 1 := ⟨_, _, Try.underlying27, rfl, rfl, by kernel_rfl⟩
theorem fs27_5 : IsFs Try.prog 27 5 5 1 := ⟨_, _, Try.underlying27, rfl, rfl, by kernel_rfl⟩
theorem fs27_6 : IsFs Try.prog 27 6 6 1 := ⟨_, _, Try.underlying27, rfl, rfl, by kernel_rfl⟩
theorem fs27_7 : IsFs Try.prog 27 7 7 1 := ⟨_, _, Try.underlying27, rfl, rfl, by kernel_rfl⟩
theorem fs27_8 : IsFs Try.prog 27 8 8 1 := ⟨_, _, Try.underlying27, rfl, rfl, by kernel_rfl⟩
theorem st57 : IsSt Try.prog 57 [.int .i64 0, .slice none 0 0] := ⟨zc57, _, Try.underlying57, by kernel_rfl⟩
theorem fs57_0 : IsFs Try.prog 57 0 0 1 := ⟨_, _, Try.underlying57, rfl, rfl, by kernel_rfl⟩
theorem fs57_1 : IsFs Try.prog 57 1 1 1 := ⟨_, _, Try.underlying57, rfl, rfl, by kernel_rfl⟩
theorem st62 : IsSt Try.prog 62 [.int .i64 0, .slice none 0 0] := ⟨zc62, _, Try.underlying62, by kernel_rfl⟩
theorem fs62_0 : IsFs Try.prog 62 0 0 1 := ⟨_, _, Try.underlying62, rfl, rfl, by kernel_rfl⟩
theorem fs62_1 : IsFs Try.prog 62 1 1 1 := ⟨_, _, Try.underlying62, rfl, rfl, by kernel_rfl⟩
theorem st89 : IsSt Try.prog 89 [.slice none 0 0, .int .i64 0, .bool false] := ⟨zc89, _, Try.underlying89, by kernel_rfl⟩
theorem fs89_0 : IsFs Try.prog 89 0 0 1 := ⟨_, _, Try.underlying89, rfl, rfl, by kernel_rfl⟩
theorem fs89_1 : IsFs Try.prog 89 1 1 1 := ⟨_, _, Try.underlying89, rfl, rfl, by kernel_rfl⟩
theorem fs89_2 : IsFs Try.prog 89 2 2 1 := ⟨_, _, Try.underlying89, rfl, rfl, by kernel_rfl⟩
theorem st94 : IsSt Try.prog 94 [.slice none 0 0, .int .i64 0] := ⟨zc94, _, Try.underlying94, by kernel_rfl⟩
theorem fs94_0 : IsFs Try.prog 94 0 0 1 := ⟨_, _, Try.underlying94, rfl, rfl, by kernel_rfl⟩
theorem fs94_1 : IsFs Try.prog 94 1 1 1 := ⟨_, _, Try.underlying94, rfl, rfl, by kernel_rfl⟩
theorem st100 : IsSt Try.prog 100 [.slice none 0 0, .int .i64 0, .bool false] := ⟨zc100, _, Try.underlying100, by kernel_rfl⟩
theorem fs100_0 : IsFs Try.prog 100 0 0 1 := ⟨_, _, Try.underlying100, rfl, rfl, by kernel_rfl⟩
theorem fs100_1 : IsFs Try.prog 100 1 1 1 := ⟨_, _, Try.underlying100, rfl, rfl, by kernel_rfl⟩
theorem fs100_2 : IsFs Try.prog 100 2 2 1 := ⟨_, _, Try.underlying100, rfl, rfl, by kernel_rfl⟩
theorem fl24_0 : IsFl Try.prog 24 0 0 := ⟨_, _, Try.underlying24, rfl, rfl, by kernel_rfl⟩
theorem fl24_1 : IsFl Try.prog 24 1 1 := ⟨_, _, Try.underlying24, rfl, rfl, by kernel_rfl⟩
theorem fl24_2 : IsFl Try.prog 24 2 2 := ⟨_, _, Try.underlying24, rfl, rfl, by kernel_rfl⟩
theorem fl24_3 : IsFl Try.prog 24 3 3 := ⟨_, _, Try.underlying24, rfl, rfl, by kernel_rfl⟩
theorem fl24_4 : IsFl Try.prog 24 4 4 := ⟨_, _, Try.underlying24, rfl, rfl, by kernel_rfl⟩
theorem fl24_5 : IsFl Try.prog 24 5 5 := ⟨_, _, Try.underlying24, rfl, rfl, by kernel_rfl⟩
theorem fl24_6 : IsFl Try.prog 24 6 6 := ⟨_, _, Try.underlying24, rfl, rfl, by kernel_rfl⟩
theorem fl24_7 : IsFl Try.prog 24 7 7 := ⟨_, _, Try.underlying24, rfl, rfl, by kernel_rfl⟩
theorem fl24_8 : IsFl Try.prog 24 8 8 := ⟨_, _, Try.underlying24, rfl, rfl, by kernel_rfl⟩
theorem fl27_0 : IsFl Try.prog 27 0 0 := ⟨_, _, Try.underlying27, rfl, rfl, by kernel_rfl⟩
theorem fl27_1 : IsFl Try.prog 27 1 1 := ⟨_, _, Try.underlying27, rfl, rfl, by kernel_rfl⟩
theorem fl27_2 : IsFl Try.prog 27 2 2 := ⟨_, _, Try.underlying27, rfl, rfl, by kernel_rfl⟩
theorem fl27_3 : IsFl Try.prog 27 3 3 := ⟨_, _, Try.underlying27, rfl, rfl, by kernel_rfl⟩
theorem fl27_4 : IsFl Try.prog 27 4 4 := ⟨_, _, Try.underlying27, rfl, rfl, by kernel_rfl⟩
theorem fl27_5 : IsFl Try.prog 27 5 5 := ⟨_, _, Try.underlying27, rfl, rfl, by kernel_rfl⟩
theorem fl27_6 : IsFl Try.prog 27 6 6 := ⟨_, _, Try.underlying27, rfl, rfl, by kernel_rfl⟩
theorem fl27_7 : IsFl Try.prog 27 7 7 := ⟨_, _, Try.underlying27, rfl, rfl, by kernel_rfl⟩
theorem fl27_8 : IsFl Try.prog 27 8 8 := ⟨_, _, Try.underlying27, rfl, rfl, by kernel_rfl⟩
theorem fl57_0 : IsFl Try.prog 57 0 0 := ⟨_, _, Try.underlying57, rfl, rfl, by kernel_rfl⟩
theorem fl57_1 : IsFl Try.prog 57 1 1 := ⟨_, _, Try.underlying57, rfl, rfl, by kernel_rfl⟩
theorem fl62_0 : IsFl Try.prog 62 0 0 := ⟨_, _, Try.underlying62, rfl, rfl, by kernel_rfl⟩
theorem fl62_1 : IsFl Try.prog 62 1 1 := ⟨_, _, Try.underlying62, rfl, rfl, by kernel_rfl⟩
theorem fl89_0 : IsFl Try.prog 89 0 0 := ⟨_, _, Try.underlying89, rfl, rfl, by kernel_rfl⟩
theorem fl89_1 : IsFl Try.prog 89 1 1 := ⟨_, _, Try.underlying89, rfl, rfl, by kernel_rfl⟩
theorem fl89_2 : IsFl Try.prog 89 2 2 := ⟨_, _, Try.underlying89, rfl, rfl, by kernel_rfl⟩
theorem fl94_0 : IsFl Try.prog 94 0 0 := ⟨_, _, Try.underlying94, rfl, rfl, by kernel_rfl⟩
theorem fl94_1 : IsFl Try.prog 94 1 1 := ⟨_, _, Try.underlying94, rfl, rfl, by kernel_rfl⟩
theorem fl100_0 : IsFl Try.prog 100 0 0 := ⟨_, _, Try.underlying100, rfl, rfl, by kernel_rfl⟩
theorem fl100_1 : IsFl Try.prog 100 1 1 := ⟨_, _, Try.underlying100, rfl, rfl, by kernel_rfl⟩
theorem fl100_2 : IsFl Try.prog 100 2 2 := ⟨_, _, Try.underlying100, rfl, rfl, by kernel_rfl⟩
theorem sl22 : IsSl Try.prog 22 5 1 := ⟨Try.underlying22, by kernel_rfl⟩
theorem el22 : IsEl Try.prog 22 5 1 1 [.int .u8 0] := isEl Try.underlying22 (by kernel_rfl) (by kernel_rfl) rfl rfl
theorem sl38 : IsSl Try.prog 38 27 9 := ⟨Try.underlying38, by kernel_rfl⟩
theorem el38 : IsEl Try.prog 38 27 9 88 [.int .i64 0, .int .i64 0, .int .i64 0, .int .i64 0, .int .i64 0, .bool false, .int .i64 0, .bool false, .slice none 0 0] := isEl Try.underlying38 (by kernel_rfl) (by kernel_rfl) rfl rfl
theorem sl50 : IsSl Try.prog 50 24 9 := ⟨Try.underlying50, by kernel_rfl⟩
theorem el50 : IsEl Try.prog 50 24 9 88 [.int .i64 0, .int .i64 0, .int .i64 0, .int .i64 0, .int .i64 0, .bool false, .int .i64 0, .bool false, .slice none 0 0] := isEl Try.underlying50 (by kernel_rfl) (by kernel_rfl) rfl rfl
theorem sl55 : IsSl Try.prog 55 100 3 := ⟨Try.underlying55, by kernel_rfl⟩
theorem el55 : IsEl Try.prog 55 100 3 40 [.slice none 0 0, .int .i64 0, .bool false] := isEl Try.underlying55 (by kernel_rfl) (by kernel_rfl) rfl rfl
theorem sl60 : IsSl Try.prog 60 89 3 := ⟨Try.underlying60, by kernel_rfl⟩
theorem el60 : IsEl Try.prog 60 89 3 40 [.slice none 0 0, .int .i64 0, .bool false] := isEl Try.underlying60 (by kernel_rfl) (by kernel_rfl) rfl rfl
theorem sl77 : IsSl Try.prog 77 3 1 := ⟨Try.underlying77, by kernel_rfl⟩
theorem el77 : IsEl Try.prog 77 3 1 8 [.int .i64 0] := isEl Try.underlying77 (by kernel_rfl) (by kernel_rfl) rfl rfl
theorem sl96 : IsSl Try.prog 96 4 1 := ⟨Try.underlying96, by kernel_rfl⟩
theorem el96 : IsEl Try.prog 96 4 1 1 [.bool false] := isEl Try.underlying96 (by kernel_rfl) (by kernel_rfl) rfl rfl
theorem pf15 : plainFn Try.prog 15 = true := by kernel_rfl
theorem pf16 : plainFn Try.prog 16 = true := by kernel_rfl
theorem pf17 : plainFn Try.prog 17 = true := by kernel_rfl
theorem pf18 : plainFn Try.prog 18 = true := by kernel_rfl
theorem pf19 : plainFn Try.prog 19 = true := by kernel_rfl
theorem pf20 : plainFn Try.prog 20 = true := by kernel_rfl
theorem pf21 : plainFn Try.prog 21 = true := by kernel_rfl
theorem pf22 : plainFn Try.prog 22 = true := by kernel_rfl
theorem pf23 : plainFn Try.prog 23 = true := by kernel_rfl
theorem pf24 : plainFn Try.prog 24 = true := by kernel_rfl
theorem pf25 : plainFn Try.prog 25 = true := by kernel_rfl
theorem pf26 : plainFn Try.prog 26 = true := by kernel_rfl
theorem pf27 : plainFn Try.prog 27 = true := by kernel_rfl
theorem pf28 : plainFn Try.prog 28 = true := by kernel_rfl
theorem pf29 : plainFn Try.prog 29 = true := by kernel_rfl
theorem pf30 : plainFn Try.prog 30 = true := by kernel_rfl
theorem pf31 : plainFn Try.prog 31 = true := by kernel_rfl
theorem pf32 : plainFn Try.prog 32 = true := by kernel_rfl
theorem pf33 : plainFn Try.prog 33 = true := by kernel_rfl
theorem pf34 : plainFn Try.prog 34 = true := by kernel_rfl
theorem pf35 : plainFn Try.prog 35 = true := by kernel_rfl
theorem pf36 : plainFn Try.prog 36 = true := by kernel_rfl
theorem pf37 : plainFn Try.prog 37 = true := by kernel_rfl
theorem pf38 : plainFn Try.prog 38 = true := by kernel_rfl
theorem pf39 : plainFn Try.prog 39 = true := by kernel_rfl
theorem pf40 : plainFn Try.prog 40 = true := by kernel_rfl
theorem pf41 : plainFn Try.prog 41 = true := by kernel_rfl
theorem pf42 : plainFn Try.prog 42 = true := by kernel_rfl
theorem pf43 : plainFn Try.prog 43 = true := by kernel_rfl
theorem pf44 : plainFn Try.prog 44 = true := by kernel_rfl
theorem pf45 : plainFn Try.prog 45 = true := by kernel_rfl
theorem pf46 : plainFn Try.prog 46 = true := by kernel_rfl
theorem pf47 : plainFn Try.prog 47 = true := by kernel_rfl
theorem pf48 : plainFn Try.prog 48 = true := by kernel_rfl
theorem pf49 : plainFn Try.prog 49 = true := by kernel_rfl
theorem pf50 : plainFn Try.prog 50 = true := by kernel_rfl
theorem pf51 : plainFn Try.prog 51 = true := by kernel_rfl
theorem pf52 : plainFn Try.prog 52 = true := by kernel_rfl
theorem pf53 : plainFn Try.prog 53 = true := by kernel_rfl
theorem pf54 : plainFn Try.prog 54 = true := by kernel_rfl
theorem pf55 : plainFn Try.prog 55 = true := by kernel_rfl
theorem pf56 : plainFn Try.prog 56 = true := by kernel_rfl
theorem pf57 : plainFn Try.prog 57 = true := by kernel_rfl
theorem pf58 : plainFn Try.prog 58 = true := by kernel_rfl
theorem pf59 : plainFn Try.prog 59 = true := by kernel_rfl
theorem pf60 : plainFn Try.prog 60 = true := by kernel_rfl
theorem pf61 : plainFn Try.prog 61 = true := by kernel_rfl
theorem pf62 : plainFn Try.prog 62 = true := by kernel_rfl
theorem pf63 : plainFn Try.prog 63 = true := by kernel_rfl
theorem pf64 : plainFn Try.prog 64 = true := by kernel_rfl
theorem pf65 : plainFn Try.prog 65 = true := by kernel_rfl
theorem pf66 : plainFn Try.prog 66 = true := by kernel_rfl
theorem pf67 : plainFn Try.prog 67 = true := by kernel_rfl
theorem pf68 : plainFn Try.prog 68 = true := by kernel_rfl
theorem pf69 : plainFn Try.prog 69 = true := by kernel_rfl
theorem pf70 : plainFn Try.prog 70 = true := by kernel_rfl
theorem pf71 : plainFn Try.prog 71 = true := by kernel_rfl
theorem pf72 : plainFn Try.prog 72 = true := by kernel_rfl
theorem pf73 : plainFn Try.prog 73 = true := by kernel_rfl
theorem pf74 : plainFn Try.prog 74 = true := by kernel_rfl
theorem pf75 : plainFn Try.prog 75 = true := by kernel_rfl
theorem pf76 : plainFn Try.prog 76 = true := by kernel_rfl
theorem pf77 : plainFn Try.prog 77 = true := by kernel_rfl
theorem pf78 : plainFn Try.prog 78 = true := by kernel_rfl
theorem pf79 : plainFn Try.prog 79 = true := by kernel_rfl
theorem pf80 : plainFn Try.prog 80 = true := by kernel_rfl
theorem pf81 : plainFn Try.prog 81 = true := by kernel_rfl
theorem pf82 : plainFn Try.prog 82 = true := by kernel_rfl
theorem pf83 : plainFn Try.prog 83 = true := by kernel_rfl
theorem pf84 : plainFn Try.prog 84 = true := by kernel_rfl
theorem pf85 : plainFn Try.prog 85 = true := by kernel_rfl
theorem pf86 : plainFn Try.prog 86 = true := by kernel_rfl
theorem pf87 : plainFn Try.prog 87 = true := by kernel_rfl
theorem pf88 : plainFn Try.prog 88 = true := by kernel_rfl
theorem mixed : Try.prog.follows .mixedOrders = true := by kernel_rfl
end Go.Proofs.Ytkfgfebendkihaa.T
