/- What the program's types are: cells, zero values, fields. -/
import Derived.Test.YtoabadliblkemaaProg
import Derived.KernelRfl
import Derived.ProofKit
import Derived.Test.YtoabadliblkemaaSymd
namespace Go.Proofs.Ytoabadliblkemaa.T
open Go Go.RowKit
theorem sc3 : IsSc Try.prog 3 := ⟨_, Try.underlying3, rfl, by kernel_rfl⟩
theorem sc4 : IsSc Try.prog 4 := ⟨_, Try.underlying4, rfl, by kernel_rfl⟩
theorem rw25 : IsRw Try.prog 25 3 := ⟨_, Try.underlying25, rfl, by kernel_rfl⟩
theorem sc28 : IsSc Try.prog 28 := ⟨_, Try.underlying28, rfl, by kernel_rfl⟩
theorem rw40 : IsRw Try.prog 40 2 := ⟨_, Try.underlying40, rfl, by kernel_rfl⟩
theorem rw42 : IsRw Try.prog 42 6 := ⟨_, Try.underlying42, rfl, by kernel_rfl⟩
theorem rw44 : IsRw Try.prog 44 2 := ⟨_, Try.underlying44, rfl, by kernel_rfl⟩
theorem rw46 : IsRw Try.prog 46 6 := ⟨_, Try.underlying46, rfl, by kernel_rfl⟩
theorem zc3 : zc Try.prog 3 = some [.int .i64 0] := by kernel_rfl
theorem zc4 : zc Try.prog 4 = some [.bool false] := by kernel_rfl
theorem zc25 : zc Try.prog 25 = some [.int .i64 0, .int .i64 0, .int .i64 0] := by kernel_rfl
theorem zc28 : zc Try.prog 28 = some [.slice none 0 0] := by kernel_rfl
theorem zc40 : zc Try.prog 40 = some [.int .i64 0, .int .i64 0] := by kernel_rfl
theorem zc42 : zc Try.prog 42 = some [.bool false, .int .i64 0, .int .i64 0, .int .i64 0, .int .i64 0, .int .i64 0] := by kernel_rfl
theorem zc44 : zc Try.prog 44 = some [.int .i64 0, .int .i64 0] := by kernel_rfl
theorem zc46 : zc Try.prog 46 = some [.bool false, .int .i64 0, .int .i64 0, .int .i64 0, .int .i64 0, .int .i64 0] := by kernel_rfl
theorem st25 : IsSt Try.prog 25 [.int .i64 0, .int .i64 0, .int .i64 0] := ⟨zc25, _, Try.underlying25, by kernel_rfl⟩
theorem fs25_0 : IsFs Try.prog 25 0 0 1 := ⟨_, _, Try.underlying25, rfl, rfl, by kernel_rfl⟩
theorem fs25_1 : IsFs Try.prog 25 1 1 1 := ⟨_, _, Try.underlying25, rfl, rfl, by kernel_rfl⟩
theorem fs25_2 : IsFs Try.prog 25 2 2 1 := ⟨_, _, Try.underlying25, rfl, rfl, by kernel_rfl⟩
theorem st40 : IsSt Try.prog 40 [.int .i64 0, .int .i64 0] := ⟨zc40, _, Try.underlying40, by kernel_rfl⟩
theorem fs40_0 : IsFs Try.prog 40 0 0 1 := ⟨_, _, Try.underlying40, rfl, rfl, by kernel_rfl⟩
theorem fs40_1 : IsFs Try.prog 40 1 1 1 := ⟨_, _, Try.underlying40, rfl, rfl, by kernel_rfl⟩
theorem st42 : IsSt Try.prog 42 [.bool false, .int .i64 0, .int .i64 0, .int .i64 0, .int .i64 0, .int .i64 0] := ⟨zc42, _, Try.underlying42, by kernel_rfl⟩
theorem fs42_0 : IsFs Try.prog 42 0 0 1 := ⟨_, _, Try.underlying42, rfl, rfl, by kernel_rfl⟩
theorem fs42_1 : IsFs Try.prog 42 1 1 2 := ⟨_, _, Try.underlying42, rfl, rfl, by kernel_rfl⟩
theorem fs42_2 : IsFs Try.prog 42 2 3 2 := ⟨_, _, Try.underlying42, rfl, rfl, by kernel_rfl⟩
theorem fs42_3 : IsFs Try.prog 42 3 5 1 := ⟨_, _, Try.underlying42, rfl, rfl, by kernel_rfl⟩
theorem st44 : IsSt Try.prog 44 [.int .i64 0, .int .i64 0] := ⟨zc44, _, Try.underlying44, by kernel_rfl⟩
theorem fs44_0 : IsFs Try.prog 44 0 0 1 := ⟨_, _, Try.underlying44, rfl, rfl, by kernel_rfl⟩
theorem fs44_1 : IsFs Try.prog 44 1 1 1 := ⟨_, _, Try.underlying44, rfl, rfl, by kernel_rfl⟩
theorem st46 : IsSt Try.prog 46 [.bool false, .int .i64 0, .int .i64 0, .int .i64 0, .int .i64 0, .int .i64 0] := ⟨zc46, _, Try.underlying46, by kernel_rfl⟩
theorem fs46_0 : IsFs Try.prog 46 0 0 1 := ⟨_, _, Try.underlying46, rfl, rfl, by kernel_rfl⟩
theorem fs46_1 : IsFs Try.prog 46 1 1 2 := ⟨_, _, Try.underlying46, rfl, rfl, by kernel_rfl⟩
theorem fs46_2 : IsFs Try.prog 46 2 3 2 := ⟨_, _, Try.underlying46, rfl, rfl, by kernel_rfl⟩
theorem fs46_3 : IsFs Try.prog 46 3 5 1 := ⟨_, _, Try.underlying46, rfl, rfl, by kernel_rfl⟩
theorem fl25_0 : IsFl Try.prog 25 0 0 := ⟨_, _, Try.underlying25, rfl, rfl, by kernel_rfl⟩
theorem fl25_1 : IsFl Try.prog 25 1 1 := ⟨_, _, Try.underlying25, rfl, rfl, by kernel_rfl⟩
theorem fl25_2 : IsFl Try.prog 25 2 2 := ⟨_, _, Try.underlying25, rfl, rfl, by kernel_rfl⟩
theorem fl40_0 : IsFl Try.prog 40 0 0 := ⟨_, _, Try.underlying40, rfl, rfl, by kernel_rfl⟩
theorem fl40_1 : IsFl Try.prog 40 1 1 := ⟨_, _, Try.underlying40, rfl, rfl, by kernel_rfl⟩
theorem fl42_0 : IsFl Try.prog 42 0 0 := ⟨_, _, Try.underlying42, rfl, rfl, by kernel_rfl⟩
theorem fl42_1 : IsFl Try.prog 42 1 1 := ⟨_, _, Try.underlying42, rfl, rfl, by kernel_rfl⟩
theorem fl42_2 : IsFl Try.prog 42 2 3 := ⟨_, _, Try.underlying42, rfl, rfl, by kernel_rfl⟩
theorem fl42_3 : IsFl Try.prog 42 3 5 := ⟨_, _, Try.underlying42, rfl, rfl, by kernel_rfl⟩
theorem fl44_0 : IsFl Try.prog 44 0 0 := ⟨_, _, Try.underlying44, rfl, rfl, by kernel_rfl⟩
theorem fl44_1 : IsFl Try.prog 44 1 1 := ⟨_, _, Try.underlying44, rfl, rfl, by kernel_rfl⟩
theorem fl46_0 : IsFl Try.prog 46 0 0 := ⟨_, _, Try.underlying46, rfl, rfl, by kernel_rfl⟩
theorem fl46_1 : IsFl Try.prog 46 1 1 := ⟨_, _, Try.underlying46, rfl, rfl, by kernel_rfl⟩
theorem fl46_2 : IsFl Try.prog 46 2 3 := ⟨_, _, Try.underlying46, rfl, rfl, by kernel_rfl⟩
theorem fl46_3 : IsFl Try.prog 46 3 5 := ⟨_, _, Try.underlying46, rfl, rfl, by kernel_rfl⟩
theorem sl22 : IsSl Try.prog 22 46 6 := ⟨Try.underlying22, by kernel_rfl⟩
theorem el22 : IsEl Try.prog 22 46 6 48 [.bool false, .int .i64 0, .int .i64 0, .int .i64 0, .int .i64 0, .int .i64 0] := isEl Try.underlying22 (by kernel_rfl) (by kernel_rfl) rfl rfl
theorem sl28 : IsSl Try.prog 28 42 6 := ⟨Try.underlying28, by kernel_rfl⟩
theorem el28 : IsEl Try.prog 28 42 6 48 [.bool false, .int .i64 0, .int .i64 0, .int .i64 0, .int .i64 0, .int .i64 0] := isEl Try.underlying28 (by kernel_rfl) (by kernel_rfl) rfl rfl
theorem sl52 : IsSl Try.prog 52 3 1 := ⟨Try.underlying52, by kernel_rfl⟩
theorem el52 : IsEl Try.prog 52 3 1 8 [.int .i64 0] := isEl Try.underlying52 (by kernel_rfl) (by kernel_rfl) rfl rfl
theorem sl54 : IsSl Try.prog 54 40 2 := ⟨Try.underlying54, by kernel_rfl⟩
theorem el54 : IsEl Try.prog 54 40 2 16 [.int .i64 0, .int .i64 0] := isEl Try.underlying54 (by kernel_rfl) (by kernel_rfl) rfl rfl
theorem pf5 : plainFn Try.prog 5 = true := by kernel_rfl
theorem pf6 : plainFn Try.prog 6 = true := by kernel_rfl
theorem pf7 : plainFn Try.prog 7 = true := by kernel_rfl
theorem pf8 : plainFn Try.prog 8 = true := by kernel_rfl
theorem pf9 : plainFn Try.prog 9 = true := by kernel_rfl
theorem pf10 : plainFn Try.prog 10 = true := by kernel_rfl
theorem pf11 : plainFn Try.prog 11 = true := by kernel_rfl
theorem pf12 : plainFn Try.prog 12 = true := by kernel_rfl
theorem pf13 : plainFn Try.prog 13 = true := by kernel_rfl
theorem pf14 : plainFn Try.prog 14 = true := by kernel_rfl
theorem pf15 : plainFn Try.prog 15 = true := by kernel_rfl
theorem pf16 : plainFn Try.prog 16 = true := by kernel_rfl
theorem pf17 : plainFn Try.prog 17 = true := by kernel_rfl
theorem pf18 : plainFn Try.prog 18 = true := by kernel_rfl
theorem pf19 : plainFn Try.prog 19 = true := by kernel_rfl
theorem pf20 : plainFn Try.prog 20 = true := by kernel_rfl
theorem pf21 : plainFn Try.prog 21 = true := by kernel_rfl
theorem pf23 : plainFn Try.prog 23 = true := by kernel_rfl
theorem pf24 : plainFn Try.prog 24 = true := by kernel_rfl
theorem pf25 : plainFn Try.prog 25 = true := by kernel_rfl
theorem pf26 : plainFn Try.prog 26 = true := by kernel_rfl
theorem pf27 : plainFn Try.prog 27 = true := by kernel_rfl
theorem pf28 : plainFn Try.prog 28 = true := by kernel_rfl
theorem pf29 : plainFn Try.prog 29 = true := by kernel_rfl
theorem pf30 : plainFn Try.prog 30 = true := by kernel_rfl
theorem pf31 : plainFn Try.prog 31 = true := by kernel_rfl
theorem pf32 : plainFn Try.prog 32 = true := by kernel_rfl
theorem pf35 : plainFn Try.prog 35 = true := by kernel_rfl
theorem pf37 : plainFn Try.prog 37 = true := by kernel_rfl
theorem pf38 : plainFn Try.prog 38 = true := by kernel_rfl
theorem pf39 : plainFn Try.prog 39 = true := by kernel_rfl
theorem pf40 : plainFn Try.prog 40 = true := by kernel_rfl
theorem pf41 : plainFn Try.prog 41 = true := by kernel_rfl
theorem pf42 : plainFn Try.prog 42 = true := by kernel_rfl
theorem pf43 : plainFn Try.prog 43 = true := by kernel_rfl
theorem pf44 : plainFn Try.prog 44 = true := by kernel_rfl
theorem pf45 : plainFn Try.prog 45 = true := by kernel_rfl
theorem pf46 : plainFn Try.prog 46 = true := by kernel_rfl
theorem pf47 : plainFn Try.prog 47 = true := by kernel_rfl
theorem pf50 : plainFn Try.prog 50 = true := by kernel_rfl
theorem mixed : Try.prog.follows .mixedOrders = true := by kernel_rfl
end Go.Proofs.Ytoabadliblkemaa.T
