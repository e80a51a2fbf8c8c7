/- What the program's types are: cells, zero values, fields. -/
import Derived.Test.YtpbindcfiocelaaProg
import Derived.KernelRfl
import Derived.Test.YtpbindcfiocelaaSymd
namespace Go.Proofs.Ytpbindcfiocelaa.T
open Go
theorem sc3 : IsSc Try.prog 3 := ⟨_, Try.underlying3, rfl, by kernel_rfl⟩
theorem sc4 : IsSc Try.prog 4 := ⟨_, Try.underlying4, rfl, by kernel_rfl⟩
theorem sc25 : IsSc Try.prog 25 := ⟨_, Try.underlying25, rfl, by kernel_rfl⟩
theorem rw30 : IsRw Try.prog 30 3 := ⟨_, Try.underlying30, rfl, by kernel_rfl⟩
theorem rw39 : IsRw Try.prog 39 2 := ⟨_, Try.underlying39, rfl, by kernel_rfl⟩
theorem rw41 : IsRw Try.prog 41 6 := ⟨_, Try.underlying41, rfl, by kernel_rfl⟩
theorem rw44 : IsRw Try.prog 44 2 := ⟨_, Try.underlying44, rfl, by kernel_rfl⟩
theorem rw46 : IsRw Try.prog 46 6 := ⟨_, Try.underlying46, rfl, by kernel_rfl⟩
theorem zc3 : zc Try.prog 3 = some [.int .i64 0] := by kernel_rfl
theorem zc4 : zc Try.prog 4 = some [.bool false] := by kernel_rfl
theorem zc25 : zc Try.prog 25 = some [.slice none 0 0] := by kernel_rfl
theorem zc30 : zc Try.prog 30 = some [.int .i64 0, .int .i64 0, .int .i64 0] := by kernel_rfl
theorem zc39 : zc Try.prog 39 = some [.int .i64 0, .int .i64 0] := by kernel_rfl
theorem zc41 : zc Try.prog 41 = some [.bool false, .int .i64 0, .int .i64 0, .int .i64 0, .int .i64 0, .int .i64 0] := by kernel_rfl
theorem zc44 : zc Try.prog 44 = some [.int .i64 0, .int .i64 0] := by kernel_rfl
theorem zc46 : zc Try.prog 46 = some [.bool false, .int .i64 0, .int .i64 0, .int .i64 0, .int .i64 0, .int .i64 0] := by kernel_rfl
theorem st30 : IsSt Try.prog 30 [.int .i64 0, .int .i64 0, .int .i64 0] := ⟨zc30, _, Try.underlying30, by kernel_rfl⟩
theorem fs30_0 : IsFs Try.prog 30 0 0 1 := ⟨_, _, Try.underlying30, rfl, rfl, by kernel_rfl⟩
theorem fs30_1 : IsFs Try.prog 30 1 1 1 := ⟨_, _, Try.underlying30, rfl, rfl, by kernel_rfl⟩
theorem fs30_2 : IsFs Try.prog 30 2 2 1 := ⟨_, _, Try.underlying30, rfl, rfl, by kernel_rfl⟩
theorem st39 : IsSt Try.prog 39 [.int .i64 0, .int .i64 0] := ⟨zc39, _, Try.underlying39, by kernel_rfl⟩
theorem fs39_0 : IsFs Try.prog 39 0 0 1 := ⟨_, _, Try.underlying39, rfl, rfl, by kernel_rfl⟩
theorem fs39_1 : IsFs Try.prog 39 1 1 1 := ⟨_, _, Try.underlying39, rfl, rfl, by kernel_rfl⟩
theorem st41 : IsSt Try.prog 41 [.bool false, .int .i64 0, .int .i64 0, .int .i64 0, .int .i64 0, .int .i64 0] := ⟨zc41, _, Try.underlying41, by kernel_rfl⟩
theorem fs41_0 : IsFs Try.prog 41 0 0 1 := ⟨_, _, Try.underlying41, rfl, rfl, by kernel_rfl⟩
theorem fs41_1 : IsFs Try.prog 41 1 1 2 := ⟨_, _, Try.underlying41, rfl, rfl, by kernel_rfl⟩
theorem fs41_2 : IsFs Try.prog 41 2 3 2 := ⟨_, _, Try.underlying41, rfl, rfl, by kernel_rfl⟩
theorem fs41_3 : IsFs Try.prog 41 3 5 1 := ⟨_, _, Try.underlying41, rfl, rfl, by kernel_rfl⟩
theorem st44 : IsSt Try.prog 44 [.int .i64 0, .int .i64 0] := ⟨zc44, _, Try.underlying44, by kernel_rfl⟩
theorem fs44_0 : IsFs Try.prog 44 0 0 1 := ⟨_, _, Try.underlying44, rfl, rfl, by kernel_rfl⟩
theorem fs44_1 : IsFs Try.prog 44 1 1 1 := ⟨_, _, Try.underlying44, rfl, rfl, by kernel_rfl⟩
theorem st46 : IsSt Try.prog 46 [.bool false, .int .i64 0, .int .i64 0, .int .i64 0, .int .i64 0, .int .i64 0] := ⟨zc46, _, Try.underlying46, by kernel_rfl⟩
theorem fs46_0 : IsFs Try.prog 46 0 0 1 := ⟨_, _, Try.underlying46, rfl, rfl, by kernel_rfl⟩
theorem fs46_1 : IsFs Try.prog 46 1 1 2 := ⟨_, _, Try.underlying46, rfl, rfl, by kernel_rfl⟩
theorem fs46_2 : IsFs Try.prog 46 2 3 2 := ⟨_, _, Try.underlying46, rfl, rfl, by kernel_rfl⟩
theorem fs46_3 : IsFs Try.prog 46 3 5 1 := ⟨_, _, Try.underlying46, rfl, rfl, by kernel_rfl⟩
theorem fl30_0 : IsFl Try.prog 30 0 0 := ⟨_, _, Try.underlying30, rfl, rfl, by kernel_rfl⟩
theorem fl30_1 : IsFl Try.prog 30 1 1 := ⟨_, _, Try.underlying30, rfl, rfl, by kernel_rfl⟩
theorem fl30_2 : IsFl Try.prog 30 2 2 := ⟨_, _, Try.underlying30, rfl, rfl, by kernel_rfl⟩
theorem fl39_0 : IsFl Try.prog 39 0 0 := ⟨_, _, Try.underlying39, rfl, rfl, by kernel_rfl⟩
theorem fl39_1 : IsFl Try.prog 39 1 1 := ⟨_, _, Try.underlying39, rfl, rfl, by kernel_rfl⟩
theorem fl41_0 : IsFl Try.prog 41 0 0 := ⟨_, _, Try.underlying41, rfl, rfl, by kernel_rfl⟩
theorem fl41_1 : IsFl Try.prog 41 1 1 := ⟨_, _, Try.underlying41, rfl, rfl, by kernel_rfl⟩
theorem fl41_2 : IsFl Try.prog 41 2 3 := ⟨_, _, Try.underlying41, rfl, rfl, by kernel_rfl⟩
theorem fl41_3 : IsFl Try.prog 41 3 5 := ⟨_, _, Try.underlying41, rfl, rfl, by kernel_rfl⟩
theorem fl44_0 : IsFl Try.prog 44 0 0 := ⟨_, _, Try.underlying44, rfl, rfl, by kernel_rfl⟩
theorem fl44_1 : IsFl Try.prog 44 1 1 := ⟨_, _, Try.underlying44, rfl, rfl, by kernel_rfl⟩
theorem fl46_0 : IsFl Try.prog 46 0 0 := ⟨_, _, Try.underlying46, rfl, rfl, by kernel_rfl⟩
theorem fl46_1 : IsFl Try.prog 46 1 1 := ⟨_, _, Try.underlying46, rfl, rfl, by kernel_rfl⟩
theorem fl46_2 : IsFl Try.prog 46 2 3 := ⟨_, _, Try.underlying46, rfl, rfl, by kernel_rfl⟩
theorem fl46_3 : IsFl Try.prog 46 3 5 := ⟨_, _, Try.underlying46, rfl, rfl, by kernel_rfl⟩
theorem sl22 : IsSl Try.prog 22 46 6 := ⟨Try.underlying22, by kernel_rfl⟩
theorem el22 : IsEl Try.prog 22 46 6 48 [.bool false, .int .i64 0, .int .i64 0, .int .i64 0, .int .i64 0, .int .i64 0] := isEl Try.underlying22 (by kernel_rfl) (by kernel_rfl) rfl rfl
theorem sl25 : IsSl Try.prog 25 41 6 := ⟨Try.underlying25, by kernel_rfl⟩
theorem el25 : IsEl Try.prog 25 41 6 48 [.bool false, .int .i64 0, .int .i64 0, .int .i64 0, .int .i64 0, .int .i64 0] := isEl Try.underlying25 (by kernel_rfl) (by kernel_rfl) rfl rfl
theorem sl56 : IsSl Try.prog 56 3 1 := ⟨Try.underlying56, by kernel_rfl⟩
theorem el56 : IsEl Try.prog 56 3 1 8 [.int .i64 0] := isEl Try.underlying56 (by kernel_rfl) (by kernel_rfl) rfl rfl
theorem sl58 : IsSl Try.prog 58 39 2 := ⟨Try.underlying58, by kernel_rfl⟩
theorem el58 : IsEl Try.prog 58 39 2 16 [.int .i64 0, .int .i64 0] := isEl Try.underlying58 (by kernel_rfl) (by kernel_rfl) rfl rfl
theorem pf6 : plainFn Try.prog 6 = true := by kernel_rfl
theorem pf7 : plainFn Try.prog 7 = true := by kernel_rfl
theorem pf8 : plainFn Try.prog 8 = true := by kernel_rfl
theorem pf9 : plainFn Try.prog 9 = true := by kernel_rfl
theorem pf10 : plainFn Try.prog 10 = true := by kernel_rfl
theorem pf11 : plainFn Try.prog 11 = true := by kernel_rfl
theorem pf12 : plainFn Try.prog 12 = true := by kernel_rfl
theorem pf13 : plainFn Try.prog 13 = true := by kernel_rfl
theorem pf14 : plainFn Try.prog 14 = true := by kernel_rfl
theorem pf15 : plainFn Try.prog 15 = true := by kernel_rfl
theorem pf16 : plainFn Try.prog 16 = true := by kernel_rfl
theorem pf17 : plainFn Try.prog 17 = true := by kernel_rfl
theorem pf18 : plainFn Try.prog 18 = true := by kernel_rfl
theorem pf19 : plainFn Try.prog 19 = true := by kernel_rfl
theorem pf20 : plainFn Try.prog 20 = true := by kernel_rfl
theorem pf21 : plainFn Try.prog 21 = true := by kernel_rfl
theorem pf22 : plainFn Try.prog 22 = true := by kernel_rfl
theorem pf23 : plainFn Try.prog 23 = true := by kernel_rfl
theorem pf24 : plainFn Try.prog 24 = true := by kernel_rfl
theorem pf25 : plainFn Try.prog 25 = true := by kernel_rfl
theorem pf27 : plainFn Try.prog 27 = true := by kernel_rfl
theorem pf28 : plainFn Try.prog 28 = true := by kernel_rfl
theorem pf29 : plainFn Try.prog 29 = true := by kernel_rfl
theorem pf30 : plainFn Try.prog 30 = true := by kernel_rfl
theorem pf31 : plainFn Try.prog 31 = true := by kernel_rfl
theorem pf32 : plainFn Try.prog 32 = true := by kernel_rfl
theorem pf33 : plainFn Try.prog 33 = true := by kernel_rfl
theorem pf34 : plainFn Try.prog 34 = true := by kernel_rfl
theorem pf35 : plainFn Try.prog 35 = true := by kernel_rfl
theorem pf36 : plainFn Try.prog 36 = true := by kernel_rfl
theorem pf39 : plainFn Try.prog 39 = true := by kernel_rfl
theorem pf41 : plainFn Try.prog 41 = true := by kernel_rfl
theorem pf42 : plainFn Try.prog 42 = true := by kernel_rfl
theorem pf43 : plainFn Try.prog 43 = true := by kernel_rfl
theorem pf44 : plainFn Try.prog 44 = true := by kernel_rfl
theorem pf45 : plainFn Try.prog 45 = true := by kernel_rfl
theorem pf46 : plainFn Try.prog 46 = true := by kernel_rfl
theorem pf47 : plainFn Try.prog 47 = true := by kernel_rfl
theorem pf48 : plainFn Try.prog 48 = true := by kernel_rfl
theorem pf51 : plainFn Try.prog 51 = true := by kernel_rfl
theorem mixed : Try.prog.follows .mixedOrders = true := by kernel_rfl
end Go.Proofs.Ytpbindcfiocelaa.T
