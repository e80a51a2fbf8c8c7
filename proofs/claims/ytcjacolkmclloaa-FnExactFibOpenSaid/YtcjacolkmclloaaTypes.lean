/- What the program's types are: cells, zero values, fields. -/
import Derived.Test.YtcjacolkmclloaaProg
import Derived.KernelRfl
import Derived.ProofKit
import Derived.Test.YtcjacolkmclloaaSymd
namespace Go.Proofs.Ytcjacolkmclloaa.T
open Go Go.RowKit
theorem sc3 : IsSc Try.prog 3 := ⟨_, Try.underlying3, rfl, by kernel_rfl⟩
theorem sc4 : IsSc Try.prog 4 := ⟨_, Try.underlying4, rfl, by kernel_rfl⟩
theorem sc22 : IsSc Try.prog 22 := ⟨_, Try.underlying22, rfl, by kernel_rfl⟩
theorem sc23 : IsSc Try.prog 23 := ⟨_, Try.underlying23, rfl, by kernel_rfl⟩
theorem sc24 : IsSc Try.prog 24 := ⟨_, Try.underlying24, rfl, by kernel_rfl⟩
theorem rw26 : IsRw Try.prog 26 5 := ⟨_, Try.underlying26, rfl, by kernel_rfl⟩
theorem sc31 : IsSc Try.prog 31 := ⟨_, Try.underlying31, rfl, by kernel_rfl⟩
theorem rw33 : IsRw Try.prog 33 4 := ⟨_, Try.underlying33, rfl, by kernel_rfl⟩
theorem rw35 : IsRw Try.prog 35 7 := ⟨_, Try.underlying35, rfl, by kernel_rfl⟩
theorem rw45 : IsRw Try.prog 45 2 := ⟨_, Try.underlying45, rfl, by kernel_rfl⟩
theorem rw50 : IsRw Try.prog 50 2 := ⟨_, Try.underlying50, rfl, by kernel_rfl⟩
theorem zc3 : zc Try.prog 3 = some [.int .i64 0] := by kernel_rfl
theorem zc4 : zc Try.prog 4 = some [.bool false] := by kernel_rfl
theorem zc22 : zc Try.prog 22 = some [.slice none 0 0] := by kernel_rfl
theorem zc23 : zc Try.prog 23 = some [.slice none 0 0] := by kernel_rfl
theorem zc24 : zc Try.prog 24 = some [.slice none 0 0] := by kernel_rfl
theorem zc26 : zc Try.prog 26 = some [.slice none 0 0, .int .i64 0, .int .i64 0, .slice none 0 0, .slice none 0 0] := by kernel_rfl
theorem zc31 : zc Try.prog 31 = some [.slice none 0 0] := by kernel_rfl
theorem zc33 : zc Try.prog 33 = some [.bool false, .int .i64 0, .int .i64 0, .slice none 0 0] := by kernel_rfl
theorem zc35 : zc Try.prog 35 = some [.bool false, .int .i64 0, .int .i64 0, .int .i64 0, .int .i64 0, .int .i64 0, .slice none 0 0] := by kernel_rfl
theorem zc45 : zc Try.prog 45 = some [.int .i64 0, .int .i64 0] := by kernel_rfl
theorem zc50 : zc Try.prog 50 = some [.int .i64 0, .int .i64 0] := by kernel_rfl
theorem st26 : IsSt Try.prog 26 [.slice none 0 0, .int .i64 0, .int .i64 0, .slice none 0 0, .slice none 0 0] := ⟨zc26, _, Try.underlying26, by kernel_rfl⟩
theorem fs26_0 : IsFs Try.prog 26 0 0 1 := ⟨_, _, Try.underlying26, rfl, rfl, by kernel_rfl⟩
theorem fs26_1 : IsFs Try.prog 26 1 1 1 := ⟨_, _, Try.underlying26, rfl, rfl, by kernel_rfl⟩
theorem fs26_2 : IsFs Try.prog 26 2 2 1 := ⟨_, _, Try.underlying26, rfl, rfl, by kernel_rfl⟩
theorem fs26_3 : IsFs Try.prog 26 3 3 1 := ⟨_, _, Try.underlying26, rfl, rfl, by kernel_rfl⟩
theorem fs26_4 : IsFs Try.prog 26 4 4 1 := ⟨_, _, Try.underlying26, rfl, rfl, by kernel_rfl⟩
theorem st33 : IsSt Try.prog 33 [.bool false, .int .i64 0, .int .i64 0, .slice none 0 0] := ⟨zc33, _, Try.underlying33, by kernel_rfl⟩
theorem fs33_0 : IsFs Try.prog 33 0 0 1 := ⟨_, _, Try.underlying33, rfl, rfl, by kernel_rfl⟩
theorem fs33_1 : IsFs Try.prog 33 1 1 1 := ⟨_, _, Try.underlying33, rfl, rfl, by kernel_rfl⟩
theorem fs33_2 : IsFs Try.prog 33 2 2 1 := ⟨_, _, Try.underlying33, rfl, rfl, by kernel_rfl⟩
theorem fs33_3 : IsFs Try.prog 33 3 3 1 := ⟨_, _, Try.underlying33, rfl, rfl, by kernel_rfl⟩
theorem st35 : IsSt Try.prog 35 [.bool false, .int .i64 0, .int .i64 0, .int .i64 0, .int .i64 0, .int .i64 0, .slice none 0 0] := ⟨zc35, _, Try.underlying35, by kernel_rfl⟩
theorem fs35_0 : IsFs Try.prog 35 0 0 1 := ⟨_, _, Try.underlying35, rfl, rfl, by kernel_rfl⟩
theorem fs35_1 : IsFs Try.prog 35 1 1 1 := ⟨_, _, Try.underlying35, rfl, rfl, by kernel_rfl⟩
theorem fs35_2 : IsFs Try.prog 35 2 2 1 := ⟨_, _, Try.underlying35, rfl, rfl, by kernel_rfl⟩
theorem fs35_3 : IsFs Try.prog 35 3 3 1 := ⟨_, _, Try.underlying35, rfl, rfl, by kernel_rfl⟩
theorem fs35_4 : IsFs Try.prog 35 4 4 1 := ⟨_, _, Try.underlying35, rfl, rfl, by kernel_rfl⟩
theorem fs35_5 : IsFs Try.prog 35 5 5 1 := ⟨_, _, Try.underlying35, rfl, rfl, by kernel_rfl⟩
theorem fs35_6 : IsFs Try.prog 35 6 6 1 := ⟨_, _, Try.underlying35, rfl, rfl, by kernel_rfl⟩
theorem st45 : IsSt Try.prog 45 [.int .i64 0, .int .i64 0] := ⟨zc45, _, Try.underlying45, by kernel_rfl⟩
theorem fs45_0 : IsFs Try.prog 45 0 0 1 := ⟨_, _, Try.underlying45, rfl, rfl, by kernel_rfl⟩
theorem fs45_1 : IsFs Try.prog 45 1 1 1 := ⟨_, _, Try.underlying45, rfl, rfl, by kernel_rfl⟩
theorem st50 : IsSt Try.prog 50 [.int .i64 0, .int .i64 0] := ⟨zc50, _, Try.underlying50, by kernel_rfl⟩
theorem fs50_0 : IsFs Try.prog 50 0 0 1 := ⟨_, _, Try.underlying50, rfl, rfl, by kernel_rfl⟩
theorem fs50_1 : IsFs Try.prog 50 1 1 1 := ⟨_, _, Try.underlying50, rfl, rfl, by kernel_rfl⟩
theorem fl26_0 : IsFl Try.prog 26 0 0 := ⟨_, _, Try.underlying26, rfl, rfl, by kernel_rfl⟩
theorem fl26_1 : IsFl Try.prog 26 1 1 := ⟨_, _, Try.underlying26, rfl, rfl, by kernel_rfl⟩
theorem fl26_2 : IsFl Try.prog 26 2 2 := ⟨_, _, Try.underlying26, rfl, rfl, by kernel_rfl⟩
theorem fl26_3 : IsFl Try.prog 26 3 3 := ⟨_, _, Try.underlying26, rfl, rfl, by kernel_rfl⟩
theorem fl26_4 : IsFl Try.prog 26 4 4 := ⟨_, _, Try.underlying26, rfl, rfl, by kernel_rfl⟩
theorem fl33_0 : IsFl Try.prog 33 0 0 := ⟨_, _, Try.underlying33, rfl, rfl, by kernel_rfl⟩
theorem fl33_1 : IsFl Try.prog 33 1 1 := ⟨_, _, Try.underlying33, rfl, rfl, by kernel_rfl⟩
theorem fl33_2 : IsFl Try.prog 33 2 2 := ⟨_, _, Try.underlying33, rfl, rfl, by kernel_rfl⟩
theorem fl33_3 : IsFl Try.prog 33 3 3 := ⟨_, _, Try.underlying33, rfl, rfl, by kernel_rfl⟩
theorem fl35_0 : IsFl Try.prog 35 0 0 := ⟨_, _, Try.underlying35, rfl, rfl, by kernel_rfl⟩
theorem fl35_1 : IsFl Try.prog 35 1 1 := ⟨_, _, Try.underlying35, rfl, rfl, by kernel_rfl⟩
theorem fl35_2 : IsFl Try.prog 35 2 2 := ⟨_, _, Try.underlying35, rfl, rfl, by kernel_rfl⟩
theorem fl35_3 : IsFl Try.prog 35 3 3 := ⟨_, _, Try.underlying35, rfl, rfl, by kernel_rfl⟩
theorem fl35_4 : IsFl Try.prog 35 4 4 := ⟨_, _, Try.underlying35, rfl, rfl, by kernel_rfl⟩
theorem fl35_5 : IsFl Try.prog 35 5 5 := ⟨_, _, Try.underlying35, rfl, rfl, by kernel_rfl⟩
theorem fl35_6 : IsFl Try.prog 35 6 6 := ⟨_, _, Try.underlying35, rfl, rfl, by kernel_rfl⟩
theorem fl45_0 : IsFl Try.prog 45 0 0 := ⟨_, _, Try.underlying45, rfl, rfl, by kernel_rfl⟩
theorem fl45_1 : IsFl Try.prog 45 1 1 := ⟨_, _, Try.underlying45, rfl, rfl, by kernel_rfl⟩
theorem fl50_0 : IsFl Try.prog 50 0 0 := ⟨_, _, Try.underlying50, rfl, rfl, by kernel_rfl⟩
theorem fl50_1 : IsFl Try.prog 50 1 1 := ⟨_, _, Try.underlying50, rfl, rfl, by kernel_rfl⟩
theorem sl22 : IsSl Try.prog 22 33 4 := ⟨Try.underlying22, by kernel_rfl⟩
theorem el22 : IsEl Try.prog 22 33 4 48 [.bool false, .int .i64 0, .int .i64 0, .slice none 0 0] := isEl Try.underlying22 (by kernel_rfl) (by kernel_rfl) rfl rfl
theorem sl23 : IsSl Try.prog 23 45 2 := ⟨Try.underlying23, by kernel_rfl⟩
theorem el23 : IsEl Try.prog 23 45 2 16 [.int .i64 0, .int .i64 0] := isEl Try.underlying23 (by kernel_rfl) (by kernel_rfl) rfl rfl
theorem sl24 : IsSl Try.prog 24 35 7 := ⟨Try.underlying24, by kernel_rfl⟩
theorem el24 : IsEl Try.prog 24 35 7 72 [.bool false, .int .i64 0, .int .i64 0, .int .i64 0, .int .i64 0, .int .i64 0, .slice none 0 0] := isEl Try.underlying24 (by kernel_rfl) (by kernel_rfl) rfl rfl
theorem sl31 : IsSl Try.prog 31 50 2 := ⟨Try.underlying31, by kernel_rfl⟩
theorem el31 : IsEl Try.prog 31 50 2 16 [.int .i64 0, .int .i64 0] := isEl Try.underlying31 (by kernel_rfl) (by kernel_rfl) rfl rfl
theorem pf4 : plainFn Try.prog 4 = true := by kernel_rfl
theorem pf5 : plainFn Try.prog 5 = true := by kernel_rfl
theorem pf6 : plainFn Try.prog 6 = true := by kernel_rfl
theorem pf7 : plainFn Try.prog 7 = true := by kernel_rfl
theorem pf8 : plainFn Try.prog 8 = true := by kernel_rfl
theorem pf9 : plainFn Try.prog 9 = true := by kernel_rfl
theorem pf10 : plainFn Try.prog 10 = true := by kernel_rfl
theorem pf11 : plainFn Try.prog 11 = true := by kernel_rfl
theorem pf12 : plainFn Try.prog 12 = true := by kernel_rfl
theorem pf13 : plainFn Try.prog 13 = true := by kernel_rfl
theorem pf14 : plainFn Try.prog 14 = true := by kernel_rfl
theorem pf15 : plainFn Try.prog 15 = true := by kernel_rfl
theorem pf16 : plainFn Try.prog 16 = true := by kernel_rfl
theorem pf17 : plainFn Try.prog 17 = true := by kernel_rfl
theorem pf18 : plainFn Try.prog 18 = true := by kernel_rfl
theorem pf19 : plainFn Try.prog 19 = true := by kernel_rfl
theorem pf20 : plainFn Try.prog 20 = true := by kernel_rfl
theorem pf21 : plainFn Try.prog 21 = true := by kernel_rfl
theorem pf22 : plainFn Try.prog 22 = true := by kernel_rfl
theorem pf23 : plainFn Try.prog 23 = true := by kernel_rfl
theorem pf24 : plainFn Try.prog 24 = true := by kernel_rfl
theorem mixed : Try.prog.follows .mixedOrders = true := by kernel_rfl
end Go.Proofs.Ytcjacolkmclloaa.T
