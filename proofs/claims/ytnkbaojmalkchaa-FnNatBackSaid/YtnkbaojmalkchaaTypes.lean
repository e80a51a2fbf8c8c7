/- What the program's types are: cells, zero values, fields. -/
import Derived.Test.YtnkbaojmalkchaaProg
import Derived.KernelRfl
import Derived.ProofKit
import Derived.Test.YtnkbaojmalkchaaSymd
namespace Go.Proofs.Ytnkbaojmalkchaa.T
open Go Go.RowKit
theorem sc3 : IsSc Try.prog 3 := ⟨_, Try.underlying3, rfl, by kernel_rfl⟩
theorem sc5 : IsSc Try.prog 5 := ⟨_, Try.underlying5, rfl, by kernel_rfl⟩
theorem rw24 : IsRw Try.prog 24 5 := ⟨_, Try.underlying24, rfl, by kernel_rfl⟩
theorem rw26 : IsRw Try.prog 26 5 := ⟨_, Try.underlying26, rfl, by kernel_rfl⟩
theorem sc31 : IsSc Try.prog 31 := ⟨_, Try.underlying31, rfl, by kernel_rfl⟩
theorem sc38 : IsSc Try.prog 38 := ⟨_, Try.underlying38, rfl, by kernel_rfl⟩
theorem sc39 : IsSc Try.prog 39 := ⟨_, Try.underlying39, rfl, by kernel_rfl⟩
theorem rw41 : IsRw Try.prog 41 8 := ⟨_, Try.underlying41, rfl, by kernel_rfl⟩
theorem rw46 : IsRw Try.prog 46 2 := ⟨_, Try.underlying46, rfl, by kernel_rfl⟩
theorem rw50 : IsRw Try.prog 50 4 := ⟨_, Try.underlying50, rfl, by kernel_rfl⟩
theorem rw52 : IsRw Try.prog 52 7 := ⟨_, Try.underlying52, rfl, by kernel_rfl⟩
theorem zc3 : zc Try.prog 3 = some [.int .i64 0] := by kernel_rfl
theorem zc5 : zc Try.prog 5 = some [.int .u8 0] := by kernel_rfl
theorem zc24 : zc Try.prog 24 = some [.int .i64 0, .int .i64 0, .int .i64 0, .int .i64 0, .int .i64 0] := by kernel_rfl
theorem zc26 : zc Try.prog 26 = some [.int .i64 0, .int .i64 0, .int .i64 0, .int .i64 0, .int .i64 0] := by kernel_rfl
theorem zc31 : zc Try.prog 31 = some [.slice none 0 0] := by kernel_rfl
theorem zc38 : zc Try.prog 38 = some [.slice none 0 0] := by kernel_rfl
theorem zc39 : zc Try.prog 39 = some [.slice none 0 0] := by kernel_rfl
theorem zc41 : zc Try.prog 41 = some [.int .i64 0, .int .i64 0, .int .i64 0, .int .i64 0, .int .i64 0, .slice none 0 0, .int .i64 0, .slice none 0 0] := by kernel_rfl
theorem zc46 : zc Try.prog 46 = some [.slice none 0 0, .int .i64 0] := by kernel_rfl
theorem zc50 : zc Try.prog 50 = some [.int .i64 0, .int .i64 0, .int .i64 0, .int .i64 0] := by kernel_rfl
theorem zc52 : zc Try.prog 52 = some [.int .i64 0, .int .i64 0, .int .i64 0, .int .i64 0, .int .i64 0, .int .i64 0, .int .i64 0] := by kernel_rfl
theorem st24 : IsSt Try.prog 24 [.int .i64 0, .int .i64 0, .int .i64 0, .int .i64 0, .int .i64 0] := ⟨zc24, _, Try.underlying24, by kernel_rfl⟩
theorem fs24_0 : IsFs Try.prog 24 0 0 1 := ⟨_, _, Try.underlying24, rfl, rfl, by kernel_rfl⟩
theorem fs24_1 : IsFs Try.prog 24 1 1 1 := ⟨_, _, Try.underlying24, rfl, rfl, by kernel_rfl⟩
theorem fs24_2 : IsFs Try.prog 24 2 2 1 := ⟨_, _, Try.underlying24, rfl, rfl, by kernel_rfl⟩
theorem fs24_3 : IsFs Try.prog 24 3 3 1 := ⟨_, _, Try.underlying24, rfl, rfl, by kernel_rfl⟩
theorem fs24_4 : IsFs Try.prog 24 4 4 1 := ⟨_, _, Try.underlying24, rfl, rfl, by kernel_rfl⟩
theorem st26 : IsSt Try.prog 26 [.int .i64 0, .int .i64 0, .int .i64 0, .int .i64 0, .int .i64 0] := ⟨zc26, _, Try.underlying26, by kernel_rfl⟩
theorem fs26_0 : IsFs Try.prog 26 0 0 1 := ⟨_, _, Try.underlying26, rfl, rfl, by kernel_rfl⟩
theorem fs26_1 : IsFs Try.prog 26 1 1 1 := ⟨_, _, Try.underlying26, rfl, rfl, by kernel_rfl⟩
theorem fs26_2 : IsFs Try.prog 26 2 2 1 := ⟨_, _, Try.underlying26, rfl, rfl, by kernel_rfl⟩
theorem fs26_3 : IsFs Try.prog 26 3 3 1 := ⟨_, _, Try.underlying26, rfl, rfl, by kernel_rfl⟩
theorem fs26_4 : IsFs Try.prog 26 4 4 1 := ⟨_, _, Try.underlying26, rfl, rfl, by kernel_rfl⟩
theorem st41 : IsSt Try.prog 41 [.int .i64 0, .int .i64 0, .int .i64 0, .int .i64 0, .int .i64 0, .slice none 0 0, .int .i64 0, .slice none 0 0] := ⟨zc41, _, Try.underlying41, by kernel_rfl⟩
theorem fs41_0 : IsFs Try.prog 41 0 0 1 := ⟨_, _, Try.underlying41, rfl, rfl, by kernel_rfl⟩
theorem fs41_1 : IsFs Try.prog 41 1 1 1 := ⟨_, _, Try.underlying41, rfl, rfl, by kernel_rfl⟩
theorem fs41_2 : IsFs Try.prog 41 2 2 1 := ⟨_, _, Try.underlying41, rfl, rfl, by kernel_rfl⟩
theorem fs41_3 : IsFs Try.prog 41 3 3 1 := ⟨_, _, Try.underlying41, rfl, rfl, by kernel_rfl⟩
theorem fs41_4 : IsFs Try.prog 41 4 4 1 := ⟨_, _, Try.underlying41, rfl, rfl, by kernel_rfl⟩
theorem fs41_5 : IsFs Try.prog 41 5 5 1 := ⟨_, _, Try.underlying41, rfl, rfl, by kernel_rfl⟩
theorem fs41_6 : IsFs Try.prog 41 6 6 1 := ⟨_, _, Try.underlying41, rfl, rfl, by kernel_rfl⟩
theorem fs41_7 : IsFs Try.prog 41 7 7 1 := ⟨_, _, Try.underlying41, rfl, rfl, by kernel_rfl⟩
theorem st46 : IsSt Try.prog 46 [.slice none 0 0, .int .i64 0] := ⟨zc46, _, Try.underlying46, by kernel_rfl⟩
theorem fs46_0 : IsFs Try.prog 46 0 0 1 := ⟨_, _, Try.underlying46, rfl, rfl, by kernel_rfl⟩
theorem fs46_1 : IsFs Try.prog 46 1 1 1 := ⟨_, _, Try.underlying46, rfl, rfl, by kernel_rfl⟩
theorem st50 : IsSt Try.prog 50 [.int .i64 0, .int .i64 0, .int .i64 0, .int .i64 0] := ⟨zc50, _, Try.underlying50, by kernel_rfl⟩
theorem fs50_0 : IsFs Try.prog 50 0 0 1 := ⟨_, _, Try.underlying50, rfl, rfl, by kernel_rfl⟩
theorem fs50_1 : IsFs Try.prog 50 1 1 1 := ⟨_, _, Try.underlying50, rfl, rfl, by kernel_rfl⟩
theorem fs50_2 : IsFs Try.prog 50 2 2 1 := ⟨_, _, Try.underlying50, rfl, rfl, by kernel_rfl⟩
theorem fs50_3 : IsFs Try.prog 50 3 3 1 := ⟨_, _, Try.underlying50, rfl, rfl, by kernel_rfl⟩
theorem st52 : IsSt Try.prog 52 [.int .i64 0, .int .i64 0, .int .i64 0, .int .i64 0, .int .i64 0, .int .i64 0, .int .i64 0] := ⟨zc52, _, Try.underlying52, by kernel_rfl⟩
theorem fs52_0 : IsFs Try.prog 52 0 0 1 := ⟨_, _, Try.underlying52, rfl, rfl, by kernel_rfl⟩
theorem fs52_1 : IsFs Try.prog 52 1 1 1 := ⟨_, _, Try.underlying52, rfl, rfl, by kernel_rfl⟩
theorem fs52_2 : IsFs Try.prog 52 2 2 1 := ⟨_, _, Try.underlying52, rfl, rfl, by kernel_rfl⟩
theorem fs52_3 : IsFs Try.prog 52 3 3 1 := ⟨_, _, Try.underlying52, rfl, rfl, by kernel_rfl⟩
theorem fs52_4 : IsFs Try.prog 52 4 4 1 := ⟨_, _, Try.underlying52, rfl, rfl, by kernel_rfl⟩
theorem fs52_5 : IsFs Try.prog 52 5 5 1 := ⟨_, _, Try.underlying52, rfl, rfl, by kernel_rfl⟩
theorem fs52_6 : IsFs Try.prog 52 6 6 1 := ⟨_, _, Try.underlying52, rfl, rfl, by kernel_rfl⟩
theorem fl24_0 : IsFl Try.prog 24 0 0 := ⟨_, _, Try.underlying24, rfl, rfl, by kernel_rfl⟩
theorem fl24_1 : IsFl Try.prog 24 1 1 := ⟨_, _, Try.underlying24, rfl, rfl, by kernel_rfl⟩
theorem fl24_2 : IsFl Try.prog 24 2 2 := ⟨_, _, Try.underlying24, rfl, rfl, by kernel_rfl⟩
theorem fl24_3 : IsFl Try.prog 24 3 3 := ⟨_, _, Try.underlying24, rfl, rfl, by kernel_rfl⟩
theorem fl24_4 : IsFl Try.prog 24 4 4 := ⟨_, _, Try.underlying24, rfl, rfl, by kernel_rfl⟩
theorem fl26_0 : IsFl Try.prog 26 0 0 := ⟨_, _, Try.underlying26, rfl, rfl, by kernel_rfl⟩
theorem fl26_1 : IsFl Try.prog 26 1 1 := ⟨_, _, Try.underlying26, rfl, rfl, by kernel_rfl⟩
theorem fl26_2 : IsFl Try.prog 26 2 2 := ⟨_, _, Try.underlying26, rfl, rfl, by kernel_rfl⟩
theorem fl26_3 : IsFl Try.prog 26 3 3 := ⟨_, _, Try.underlying26, rfl, rfl, by kernel_rfl⟩
theorem fl26_4 : IsFl Try.prog 26 4 4 := ⟨_, _, Try.underlying26, rfl, rfl, by kernel_rfl⟩
theorem fl41_0 : IsFl Try.prog 41 0 0 := ⟨_, _, Try.underlying41, rfl, rfl, by kernel_rfl⟩
theorem fl41_1 : IsFl Try.prog 41 1 1 := ⟨_, _, Try.underlying41, rfl, rfl, by kernel_rfl⟩
theorem fl41_2 : IsFl Try.prog 41 2 2 := ⟨_, _, Try.underlying41, rfl, rfl, by kernel_rfl⟩
theorem fl41_3 : IsFl Try.prog 41 3 3 := ⟨_, _, Try.underlying41, rfl, rfl, by kernel_rfl⟩
theorem fl41_4 : IsFl Try.prog 41 4 4 := ⟨_, _, Try.underlying41, rfl, rfl, by kernel_rfl⟩
theorem fl41_5 : IsFl Try.prog 41 5 5 := ⟨_, _, Try.underlying41, rfl, rfl, by kernel_rfl⟩
theorem fl41_6 : IsFl Try.prog 41 6 6 := ⟨_, _, Try.underlying41, rfl, rfl, by kernel_rfl⟩
theorem fl41_7 : IsFl Try.prog 41 7 7 := ⟨_, _, Try.underlying41, rfl, rfl, by kernel_rfl⟩
theorem fl46_0 : IsFl Try.prog 46 0 0 := ⟨_, _, Try.underlying46, rfl, rfl, by kernel_rfl⟩
theorem fl46_1 : IsFl Try.prog 46 1 1 := ⟨_, _, Try.underlying46, rfl, rfl, by kernel_rfl⟩
theorem fl50_0 : IsFl Try.prog 50 0 0 := ⟨_, _, Try.underlying50, rfl, rfl, by kernel_rfl⟩
theorem fl50_1 : IsFl Try.prog 50 1 1 := ⟨_, _, Try.underlying50, rfl, rfl, by kernel_rfl⟩
theorem fl50_2 : IsFl Try.prog 50 2 2 := ⟨_, _, Try.underlying50, rfl, rfl, by kernel_rfl⟩
theorem fl50_3 : IsFl Try.prog 50 3 3 := ⟨_, _, Try.underlying50, rfl, rfl, by kernel_rfl⟩
theorem fl52_0 : IsFl Try.prog 52 0 0 := ⟨_, _, Try.underlying52, rfl, rfl, by kernel_rfl⟩
theorem fl52_1 : IsFl Try.prog 52 1 1 := ⟨_, _, Try.underlying52, rfl, rfl, by kernel_rfl⟩
theorem fl52_2 : IsFl Try.prog 52 2 2 := ⟨_, _, Try.underlying52, rfl, rfl, by kernel_rfl⟩
theorem fl52_3 : IsFl Try.prog 52 3 3 := ⟨_, _, Try.underlying52, rfl, rfl, by kernel_rfl⟩
theorem fl52_4 : IsFl Try.prog 52 4 4 := ⟨_, _, Try.underlying52, rfl, rfl, by kernel_rfl⟩
theorem fl52_5 : IsFl Try.prog 52 5 5 := ⟨_, _, Try.underlying52, rfl, rfl, by kernel_rfl⟩
theorem fl52_6 : IsFl Try.prog 52 6 6 := ⟨_, _, Try.underlying52, rfl, rfl, by kernel_rfl⟩
theorem sl31 : IsSl Try.prog 31 5 1 := ⟨Try.underlying31, by kernel_rfl⟩
theorem el31 : IsEl Try.prog 31 5 1 1 [.int .u8 0] := isEl Try.underlying31 (by kernel_rfl) (by kernel_rfl) rfl rfl
theorem sl38 : IsSl Try.prog 38 50 4 := ⟨Try.underlying38, by kernel_rfl⟩
theorem el38 : IsEl Try.prog 38 50 4 32 [.int .i64 0, .int .i64 0, .int .i64 0, .int .i64 0] := isEl Try.underlying38 (by kernel_rfl) (by kernel_rfl) rfl rfl
theorem sl39 : IsSl Try.prog 39 52 7 := ⟨Try.underlying39, by kernel_rfl⟩
theorem el39 : IsEl Try.prog 39 52 7 56 [.int .i64 0, .int .i64 0, .int .i64 0, .int .i64 0, .int .i64 0, .int .i64 0, .int .i64 0] := isEl Try.underlying39 (by kernel_rfl) (by kernel_rfl) rfl rfl
theorem sl48 : IsSl Try.prog 48 3 1 := ⟨Try.underlying48, by kernel_rfl⟩
theorem el48 : IsEl Try.prog 48 3 1 8 [.int .i64 0] := isEl Try.underlying48 (by kernel_rfl) (by kernel_rfl) rfl rfl
theorem eqs26 (a0 a1 a2 a3 a4 b0 b1 b2 b3 b4 : Int) : IsEq Try.prog 26 (.agg #[.int .i64 a0, .int .i64 a1, .int .i64 a2, .int .i64 a3, .int .i64 a4]) (.agg #[.int .i64 b0, .int .i64 b1, .int .i64 b2, .int .i64 b3, .int .i64 b4]) (decide ((a0, a1, a2, a3, a4) = (b0, b1, b2, b3, b4))) := by
  intro ρ x y d t' ty w hx hy
  constructor <;> (simp only [Stp.oper, execOp, hx, hy]; go_simp; (repeat' split) <;> simp_all)
theorem pf7 : plainFn Try.prog 7 = true := by kernel_rfl
theorem pf8 : plainFn Try.prog 8 = true := by kernel_rfl
theorem pf9 : plainFn Try.prog 9 = true := by kernel_rfl
theorem pf10 : plainFn Try.prog 10 = true := by kernel_rfl
theorem pf11 : plainFn Try.prog 11 = true := by kernel_rfl
theorem pf12 : plainFn Try.prog 12 = true := by kernel_rfl
theorem pf13 : plainFn Try.prog 13 = true := by kernel_rfl
theorem pf14 : plainFn Try.prog 14 = true := by kernel_rfl
theorem pf15 : plainFn Try.prog 15 = true := by kernel_rfl
theorem pf16 : plainFn Try.prog 16 = true := by kernel_rfl
theorem pf17 : plainFn Try.prog 17 = true := by kernel_rfl
theorem pf18 : plainFn Try.prog 18 = true := by kernel_rfl
theorem pf19 : plainFn Try.prog 19 = true := by kernel_rfl
theorem pf20 : plainFn Try.prog 20 = true := by kernel_rfl
theorem pf21 : plainFn Try.prog 21 = true := by kernel_rfl
theorem pf22 : plainFn Try.prog 22 = true := by kernel_rfl
theorem pf23 : plainFn Try.prog 23 = true := by kernel_rfl
theorem pf24 : plainFn Try.prog 24 = true := by kernel_rfl
theorem pf25 : plainFn Try.prog 25 = true := by kernel_rfl
theorem pf26 : plainFn Try.prog 26 = true := by kernel_rfl
theorem pf27 : plainFn Try.prog 27 = true := by kernel_rfl
theorem pf28 : plainFn Try.prog 28 = true := by kernel_rfl
theorem pf29 : plainFn Try.prog 29 = true := by kernel_rfl
theorem pf30 : plainFn Try.prog 30 = true := by kernel_rfl
theorem pf31 : plainFn Try.prog 31 = true := by kernel_rfl
theorem pf32 : plainFn Try.prog 32 = true := by kernel_rfl
theorem pf33 : plainFn Try.prog 33 = true := by kernel_rfl
theorem pf34 : plainFn Try.prog 34 = true := by kernel_rfl
theorem pf35 : plainFn Try.prog 35 = true := by kernel_rfl
theorem pf36 : plainFn Try.prog 36 = true := by kernel_rfl
theorem mixed : Try.prog.follows .mixedOrders = true := by kernel_rfl
end Go.Proofs.Ytnkbaojmalkchaa.T
