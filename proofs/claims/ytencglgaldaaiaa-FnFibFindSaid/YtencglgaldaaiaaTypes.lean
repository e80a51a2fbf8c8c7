/- What the program's types are: cells, zero values, fields. -/
import Derived.Test.YtencglgaldaaiaaProg
import Derived.KernelRfl
import Derived.ProofKit
import Derived.Test.YtencglgaldaaiaaSymd
namespace Go.Proofs.Ytencglgaldaaiaa.T
open Go Go.RowKit
theorem sc3 : IsSc Try.prog 3 := ⟨_, Try.underlying3, rfl, by kernel_rfl⟩
theorem sc4 : IsSc Try.prog 4 := ⟨_, Try.underlying4, rfl, by kernel_rfl⟩
theorem sc5 : IsSc Try.prog 5 := ⟨_, Try.underlying5, rfl, by kernel_rfl⟩
theorem rw23 : IsRw Try.prog 23 2 := ⟨_, Try.underlying23, rfl, by kernel_rfl⟩
theorem rw25 : IsRw Try.prog 25 2 := ⟨_, Try.underlying25, rfl, by kernel_rfl⟩
theorem sc28 : IsSc Try.prog 28 := ⟨_, Try.underlying28, rfl, by kernel_rfl⟩
theorem sc32 : IsSc Try.prog 32 := ⟨_, Try.underlying32, rfl, by kernel_rfl⟩
theorem sc35 : IsSc Try.prog 35 := ⟨_, Try.underlying35, rfl, by kernel_rfl⟩
theorem rw55 : IsRw Try.prog 55 3 := ⟨_, Try.underlying55, rfl, by kernel_rfl⟩
theorem sc56 : IsSc Try.prog 56 := ⟨_, Try.underlying56, rfl, by kernel_rfl⟩
theorem sc57 : IsSc Try.prog 57 := ⟨_, Try.underlying57, rfl, by kernel_rfl⟩
theorem sc58 : IsSc Try.prog 58 := ⟨_, Try.underlying58, rfl, by kernel_rfl⟩
theorem rw60 : IsRw Try.prog 60 5 := ⟨_, Try.underlying60, rfl, by kernel_rfl⟩
theorem rw76 : IsRw Try.prog 76 3 := ⟨_, Try.underlying76, rfl, by kernel_rfl⟩
theorem rw81 : IsRw Try.prog 81 2 := ⟨_, Try.underlying81, rfl, by kernel_rfl⟩
theorem rw90 : IsRw Try.prog 90 4 := ⟨_, Try.underlying90, rfl, by kernel_rfl⟩
theorem rw92 : IsRw Try.prog 92 7 := ⟨_, Try.underlying92, rfl, by kernel_rfl⟩
theorem rw100 : IsRw Try.prog 100 2 := ⟨_, Try.underlying100, rfl, by kernel_rfl⟩
theorem rw110 : IsRw Try.prog 110 2 := ⟨_, Try.underlying110, rfl, by kernel_rfl⟩
theorem zc3 : zc Try.prog 3 = some [.int .i64 0] := by kernel_rfl
theorem zc4 : zc Try.prog 4 = some [.bool false] := by kernel_rfl
theorem zc5 : zc Try.prog 5 = some [.int .u8 0] := by kernel_rfl
theorem zc23 : zc Try.prog 23 = some [.int .i64 0, .int .i64 0] := by kernel_rfl
theorem zc25 : zc Try.prog 25 = some [.int .i64 0, .int .i64 0] := by kernel_rfl
theorem zc28 : zc Try.prog 28 = some [.slice none 0 0] := by kernel_rfl
theorem zc32 : zc Try.prog 32 = some [.slice none 0 0] := by kernel_rfl
theorem zc35 : zc Try.prog 35 = some [.slice none 0 0] := by kernel_rfl
theorem zc55 : zc Try.prog 55 = some [.int .i64 0, .int .i64 0, .slice none 0 0] := by kernel_rfl
theorem zc56 : zc Try.prog 56 = some [.slice none 0 0] := by kernel_rfl
theorem zc57 : zc Try.prog 57 = some [.slice none 0 0] := by kernel_rfl
theorem zc58 : zc Try.prog 58 = some [.slice none 0 0] := by kernel_rfl
theorem zc60 : zc Try.prog 60 = some [.slice none 0 0, .int .i64 0, .int .i64 0, .slice none 0 0, .slice none 0 0] := by kernel_rfl
theorem zc76 : zc Try.prog 76 = some [.int .i64 0, .int .i64 0, .slice none 0 0] := by kernel_rfl
theorem zc81 : zc Try.prog 81 = some [.int .i64 0, .int .i64 0] := by kernel_rfl
theorem zc90 : zc Try.prog 90 = some [.bool false, .int .i64 0, .int .i64 0, .slice none 0 0] := by kernel_rfl
theorem zc92 : zc Try.prog 92 = some [.bool false, .int .i64 0, .int .i64 0, .int .i64 0, .int .i64 0, .int .i64 0, .slice none 0 0] := by kernel_rfl
theorem zc100 : zc Try.prog 100 = some [.slice none 0 0, .int .i64 0] := by kernel_rfl
theorem zc110 : zc Try.prog 110 = some [.int .i64 0, .int .i64 0] := by kernel_rfl
theorem st23 : IsSt Try.prog 23 [.int .i64 0, .int .i64 0] := ⟨zc23, _, Try.underlying23, by kernel_rfl⟩
theorem fs23_0 : IsFs Try.prog 23 0 0 1 := ⟨_, _, Try.underlying23, rfl, rfl, by kernel_rfl⟩
theorem fs23_1 : IsFs Try.prog 23 1 1 1 := ⟨_, _, Try.underlying23, rfl, rfl, by kernel_rfl⟩
theorem st25 : IsSt Try.prog 25 [.int .i64 0, .int .i64 0] := ⟨zc25, _, Try.underlying25, by kernel_rfl⟩
theorem fs25_0 : IsFs Try.prog 25 0 0 1 := ⟨_, _, Try.underlying25, rfl, rfl, by kernel_rfl⟩
theorem fs25_1 : IsFs Try.prog 25 1 1 1 := ⟨_, _, Try.underlying25, rfl, rfl, by kernel_rfl⟩
theorem st55 : IsSt Try.prog 55 [.int .i64 0, .int .i64 0, .slice none 0 0] := ⟨zc55, _, Try.underlying55, by kernel_rfl⟩
theorem fs55_0 : IsFs Try.prog 55 0 0 1 := ⟨_, _, Try.underlying55, rfl, rfl, by kernel_rfl⟩
theorem fs55_1 : IsFs Try.prog 55 1 1 1 := ⟨_, _, Try.underlying55, rfl, rfl, by kernel_rfl⟩
theorem fs55_2 : IsFs Try.prog 55 2 2 1 := ⟨_, _, Try.underlying55, rfl, rfl, by kernel_rfl⟩
theorem st60 : IsSt Try.prog 60 [.slice none 0 0, .int .i64 0, .int .i64 0, .slice none 0 0, .slice none 0 0] := ⟨zc60, _, Try.underlying60, by kernel_rfl⟩
theorem fs60_0 : IsFs Try.prog 60 0 0 1 := ⟨_, _, Try.underlying60, rfl, rfl, by kernel_rfl⟩
theorem fs60_1 : IsFs Try.prog 60 1 1 1 := ⟨_, _, Try.underlying60, rfl, rfl, by kernel_rfl⟩
theorem fs60_2 : IsFs Try.prog 60 2 2 1 := ⟨_, _, Try.underlying60, rfl, rfl, by kernel_rfl⟩
theorem fs60_3 : IsFs Try.prog 60 3 3 1 := ⟨_, _, Try.underlying60, rfl, rfl, by kernel_rfl⟩
theorem fs60_4 : IsFs Try.prog 60 4 4 1 := ⟨_, _, Try.underlying60, rfl, rfl, by kernel_rfl⟩
theorem st76 : IsSt Try.prog 76 [.int .i64 0, .int .i64 0, .slice none 0 0] := ⟨zc76, _, Try.underlying76, by kernel_rfl⟩
theorem fs76_0 : IsFs Try.prog 76 0 0 1 := ⟨_, _, Try.underlying76, rfl, rfl, by kernel_rfl⟩
theorem fs76_1 : IsFs Try.prog 76 1 1 1 := ⟨_, _, Try.underlying76, rfl, rfl, by kernel_rfl⟩
theorem fs76_2 : IsFs Try.prog 76 2 2 1 := ⟨_, _, Try.underlying76, rfl, rfl, by kernel_rfl⟩
theorem st81 : IsSt Try.prog 81 [.int .i64 0, .int .i64 0] := ⟨zc81, _, Try.underlying81, by kernel_rfl⟩
theorem fs81_0 : IsFs Try.prog 81 0 0 1 := ⟨_, _, Try.underlying81, rfl, rfl, by kernel_rfl⟩
theorem fs81_1 : IsFs Try.prog 81 1 1 1 := ⟨_, _, Try.underlying81, rfl, rfl, by kernel_rfl⟩
theorem st90 : IsSt Try.prog 90 [.bool false, .int .i64 0, .int .i64 0, .slice none 0 0] := ⟨zc90, _, Try.underlying90, by kernel_rfl⟩
theorem fs90_0 : IsFs Try.prog 90 0 0 1 := ⟨_, _, Try.underlying90, rfl, rfl, by kernel_rfl⟩
theorem fs90_1 : IsFs Try.prog 90 1 1 1 := ⟨_, _, Try.underlying90, rfl, rfl, by kernel_rfl⟩
theorem fs90_2 : IsFs Try.prog 90 2 2 1 := ⟨_, _, Try.underlying90, rfl, rfl, by kernel_rfl⟩
theorem fs90_3 : IsFs Try.prog 90 3 3 1 := ⟨_, _, Try.underlying90, rfl, rfl, by kernel_rfl⟩
theorem st92 : IsSt Try.prog 92 [.bool false, .int .i64 0, .int .i64 0, .int .i64 0, .int .i64 0, .int .i64 0, .slice none 0 0] := ⟨zc92, _, Try.underlying92, by kernel_rfl⟩
theorem fs92_0 : IsFs Try.prog 92 0 0 1 := ⟨_, _, Try.underlying92, rfl, rfl, by kernel_rfl⟩
theorem fs92_1 : IsFs Try.prog 92 1 1 1 := ⟨_, _, Try.underlying92, rfl, rfl, by kernel_rfl⟩
theorem fs92_2 : IsFs Try.prog 92 2 2 1 := ⟨_, _, Try.underlying92, rfl, rfl, by kernel_rfl⟩
theorem fs92_3 : IsFs Try.prog 92 3 3 1 := ⟨_, _, Try.underlying92, rfl, rfl, by kernel_rfl⟩
theorem fs92_4 : IsFs Try.prog 92 4 4 1 := ⟨_, _, Try.underlying92, rfl, rfl, by kernel_rfl⟩
theorem fs92_5 : IsFs Try.prog 92 5 5 1 := ⟨_, _, Try.underlying92, rfl, rfl, by kernel_rfl⟩
theorem fs92_6 : IsFs Try.prog 92 6 6 1 := ⟨_, _, Try.underlying92, rfl, rfl, by kernel_rfl⟩
theorem st100 : IsSt Try.prog 100 [.slice none 0 0, .int .i64 0] := ⟨zc100, _, Try.underlying100, by kernel_rfl⟩
theorem fs100_0 : IsFs Try.prog 100 0 0 1 := ⟨_, _, Try.underlying100, rfl, rfl, by kernel_rfl⟩
theorem fs100_1 : IsFs Try.prog 100 1 1 1 := ⟨_, _, Try.underlying100, rfl, rfl, by kernel_rfl⟩
theorem st110 : IsSt Try.prog 110 [.int .i64 0, .int .i64 0] := ⟨zc110, _, Try.underlying110, by kernel_rfl⟩
theorem fs110_0 : IsFs Try.prog 110 0 0 1 := ⟨_, _, Try.underlying110, rfl, rfl, by kernel_rfl⟩
theorem fs110_1 : IsFs Try.prog 110 1 1 1 := ⟨_, _, Try.underlying110, rfl, rfl, by kernel_rfl⟩
theorem fl23_0 : IsFl Try.prog 23 0 0 := ⟨_, _, Try.underlying23, rfl, rfl, by kernel_rfl⟩
theorem fl23_1 : IsFl Try.prog 23 1 1 := ⟨_, _, Try.underlying23, rfl, rfl, by kernel_rfl⟩
theorem fl25_0 : IsFl Try.prog 25 0 0 := ⟨_, _, Try.underlying25, rfl, rfl, by kernel_rfl⟩
theorem fl25_1 : IsFl Try.prog 25 1 1 := ⟨_, _, Try.underlying25, rfl, rfl, by kernel_rfl⟩
theorem fl55_0 : IsFl Try.prog 55 0 0 := ⟨_, _, Try.underlying55, rfl, rfl, by kernel_rfl⟩
theorem fl55_1 : IsFl Try.prog 55 1 1 := ⟨_, _, Try.underlying55, rfl, rfl, by kernel_rfl⟩
theorem fl55_2 : IsFl Try.prog 55 2 2 := ⟨_, _, Try.underlying55, rfl, rfl, by kernel_rfl⟩
theorem fl60_0 : IsFl Try.prog 60 0 0 := ⟨_, _, Try.underlying60, rfl, rfl, by kernel_rfl⟩
theorem fl60_1 : IsFl Try.prog 60 1 1 := ⟨_, _, Try.underlying60, rfl, rfl, by kernel_rfl⟩
theorem fl60_2 : IsFl Try.prog 60 2 2 := ⟨_, _, Try.underlying60, rfl, rfl, by kernel_rfl⟩
theorem fl60_3 : IsFl Try.prog 60 3 3 := ⟨_, _, Try.underlying60, rfl, rfl, by kernel_rfl⟩
theorem fl60_4 : IsFl Try.prog 60 4 4 := ⟨_, _, Try.underlying60, rfl, rfl, by kernel_rfl⟩
theorem fl76_0 : IsFl Try.prog 76 0 0 := ⟨_, _, Try.underlying76, rfl, rfl, by kernel_rfl⟩
theorem fl76_1 : IsFl Try.prog 76 1 1 := ⟨_, _, Try.underlying76, rfl, rfl, by kernel_rfl⟩
theorem fl76_2 : IsFl Try.prog 76 2 2 := ⟨_, _, Try.underlying76, rfl, rfl, by kernel_rfl⟩
theorem fl81_0 : IsFl Try.prog 81 0 0 := ⟨_, _, Try.underlying81, rfl, rfl, by kernel_rfl⟩
theorem fl81_1 : IsFl Try.prog 81 1 1 := ⟨_, _, Try.underlying81, rfl, rfl, by kernel_rfl⟩
theorem fl90_0 : IsFl Try.prog 90 0 0 := ⟨_, _, Try.underlying90, rfl, rfl, by kernel_rfl⟩
theorem fl90_1 : IsFl Try.prog 90 1 1 := ⟨_, _, Try.underlying90, rfl, rfl, by kernel_rfl⟩
theorem fl90_2 : IsFl Try.prog 90 2 2 := ⟨_, _, Try.underlying90, rfl, rfl, by kernel_rfl⟩
theorem fl90_3 : IsFl Try.prog 90 3 3 := ⟨_, _, Try.underlying90, rfl, rfl, by kernel_rfl⟩
theorem fl92_0 : IsFl Try.prog 92 0 0 := ⟨_, _, Try.underlying92, rfl, rfl, by kernel_rfl⟩
theorem fl92_1 : IsFl Try.prog 92 1 1 := ⟨_, _, Try.underlying92, rfl, rfl, by kernel_rfl⟩
theorem fl92_2 : IsFl Try.prog 92 2 2 := ⟨_, _, Try.underlying92, rfl, rfl, by kernel_rfl⟩
theorem fl92_3 : IsFl Try.prog 92 3 3 := ⟨_, _, Try.underlying92, rfl, rfl, by kernel_rfl⟩
theorem fl92_4 : IsFl Try.prog 92 4 4 := ⟨_, _, Try.underlying92, rfl, rfl, by kernel_rfl⟩
theorem fl92_5 : IsFl Try.prog 92 5 5 := ⟨_, _, Try.underlying92, rfl, rfl, by kernel_rfl⟩
theorem fl92_6 : IsFl Try.prog 92 6 6 := ⟨_, _, Try.underlying92, rfl, rfl, by kernel_rfl⟩
theorem fl100_0 : IsFl Try.prog 100 0 0 := ⟨_, _, Try.underlying100, rfl, rfl, by kernel_rfl⟩
theorem fl100_1 : IsFl Try.prog 100 1 1 := ⟨_, _, Try.underlying100, rfl, rfl, by kernel_rfl⟩
theorem fl110_0 : IsFl Try.prog 110 0 0 := ⟨_, _, Try.underlying110, rfl, rfl, by kernel_rfl⟩
theorem fl110_1 : IsFl Try.prog 110 1 1 := ⟨_, _, Try.underlying110, rfl, rfl, by kernel_rfl⟩
theorem sl28 : IsSl Try.prog 28 5 1 := ⟨Try.underlying28, by kernel_rfl⟩
theorem el28 : IsEl Try.prog 28 5 1 1 [.int .u8 0] := isEl Try.underlying28 (by kernel_rfl) (by kernel_rfl) rfl rfl
theorem sl32 : IsSl Try.prog 32 23 2 := ⟨Try.underlying32, by kernel_rfl⟩
theorem el32 : IsEl Try.prog 32 23 2 16 [.int .i64 0, .int .i64 0] := isEl Try.underlying32 (by kernel_rfl) (by kernel_rfl) rfl rfl
theorem sl35 : IsSl Try.prog 35 25 2 := ⟨Try.underlying35, by kernel_rfl⟩
theorem el35 : IsEl Try.prog 35 25 2 16 [.int .i64 0, .int .i64 0] := isEl Try.underlying35 (by kernel_rfl) (by kernel_rfl) rfl rfl
theorem sl43 : IsSl Try.prog 43 76 3 := ⟨Try.underlying43, by kernel_rfl⟩
theorem el43 : IsEl Try.prog 43 76 3 40 [.int .i64 0, .int .i64 0, .slice none 0 0] := isEl Try.underlying43 (by kernel_rfl) (by kernel_rfl) rfl rfl
theorem sl46 : IsSl Try.prog 46 55 3 := ⟨Try.underlying46, by kernel_rfl⟩
theorem el46 : IsEl Try.prog 46 55 3 40 [.int .i64 0, .int .i64 0, .slice none 0 0] := isEl Try.underlying46 (by kernel_rfl) (by kernel_rfl) rfl rfl
theorem sl56 : IsSl Try.prog 56 90 4 := ⟨Try.underlying56, by kernel_rfl⟩
theorem el56 : IsEl Try.prog 56 90 4 48 [.bool false, .int .i64 0, .int .i64 0, .slice none 0 0] := isEl Try.underlying56 (by kernel_rfl) (by kernel_rfl) rfl rfl
theorem sl57 : IsSl Try.prog 57 110 2 := ⟨Try.underlying57, by kernel_rfl⟩
theorem el57 : IsEl Try.prog 57 110 2 16 [.int .i64 0, .int .i64 0] := isEl Try.underlying57 (by kernel_rfl) (by kernel_rfl) rfl rfl
theorem sl58 : IsSl Try.prog 58 92 7 := ⟨Try.underlying58, by kernel_rfl⟩
theorem el58 : IsEl Try.prog 58 92 7 72 [.bool false, .int .i64 0, .int .i64 0, .int .i64 0, .int .i64 0, .int .i64 0, .slice none 0 0] := isEl Try.underlying58 (by kernel_rfl) (by kernel_rfl) rfl rfl
theorem sl69 : IsSl Try.prog 69 3 1 := ⟨Try.underlying69, by kernel_rfl⟩
theorem el69 : IsEl Try.prog 69 3 1 8 [.int .i64 0] := isEl Try.underlying69 (by kernel_rfl) (by kernel_rfl) rfl rfl
theorem eqs25 (a0 a1 b0 b1 : Int) : IsEq Try.prog 25 (.agg #[.int .i64 a0, .int .i64 a1]) (.agg #[.int .i64 b0, .int .i64 b1]) (decide ((a0, a1) = (b0, b1))) := by
  intro ρ x y d t' ty w hx hy
  constructor <;> (simp only [Stp.oper, execOp, hx, hy]; go_simp; (repeat' split) <;> simp_all)
theorem pf12 : plainFn Try.prog 12 = true := by kernel_rfl
theorem pf13 : plainFn Try.prog 13 = true := by kernel_rfl
theorem pf14 : plainFn Try.prog 14 = true := by kernel_rfl
theorem pf15 : plainFn Try.prog 15 = true := by kernel_rfl
theorem pf16 : plainFn Try.prog 16 = true := by kernel_rfl
theorem pf17 : plainFn Try.prog 17 = true := by kernel_rfl
theorem pf18 : plainFn Try.prog 18 = true := by kernel_rfl
theorem pf19 : plainFn Try.prog 19 = true := by kernel_rfl
theorem pf20 : plainFn Try.prog 20 = true := by kernel_rfl
theorem pf21 : plainFn Try.prog 21 = true := by kernel_rfl
theorem pf22 : plainFn Try.prog 22 = true := by kernel_rfl
theorem pf23 : plainFn Try.prog 23 = true := by kernel_rfl
theorem pf24 : plainFn Try.prog 24 = true := by kernel_rfl
theorem pf25 : plainFn Try.prog 25 = true := by kernel_rfl
theorem pf26 : plainFn Try.prog 26 = true := by kernel_rfl
theorem pf27 : plainFn Try.prog 27 = true := by kernel_rfl
theorem pf28 : plainFn Try.prog 28 = true := by kernel_rfl
theorem pf29 : plainFn Try.prog 29 = true := by kernel_rfl
theorem pf30 : plainFn Try.prog 30 = true := by kernel_rfl
theorem pf31 : plainFn Try.prog 31 = true := by kernel_rfl
theorem pf32 : plainFn Try.prog 32 = true := by kernel_rfl
theorem pf33 : plainFn Try.prog 33 = true := by kernel_rfl
theorem pf34 : plainFn Try.prog 34 = true := by kernel_rfl
theorem pf35 : plainFn Try.prog 35 = true := by kernel_rfl
theorem pf36 : plainFn Try.prog 36 = true := by kernel_rfl
theorem pf37 : plainFn Try.prog 37 = true := by kernel_rfl
theorem pf38 : plainFn Try.prog 38 = true := by kernel_rfl
theorem pf39 : plainFn Try.prog 39 = true := by kernel_rfl
theorem pf40 : plainFn Try.prog 40 = true := by kernel_rfl
theorem pf41 : plainFn Try.prog 41 = true := by kernel_rfl
theorem pf42 : plainFn Try.prog 42 = true := by kernel_rfl
theorem pf43 : plainFn Try.prog 43 = true := by kernel_rfl
theorem pf44 : plainFn Try.prog 44 = true := by kernel_rfl
theorem pf45 : plainFn Try.prog 45 = true := by kernel_rfl
theorem pf46 : plainFn Try.prog 46 = true := by kernel_rfl
theorem pf47 : plainFn Try.prog 47 = true := by kernel_rfl
theorem pf48 : plainFn Try.prog 48 = true := by kernel_rfl
theorem pf49 : plainFn Try.prog 49 = true := by kernel_rfl
theorem pf50 : plainFn Try.prog 50 = true := by kernel_rfl
theorem pf51 : plainFn Try.prog 51 = true := by kernel_rfl
theorem pf52 : plainFn Try.prog 52 = true := by kernel_rfl
theorem pf53 : plainFn Try.prog 53 = true := by kernel_rfl
theorem pf54 : plainFn Try.prog 54 = true := by kernel_rfl
theorem pf55 : plainFn Try.prog 55 = true := by kernel_rfl
theorem pf56 : plainFn Try.prog 56 = true := by kernel_rfl
theorem pf57 : plainFn Try.prog 57 = true := by kernel_rfl
theorem pf58 : plainFn Try.prog 58 = true := by kernel_rfl
theorem pf59 : plainFn Try.prog 59 = true := by kernel_rfl
theorem pf60 : plainFn Try.prog 60 = true := by kernel_rfl
theorem pf61 : plainFn Try.prog 61 = true := by kernel_rfl
theorem pf62 : plainFn Try.prog 62 = true := by kernel_rfl
theorem pf63 : plainFn Try.prog 63 = true := by kernel_rfl
theorem pf64 : plainFn Try.prog 64 = true := by kernel_rfl
theorem pf65 : plainFn Try.prog 65 = true := by kernel_rfl
theorem pf66 : plainFn Try.prog 66 = true := by kernel_rfl
theorem pf67 : plainFn Try.prog 67 = true := by kernel_rfl
theorem pf68 : plainFn Try.prog 68 = true := by kernel_rfl
theorem pf69 : plainFn Try.prog 69 = true := by kernel_rfl
theorem pf70 : plainFn Try.prog 70 = true := by kernel_rfl
theorem pf71 : plainFn Try.prog 71 = true := by kernel_rfl
theorem pf72 : plainFn Try.prog 72 = true := by kernel_rfl
theorem pf73 : plainFn Try.prog 73 = true := by kernel_rfl
theorem pf74 : plainFn Try.prog 74 = true := by kernel_rfl
theorem pf75 : plainFn Try.prog 75 = true := by kernel_rfl
theorem pf76 : plainFn Try.prog 76 = true := by kernel_rfl
theorem pf77 : plainFn Try.prog 77 = true := by kernel_rfl
theorem pf78 : plainFn Try.prog 78 = true := by kernel_rfl
theorem pf79 : plainFn Try.prog 79 = true := by kernel_rfl
theorem pf80 : plainFn Try.prog 80 = true := by kernel_rfl
theorem pf81 : plainFn Try.prog 81 = true := by kernel_rfl
theorem pf82 : plainFn Try.prog 82 = true := by kernel_rfl
theorem mixed : Try.prog.follows .mixedOrders = true := by kernel_rfl
end Go.Proofs.Ytencglgaldaaiaa.T
