/- What the program's types are: cells, zero values, fields. -/
import Derived.Test.YtobgbogglilfjaaProg
import Derived.KernelRfl
import Derived.ProofKit
import Derived.Test.YtobgbogglilfjaaSymd
namespace Go.Proofs.Ytobgbogglilfjaa.T
open Go Go.RowKit
theorem sc3 : IsSc Try.prog 3 := ⟨_, Try.underlying3, rfl, by kernel_rfl⟩
theorem sc5 : IsSc Try.prog 5 := ⟨_, Try.underlying5, rfl, by kernel_rfl⟩
theorem rw23 : IsRw Try.prog 23 2 := ⟨_, Try.underlying23, rfl, by kernel_rfl⟩
theorem rw25 : IsRw Try.prog 25 2 := ⟨_, Try.underlying25, rfl, by kernel_rfl⟩
theorem sc41 : IsSc Try.prog 41 := ⟨_, Try.underlying41, rfl, by kernel_rfl⟩
theorem rw72 : IsRw Try.prog 72 2 := ⟨_, Try.underlying72, rfl, by kernel_rfl⟩
theorem zc3 : zc Try.prog 3 = some [.int .i64 0] := by kernel_rfl
theorem zc5 : zc Try.prog 5 = some [.int .u8 0] := by kernel_rfl
theorem zc23 : zc Try.prog 23 = some [.int .i64 0, .int .i64 0] := by kernel_rfl
theorem zc25 : zc Try.prog 25 = some [.int .i64 0, .int .i64 0] := by kernel_rfl
theorem zc41 : zc Try.prog 41 = some [.slice none 0 0] := by kernel_rfl
theorem zc72 : zc Try.prog 72 = some [.slice none 0 0, .int .i64 0] := by kernel_rfl
theorem st23 : IsSt Try.prog 23 [.int .i64 0, .int .i64 0] := ⟨zc23, _, Try.underlying23, by kernel_rfl⟩
theorem fs23_0 : IsFs Try.prog 23 0 0 1 := ⟨_, _, Try.underlying23, rfl, rfl, by kernel_rfl⟩
theorem fs23_1 : IsFs Try.prog 23 1 1 1 := ⟨_, _, Try.underlying23, rfl, rfl, by kernel_rfl⟩
theorem st25 : IsSt Try.prog 25 [.int .i64 0, .int .i64 0] := ⟨zc25, _, Try.underlying25, by kernel_rfl⟩
theorem fs25_0 : IsFs Try.prog 25 0 0 1 := ⟨_, _, Try.underlying25, rfl, rfl, by kernel_rfl⟩
theorem fs25_1 : IsFs Try.prog 25 1 1 1 := ⟨_, _, Try.underlying25, rfl, rfl, by kernel_rfl⟩
theorem st72 : IsSt Try.prog 72 [.slice none 0 0, .int .i64 0] := ⟨zc72, _, Try.underlying72, by kernel_rfl⟩
theorem fs72_0 : IsFs Try.prog 72 0 0 1 := ⟨_, _, Try.underlying72, rfl, rfl, by kernel_rfl⟩
theorem fs72_1 : IsFs Try.prog 72 1 1 1 := ⟨_, _, Try.underlying72, rfl, rfl, by kernel_rfl⟩
theorem fl23_0 : IsFl Try.prog 23 0 0 := ⟨_, _, Try.underlying23, rfl, rfl, by kernel_rfl⟩
theorem fl23_1 : IsFl Try.prog 23 1 1 := ⟨_, _, Try.underlying23, rfl, rfl, by kernel_rfl⟩
theorem fl25_0 : IsFl Try.prog 25 0 0 := ⟨_, _, Try.underlying25, rfl, rfl, by kernel_rfl⟩
theorem fl25_1 : IsFl Try.prog 25 1 1 := ⟨_, _, Try.underlying25, rfl, rfl, by kernel_rfl⟩
theorem fl72_0 : IsFl Try.prog 72 0 0 := ⟨_, _, Try.underlying72, rfl, rfl, by kernel_rfl⟩
theorem fl72_1 : IsFl Try.prog 72 1 1 := ⟨_, _, Try.underlying72, rfl, rfl, by kernel_rfl⟩
theorem sl34 : IsSl Try.prog 34 23 2 := ⟨Try.underlying34, by kernel_rfl⟩
theorem el34 : IsEl Try.prog 34 23 2 16 [.int .i64 0, .int .i64 0] := isEl Try.underlying34 (by kernel_rfl) (by kernel_rfl) rfl rfl
theorem sl37 : IsSl Try.prog 37 25 2 := ⟨Try.underlying37, by kernel_rfl⟩
theorem el37 : IsEl Try.prog 37 25 2 16 [.int .i64 0, .int .i64 0] := isEl Try.underlying37 (by kernel_rfl) (by kernel_rfl) rfl rfl
theorem sl41 : IsSl Try.prog 41 5 1 := ⟨Try.underlying41, by kernel_rfl⟩
theorem el41 : IsEl Try.prog 41 5 1 1 [.int .u8 0] := isEl Try.underlying41 (by kernel_rfl) (by kernel_rfl) rfl rfl
theorem sl74 : IsSl Try.prog 74 3 1 := ⟨Try.underlying74, by kernel_rfl⟩
theorem el74 : IsEl Try.prog 74 3 1 8 [.int .i64 0] := isEl Try.underlying74 (by kernel_rfl) (by kernel_rfl) rfl rfl
theorem eqs25 (a0 a1 b0 b1 : Int) : IsEq Try.prog 25 (.agg #[.int .i64 a0, .int .i64 a1]) (.agg #[.int .i64 b0, .int .i64 b1]) (decide ((a0, a1) = (b0, b1))) := by
  intro ρ x y d t' ty w hx hy
  constructor <;> (simp only [Stp.oper, execOp, hx, hy]; go_simp; (repeat' split) <;> simp_all)
theorem pf14 : plainFn Try.prog 14 = true := by kernel_rfl
theorem pf15 : plainFn Try.prog 15 = true := by kernel_rfl
theorem pf16 : plainFn Try.prog 16 = true := by kernel_rfl
theorem pf17 : plainFn Try.prog 17 = true := by kernel_rfl
theorem pf18 : plainFn Try.prog 18 = true := by kernel_rfl
theorem pf19 : plainFn Try.prog 19 = true := by kernel_rfl
theorem pf20 : plainFn Try.prog 20 = true := by kernel_rfl
theorem pf21 : plainFn Try.prog 21 = true := by kernel_rfl
theorem pf22 : plainFn Try.prog 22 = true := by kernel_rfl
theorem pf23 : plainFn Try.prog 23 = true := by kernel_rfl
theorem pf24 : plainFn Try.prog 24 = true := by kernel_rfl
theorem pf25 : plainFn Try.prog 25 = true := by kernel_rfl
theorem pf26 : plainFn Try.prog 26 = true := by kernel_rfl
theorem pf27 : plainFn Try.prog 27 = true := by kernel_rfl
theorem pf28 : plainFn Try.prog 28 = true := by kernel_rfl
theorem pf29 : plainFn Try.prog 29 = true := by kernel_rfl
theorem pf30 : plainFn Try.prog 30 = true := by kernel_rfl
theorem pf31 : plainFn Try.prog 31 = true := by kernel_rfl
theorem pf32 : plainFn Try.prog 32 = true := by kernel_rfl
theorem pf33 : plainFn Try.prog 33 = true := by kernel_rfl
theorem pf34 : plainFn Try.prog 34 = true := by kernel_rfl
theorem pf35 : plainFn Try.prog 35 = true := by kernel_rfl
theorem pf36 : plainFn Try.prog 36 = true := by kernel_rfl
theorem pf37 : plainFn Try.prog 37 = true := by kernel_rfl
theorem pf38 : plainFn Try.prog 38 = true := by kernel_rfl
theorem pf39 : plainFn Try.prog 39 = true := by kernel_rfl
theorem pf40 : plainFn Try.prog 40 = true := by kernel_rfl
theorem pf41 : plainFn Try.prog 41 = true := by kernel_rfl
theorem pf42 : plainFn Try.prog 42 = true := by kernel_rfl
theorem pf43 : plainFn Try.prog 43 = true := by kernel_rfl
theorem pf44 : plainFn Try.prog 44 = true := by kernel_rfl
theorem pf45 : plainFn Try.prog 45 = true := by kernel_rfl
theorem pf46 : plainFn Try.prog 46 = true := by kernel_rfl
theorem pf47 : plainFn Try.prog 47 = true := by kernel_rfl
theorem pf48 : plainFn Try.prog 48 = true := by kernel_rfl
theorem pf49 : plainFn Try.prog 49 = true := by kernel_rfl
theorem pf50 : plainFn Try.prog 50 = true := by kernel_rfl
theorem pf51 : plainFn Try.prog 51 = true := by kernel_rfl
theorem pf52 : plainFn Try.prog 52 = true := by kernel_rfl
theorem pf53 : plainFn Try.prog 53 = true := by kernel_rfl
theorem pf54 : plainFn Try.prog 54 = true := by kernel_rfl
theorem pf55 : plainFn Try.prog 55 = true := by kernel_rfl
theorem pf56 : plainFn Try.prog 56 = true := by kernel_rfl
theorem pf57 : plainFn Try.prog 57 = true := by kernel_rfl
theorem pf58 : plainFn Try.prog 58 = true := by kernel_rfl
theorem pf59 : plainFn Try.prog 59 = true := by kernel_rfl
theorem pf60 : plainFn Try.prog 60 = true := by kernel_rfl
theorem pf61 : plainFn Try.prog 61 = true := by kernel_rfl
theorem pf62 : plainFn Try.prog 62 = true := by kernel_rfl
theorem pf63 : plainFn Try.prog 63 = true := by kernel_rfl
theorem pf64 : plainFn Try.prog 64 = true := by kernel_rfl
theorem pf65 : plainFn Try.prog 65 = true := by kernel_rfl
theorem pf66 : plainFn Try.prog 66 = true := by kernel_rfl
theorem mixed : Try.prog.follows .mixedOrders = true := by kernel_rfl
end Go.Proofs.Ytobgbogglilfjaa.T
