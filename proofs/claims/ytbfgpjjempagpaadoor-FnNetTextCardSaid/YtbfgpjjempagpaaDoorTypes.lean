/- What the program's types are: cells, zero values, fields. -/
import Derived.Test.YtbfgpjjempagpaaDoorProg
import Derived.KernelRfl
import Derived.ProofKit
import Derived.Test.YtbfgpjjempagpaaDoorSymd
namespace Go.Proofs.YtbfgpjjempagpaaDoor.T
open Go Go.RowKit
theorem sc3 : IsSc Tryd.prog 3 := ⟨_, Tryd.underlying3, rfl, by kernel_rfl⟩
theorem sc5 : IsSc Tryd.prog 5 := ⟨_, Tryd.underlying5, rfl, by kernel_rfl⟩
theorem sc9 : IsSc Tryd.prog 9 := ⟨_, Tryd.underlying9, rfl, by kernel_rfl⟩
theorem rw25 : IsRw Tryd.prog 25 2 := ⟨_, Tryd.underlying25, rfl, by kernel_rfl⟩
theorem rw27 : IsRw Tryd.prog 27 2 := ⟨_, Tryd.underlying27, rfl, by kernel_rfl⟩
theorem sc35 : IsSc Tryd.prog 35 := ⟨_, Tryd.underlying35, rfl, by kernel_rfl⟩
theorem rw58 : IsRw Tryd.prog 58 2 := ⟨_, Tryd.underlying58, rfl, by kernel_rfl⟩
theorem zc3 : zc Tryd.prog 3 = some [.int .i64 0] := by kernel_rfl
theorem zc5 : zc Tryd.prog 5 = some [.int .u8 0] := by kernel_rfl
theorem zc9 : zc Tryd.prog 9 = some [.string ⟨#[]⟩] := by kernel_rfl
theorem zc25 : zc Tryd.prog 25 = some [.int .i64 0, .int .i64 0] := by kernel_rfl
theorem zc27 : zc Tryd.prog 27 = some [.int .i64 0, .int .i64 0] := by kernel_rfl
theorem zc35 : zc Tryd.prog 35 = some [.slice none 0 0] := by kernel_rfl
theorem zc58 : zc Tryd.prog 58 = some [.slice none 0 0, .int .i64 0] := by kernel_rfl
theorem st25 : IsSt Tryd.prog 25 [.int .i64 0, .int .i64 0] := ⟨zc25, _, Tryd.underlying25, by kernel_rfl⟩
theorem fs25_0 : IsFs Tryd.prog 25 0 0 1 := ⟨_, _, Tryd.underlying25, rfl, rfl, by kernel_rfl⟩
theorem fs25_1 : IsFs Tryd.prog 25 1 1 1 := ⟨_, _, Tryd.underlying25, rfl, rfl, by kernel_rfl⟩
theorem st27 : IsSt Tryd.prog 27 [.int .i64 0, .int .i64 0] := ⟨zc27, _, Tryd.underlying27, by kernel_rfl⟩
theorem fs27_0 : IsFs Tryd.prog 27 0 0 1 := ⟨_, _, Tryd.underlying27, rfl, rfl, by kernel_rfl⟩
theorem fs27_1 : IsFs Tryd.prog 27 1 1 1 := ⟨_, _, Tryd.underlying27, rfl, rfl, by kernel_rfl⟩
theorem st58 : IsSt Tryd.prog 58 [.slice none 0 0, .int .i64 0] := ⟨zc58, _, Tryd.underlying58, by kernel_rfl⟩
theorem fs58_0 : IsFs Tryd.prog 58 0 0 1 := ⟨_, _, Tryd.underlying58, rfl, rfl, by kernel_rfl⟩
theorem fs58_1 : IsFs Tryd.prog 58 1 1 1 := ⟨_, _, Tryd.underlying58, rfl, rfl, by kernel_rfl⟩
theorem fl25_0 : IsFl Tryd.prog 25 0 0 := ⟨_, _, Tryd.underlying25, rfl, rfl, by kernel_rfl⟩
theorem fl25_1 : IsFl Tryd.prog 25 1 1 := ⟨_, _, Tryd.underlying25, rfl, rfl, by kernel_rfl⟩
theorem fl27_0 : IsFl Tryd.prog 27 0 0 := ⟨_, _, Tryd.underlying27, rfl, rfl, by kernel_rfl⟩
theorem fl27_1 : IsFl Tryd.prog 27 1 1 := ⟨_, _, Tryd.underlying27, rfl, rfl, by kernel_rfl⟩
theorem fl58_0 : IsFl Tryd.prog 58 0 0 := ⟨_, _, Tryd.underlying58, rfl, rfl, by kernel_rfl⟩
theorem fl58_1 : IsFl Tryd.prog 58 1 1 := ⟨_, _, Tryd.underlying58, rfl, rfl, by kernel_rfl⟩
theorem sl35 : IsSl Tryd.prog 35 5 1 := ⟨Tryd.underlying35, by kernel_rfl⟩
theorem el35 : IsEl Tryd.prog 35 5 1 1 [.int .u8 0] := isEl Tryd.underlying35 (by kernel_rfl) (by kernel_rfl) rfl rfl
theorem sl42 : IsSl Tryd.prog 42 9 1 := ⟨Tryd.underlying42, by kernel_rfl⟩
theorem el42 : IsEl Tryd.prog 42 9 1 16 [.string ⟨#[]⟩] := isEl Tryd.underlying42 (by kernel_rfl) (by kernel_rfl) rfl rfl
theorem sl52 : IsSl Tryd.prog 52 3 1 := ⟨Tryd.underlying52, by kernel_rfl⟩
theorem el52 : IsEl Tryd.prog 52 3 1 8 [.int .i64 0] := isEl Tryd.underlying52 (by kernel_rfl) (by kernel_rfl) rfl rfl
theorem eqs27 (a0 a1 b0 b1 : Int) : IsEq Tryd.prog 27 (.agg #[.int .i64 a0, .int .i64 a1]) (.agg #[.int .i64 b0, .int .i64 b1]) (decide ((a0, a1) = (b0, b1))) := by
  intro ρ x y d t' ty w hx hy
  constructor <;> (simp only [Stp.oper, execOp, hx, hy]; go_simp; (repeat' split) <;> simp_all)
theorem pf8 : plainFn Tryd.prog 8 = true := by kernel_rfl
theorem pf9 : plainFn Tryd.prog 9 = true := by kernel_rfl
theorem pf10 : plainFn Tryd.prog 10 = true := by kernel_rfl
theorem pf11 : plainFn Tryd.prog 11 = true := by kernel_rfl
theorem pf12 : plainFn Tryd.prog 12 = true := by kernel_rfl
theorem pf13 : plainFn Tryd.prog 13 = true := by kernel_rfl
theorem pf14 : plainFn Tryd.prog 14 = true := by kernel_rfl
theorem pf15 : plainFn Tryd.prog 15 = true := by kernel_rfl
theorem pf16 : plainFn Tryd.prog 16 = true := by kernel_rfl
theorem pf17 : plainFn Tryd.prog 17 = true := by kernel_rfl
theorem pf18 : plainFn Tryd.prog 18 = true := by kernel_rfl
theorem pf19 : plainFn Tryd.prog 19 = true := by kernel_rfl
theorem pf20 : plainFn Tryd.prog 20 = true := by kernel_rfl
theorem pf21 : plainFn Tryd.prog 21 = true := by kernel_rfl
theorem pf22 : plainFn Tryd.prog 22 = true := by kernel_rfl
theorem pf23 : plainFn Tryd.prog 23 = true := by kernel_rfl
theorem pf24 : plainFn Tryd.prog 24 = true := by kernel_rfl
theorem pf25 : plainFn Tryd.prog 25 = true := by kernel_rfl
theorem pf26 : plainFn Tryd.prog 26 = true := by kernel_rfl
theorem pf27 : plainFn Tryd.prog 27 = true := by kernel_rfl
theorem pf28 : plainFn Tryd.prog 28 = true := by kernel_rfl
theorem pf29 : plainFn Tryd.prog 29 = true := by kernel_rfl
theorem pf30 : plainFn Tryd.prog 30 = true := by kernel_rfl
theorem pf31 : plainFn Tryd.prog 31 = true := by kernel_rfl
theorem pf32 : plainFn Tryd.prog 32 = true := by kernel_rfl
theorem pf33 : plainFn Tryd.prog 33 = true := by kernel_rfl
theorem pf34 : plainFn Tryd.prog 34 = true := by kernel_rfl
theorem pf35 : plainFn Tryd.prog 35 = true := by kernel_rfl
theorem pf36 : plainFn Tryd.prog 36 = true := by kernel_rfl
theorem pf37 : plainFn Tryd.prog 37 = true := by kernel_rfl
theorem pf38 : plainFn Tryd.prog 38 = true := by kernel_rfl
theorem pf41 : plainFn Tryd.prog 41 = true := by kernel_rfl
theorem pf42 : plainFn Tryd.prog 42 = true := by kernel_rfl
theorem mixed : Tryd.prog.follows .mixedOrders = true := by kernel_rfl
end Go.Proofs.YtbfgpjjempagpaaDoor.T
