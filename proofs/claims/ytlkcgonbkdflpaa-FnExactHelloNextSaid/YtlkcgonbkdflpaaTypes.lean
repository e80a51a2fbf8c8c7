/- What the program's types are: cells, zero values, fields. -/
import Derived.Test.YtlkcgonbkdflpaaProg
import Derived.KernelRfl
import Derived.ProofKit
import Derived.Test.YtlkcgonbkdflpaaSymd
namespace Go.Proofs.Ytlkcgonbkdflpaa.T
open Go Go.RowKit
theorem sc3 : IsSc Try.prog 3 := ⟨_, Try.underlying3, rfl, by kernel_rfl⟩
theorem sc4 : IsSc Try.prog 4 := ⟨_, Try.underlying4, rfl, by kernel_rfl⟩
theorem sc22 : IsSc Try.prog 22 := ⟨_, Try.underlying22, rfl, by kernel_rfl⟩
theorem sc23 : IsSc Try.prog 23 := ⟨_, Try.underlying23, rfl, by kernel_rfl⟩
theorem rw25 : IsRw Try.prog 25 4 := ⟨_, Try.underlying25, rfl, by kernel_rfl⟩
theorem rw27 : IsRw Try.prog 27 5 := ⟨_, Try.underlying27, rfl, by kernel_rfl⟩
theorem sc28 : IsSc Try.prog 28 := ⟨_, Try.underlying28, rfl, by kernel_rfl⟩
theorem rw30 : IsRw Try.prog 30 22 := ⟨_, Try.underlying30, rfl, by kernel_rfl⟩
theorem sc33 : IsSc Try.prog 33 := ⟨_, Try.underlying33, rfl, by kernel_rfl⟩
theorem sc34 : IsSc Try.prog 34 := ⟨_, Try.underlying34, rfl, by kernel_rfl⟩
theorem rw35 : IsRw Try.prog 35 4 := ⟨_, Try.underlying35, rfl, by kernel_rfl⟩
theorem rw37 : IsRw Try.prog 37 5 := ⟨_, Try.underlying37, rfl, by kernel_rfl⟩
theorem sc38 : IsSc Try.prog 38 := ⟨_, Try.underlying38, rfl, by kernel_rfl⟩
theorem rw40 : IsRw Try.prog 40 22 := ⟨_, Try.underlying40, rfl, by kernel_rfl⟩
theorem rw65 : IsRw Try.prog 65 2 := ⟨_, Try.underlying65, rfl, by kernel_rfl⟩
theorem rw70 : IsRw Try.prog 70 5 := ⟨_, Try.underlying70, rfl, by kernel_rfl⟩
theorem rw72 : IsRw Try.prog 72 2 := ⟨_, Try.underlying72, rfl, by kernel_rfl⟩
theorem rw76 : IsRw Try.prog 76 5 := ⟨_, Try.underlying76, rfl, by kernel_rfl⟩
theorem rw79 : IsRw Try.prog 79 2 := ⟨_, Try.underlying79, rfl, by kernel_rfl⟩
theorem zc3 : zc Try.prog 3 = some [.int .i64 0] := by kernel_rfl
theorem zc4 : zc Try.prog 4 = some [.bool false] := by kernel_rfl
theorem zc22 : zc Try.prog 22 = some [.slice none 0 0] := by kernel_rfl
theorem zc23 : zc Try.prog 23 = some [.slice none 0 0] := by kernel_rfl
theorem zc25 : zc Try.prog 25 = some [.int .i64 0, .int .i64 0, .int .i64 0, .int .i64 0] := by kernel_rfl
theorem zc27 : zc Try.prog 27 = some [.int .i64 0, .int .i64 0, .int .i64 0, .int .i64 0, .int .i64 0] := by kernel_rfl
theorem zc28 : zc Try.prog 28 = some [.slice none 0 0] := by kernel_rfl
theorem zc30 : zc Try.prog 30 = some [.int .i64 0, .int .i64 0, .slice none 0 0, .int .i64 0, .slice none 0 0, .int .i64 0, .int .i64 0, .int .i64 0, .bool false, .int .i64 0, .int .i64 0, .int .i64 0, .int .i64 0, .int .i64 0, .int .i64 0, .int .i64 0, .slice none 0 0, .bool false, .int .i64 0, .bool false, .slice none 0 0, .int .i64 0] := by kernel_rfl
theorem zc33 : zc Try.prog 33 = some [.slice none 0 0] := by kernel_rfl
theorem zc34 : zc Try.prog 34 = some [.slice none 0 0] := by kernel_rfl
theorem zc35 : zc Try.prog 35 = some [.int .i64 0, .int .i64 0, .int .i64 0, .int .i64 0] := by kernel_rfl
theorem zc37 : zc Try.prog 37 = some [.int .i64 0, .int .i64 0, .int .i64 0, .int .i64 0, .int .i64 0] := by kernel_rfl
theorem zc38 : zc Try.prog 38 = some [.slice none 0 0] := by kernel_rfl
theorem zc40 : zc Try.prog 40 = some [.int .i64 0, .int .i64 0, .slice none 0 0, .int .i64 0, .slice none 0 0, .int .i64 0, .int .i64 0, .int .i64 0, .bool false, .int .i64 0, .int .i64 0, .int .i64 0, .int .i64 0, .int .i64 0, .int .i64 0, .int .i64 0, .slice none 0 0, .bool false, .int .i64 0, .bool false, .slice none 0 0, .int .i64 0] := by kernel_rfl
theorem zc65 : zc Try.prog 65 = some [.int .i64 0, .int .i64 0] := by kernel_rfl
theorem zc70 : zc Try.prog 70 = some [.int .i64 0, .int .i64 0, .int .i64 0, .int .i64 0, .bool false] := by kernel_rfl
theorem zc72 : zc Try.prog 72 = some [.int .i64 0, .int .i64 0] := by kernel_rfl
theorem zc76 : zc Try.prog 76 = some [.int .i64 0, .int .i64 0, .int .i64 0, .int .i64 0, .bool false] := by kernel_rfl
theorem zc79 : zc Try.prog 79 = some [.int .i64 0, .int .i64 0] := by kernel_rfl
theorem st25 : IsSt Try.prog 25 [.int .i64 0, .int .i64 0, .int .i64 0, .int .i64 0] := ⟨zc25, _, Try.underlying25, by kernel_rfl⟩
theorem fs25_0 : IsFs Try.prog 25 0 0 1 := ⟨_, _, Try.underlying25, rfl, rfl, by kernel_rfl⟩
theorem fs25_1 : IsFs Try.prog 25 1 1 1 := ⟨_, _, Try.underlying25, rfl, rfl, by kernel_rfl⟩
theorem fs25_2 : IsFs Try.prog 25 2 2 1 := ⟨_, _, Try.underlying25, rfl, rfl, by kernel_rfl⟩
theorem fs25_3 : IsFs Try.prog 25 3 3 1 := ⟨_, _, Try.underlying25, rfl, rfl, by kernel_rfl⟩
theorem st27 : IsSt Try.prog 27 [.int .i64 0, .int .i64 0, .int .i64 0, .int .i64 0, .int .i64 0] := ⟨zc27, _, Try.underlying27, by kernel_rfl⟩
theorem fs27_0 : IsFs Try.prog 27 0 0 1 := ⟨_, _, Try.underlying27, rfl, rfl, by kernel_rfl⟩
theorem fs27_1 : IsFs Try.prog 27 1 1 4 := ⟨_, _, Try.underlying27, rfl, rfl, by kernel_rfl⟩
theorem st30 : IsSt Try.prog 30 [.int .i64 0, .int .i64 0, .slice none 0 0, .int .i64 0, .slice none 0 0, .int .i64 0, .int .i64 0, .int .i64 0, .bool false, .int .i64 0, .int .i64 0, .int .i64 0, .int .i64 0, .int .i64 0, .int .i64 0, .int .i64 0, .slice none 0 0, .bool false, .int .i64 0, .bool false, .slice none 0 0, .int .i64 0] := ⟨zc30, _, Try.underlying30, by kernel_rfl⟩
theorem fs30_0 : IsFs Try.prog 30 0 0 1 := ⟨_, _, Try.underlying30, rfl, rfl, by kernel_rfl⟩
theorem fs30_1 : IsFs Try.prog 30 1 1 1 := ⟨_, _, Try.underlying30, rfl, rfl, by kernel_rfl⟩
theorem fs30_2 : IsFs Try.prog 30 2 2 1 := ⟨_, _, Try.underlying30, rfl, rfl, by kernel_rfl⟩
theorem fs30_3 : IsFs Try.prog 30 3 3 1 := ⟨_, _, Try.underlying30, rfl, rfl, by kernel_rfl⟩
theorem fs30_4 : IsFs Try.prog 30 4 4 1 := ⟨_, _, Try.underlying30, rfl, rfl, by kernel_rfl⟩
theorem fs30_5 : IsFs Try.prog 30 5 5 1 := ⟨_, _, Try.underlying30, rfl, rfl, by kernel_rfl⟩
theorem fs30_6 : IsFs Try.prog 30 6 6 1 := ⟨_, _, Try.underlying30, rfl, rfl, by kernel_rfl⟩
theorem fs30_7 : IsFs Try.prog 30 7 7 1 := ⟨_, _, Try.underlying30, rfl, rfl, by kernel_rfl⟩
theorem fs30_8 : IsFs Try.prog 30 8 8 1 := ⟨_, _, Try.underlying30, rfl, rfl, by kernel_rfl⟩
theorem fs30_9 : IsFs Try.prog 30 9 9 1 := ⟨_, _, Try.underlying30, rfl, rfl, by kernel_rfl⟩
theorem fs30_10 : IsFs Try.prog 30 10 10 1 := ⟨_, _, Try.underlying30, rfl, rfl, by kernel_rfl⟩
theorem fs30_11 : IsFs Try.prog 30 11 11 5 := ⟨_, _, Try.underlying30, rfl, rfl, by kernel_rfl⟩
theorem fs30_12 : IsFs Try.prog 30 12 16 1 := ⟨_, _, Try.underlying30, rfl, rfl, by kernel_rfl⟩
theorem fs30_13 : IsFs Try.prog 30 13 17 1 := ⟨_, _, Try.underlying30, rfl, rfl, by kernel_rfl⟩
theorem fs30_14 : IsFs Try.prog 30 14 18 1 := ⟨_, _, Try.underlying30, rfl, rfl, by kernel_rfl⟩
theorem fs30_15 : IsFs Try.prog 30 15 19 1 := ⟨_, _, Try.underlying30, rfl, rfl, by kernel_rfl⟩
theorem fs30_16 : IsFs Try.prog 30 16 20 1 := ⟨_, _, Try.underlying30, rfl, rfl, by kernel_rfl⟩
theorem fs30_17 : IsFs Try.prog 30 17 21 1 := ⟨_, _, Try.underlying30, rfl, rfl, by kernel_rfl⟩
theorem st35 : IsSt Try.prog 35 [.int .i64 0, .int .i64 0, .int .i64 0, .int .i64 0] := ⟨zc35, _, Try.underlying35, by kernel_rfl⟩
theorem fs35_0 : IsFs Try.prog 35 0 0 1 := ⟨_, _, Try.underlying35, rfl, rfl, by kernel_rfl⟩
theorem fs35_1 : IsFs Try.prog 35 1 1 1 := ⟨_, _, Try.underlying35, rfl, rfl, by kernel_rfl⟩
theorem fs35_2 : IsFs Try.prog 35 2 2 1 := ⟨_, _, Try.underlying35, rfl, rfl, by kernel_rfl⟩
theorem fs35_3 : IsFs Try.prog 35 3 3 1 := ⟨_, _, Try.underlying35, rfl, rfl, by kernel_rfl⟩
theorem st37 : IsSt Try.prog 37 [.int .i64 0, .int .i64 0, .int .i64 0, .int .i64 0, .int .i64 0] := ⟨zc37, _, Try.underlying37, by kernel_rfl⟩
theorem fs37_0 : IsFs Try.prog 37 0 0 1 := ⟨_, _, Try.underlying37, rfl, rfl, by kernel_rfl⟩
theorem fs37_1 : IsFs Try.prog 37 1 1 4 := ⟨_, _, Try.underlying37, rfl, rfl, by kernel_rfl⟩
theorem st40 : IsSt Try.prog 40 [.int .i64 0, .int .i64 0, .slice none 0 0, .int .i64 0, .slice none 0 0, .int .i64 0, .int .i64 0, .int .i64 0, .bool false, .int .i64 0, .int .i64 0, .int .i64 0, .int .i64 0, .int .i64 0, .int .i64 0, .int .i64 0, .slice none 0 0, .bool false, .int .i64 0, .bool false, .slice none 0 0, .int .i64 0] := ⟨zc40, _, Try.underlying40, by kernel_rfl⟩
theorem fs40_0 : IsFs Try.prog 40 0 0 1 := ⟨_, _, Try.underlying40, rfl, rfl, by kernel_rfl⟩
theorem fs40_1 : IsFs Try.prog 40 1 1 1 := ⟨_, _, Try.underlying40, rfl, rfl, by kernel_rfl⟩
theorem fs40_2 : IsFs Try.prog 40 2 2 1 := ⟨_, _, Try.underlying40, rfl, rfl, by kernel_rfl⟩
theorem fs40_3 : IsFs Try.prog 40 3 3 1 := ⟨_, _, Try.underlying40, rfl, rfl, by kernel_rfl⟩
theorem fs40_4 : IsFs Try.prog 40 4 4 1 := ⟨_, _, Try.underlying40, rfl, rfl, by kernel_rfl⟩
theorem fs40_5 : IsFs Try.prog 40 5 5 1 := ⟨_, _, Try.underlying40, rfl, rfl, by kernel_rfl⟩
theorem fs40_6 : IsFs Try.prog 40 6 6 1 := ⟨_, _, Try.underlying40, rfl, rfl, by kernel_rfl⟩
theorem fs40_7 : IsFs Try.prog 40 7 7 1 := ⟨_, _, Try.underlying40, rfl, rfl, by kernel_rfl⟩
theorem fs40_8 : IsFs Try.prog 40 8 8 1 := ⟨_, _, Try.underlying40, rfl, rfl, by kernel_rfl⟩
theorem fs40_9 : IsFs Try.prog 40 9 9 1 := ⟨_, _, Try.underlying40, rfl, rfl, by kernel_rfl⟩
theorem fs40_10 : IsFs Try.prog 40 10 10 1 := ⟨_, _, Try.underlying40, rfl, rfl, by kernel_rfl⟩
theorem fs40_11 : IsFs Try.prog 40 11 11 5 := ⟨_, _, Try.underlying40, rfl, rfl, by kernel_rfl⟩
theorem fs40_12 : IsFs Try.prog 40 12 16 1 := ⟨_, _, Try.underlying40, rfl, rfl, by kernel_rfl⟩
theorem fs40_13 : IsFs Try.prog 40 13 17 1 := ⟨_, _, Try.underlying40, rfl, rfl, by kernel_rfl⟩
theorem fs40_14 : IsFs Try.prog 40 14 18 1 := ⟨_, _, Try.underlying40, rfl, rfl, by kernel_rfl⟩
theorem fs40_15 : IsFs Try.prog 40 15 19 1 := ⟨_, _, Try.underlying40, rfl, rfl, by kernel_rfl⟩
theorem fs40_16 : IsFs Try.prog 40 16 20 1 := ⟨_, _, Try.underlying40, rfl, rfl, by kernel_rfl⟩
theorem fs40_17 : IsFs Try.prog 40 17 21 1 := ⟨_, _, Try.underlying40, rfl, rfl, by kernel_rfl⟩
theorem st65 : IsSt Try.prog 65 [.int .i64 0, .int .i64 0] := ⟨zc65, _, Try.underlying65, by kernel_rfl⟩
theorem fs65_0 : IsFs Try.prog 65 0 0 1 := ⟨_, _, Try.underlying65, rfl, rfl, by kernel_rfl⟩
theorem fs65_1 : IsFs Try.prog 65 1 1 1 := ⟨_, _, Try.underlying65, rfl, rfl, by kernel_rfl⟩
theorem st70 : IsSt Try.prog 70 [.int .i64 0, .int .i64 0, .int .i64 0, .int .i64 0, .bool false] := ⟨zc70, _, Try.underlying70, by kernel_rfl⟩
theorem fs70_0 : IsFs Try.prog 70 0 0 4 := ⟨_, _, Try.underlying70, rfl, rfl, by kernel_rfl⟩
theorem fs70_1 : IsFs Try.prog 70 1 4 1 := ⟨_, _, Try.underlying70, rfl, rfl, by kernel_rfl⟩
theorem st72 : IsSt Try.prog 72 [.int .i64 0, .int .i64 0] := ⟨zc72, _, Try.underlying72, by kernel_rfl⟩
theorem fs72_0 : IsFs Try.prog 72 0 0 1 := ⟨_, _, Try.underlying72, rfl, rfl, by kernel_rfl⟩
theorem fs72_1 : IsFs Try.prog 72 1 1 1 := ⟨_, _, Try.underlying72, rfl, rfl, by kernel_rfl⟩
theorem st76 : IsSt Try.prog 76 [.int .i64 0, .int .i64 0, .int .i64 0, .int .i64 0, .bool false] := ⟨zc76, _, Try.underlying76, by kernel_rfl⟩
theorem fs76_0 : IsFs Try.prog 76 0 0 4 := ⟨_, _, Try.underlying76, rfl, rfl, by kernel_rfl⟩
theorem fs76_1 : IsFs Try.prog 76 1 4 1 := ⟨_, _, Try.underlying76, rfl, rfl, by kernel_rfl⟩
theorem st79 : IsSt Try.prog 79 [.int .i64 0, .int .i64 0] := ⟨zc79, _, Try.underlying79, by kernel_rfl⟩
theorem fs79_0 : IsFs Try.prog 79 0 0 1 := ⟨_, _, Try.underlying79, rfl, rfl, by kernel_rfl⟩
theorem fs79_1 : IsFs Try.prog 79 1 1 1 := ⟨_, _, Try.underlying79, rfl, rfl, by kernel_rfl⟩
theorem fl25_0 : IsFl Try.prog 25 0 0 := ⟨_, _, Try.underlying25, rfl, rfl, by kernel_rfl⟩
theorem fl25_1 : IsFl Try.prog 25 1 1 := ⟨_, _, Try.underlying25, rfl, rfl, by kernel_rfl⟩
theorem fl25_2 : IsFl Try.prog 25 2 2 := ⟨_, _, Try.underlying25, rfl, rfl, by kernel_rfl⟩
theorem fl25_3 : IsFl Try.prog 25 3 3 := ⟨_, _, Try.underlying25, rfl, rfl, by kernel_rfl⟩
theorem fl27_0 : IsFl Try.prog 27 0 0 := ⟨_, _, Try.underlying27, rfl, rfl, by kernel_rfl⟩
theorem fl27_1 : IsFl Try.prog 27 1 1 := ⟨_, _, Try.underlying27, rfl, rfl, by kernel_rfl⟩
theorem fl30_0 : IsFl Try.prog 30 0 0 := ⟨_, _, Try.underlying30, rfl, rfl, by kernel_rfl⟩
theorem fl30_1 : IsFl Try.prog 30 1 1 := ⟨_, _, Try.underlying30, rfl, rfl, by kernel_rfl⟩
theorem fl30_2 : IsFl Try.prog 30 2 2 := ⟨_, _, Try.underlying30, rfl, rfl, by kernel_rfl⟩
theorem fl30_3 : IsFl Try.prog 30 3 3 := ⟨_, _, Try.underlying30, rfl, rfl, by kernel_rfl⟩
theorem fl30_4 : IsFl Try.prog 30 4 4 := ⟨_, _, Try.underlying30, rfl, rfl, by kernel_rfl⟩
theorem fl30_5 : IsFl Try.prog 30 5 5 := ⟨_, _, Try.underlying30, rfl, rfl, by kernel_rfl⟩
theorem fl30_6 : IsFl Try.prog 30 6 6 := ⟨_, _, Try.underlying30, rfl, rfl, by kernel_rfl⟩
theorem fl30_7 : IsFl Try.prog 30 7 7 := ⟨_, _, Try.underlying30, rfl, rfl, by kernel_rfl⟩
theorem fl30_8 : IsFl Try.prog 30 8 8 := ⟨_, _, Try.underlying30, rfl, rfl, by kernel_rfl⟩
theorem fl30_9 : IsFl Try.prog 30 9 9 := ⟨_, _, Try.underlying30, rfl, rfl, by kernel_rfl⟩
theorem fl30_10 : IsFl Try.prog 30 10 10 := ⟨_, _, Try.underlying30, rfl, rfl, by kernel_rfl⟩
theorem fl30_11 : IsFl Try.prog 30 11 11 := ⟨_, _, Try.underlying30, rfl, rfl, by kernel_rfl⟩
theorem fl30_12 : IsFl Try.prog 30 12 16 := ⟨_, _, Try.underlying30, rfl, rfl, by kernel_rfl⟩
theorem fl30_13 : IsFl Try.prog 30 13 17 := ⟨_, _, Try.underlying30, rfl, rfl, by kernel_rfl⟩
theorem fl30_14 : IsFl Try.prog 30 14 18 := ⟨_, _, Try.underlying30, rfl, rfl, by kernel_rfl⟩
theorem fl30_15 : IsFl Try.prog 30 15 19 := ⟨_, _, Try.underlying30, rfl, rfl, by kernel_rfl⟩
theorem fl30_16 : IsFl Try.prog 30 16 20 := ⟨_, _, Try.underlying30, rfl, rfl, by kernel_rfl⟩
theorem fl30_17 : IsFl Try.prog 30 17 21 := ⟨_, _, Try.underlying30, rfl, rfl, by kernel_rfl⟩
theorem fl35_0 : IsFl Try.prog 35 0 0 := ⟨_, _, Try.underlying35, rfl, rfl, by kernel_rfl⟩
theorem fl35_1 : IsFl Try.prog 35 1 1 := ⟨_, _, Try.underlying35, rfl, rfl, by kernel_rfl⟩
theorem fl35_2 : IsFl Try.prog 35 2 2 := ⟨_, _, Try.underlying35, rfl, rfl, by kernel_rfl⟩
theorem fl35_3 : IsFl Try.prog 35 3 3 := ⟨_, _, Try.underlying35, rfl, rfl, by kernel_rfl⟩
theorem fl37_0 : IsFl Try.prog 37 0 0 := ⟨_, _, Try.underlying37, rfl, rfl, by kernel_rfl⟩
theorem fl37_1 : IsFl Try.prog 37 1 1 := ⟨_, _, Try.underlying37, rfl, rfl, by kernel_rfl⟩
theorem fl40_0 : IsFl Try.prog 40 0 0 := ⟨_, _, Try.underlying40, rfl, rfl, by kernel_rfl⟩
theorem fl40_1 : IsFl Try.prog 40 1 1 := ⟨_, _, Try.underlying40, rfl, rfl, by kernel_rfl⟩
theorem fl40_2 : IsFl Try.prog 40 2 2 := ⟨_, _, Try.underlying40, rfl, rfl, by kernel_rfl⟩
theorem fl40_3 : IsFl Try.prog 40 3 3 := ⟨_, _, Try.underlying40, rfl, rfl, by kernel_rfl⟩
theorem fl40_4 : IsFl Try.prog 40 4 4 := ⟨_, _, Try.underlying40, rfl, rfl, by kernel_rfl⟩
theorem fl40_5 : IsFl Try.prog 40 5 5 := ⟨_, _, Try.underlying40, rfl, rfl, by kernel_rfl⟩
theorem fl40_6 : IsFl Try.prog 40 6 6 := ⟨_, _, Try.underlying40, rfl, rfl, by kernel_rfl⟩
theorem fl40_7 : IsFl Try.prog 40 7 7 := ⟨_, _, Try.underlying40, rfl, rfl, by kernel_rfl⟩
theorem fl40_8 : IsFl Try.prog 40 8 8 := ⟨_, _, Try.underlying40, rfl, rfl, by kernel_rfl⟩
theorem fl40_9 : IsFl Try.prog 40 9 9 := ⟨_, _, Try.underlying40, rfl, rfl, by kernel_rfl⟩
theorem fl40_10 : IsFl Try.prog 40 10 10 := ⟨_, _, Try.underlying40, rfl, rfl, by kernel_rfl⟩
theorem fl40_11 : IsFl Try.prog 40 11 11 := ⟨_, _, Try.underlying40, rfl, rfl, by kernel_rfl⟩
theorem fl40_12 : IsFl Try.prog 40 12 16 := ⟨_, _, Try.underlying40, rfl, rfl, by kernel_rfl⟩
theorem fl40_13 : IsFl Try.prog 40 13 17 := ⟨_, _, Try.underlying40, rfl, rfl, by kernel_rfl⟩
theorem fl40_14 : IsFl Try.prog 40 14 18 := ⟨_, _, Try.underlying40, rfl, rfl, by kernel_rfl⟩
theorem fl40_15 : IsFl Try.prog 40 15 19 := ⟨_, _, Try.underlying40, rfl, rfl, by kernel_rfl⟩
theorem fl40_16 : IsFl Try.prog 40 16 20 := ⟨_, _, Try.underlying40, rfl, rfl, by kernel_rfl⟩
theorem fl40_17 : IsFl Try.prog 40 17 21 := ⟨_, _, Try.underlying40, rfl, rfl, by kernel_rfl⟩
theorem fl65_0 : IsFl Try.prog 65 0 0 := ⟨_, _, Try.underlying65, rfl, rfl, by kernel_rfl⟩
theorem fl65_1 : IsFl Try.prog 65 1 1 := ⟨_, _, Try.underlying65, rfl, rfl, by kernel_rfl⟩
theorem fl70_0 : IsFl Try.prog 70 0 0 := ⟨_, _, Try.underlying70, rfl, rfl, by kernel_rfl⟩
theorem fl70_1 : IsFl Try.prog 70 1 4 := ⟨_, _, Try.underlying70, rfl, rfl, by kernel_rfl⟩
theorem fl72_0 : IsFl Try.prog 72 0 0 := ⟨_, _, Try.underlying72, rfl, rfl, by kernel_rfl⟩
theorem fl72_1 : IsFl Try.prog 72 1 1 := ⟨_, _, Try.underlying72, rfl, rfl, by kernel_rfl⟩
theorem fl76_0 : IsFl Try.prog 76 0 0 := ⟨_, _, Try.underlying76, rfl, rfl, by kernel_rfl⟩
theorem fl76_1 : IsFl Try.prog 76 1 4 := ⟨_, _, Try.underlying76, rfl, rfl, by kernel_rfl⟩
theorem fl79_0 : IsFl Try.prog 79 0 0 := ⟨_, _, Try.underlying79, rfl, rfl, by kernel_rfl⟩
theorem fl79_1 : IsFl Try.prog 79 1 1 := ⟨_, _, Try.underlying79, rfl, rfl, by kernel_rfl⟩
theorem sl22 : IsSl Try.prog 22 72 2 := ⟨Try.underlying22, by kernel_rfl⟩
theorem el22 : IsEl Try.prog 22 72 2 16 [.int .i64 0, .int .i64 0] := isEl Try.underlying22 (by kernel_rfl) (by kernel_rfl) rfl rfl
theorem sl23 : IsSl Try.prog 23 25 4 := ⟨Try.underlying23, by kernel_rfl⟩
theorem el23 : IsEl Try.prog 23 25 4 32 [.int .i64 0, .int .i64 0, .int .i64 0, .int .i64 0] := isEl Try.underlying23 (by kernel_rfl) (by kernel_rfl) rfl rfl
theorem sl28 : IsSl Try.prog 28 76 5 := ⟨Try.underlying28, by kernel_rfl⟩
theorem el28 : IsEl Try.prog 28 76 5 40 [.int .i64 0, .int .i64 0, .int .i64 0, .int .i64 0, .bool false] := isEl Try.underlying28 (by kernel_rfl) (by kernel_rfl) rfl rfl
theorem sl33 : IsSl Try.prog 33 65 2 := ⟨Try.underlying33, by kernel_rfl⟩
theorem el33 : IsEl Try.prog 33 65 2 16 [.int .i64 0, .int .i64 0] := isEl Try.underlying33 (by kernel_rfl) (by kernel_rfl) rfl rfl
theorem sl34 : IsSl Try.prog 34 35 4 := ⟨Try.underlying34, by kernel_rfl⟩
theorem el34 : IsEl Try.prog 34 35 4 32 [.int .i64 0, .int .i64 0, .int .i64 0, .int .i64 0] := isEl Try.underlying34 (by kernel_rfl) (by kernel_rfl) rfl rfl
theorem sl38 : IsSl Try.prog 38 70 5 := ⟨Try.underlying38, by kernel_rfl⟩
theorem el38 : IsEl Try.prog 38 70 5 40 [.int .i64 0, .int .i64 0, .int .i64 0, .int .i64 0, .bool false] := isEl Try.underlying38 (by kernel_rfl) (by kernel_rfl) rfl rfl
theorem eqs35 (a0 a1 a2 a3 b0 b1 b2 b3 : Int) : IsEq Try.prog 35 (.agg #[.int .i64 a0, .int .i64 a1, .int .i64 a2, .int .i64 a3]) (.agg #[.int .i64 b0, .int .i64 b1, .int .i64 b2, .int .i64 b3]) (decide ((a0, a1, a2, a3) = (b0, b1, b2, b3))) := by
  intro ρ x y d t' ty w hx hy
  constructor <;> (simp only [Stp.oper, execOp, hx, hy]; go_simp; (repeat' split) <;> simp_all)
theorem pf5 : plainFn Try.prog 5 = true := by kernel_rfl
theorem pf6 : plainFn Try.prog 6 = true := by kernel_rfl
theorem pf7 : plainFn Try.prog 7 = true := by kernel_rfl
theorem pf8 : plainFn Try.prog 8 = true := by kernel_rfl
theorem pf9 : plainFn Try.prog 9 = true := by kernel_rfl
theorem pf10 : plainFn Try.prog 10 = true := by kernel_rfl
theorem pf11 : plainFn Try.prog 11 = true := by kernel_rfl
theorem pf12 : plainFn Try.prog 12 = true := by kernel_rfl
theorem pf13 : plainFn Try.prog 13 = true := by kernel_rfl
theorem pf14 : plainFn Try.prog 14 = true := by kernel_rfl
theorem pf15 : plainFn Try.prog 15 = true := by kernel_rfl
theorem pf16 : plainFn Try.prog 16 = true := by kernel_rfl
theorem pf17 : plainFn Try.prog 17 = true := by kernel_rfl
theorem pf18 : plainFn Try.prog 18 = true := by kernel_rfl
theorem pf19 : plainFn Try.prog 19 = true := by kernel_rfl
theorem pf20 : plainFn Try.prog 20 = true := by kernel_rfl
theorem pf21 : plainFn Try.prog 21 = true := by kernel_rfl
theorem pf22 : plainFn Try.prog 22 = true := by kernel_rfl
theorem pf23 : plainFn Try.prog 23 = true := by kernel_rfl
theorem pf24 : plainFn Try.prog 24 = true := by kernel_rfl
theorem pf25 : plainFn Try.prog 25 = true := by kernel_rfl
theorem pf26 : plainFn Try.prog 26 = true := by kernel_rfl
theorem pf27 : plainFn Try.prog 27 = true := by kernel_rfl
theorem pf28 : plainFn Try.prog 28 = true := by kernel_rfl
theorem pf29 : plainFn Try.prog 29 = true := by kernel_rfl
theorem pf30 : plainFn Try.prog 30 = true := by kernel_rfl
theorem pf31 : plainFn Try.prog 31 = true := by kernel_rfl
theorem pf32 : plainFn Try.prog 32 = true := by kernel_rfl
theorem pf33 : plainFn Try.prog 33 = true := by kernel_rfl
theorem pf34 : plainFn Try.prog 34 = true := by kernel_rfl
theorem pf35 : plainFn Try.prog 35 = true := by kernel_rfl
theorem pf36 : plainFn Try.prog 36 = true := by kernel_rfl
theorem pf37 : plainFn Try.prog 37 = true := by kernel_rfl
theorem pf38 : plainFn Try.prog 38 = true := by kernel_rfl
theorem pf39 : plainFn Try.prog 39 = true := by kernel_rfl
theorem pf40 : plainFn Try.prog 40 = true := by kernel_rfl
theorem pf41 : plainFn Try.prog 41 = true := by kernel_rfl
theorem pf42 : plainFn Try.prog 42 = true := by kernel_rfl
theorem pf43 : plainFn Try.prog 43 = true := by kernel_rfl
theorem pf44 : plainFn Try.prog 44 = true := by kernel_rfl
theorem pf45 : plainFn Try.prog 45 = true := by kernel_rfl
theorem pf46 : plainFn Try.prog 46 = true := by kernel_rfl
theorem pf47 : plainFn Try.prog 47 = true := by kernel_rfl
theorem pf48 : plainFn Try.prog 48 = true := by kernel_rfl
theorem pf49 : plainFn Try.prog 49 = true := by kernel_rfl
theorem pf50 : plainFn Try.prog 50 = true := by kernel_rfl
theorem pf51 : plainFn Try.prog 51 = true := by kernel_rfl
theorem pf52 : plainFn Try.prog 52 = true := by kernel_rfl
theorem pf53 : plainFn Try.prog 53 = true := by kernel_rfl
theorem pf54 : plainFn Try.prog 54 = true := by kernel_rfl
theorem pf55 : plainFn Try.prog 55 = true := by kernel_rfl
theorem pf56 : plainFn Try.prog 56 = true := by kernel_rfl
theorem pf57 : plainFn Try.prog 57 = true := by kernel_rfl
theorem pf58 : plainFn Try.prog 58 = true := by kernel_rfl
theorem pf59 : plainFn Try.prog 59 = true := by kernel_rfl
theorem pf60 : plainFn Try.prog 60 = true := by kernel_rfl
theorem pf61 : plainFn Try.prog 61 = true := by kernel_rfl
theorem pf62 : plainFn Try.prog 62 = true := by kernel_rfl
theorem pf63 : plainFn Try.prog 63 = true := by kernel_rfl
theorem pf64 : plainFn Try.prog 64 = true := by kernel_rfl
theorem pf67 : plainFn Try.prog 67 = true := by kernel_rfl
theorem pf68 : plainFn Try.prog 68 = true := by kernel_rfl
theorem pf70 : plainFn Try.prog 70 = true := by kernel_rfl
theorem pf71 : plainFn Try.prog 71 = true := by kernel_rfl
theorem pf72 : plainFn Try.prog 72 = true := by kernel_rfl
theorem pf73 : plainFn Try.prog 73 = true := by kernel_rfl
theorem mixed : Try.prog.follows .mixedOrders = true := by kernel_rfl
end Go.Proofs.Ytlkcgonbkdflpaa.T
