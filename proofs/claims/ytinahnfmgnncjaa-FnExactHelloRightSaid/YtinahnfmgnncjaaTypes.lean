/- What the program's types are: cells, zero values, fields. -/
import Derived.Test.YtinahnfmgnncjaaProg
import Derived.KernelRfl
import Derived.ProofKit
import Derived.Test.YtinahnfmgnncjaaSymd
namespace Go.Proofs.Ytinahnfmgnncjaa.T
open Go Go.RowKit
theorem sc3 : IsSc Try.prog 3 := ⟨_, Try.underlying3, rfl, by kernel_rfl⟩
theorem sc4 : IsSc Try.prog 4 := ⟨_, Try.underlying4, rfl, by kernel_rfl⟩
theorem rw23 : IsRw Try.prog 23 4 := ⟨_, Try.underlying23, rfl, by kernel_rfl⟩
theorem rw25 : IsRw Try.prog 25 5 := ⟨_, Try.underlying25, rfl, by kernel_rfl⟩
theorem rw27 : IsRw Try.prog 27 14 := ⟨_, Try.underlying27, rfl, by kernel_rfl⟩
theorem rw29 : IsRw Try.prog 29 4 := ⟨_, Try.underlying29, rfl, by kernel_rfl⟩
theorem rw31 : IsRw Try.prog 31 5 := ⟨_, Try.underlying31, rfl, by kernel_rfl⟩
theorem rw33 : IsRw Try.prog 33 14 := ⟨_, Try.underlying33, rfl, by kernel_rfl⟩
theorem sc36 : IsSc Try.prog 36 := ⟨_, Try.underlying36, rfl, by kernel_rfl⟩
theorem sc39 : IsSc Try.prog 39 := ⟨_, Try.underlying39, rfl, by kernel_rfl⟩
theorem sc45 : IsSc Try.prog 45 := ⟨_, Try.underlying45, rfl, by kernel_rfl⟩
theorem sc48 : IsSc Try.prog 48 := ⟨_, Try.underlying48, rfl, by kernel_rfl⟩
theorem sc54 : IsSc Try.prog 54 := ⟨_, Try.underlying54, rfl, by kernel_rfl⟩
theorem rw56 : IsRw Try.prog 56 22 := ⟨_, Try.underlying56, rfl, by kernel_rfl⟩
theorem sc59 : IsSc Try.prog 59 := ⟨_, Try.underlying59, rfl, by kernel_rfl⟩
theorem rw61 : IsRw Try.prog 61 22 := ⟨_, Try.underlying61, rfl, by kernel_rfl⟩
theorem rw73 : IsRw Try.prog 73 2 := ⟨_, Try.underlying73, rfl, by kernel_rfl⟩
theorem rw75 : IsRw Try.prog 75 2 := ⟨_, Try.underlying75, rfl, by kernel_rfl⟩
theorem rw84 : IsRw Try.prog 84 2 := ⟨_, Try.underlying84, rfl, by kernel_rfl⟩
theorem rw98 : IsRw Try.prog 98 5 := ⟨_, Try.underlying98, rfl, by kernel_rfl⟩
theorem rw101 : IsRw Try.prog 101 5 := ⟨_, Try.underlying101, rfl, by kernel_rfl⟩
theorem zc3 : zc Try.prog 3 = some [.int .i64 0] := by kernel_rfl
theorem zc4 : zc Try.prog 4 = some [.bool false] := by kernel_rfl
theorem zc23 : zc Try.prog 23 = some [.int .i64 0, .int .i64 0, .int .i64 0, .int .i64 0] := by kernel_rfl
theorem zc25 : zc Try.prog 25 = some [.int .i64 0, .int .i64 0, .int .i64 0, .int .i64 0, .int .i64 0] := by kernel_rfl
theorem zc27 : zc Try.prog 27 = some [.int .i64 0, .int .i64 0, .int .i64 0, .int .i64 0, .int .i64 0, .int .i64 0, .int .i64 0, .int .i64 0, .int .i64 0, .int .i64 0, .int .i64 0, .int .i64 0, .int .i64 0, .int .i64 0] := by kernel_rfl
theorem zc29 : zc Try.prog 29 = some [.int .i64 0, .int .i64 0, .int .i64 0, .int .i64 0] := by kernel_rfl
theorem zc31 : zc Try.prog 31 = some [.int .i64 0, .int .i64 0, .int .i64 0, .int .i64 0, .int .i64 0] := by kernel_rfl
theorem zc33 : zc Try.prog 33 = some [.int .i64 0, .int .i64 0, .int .i64 0, .int .i64 0, .int .i64 0, .int .i64 0, .int .i64 0, .int .i64 0, .int .i64 0, .int .i64 0, .int .i64 0, .int .i64 0, .int .i64 0, .int .i64 0] := by kernel_rfl
theorem zc36 : zc Try.prog 36 = some [.slice none 0 0] := by kernel_rfl
theorem zc39 : zc Try.prog 39 = some [.slice none 0 0] := by kernel_rfl
theorem zc45 : zc Try.prog 45 = some [.slice none 0 0] := by kernel_rfl
theorem zc48 : zc Try.prog 48 = some [.slice none 0 0] := by kernel_rfl
theorem zc54 : zc Try.prog 54 = some [.slice none 0 0] := by kernel_rfl
theorem zc56 : zc Try.prog 56 = some [.int .i64 0, .int .i64 0, .slice none 0 0, .int .i64 0, .slice none 0 0, .int .i64 0, .int .i64 0, .int .i64 0, .bool false, .int .i64 0, .int .i64 0, .int .i64 0, .int .i64 0, .int .i64 0, .int .i64 0, .int .i64 0, .slice none 0 0, .bool false, .int .i64 0, .bool false, .slice none 0 0, .int .i64 0] := by kernel_rfl
theorem zc59 : zc Try.prog 59 = some [.slice none 0 0] := by kernel_rfl
theorem zc61 : zc Try.prog 61 = some [.int .i64 0, .int .i64 0, .slice none 0 0, .int .i64 0, .slice none 0 0, .int .i64 0, .int .i64 0, .int .i64 0, .bool false, .int .i64 0, .int .i64 0, .int .i64 0, .int .i64 0, .int .i64 0, .int .i64 0, .int .i64 0, .slice none 0 0, .bool false, .int .i64 0, .bool false, .slice none 0 0, .int .i64 0] := by kernel_rfl
theorem zc73 : zc Try.prog 73 = some [.int .i64 0, .int .i64 0] := by kernel_rfl
theorem zc75 : zc Try.prog 75 = some [.int .i64 0, .int .i64 0] := by kernel_rfl
theorem zc84 : zc Try.prog 84 = some [.int .i64 0, .int .i64 0] := by kernel_rfl
theorem zc98 : zc Try.prog 98 = some [.int .i64 0, .int .i64 0, .int .i64 0, .int .i64 0, .bool false] := by kernel_rfl
theorem zc101 : zc Try.prog 101 = some [.int .i64 0, .int .i64 0, .int .i64 0, .int .i64 0, .bool false] := by kernel_rfl
theorem st23 : IsSt Try.prog 23 [.int .i64 0, .int .i64 0, .int .i64 0, .int .i64 0] := ⟨zc23, _, Try.underlying23, by kernel_rfl⟩
theorem fs23_0 : IsFs Try.prog 23 0 0 1 := ⟨_, _, Try.underlying23, rfl, rfl, by kernel_rfl⟩
theorem fs23_1 : IsFs Try.prog 23 1 1 1 := ⟨_, _, Try.underlying23, rfl, rfl, by kernel_rfl⟩
theorem fs23_2 : IsFs Try.prog 23 2 2 1 := ⟨_, _, Try.underlying23, rfl, rfl, by kernel_rfl⟩
theorem fs23_3 : IsFs Try.prog 23 3 3 1 := ⟨_, _, Try.underlying23, rfl, rfl, by kernel_rfl⟩
theorem st25 : IsSt Try.prog 25 [.int .i64 0, .int .i64 0, .int .i64 0, .int .i64 0, .int .i64 0] := ⟨zc25, _, Try.underlying25, by kernel_rfl⟩
theorem fs25_0 : IsFs Try.prog 25 0 0 1 := ⟨_, _, Try.underlying25, rfl, rfl, by kernel_rfl⟩
theorem fs25_1 : IsFs Try.prog 25 1 1 4 := ⟨_, _, Try.underlying25, rfl, rfl, by kernel_rfl⟩
theorem st27 : IsSt Try.prog 27 [.int .i64 0, .int .i64 0, .int .i64 0, .int .i64 0, .int .i64 0, .int .i64 0, .int .i64 0, .int .i64 0, .int .i64 0, .int .i64 0, .int .i64 0, .int .i64 0, .int .i64 0, .int .i64 0] := ⟨zc27, _, Try.underlying27, by kernel_rfl⟩
theorem fs27_0 : IsFs Try.prog 27 0 0 1 := ⟨_, _, Try.underlying27, rfl, rfl, by kernel_rfl⟩
theorem fs27_1 : IsFs Try.prog 27 1 1 1 := ⟨_, _, Try.underlying27, rfl, rfl, by kernel_rfl⟩
theorem fs27_2 : IsFs Try.prog 27 2 2 1 := ⟨_, _, Try.underlying27, rfl, rfl, by kernel_rfl⟩
theorem fs27_3 : IsFs Try.prog 27 3 3 1 := ⟨_, _, Try.underlying27, rfl, rfl, by kernel_rfl⟩
theorem fs27_4 : IsFs Try.prog 27 4 4 1 := ⟨_, _, Try.underlying27, rfl, rfl, by kernel_rfl⟩
theorem fs27_5 : IsFs Try.prog 27 5 5 1 := ⟨_, _, Try.underlying27, rfl, rfl, by kernel_rfl⟩
theorem fs27_6 : IsFs Try.prog 27 6 6 1 := ⟨_, _, Try.underlying27, rfl, rfl, by kernel_rfl⟩
theorem fs27_7 : IsFs Try.prog 27 7 7 1 := ⟨_, _, Try.underlying27, rfl, rfl, by kernel_rfl⟩
theorem fs27_8 : IsFs Try.prog 27 8 8 5 := ⟨_, _, Try.underlying27, rfl, rfl, by kernel_rfl⟩
theorem fs27_9 : IsFs Try.prog 27 9 13 1 := ⟨_, _, Try.underlying27, rfl, rfl, by kernel_rfl⟩
theorem st29 : IsSt Try.prog 29 [.int .i64 0, .int .i64 0, .int .i64 0, .int .i64 0] := ⟨zc29, _, Try.underlying29, by kernel_rfl⟩
theorem fs29_0 : IsFs Try.prog 29 0 0 1 := ⟨_, _, Try.underlying29, rfl, rfl, by kernel_rfl⟩
theorem fs29_1 : IsFs Try.prog 29 1 1 1 := ⟨_, _, Try.underlying29, rfl, rfl, by kernel_rfl⟩
theorem fs29_2 : IsFs Try.prog 29 2 2 1 := ⟨_, _, Try.underlying29, rfl, rfl, by kernel_rfl⟩
theorem fs29_3 : IsFs Try.prog 29 3 3 1 := ⟨_, _, Try.underlying29, rfl, rfl, by kernel_rfl⟩
theorem st31 : IsSt Try.prog 31 [.int .i64 0, .int .i64 0, .int .i64 0, .int .i64 0, .int .i64 0] := ⟨zc31, _, Try.underlying31, by kernel_rfl⟩
theorem fs31_0 : IsFs Try.prog 31 0 0 1 := ⟨_, _, Try.underlying31, rfl, rfl, by kernel_rfl⟩
theorem fs31_1 : IsFs Try.prog 31 1 1 4 := ⟨_, _, Try.underlying31, rfl, rfl, by kernel_rfl⟩
theorem st33 : IsSt Try.prog 33 [.int .i64 0, .int .i64 0, .int .i64 0, .int .i64 0, .int .i64 0, .int .i64 0, .int .i64 0, .int .i64 0, .int .i64 0, .int .i64 0, .int .i64 0, .int .i64 0, .int .i64 0, .int .i64 0] := ⟨zc33, _, Try.underlying33, by kernel_rfl⟩
theorem fs33_0 : IsFs Try.prog 33 0 0 1 := ⟨_, _, Try.underlying33, rfl, rfl, by kernel_rfl⟩
theorem fs33_1 : IsFs Try.prog 33 1 1 1 := ⟨_, _, Try.underlying33, rfl, rfl, by kernel_rfl⟩
theorem fs33_2 : IsFs Try.prog 33 2 2 1 := ⟨_, _, Try.underlying33, rfl, rfl, by kernel_rfl⟩
theorem fs33_3 : IsFs Try.prog 33 3 3 1 := ⟨_, _, Try.underlying33, rfl, rfl, by kernel_rfl⟩
theorem fs33_4 : IsFs Try.prog 33 4 4 1 := ⟨_, _, Try.underlying33, rfl, rfl, by kernel_rfl⟩
theorem fs33_5 : IsFs Try.prog 33 5 5 1 := ⟨_, _, Try.underlying33, rfl, rfl, by kernel_rfl⟩
theorem fs33_6 : IsFs Try.prog 33 6 6 1 := ⟨_, _, Try.underlying33, rfl, rfl, by kernel_rfl⟩
theorem fs33_7 : IsFs Try.prog 33 7 7 1 := ⟨_, _, Try.underlying33, rfl, rfl, by kernel_rfl⟩
theorem fs33_8 : IsFs Try.prog 33 8 8 5 := ⟨_, _, Try.underlying33, rfl, rfl, by kernel_rfl⟩
theorem fs33_9 : IsFs Try.prog 33 9 13 1 := ⟨_, _, Try.underlying33, rfl, rfl, by kernel_rfl⟩
theorem st56 : IsSt Try.prog 56 [.int .i64 0, .int .i64 0, .slice none 0 0, .int .i64 0, .slice none 0 0, .int .i64 0, .int .i64 0, .int .i64 0, .bool false, .int .i64 0, .int .i64 0, .int .i64 0, .int .i64 0, .int .i64 0, .int .i64 0, .int .i64 0, .slice none 0 0, .bool false, .int .i64 0, .bool false, .slice none 0 0, .int .i64 0] := ⟨zc56, _, Try.underlying56, by kernel_rfl⟩
theorem fs56_0 : IsFs Try.prog 56 0 0 1 := ⟨_, _, Try.underlying56, rfl, rfl, by kernel_rfl⟩
theorem fs56_1 : IsFs Try.prog 56 1 1 1 := ⟨_, _, Try.underlying56, rfl, rfl, by kernel_rfl⟩
theorem fs56_2 : IsFs Try.prog 56 2 2 1 := ⟨_, _, Try.underlying56, rfl, rfl, by kernel_rfl⟩
theorem fs56_3 : IsFs Try.prog 56 3 3 1 := ⟨_, _, Try.underlying56, rfl, rfl, by kernel_rfl⟩
theorem fs56_4 : IsFs Try.prog 56 4 4 1 := ⟨_, _, Try.underlying56, rfl, rfl, by kernel_rfl⟩
theorem fs56_5 : IsFs Try.prog 56 5 5 1 := ⟨_, _, Try.underlying56, rfl, rfl, by kernel_rfl⟩
theorem fs56_6 : IsFs Try.prog 56 6 6 1 := ⟨_, _, Try.underlying56, rfl, rfl, by kernel_rfl⟩
theorem fs56_7 : IsFs Try.prog 56 7 7 1 := ⟨_, _, Try.underlying56, rfl, rfl, by kernel_rfl⟩
theorem fs56_8 : IsFs Try.prog 56 8 8 1 := ⟨_, _, Try.underlying56, rfl, rfl, by kernel_rfl⟩
theorem fs56_9 : IsFs Try.prog 56 9 9 1 := ⟨_, _, Try.underlying56, rfl, rfl, by kernel_rfl⟩
theorem fs56_10 : IsFs Try.prog 56 10 10 1 := ⟨_, _, Try.underlying56, rfl, rfl, by kernel_rfl⟩
theorem fs56_11 : IsFs Try.prog 56 11 11 5 := ⟨_, _, Try.underlying56, rfl, rfl, by kernel_rfl⟩
theorem fs56_12 : IsFs Try.prog 56 12 16 1 := ⟨_, _, Try.underlying56, rfl, rfl, by kernel_rfl⟩
theorem fs56_13 : IsFs Try.prog 56 13 17 1 := ⟨_, _, Try.underlying56, rfl, rfl, by kernel_rfl⟩
theorem fs56_14 : IsFs Try.prog 56 14 18 1 := ⟨_, _, Try.underlying56, rfl, rfl, by kernel_rfl⟩
theorem fs56_15 : IsFs Try.prog 56 15 19 1 := ⟨_, _, Try.underlying56, rfl, rfl, by kernel_rfl⟩
theorem fs56_16 : IsFs Try.prog 56 16 20 1 := ⟨_, _, Try.underlying56, rfl, rfl, by kernel_rfl⟩
theorem fs56_17 : IsFs Try.prog 56 17 21 1 := ⟨_, _, Try.underlying56, rfl, rfl, by kernel_rfl⟩
theorem st61 : IsSt Try.prog 61 [.int .i64 0, .int .i64 0, .slice none 0 0, .int .i64 0, .slice none 0 0, .int .i64 0, .int .i64 0, .int .i64 0, .bool false, .int .i64 0, .int .i64 0, .int .i64 0, .int .i64 0, .int .i64 0, .int .i64 0, .int .i64 0, .slice none 0 0, .bool false, .int .i64 0, .bool false, .slice none 0 0, .int .i64 0] := ⟨zc61, _, Try.underlying61, by kernel_rfl⟩
theorem fs61_0 : IsFs Try.prog 61 0 0 1 := ⟨_, _, Try.underlying61, rfl, rfl, by kernel_rfl⟩
theorem fs61_1 : IsFs Try.prog 61 1 1 1 := ⟨_, _, Try.underlying61, rfl, rfl, by kernel_rfl⟩
theorem fs61_2 : IsFs Try.prog 61 2 2 1 := ⟨_, _, Try.underlying61, rfl, rfl, by kernel_rfl⟩
theorem fs61_3 : IsFs Try.prog 61 3 3 1 := ⟨_, _, Try.underlying61, rfl, rfl, by kernel_rfl⟩
theorem fs61_4 : IsFs Try.prog 61 4 4 1 := ⟨_, _, Try.underlying61, rfl, rfl, by kernel_rfl⟩
theorem fs61_5 : IsFs Try.prog 61 5 5 1 := ⟨_, _, Try.underlying61, rfl, rfl, by kernel_rfl⟩
theorem fs61_6 : IsFs Try.prog 61 6 6 1 := ⟨_, _, Try.underlying61, rfl, rfl, by kernel_rfl⟩
theorem fs61_7 : IsFs Try.prog 61 7 7 1 := ⟨_, _, Try.underlying61, rfl, rfl, by kernel_rfl⟩
theorem fs61_8 : IsFs Try.prog 61 8 8 1 := ⟨_, _, Try.underlying61, rfl, rfl, by kernel_rfl⟩
theorem fs61_9 : IsFs Try.prog 61 9 9 1 := ⟨_, _, Try.underlying61, rfl, rfl, by kernel_rfl⟩
theorem fs61_10 : IsFs Try.prog 61 10 10 1 := ⟨_, _, Try.underlying61, rfl, rfl, by kernel_rfl⟩
theorem fs61_11 : IsFs Try.prog 61 11 11 5 := ⟨_, _, Try.underlying61, rfl, rfl, by kernel_rfl⟩
theorem fs61_12 : IsFs Try.prog 61 12 16 1 := ⟨_, _, Try.underlying61, rfl, rfl, by kernel_rfl⟩
theorem fs61_13 : IsFs Try.prog 61 13 17 1 := ⟨_, _, Try.underlying61, rfl, rfl, by kernel_rfl⟩
theorem fs61_14 : IsFs Try.prog 61 14 18 1 := ⟨_, _, Try.underlying61, rfl, rfl, by kernel_rfl⟩
theorem fs61_15 : IsFs Try.prog 61 15 19 1 := ⟨_, _, Try.underlying61, rfl, rfl, by kernel_rfl⟩
theorem fs61_16 : IsFs Try.prog 61 16 20 1 := ⟨_, _, Try.underlying61, rfl, rfl, by kernel_rfl⟩
theorem fs61_17 : IsFs Try.prog 61 17 21 1 := ⟨_, _, Try.underlying61, rfl, rfl, by kernel_rfl⟩
theorem st73 : IsSt Try.prog 73 [.int .i64 0, .int .i64 0] := ⟨zc73, _, Try.underlying73, by kernel_rfl⟩
theorem fs73_0 : IsFs Try.prog 73 0 0 1 := ⟨_, _, Try.underlying73, rfl, rfl, by kernel_rfl⟩
theorem fs73_1 : IsFs Try.prog 73 1 1 1 := ⟨_, _, Try.underlying73, rfl, rfl, by kernel_rfl⟩
theorem st75 : IsSt Try.prog 75 [.int .i64 0, .int .i64 0] := ⟨zc75, _, Try.underlying75, by kernel_rfl⟩
theorem fs75_0 : IsFs Try.prog 75 0 0 1 := ⟨_, _, Try.underlying75, rfl, rfl, by kernel_rfl⟩
theorem fs75_1 : IsFs Try.prog 75 1 1 1 := ⟨_, _, Try.underlying75, rfl, rfl, by kernel_rfl⟩
theorem st84 : IsSt Try.prog 84 [.int .i64 0, .int .i64 0] := ⟨zc84, _, Try.underlying84, by kernel_rfl⟩
theorem fs84_0 : IsFs Try.prog 84 0 0 1 := ⟨_, _, Try.underlying84, rfl, rfl, by kernel_rfl⟩
theorem fs84_1 : IsFs Try.prog 84 1 1 1 := ⟨_, _, Try.underlying84, rfl, rfl, by kernel_rfl⟩
theorem st98 : IsSt Try.prog 98 [.int .i64 0, .int .i64 0, .int .i64 0, .int .i64 0, .bool false] := ⟨zc98, _, Try.underlying98, by kernel_rfl⟩
theorem fs98_0 : IsFs Try.prog 98 0 0 4 := ⟨_, _, Try.underlying98, rfl, rfl, by kernel_rfl⟩
theorem fs98_1 : IsFs Try.prog 98 1 4 1 := ⟨_, _, Try.underlying98, rfl, rfl, by kernel_rfl⟩
theorem st101 : IsSt Try.prog 101 [.int .i64 0, .int .i64 0, .int .i64 0, .int .i64 0, .bool false] := ⟨zc101, _, Try.underlying101, by kernel_rfl⟩
theorem fs101_0 : IsFs Try.prog 101 0 0 4 := ⟨_, _, Try.underlying101, rfl, rfl, by kernel_rfl⟩
theorem fs101_1 : IsFs Try.prog 101 1 4 1 := ⟨_, _, Try.underlying101, rfl, rfl, by kernel_rfl⟩
theorem fl23_0 : IsFl Try.prog 23 0 0 := ⟨_, _, Try.underlying23, rfl, rfl, by kernel_rfl⟩
theorem fl23_1 : IsFl Try.prog 23 1 1 := ⟨_, _, Try.underlying23, rfl, rfl, by kernel_rfl⟩
theorem fl23_2 : IsFl Try.prog 23 2 2 := ⟨_, _, Try.underlying23, rfl, rfl, by kernel_rfl⟩
theorem fl23_3 : IsFl Try.prog 23 3 3 := ⟨_, _, Try.underlying23, rfl, rfl, by kernel_rfl⟩
theorem fl25_0 : IsFl Try.prog 25 0 0 := ⟨_, _, Try.underlying25, rfl, rfl, by kernel_rfl⟩
theorem fl25_1 : IsFl Try.prog 25 1 1 := ⟨_, _, Try.underlying25, rfl, rfl, by kernel_rfl⟩
theorem fl27_0 : IsFl Try.prog 27 0 0 := ⟨_, _, Try.underlying27, rfl, rfl, by kernel_rfl⟩
theorem fl27_1 : IsFl Try.prog 27 1 1 := ⟨_, _, Try.underlying27, rfl, rfl, by kernel_rfl⟩
theorem fl27_2 : IsFl Try.prog 27 2 2 := ⟨_, _, Try.underlying27, rfl, rfl, by kernel_rfl⟩
theorem fl27_3 : IsFl Try.prog 27 3 3 := ⟨_, _, Try.underlying27, rfl, rfl, by kernel_rfl⟩
theorem fl27_4 : IsFl Try.prog 27 4 4 := ⟨_, _, Try.underlying27, rfl, rfl, by kernel_rfl⟩
theorem fl27_5 : IsFl Try.prog 27 5 5 := ⟨_, _, Try.underlying27, rfl, rfl, by kernel_rfl⟩
theorem fl27_6 : IsFl Try.prog 27 6 6 := ⟨_, _, Try.underlying27, rfl, rfl, by kernel_rfl⟩
theorem fl27_7 : IsFl Try.prog 27 7 7 := ⟨_, _, Try.underlying27, rfl, rfl, by kernel_rfl⟩
theorem fl27_8 : IsFl Try.prog 27 8 8 := ⟨_, _, Try.underlying27, rfl, rfl, by kernel_rfl⟩
theorem fl27_9 : IsFl Try.prog 27 9 13 := ⟨_, _, Try.underlying27, rfl, rfl, by kernel_rfl⟩
theorem fl29_0 : IsFl Try.prog 29 0 0 := ⟨_, _, Try.underlying29, rfl, rfl, by kernel_rfl⟩
theorem fl29_1 : IsFl Try.prog 29 1 1 := ⟨_, _, Try.underlying29, rfl, rfl, by kernel_rfl⟩
theorem fl29_2 : IsFl Try.prog 29 2 2 := ⟨_, _, Try.underlying29, rfl, rfl, by kernel_rfl⟩
theorem fl29_3 : IsFl Try.prog 29 3 3 := ⟨_, _, Try.underlying29, rfl, rfl, by kernel_rfl⟩
theorem fl31_0 : IsFl Try.prog 31 0 0 := ⟨_, _, Try.underlying31, rfl, rfl, by kernel_rfl⟩
theorem fl31_1 : IsFl Try.prog 31 1 1 := ⟨_, _, Try.underlying31, rfl, rfl, by kernel_rfl⟩
theorem fl33_0 : IsFl Try.prog 33 0 0 := ⟨_, _, Try.underlying33, rfl, rfl, by kernel_rfl⟩
theorem fl33_1 : IsFl Try.prog 33 1 1 := ⟨_, _, Try.underlying33, rfl, rfl, by kernel_rfl⟩
theorem fl33_2 : IsFl Try.prog 33 2 2 := ⟨_, _, Try.underlying33, rfl, rfl, by kernel_rfl⟩
theorem fl33_3 : IsFl Try.prog 33 3 3 := ⟨_, _, Try.underlying33, rfl, rfl, by kernel_rfl⟩
theorem fl33_4 : IsFl Try.prog 33 4 4 := ⟨_, _, Try.underlying33, rfl, rfl, by kernel_rfl⟩
theorem fl33_5 : IsFl Try.prog 33 5 5 := ⟨_, _, Try.underlying33, rfl, rfl, by kernel_rfl⟩
theorem fl33_6 : IsFl Try.prog 33 6 6 := ⟨_, _, Try.underlying33, rfl, rfl, by kernel_rfl⟩
theorem fl33_7 : IsFl Try.prog 33 7 7 := ⟨_, _, Try.underlying33, rfl, rfl, by kernel_rfl⟩
theorem fl33_8 : IsFl Try.prog 33 8 8 := ⟨_, _, Try.underlying33, rfl, rfl, by kernel_rfl⟩
theorem fl33_9 : IsFl Try.prog 33 9 13 := ⟨_, _, Try.underlying33, rfl, rfl, by kernel_rfl⟩
theorem fl56_0 : IsFl Try.prog 56 0 0 := ⟨_, _, Try.underlying56, rfl, rfl, by kernel_rfl⟩
theorem fl56_1 : IsFl Try.prog 56 1 1 := ⟨_, _, Try.underlying56, rfl, rfl, by kernel_rfl⟩
theorem fl56_2 : IsFl Try.prog 56 2 2 := ⟨_, _, Try.underlying56, rfl, rfl, by kernel_rfl⟩
theorem fl56_3 : IsFl Try.prog 56 3 3 := ⟨_, _, Try.underlying56, rfl, rfl, by kernel_rfl⟩
theorem fl56_4 : IsFl Try.prog 56 4 4 := ⟨_, _, Try.underlying56, rfl, rfl, by kernel_rfl⟩
theorem fl56_5 : IsFl Try.prog 56 5 5 := ⟨_, _, Try.underlying56, rfl, rfl, by kernel_rfl⟩
theorem fl56_6 : IsFl Try.prog 56 6 6 := ⟨_, _, Try.underlying56, rfl, rfl, by kernel_rfl⟩
theorem fl56_7 : IsFl Try.prog 56 7 7 := ⟨_, _, Try.underlying56, rfl, rfl, by kernel_rfl⟩
theorem fl56_8 : IsFl Try.prog 56 8 8 := ⟨_, _, Try.underlying56, rfl, rfl, by kernel_rfl⟩
theorem fl56_9 : IsFl Try.prog 56 9 9 := ⟨_, _, Try.underlying56, rfl, rfl, by kernel_rfl⟩
theorem fl56_10 : IsFl Try.prog 56 10 10 := ⟨_, _, Try.underlying56, rfl, rfl, by kernel_rfl⟩
theorem fl56_11 : IsFl Try.prog 56 11 11 := ⟨_, _, Try.underlying56, rfl, rfl, by kernel_rfl⟩
theorem fl56_12 : IsFl Try.prog 56 12 16 := ⟨_, _, Try.underlying56, rfl, rfl, by kernel_rfl⟩
theorem fl56_13 : IsFl Try.prog 56 13 17 := ⟨_, _, Try.underlying56, rfl, rfl, by kernel_rfl⟩
theorem fl56_14 : IsFl Try.prog 56 14 18 := ⟨_, _, Try.underlying56, rfl, rfl, by kernel_rfl⟩
theorem fl56_15 : IsFl Try.prog 56 15 19 := ⟨_, _, Try.underlying56, rfl, rfl, by kernel_rfl⟩
theorem fl56_16 : IsFl Try.prog 56 16 20 := ⟨_, _, Try.underlying56, rfl, rfl, by kernel_rfl⟩
theorem fl56_17 : IsFl Try.prog 56 17 21 := ⟨_, _, Try.underlying56, rfl, rfl, by kernel_rfl⟩
theorem fl61_0 : IsFl Try.prog 61 0 0 := ⟨_, _, Try.underlying61, rfl, rfl, by kernel_rfl⟩
theorem fl61_1 : IsFl Try.prog 61 1 1 := ⟨_, _, Try.underlying61, rfl, rfl, by kernel_rfl⟩
theorem fl61_2 : IsFl Try.prog 61 2 2 := ⟨_, _, Try.underlying61, rfl, rfl, by kernel_rfl⟩
theorem fl61_3 : IsFl Try.prog 61 3 3 := ⟨_, _, Try.underlying61, rfl, rfl, by kernel_rfl⟩
theorem fl61_4 : IsFl Try.prog 61 4 4 := ⟨_, _, Try.underlying61, rfl, rfl, by kernel_rfl⟩
theorem fl61_5 : IsFl Try.prog 61 5 5 := ⟨_, _, Try.underlying61, rfl, rfl, by kernel_rfl⟩
theorem fl61_6 : IsFl Try.prog 61 6 6 := ⟨_, _, Try.underlying61, rfl, rfl, by kernel_rfl⟩
theorem fl61_7 : IsFl Try.prog 61 7 7 := ⟨_, _, Try.underlying61, rfl, rfl, by kernel_rfl⟩
theorem fl61_8 : IsFl Try.prog 61 8 8 := ⟨_, _, Try.underlying61, rfl, rfl, by kernel_rfl⟩
theorem fl61_9 : IsFl Try.prog 61 9 9 := ⟨_, _, Try.underlying61, rfl, rfl, by kernel_rfl⟩
theorem fl61_10 : IsFl Try.prog 61 10 10 := ⟨_, _, Try.underlying61, rfl, rfl, by kernel_rfl⟩
theorem fl61_11 : IsFl Try.prog 61 11 11 := ⟨_, _, Try.underlying61, rfl, rfl, by kernel_rfl⟩
theorem fl61_12 : IsFl Try.prog 61 12 16 := ⟨_, _, Try.underlying61, rfl, rfl, by kernel_rfl⟩
theorem fl61_13 : IsFl Try.prog 61 13 17 := ⟨_, _, Try.underlying61, rfl, rfl, by kernel_rfl⟩
theorem fl61_14 : IsFl Try.prog 61 14 18 := ⟨_, _, Try.underlying61, rfl, rfl, by kernel_rfl⟩
theorem fl61_15 : IsFl Try.prog 61 15 19 := ⟨_, _, Try.underlying61, rfl, rfl, by kernel_rfl⟩
theorem fl61_16 : IsFl Try.prog 61 16 20 := ⟨_, _, Try.underlying61, rfl, rfl, by kernel_rfl⟩
theorem fl61_17 : IsFl Try.prog 61 17 21 := ⟨_, _, Try.underlying61, rfl, rfl, by kernel_rfl⟩
theorem fl73_0 : IsFl Try.prog 73 0 0 := ⟨_, _, Try.underlying73, rfl, rfl, by kernel_rfl⟩
theorem fl73_1 : IsFl Try.prog 73 1 1 := ⟨_, _, Try.underlying73, rfl, rfl, by kernel_rfl⟩
theorem fl75_0 : IsFl Try.prog 75 0 0 := ⟨_, _, Try.underlying75, rfl, rfl, by kernel_rfl⟩
theorem fl75_1 : IsFl Try.prog 75 1 1 := ⟨_, _, Try.underlying75, rfl, rfl, by kernel_rfl⟩
theorem fl84_0 : IsFl Try.prog 84 0 0 := ⟨_, _, Try.underlying84, rfl, rfl, by kernel_rfl⟩
theorem fl84_1 : IsFl Try.prog 84 1 1 := ⟨_, _, Try.underlying84, rfl, rfl, by kernel_rfl⟩
theorem fl98_0 : IsFl Try.prog 98 0 0 := ⟨_, _, Try.underlying98, rfl, rfl, by kernel_rfl⟩
theorem fl98_1 : IsFl Try.prog 98 1 4 := ⟨_, _, Try.underlying98, rfl, rfl, by kernel_rfl⟩
theorem fl101_0 : IsFl Try.prog 101 0 0 := ⟨_, _, Try.underlying101, rfl, rfl, by kernel_rfl⟩
theorem fl101_1 : IsFl Try.prog 101 1 4 := ⟨_, _, Try.underlying101, rfl, rfl, by kernel_rfl⟩
theorem sl36 : IsSl Try.prog 36 75 2 := ⟨Try.underlying36, by kernel_rfl⟩
theorem el36 : IsEl Try.prog 36 75 2 16 [.int .i64 0, .int .i64 0] := isEl Try.underlying36 (by kernel_rfl) (by kernel_rfl) rfl rfl
theorem sl39 : IsSl Try.prog 39 73 2 := ⟨Try.underlying39, by kernel_rfl⟩
theorem el39 : IsEl Try.prog 39 73 2 16 [.int .i64 0, .int .i64 0] := isEl Try.underlying39 (by kernel_rfl) (by kernel_rfl) rfl rfl
theorem sl45 : IsSl Try.prog 45 23 4 := ⟨Try.underlying45, by kernel_rfl⟩
theorem el45 : IsEl Try.prog 45 23 4 32 [.int .i64 0, .int .i64 0, .int .i64 0, .int .i64 0] := isEl Try.underlying45 (by kernel_rfl) (by kernel_rfl) rfl rfl
theorem sl48 : IsSl Try.prog 48 29 4 := ⟨Try.underlying48, by kernel_rfl⟩
theorem el48 : IsEl Try.prog 48 29 4 32 [.int .i64 0, .int .i64 0, .int .i64 0, .int .i64 0] := isEl Try.underlying48 (by kernel_rfl) (by kernel_rfl) rfl rfl
theorem sl54 : IsSl Try.prog 54 101 5 := ⟨Try.underlying54, by kernel_rfl⟩
theorem el54 : IsEl Try.prog 54 101 5 40 [.int .i64 0, .int .i64 0, .int .i64 0, .int .i64 0, .bool false] := isEl Try.underlying54 (by kernel_rfl) (by kernel_rfl) rfl rfl
theorem sl59 : IsSl Try.prog 59 98 5 := ⟨Try.underlying59, by kernel_rfl⟩
theorem el59 : IsEl Try.prog 59 98 5 40 [.int .i64 0, .int .i64 0, .int .i64 0, .int .i64 0, .bool false] := isEl Try.underlying59 (by kernel_rfl) (by kernel_rfl) rfl rfl
theorem sl68 : IsSl Try.prog 68 3 1 := ⟨Try.underlying68, by kernel_rfl⟩
theorem el68 : IsEl Try.prog 68 3 1 8 [.int .i64 0] := isEl Try.underlying68 (by kernel_rfl) (by kernel_rfl) rfl rfl
theorem eqs29 (a0 a1 a2 a3 b0 b1 b2 b3 : Int) : IsEq Try.prog 29 (.agg #[.int .i64 a0, .int .i64 a1, .int .i64 a2, .int .i64 a3]) (.agg #[.int .i64 b0, .int .i64 b1, .int .i64 b2, .int .i64 b3]) (decide ((a0, a1, a2, a3) = (b0, b1, b2, b3))) := by
  intro ρ x y d t' ty w hx hy
  constructor <;> (simp only [Stp.oper, execOp, hx, hy]; go_simp; (repeat' split) <;> simp_all)
theorem pf10 : plainFn Try.prog 10 = true := by kernel_rfl
theorem pf11 : plainFn Try.prog 11 = true := by kernel_rfl
theorem pf12 : plainFn Try.prog 12 = true := by kernel_rfl
theorem pf13 : plainFn Try.prog 13 = true := by kernel_rfl
theorem pf14 : plainFn Try.prog 14 = true := by kernel_rfl
theorem pf15 : plainFn Try.prog 15 = true := by kernel_rfl
theorem pf16 : plainFn Try.prog 16 = true := by kernel_rfl
theorem pf17 : plainFn Try.prog 17 = true := by kernel_rfl
theorem pf18 : plainFn Try.prog 18 = true := by kernel_rfl
theorem pf19 : plainFn Try.prog 19 = true := by kernel_rfl
theorem pf20 : plainFn Try.prog 20 = true := by kernel_rfl
theorem pf21 : plainFn Try.prog 21 = true := by kernel_rfl
theorem pf22 : plainFn Try.prog 22 = true := by kernel_rfl
theorem pf23 : plainFn Try.prog 23 = true := by kernel_rfl
theorem pf24 : plainFn Try.prog 24 = true := by kernel_rfl
theorem pf25 : plainFn Try.prog 25 = true := by kernel_rfl
theorem pf26 : plainFn Try.prog 26 = true := by kernel_rfl
theorem pf27 : plainFn Try.prog 27 = true := by kernel_rfl
theorem pf28 : plainFn Try.prog 28 = true := by kernel_rfl
theorem pf29 : plainFn Try.prog 29 = true := by kernel_rfl
theorem pf30 : plainFn Try.prog 30 = true := by kernel_rfl
theorem pf31 : plainFn Try.prog 31 = true := by kernel_rfl
theorem pf32 : plainFn Try.prog 32 = true := by kernel_rfl
theorem pf33 : plainFn Try.prog 33 = true := by kernel_rfl
theorem pf34 : plainFn Try.prog 34 = true := by kernel_rfl
theorem pf35 : plainFn Try.prog 35 = true := by kernel_rfl
theorem pf36 : plainFn Try.prog 36 = true := by kernel_rfl
theorem pf37 : plainFn Try.prog 37 = true := by kernel_rfl
theorem pf38 : plainFn Try.prog 38 = true := by kernel_rfl
theorem pf39 : plainFn Try.prog 39 = true := by kernel_rfl
theorem pf40 : plainFn Try.prog 40 = true := by kernel_rfl
theorem pf41 : plainFn Try.prog 41 = true := by kernel_rfl
theorem pf42 : plainFn Try.prog 42 = true := by kernel_rfl
theorem pf43 : plainFn Try.prog 43 = true := by kernel_rfl
theorem pf44 : plainFn Try.prog 44 = true := by kernel_rfl
theorem pf45 : plainFn Try.prog 45 = true := by kernel_rfl
theorem pf46 : plainFn Try.prog 46 = true := by kernel_rfl
theorem pf47 : plainFn Try.prog 47 = true := by kernel_rfl
theorem pf48 : plainFn Try.prog 48 = true := by kernel_rfl
theorem pf49 : plainFn Try.prog 49 = true := by kernel_rfl
theorem pf50 : plainFn Try.prog 50 = true := by kernel_rfl
theorem pf51 : plainFn Try.prog 51 = true := by kernel_rfl
theorem pf53 : plainFn Try.prog 53 = true := by kernel_rfl
theorem pf54 : plainFn Try.prog 54 = true := by kernel_rfl
theorem pf55 : plainFn Try.prog 55 = true := by kernel_rfl
theorem pf56 : plainFn Try.prog 56 = true := by kernel_rfl
theorem pf57 : plainFn Try.prog 57 = true := by kernel_rfl
theorem pf58 : plainFn Try.prog 58 = true := by kernel_rfl
theorem pf59 : plainFn Try.prog 59 = true := by kernel_rfl
theorem pf60 : plainFn Try.prog 60 = true := by kernel_rfl
theorem pf61 : plainFn Try.prog 61 = true := by kernel_rfl
theorem pf62 : plainFn Try.prog 62 = true := by kernel_rfl
theorem pf63 : plainFn Try.prog 63 = true := by kernel_rfl
theorem pf64 : plainFn Try.prog 64 = true := by kernel_rfl
theorem pf65 : plainFn Try.prog 65 = true := by kernel_rfl
theorem pf66 : plainFn Try.prog 66 = true := by kernel_rfl
theorem pf67 : plainFn Try.prog 67 = true := by kernel_rfl
theorem pf68 : plainFn Try.prog 68 = true := by kernel_rfl
theorem pf69 : plainFn Try.prog 69 = true := by kernel_rfl
theorem pf70 : plainFn Try.prog 70 = true := by kernel_rfl
theorem pf71 : plainFn Try.prog 71 = true := by kernel_rfl
theorem pf72 : plainFn Try.prog 72 = true := by kernel_rfl
theorem pf73 : plainFn Try.prog 73 = true := by kernel_rfl
theorem pf74 : plainFn Try.prog 74 = true := by kernel_rfl
theorem pf75 : plainFn Try.prog 75 = true := by kernel_rfl
theorem pf76 : plainFn Try.prog 76 = true := by kernel_rfl
theorem pf77 : plainFn Try.prog 77 = true := by kernel_rfl
theorem pf78 : plainFn Try.prog 78 = true := by kernel_rfl
theorem pf79 : plainFn Try.prog 79 = true := by kernel_rfl
theorem pf80 : plainFn Try.prog 80 = true := by kernel_rfl
theorem pf81 : plainFn Try.prog 81 = true := by kernel_rfl
theorem pf84 : plainFn Try.prog 84 = true := by kernel_rfl
theorem pf85 : plainFn Try.prog 85 = true := by kernel_rfl
theorem pf87 : plainFn Try.prog 87 = true := by kernel_rfl
theorem pf88 : plainFn Try.prog 88 = true := by kernel_rfl
theorem pf89 : plainFn Try.prog 89 = true := by kernel_rfl
theorem pf90 : plainFn Try.prog 90 = true := by kernel_rfl
theorem mixed : Try.prog.follows .mixedOrders = true := by kernel_rfl
end Go.Proofs.Ytinahnfmgnncjaa.T
