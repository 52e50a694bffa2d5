/- What is known of the types of this program. No condition. -/
import Derived.Test.YtpjjledbmfmbiaaProg
import Derived.Test.YtpjjledbmfmbiaaVQ
import Derived.KernelRfl
namespace Go.Proofs.Ytpjjledbmfmbiaa
open Go.RowKit Go.PBYtpjjledbmfmbiaa
set_option maxRecDepth 10000
theorem sz3 : (Try.prog.info? 3).map (·.size) = some 1 := by kernel_rfl
theorem in3 : (Try.prog.info? 3).map (fun i => (i.zero, i.size, i.bytes)) = some (some (Value.int .i64 0), 1, 8) := by kernel_rfl
theorem zr3 : (Try.prog.info? 3).map (·.zero) = some (some (Value.int .i64 0)) := by kernel_rfl
theorem sz4 : (Try.prog.info? 4).map (·.size) = some 1 := by kernel_rfl
theorem in4 : (Try.prog.info? 4).map (fun i => (i.zero, i.size, i.bytes)) = some (some (Value.bool false), 1, 1) := by kernel_rfl
theorem zr4 : (Try.prog.info? 4).map (·.zero) = some (some (Value.bool false)) := by kernel_rfl
theorem sz5 : (Try.prog.info? 5).map (·.size) = some 1 := by kernel_rfl
theorem in5 : (Try.prog.info? 5).map (fun i => (i.zero, i.size, i.bytes)) = some (some (Value.int .u8 0), 1, 1) := by kernel_rfl
theorem zr5 : (Try.prog.info? 5).map (·.zero) = some (some (Value.int .u8 0)) := by kernel_rfl
theorem sz9 : (Try.prog.info? 9).map (·.size) = some 1 := by kernel_rfl
theorem in9 : (Try.prog.info? 9).map (fun i => (i.zero, i.size, i.bytes)) = some (some (Value.string ⟨#[]⟩), 1, 16) := by kernel_rfl
theorem zr9 : (Try.prog.info? 9).map (·.zero) = some (some (Value.string ⟨#[]⟩)) := by kernel_rfl
theorem sz23 : (Try.prog.info? 23).map (·.size) = some 32 := by kernel_rfl
theorem zr23 : (Try.prog.info? 23).map (·.zero) = some (some (.agg (bys (List.replicate 32 0)).toArray)) := by kernel_rfl
theorem in23 : (Try.prog.info? 23).map (fun i => (i.zero, i.size, i.bytes)) = some (some (.agg (bys (List.replicate 32 0)).toArray), 32, 32) := by kernel_rfl
theorem sz25 : (Try.prog.info? 25).map (·.size) = some 34 := by kernel_rfl
theorem zr25 : (Try.prog.info? 25).map (·.zero) = some (some (.agg (bys (List.replicate 32 0) ++ [Value.int .i64 0] ++ [Value.int .i64 0]).toArray)) := by kernel_rfl
theorem in25 : (Try.prog.info? 25).map (fun i => (i.zero, i.size, i.bytes)) = some (some (.agg (bys (List.replicate 32 0) ++ [Value.int .i64 0] ++ [Value.int .i64 0]).toArray), 34, 48) := by kernel_rfl
theorem fo25_0 : fieldOff Try.prog 25 0 = some (0, 32) := by kernel_rfl
theorem ft25_0 : fieldTy Try.prog 25 0 = some (23, 0) := by kernel_rfl
theorem fo25_1 : fieldOff Try.prog 25 1 = some (32, 1) := by kernel_rfl
theorem ft25_1 : fieldTy Try.prog 25 1 = some (3, 32) := by kernel_rfl
theorem fo25_2 : fieldOff Try.prog 25 2 = some (33, 1) := by kernel_rfl
theorem ft25_2 : fieldTy Try.prog 25 2 = some (3, 33) := by kernel_rfl
theorem sz26 : (Try.prog.info? 26).map (·.size) = some 1 := by kernel_rfl
theorem in26 : (Try.prog.info? 26).map (fun i => (i.zero, i.size, i.bytes)) = some (some (Value.slice none 0 0), 1, 24) := by kernel_rfl
theorem zr26 : (Try.prog.info? 26).map (·.zero) = some (some (Value.slice none 0 0)) := by kernel_rfl
theorem sz28 : (Try.prog.info? 28).map (·.size) = some 1 := by kernel_rfl
theorem in28 : (Try.prog.info? 28).map (fun i => (i.zero, i.size, i.bytes)) = some (some (Value.int .i64 0), 1, 8) := by kernel_rfl
theorem zr28 : (Try.prog.info? 28).map (·.zero) = some (some (Value.int .i64 0)) := by kernel_rfl
theorem sz35 : (Try.prog.info? 35).map (·.size) = some 69 := by kernel_rfl
theorem zr35 : (Try.prog.info? 35).map (·.zero) = some (some (.agg ([Value.int .i64 0] ++ [Value.int .i64 0] ++ bys (List.replicate 32 0) ++ bys (List.replicate 32 0) ++ [Value.int .i64 0] ++ [Value.int .i64 0] ++ [Value.slice none 0 0]).toArray)) := by kernel_rfl
theorem in35 : (Try.prog.info? 35).map (fun i => (i.zero, i.size, i.bytes)) = some (some (.agg ([Value.int .i64 0] ++ [Value.int .i64 0] ++ bys (List.replicate 32 0) ++ bys (List.replicate 32 0) ++ [Value.int .i64 0] ++ [Value.int .i64 0] ++ [Value.slice none 0 0]).toArray), 69, 120) := by kernel_rfl
theorem fo35_0 : fieldOff Try.prog 35 0 = some (0, 1) := by kernel_rfl
theorem ft35_0 : fieldTy Try.prog 35 0 = some (3, 0) := by kernel_rfl
theorem fo35_1 : fieldOff Try.prog 35 1 = some (1, 1) := by kernel_rfl
theorem ft35_1 : fieldTy Try.prog 35 1 = some (3, 1) := by kernel_rfl
theorem fo35_2 : fieldOff Try.prog 35 2 = some (2, 32) := by kernel_rfl
theorem ft35_2 : fieldTy Try.prog 35 2 = some (23, 2) := by kernel_rfl
theorem fo35_3 : fieldOff Try.prog 35 3 = some (34, 34) := by kernel_rfl
theorem ft35_3 : fieldTy Try.prog 35 3 = some (25, 34) := by kernel_rfl
theorem fo35_4 : fieldOff Try.prog 35 4 = some (68, 1) := by kernel_rfl
theorem ft35_4 : fieldTy Try.prog 35 4 = some (26, 68) := by kernel_rfl
theorem sz45 : (Try.prog.info? 45).map (·.size) = some 1 := by kernel_rfl
theorem in45 : (Try.prog.info? 45).map (fun i => (i.zero, i.size, i.bytes)) = some (some (Value.int .u64 0), 1, 8) := by kernel_rfl
theorem zr45 : (Try.prog.info? 45).map (·.zero) = some (some (Value.int .u64 0)) := by kernel_rfl
theorem sz46 : (Try.prog.info? 46).map (·.size) = some 1 := by kernel_rfl
theorem in46 : (Try.prog.info? 46).map (fun i => (i.zero, i.size, i.bytes)) = some (some (Value.pointer none), 1, 8) := by kernel_rfl
theorem zr46 : (Try.prog.info? 46).map (·.zero) = some (some (Value.pointer none)) := by kernel_rfl
theorem sz48 : (Try.prog.info? 48).map (·.size) = some 1 := by kernel_rfl
theorem zr48 : (Try.prog.info? 48).map (·.zero) = some (some (.agg ([Value.slice none 0 0]).toArray)) := by kernel_rfl
theorem in48 : (Try.prog.info? 48).map (fun i => (i.zero, i.size, i.bytes)) = some (some (.agg ([Value.slice none 0 0]).toArray), 1, 24) := by kernel_rfl
theorem fo48_0 : fieldOff Try.prog 48 0 = some (0, 1) := by kernel_rfl
theorem ft48_0 : fieldTy Try.prog 48 0 = some (26, 0) := by kernel_rfl
end Go.Proofs.Ytpjjledbmfmbiaa
