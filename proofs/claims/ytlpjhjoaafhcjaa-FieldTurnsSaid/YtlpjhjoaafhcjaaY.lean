/- What is known of the types of this program. No condition. -/
import Derived.Test.YtlpjhjoaafhcjaaProg
import Derived.Test.YtlpjhjoaafhcjaaVQ
import Derived.KernelRfl
namespace Go.Proofs.Ytlpjhjoaafhcjaa
open Go.RowKit Go.PBYtlpjhjoaafhcjaa
set_option maxRecDepth 10000
theorem sz2 : (Try.prog.info? 2).map (·.size) = some 1 := by kernel_rfl
theorem in2 : (Try.prog.info? 2).map (fun i => (i.zero, i.size, i.bytes)) = some (some (Value.int .i64 0), 1, 8) := by kernel_rfl
theorem zr2 : (Try.prog.info? 2).map (·.zero) = some (some (Value.int .i64 0)) := by kernel_rfl
theorem sz3 : (Try.prog.info? 3).map (·.size) = some 1 := by kernel_rfl
theorem in3 : (Try.prog.info? 3).map (fun i => (i.zero, i.size, i.bytes)) = some (some (Value.int .i64 0), 1, 8) := by kernel_rfl
theorem zr3 : (Try.prog.info? 3).map (·.zero) = some (some (Value.int .i64 0)) := by kernel_rfl
theorem sz4 : (Try.prog.info? 4).map (·.size) = some 1 := by kernel_rfl
theorem in4 : (Try.prog.info? 4).map (fun i => (i.zero, i.size, i.bytes)) = some (some (Value.bool false), 1, 1) := by kernel_rfl
theorem zr4 : (Try.prog.info? 4).map (·.zero) = some (some (Value.bool false)) := by kernel_rfl
theorem sz5 : (Try.prog.info? 5).map (·.size) = some 1 := by kernel_rfl
theorem in5 : (Try.prog.info? 5).map (fun i => (i.zero, i.size, i.bytes)) = some (some (Value.int .u8 0), 1, 1) := by kernel_rfl
theorem zr5 : (Try.prog.info? 5).map (·.zero) = some (some (Value.int .u8 0)) := by kernel_rfl
theorem sz23 : (Try.prog.info? 23).map (·.size) = some 32 := by kernel_rfl
theorem zr23 : (Try.prog.info? 23).map (·.zero) = some (some (.agg (bys (List.replicate 32 0)).toArray)) := by kernel_rfl
theorem in23 : (Try.prog.info? 23).map (fun i => (i.zero, i.size, i.bytes)) = some (some (.agg (bys (List.replicate 32 0)).toArray), 32, 32) := by kernel_rfl
theorem sz25 : (Try.prog.info? 25).map (·.size) = some 16 := by kernel_rfl
theorem zr25 : (Try.prog.info? 25).map (·.zero) = some (some (.agg (i64s (List.replicate 16 0)).toArray)) := by kernel_rfl
theorem in25 : (Try.prog.info? 25).map (fun i => (i.zero, i.size, i.bytes)) = some (some (.agg (i64s (List.replicate 16 0)).toArray), 16, 128) := by kernel_rfl
theorem sz27 : (Try.prog.info? 27).map (·.size) = some 16 := by kernel_rfl
theorem zr27 : (Try.prog.info? 27).map (·.zero) = some (some (.agg (i64s (List.replicate 16 0)).toArray)) := by kernel_rfl
theorem in27 : (Try.prog.info? 27).map (fun i => (i.zero, i.size, i.bytes)) = some (some (.agg (i64s (List.replicate 16 0)).toArray), 16, 128) := by kernel_rfl
theorem fo27_0 : fieldOff Try.prog 27 0 = some (0, 16) := by kernel_rfl
theorem ft27_0 : fieldTy Try.prog 27 0 = some (25, 0) := by kernel_rfl
theorem sz29 : (Try.prog.info? 29).map (·.size) = some 1 := by kernel_rfl
theorem in29 : (Try.prog.info? 29).map (fun i => (i.zero, i.size, i.bytes)) = some (some (Value.int .u64 0), 1, 8) := by kernel_rfl
theorem zr29 : (Try.prog.info? 29).map (·.zero) = some (some (Value.int .u64 0)) := by kernel_rfl
theorem sz31 : (Try.prog.info? 31).map (·.size) = some 16 := by kernel_rfl
theorem zr31 : (Try.prog.info? 31).map (·.zero) = some (some (.agg (u64s (List.replicate 16 0)).toArray)) := by kernel_rfl
theorem in31 : (Try.prog.info? 31).map (fun i => (i.zero, i.size, i.bytes)) = some (some (.agg (u64s (List.replicate 16 0)).toArray), 16, 128) := by kernel_rfl
theorem sz40 : (Try.prog.info? 40).map (·.size) = some 1 := by kernel_rfl
theorem in40 : (Try.prog.info? 40).map (fun i => (i.zero, i.size, i.bytes)) = some (some (Value.slice none 0 0), 1, 24) := by kernel_rfl
theorem zr40 : (Try.prog.info? 40).map (·.zero) = some (some (Value.slice none 0 0)) := by kernel_rfl
theorem sz41 : (Try.prog.info? 41).map (·.size) = some 1 := by kernel_rfl
theorem in41 : (Try.prog.info? 41).map (fun i => (i.zero, i.size, i.bytes)) = some (some (Value.slice none 0 0), 1, 24) := by kernel_rfl
theorem zr41 : (Try.prog.info? 41).map (·.zero) = some (some (Value.slice none 0 0)) := by kernel_rfl
theorem sz53 : (Try.prog.info? 53).map (·.size) = some 32 := by kernel_rfl
theorem zr53 : (Try.prog.info? 53).map (·.zero) = some (some (.agg (i64s (List.replicate 32 0)).toArray)) := by kernel_rfl
theorem in53 : (Try.prog.info? 53).map (fun i => (i.zero, i.size, i.bytes)) = some (some (.agg (i64s (List.replicate 32 0)).toArray), 32, 256) := by kernel_rfl
theorem sz54 : (Try.prog.info? 54).map (·.size) = some 32 := by kernel_rfl
theorem zr54 : (Try.prog.info? 54).map (·.zero) = some (some (.agg (u64s (List.replicate 32 0)).toArray)) := by kernel_rfl
theorem in54 : (Try.prog.info? 54).map (fun i => (i.zero, i.size, i.bytes)) = some (some (.agg (u64s (List.replicate 32 0)).toArray), 32, 256) := by kernel_rfl
theorem sz55 : (Try.prog.info? 55).map (·.size) = some 1 := by kernel_rfl
theorem in55 : (Try.prog.info? 55).map (fun i => (i.zero, i.size, i.bytes)) = some (some (Value.pointer none), 1, 8) := by kernel_rfl
theorem zr55 : (Try.prog.info? 55).map (·.zero) = some (some (Value.pointer none)) := by kernel_rfl
end Go.Proofs.Ytlpjhjoaafhcjaa
