/- What is known of the types of this program. No condition. -/
import Derived.Test.YtjllcdgnmdieoaaProg
import Derived.Test.YtjllcdgnmdieoaaVQ
import Derived.KernelRfl
namespace Go.Proofs.Ytjllcdgnmdieoaa
open Go.RowKit Go.PBYtjllcdgnmdieoaa
set_option maxRecDepth 10000
theorem sz2 : (Try.prog.info? 2).map (·.size) = some 1 := by kernel_rfl
theorem in2 : (Try.prog.info? 2).map (fun i => (i.zero, i.size, i.bytes)) = some (some (Value.int .i64 0), 1, 8) := by kernel_rfl
theorem zr2 : (Try.prog.info? 2).map (·.zero) = some (some (Value.int .i64 0)) := by kernel_rfl
theorem sz3 : (Try.prog.info? 3).map (·.size) = some 1 := by kernel_rfl
theorem in3 : (Try.prog.info? 3).map (fun i => (i.zero, i.size, i.bytes)) = some (some (Value.int .i64 0), 1, 8) := by kernel_rfl
theorem zr3 : (Try.prog.info? 3).map (·.zero) = some (some (Value.int .i64 0)) := by kernel_rfl
theorem sz4 : (Try.prog.info? 4).map (·.size) = some 1 := by kernel_rfl
theorem in4 : (Try.prog.info? 4).map (fun i => (i.zero, i.size, i.bytes)) = some (some (Value.bool false), 1, 1) := by kernel_rfl
theorem zr4 : (Try.prog.info? 4).map (·.zero) = some (some (Value.bool false)) := by kernel_rfl
theorem sz5 : (Try.prog.info? 5).map (·.size) = some 1 := by kernel_rfl
theorem in5 : (Try.prog.info? 5).map (fun i => (i.zero, i.size, i.bytes)) = some (some (Value.int .u8 0), 1, 1) := by kernel_rfl
theorem zr5 : (Try.prog.info? 5).map (·.zero) = some (some (Value.int .u8 0)) := by kernel_rfl
theorem sz23 : (Try.prog.info? 23).map (·.size) = some 32 := by kernel_rfl
theorem zr23 : (Try.prog.info? 23).map (·.zero) = some (some (.agg (bys (List.replicate 32 0)).toArray)) := by kernel_rfl
theorem in23 : (Try.prog.info? 23).map (fun i => (i.zero, i.size, i.bytes)) = some (some (.agg (bys (List.replicate 32 0)).toArray), 32, 32) := by kernel_rfl
theorem sz31 : (Try.prog.info? 31).map (·.size) = some 1 := by kernel_rfl
theorem in31 : (Try.prog.info? 31).map (fun i => (i.zero, i.size, i.bytes)) = some (some (Value.int .u64 0), 1, 8) := by kernel_rfl
theorem zr31 : (Try.prog.info? 31).map (·.zero) = some (some (Value.int .u64 0)) := by kernel_rfl
theorem sz33 : (Try.prog.info? 33).map (·.size) = some 16 := by kernel_rfl
theorem zr33 : (Try.prog.info? 33).map (·.zero) = some (some (.agg (u64s (List.replicate 16 0)).toArray)) := by kernel_rfl
theorem in33 : (Try.prog.info? 33).map (fun i => (i.zero, i.size, i.bytes)) = some (some (.agg (u64s (List.replicate 16 0)).toArray), 16, 128) := by kernel_rfl
theorem sz35 : (Try.prog.info? 35).map (·.size) = some 16 := by kernel_rfl
theorem zr35 : (Try.prog.info? 35).map (·.zero) = some (some (.agg (i64s (List.replicate 16 0)).toArray)) := by kernel_rfl
theorem in35 : (Try.prog.info? 35).map (fun i => (i.zero, i.size, i.bytes)) = some (some (.agg (i64s (List.replicate 16 0)).toArray), 16, 128) := by kernel_rfl
theorem sz37 : (Try.prog.info? 37).map (·.size) = some 16 := by kernel_rfl
theorem zr37 : (Try.prog.info? 37).map (·.zero) = some (some (.agg (i64s (List.replicate 16 0)).toArray)) := by kernel_rfl
theorem in37 : (Try.prog.info? 37).map (fun i => (i.zero, i.size, i.bytes)) = some (some (.agg (i64s (List.replicate 16 0)).toArray), 16, 128) := by kernel_rfl
theorem fo37_0 : fieldOff Try.prog 37 0 = some (0, 16) := by kernel_rfl
theorem ft37_0 : fieldTy Try.prog 37 0 = some (35, 0) := by kernel_rfl
theorem sz49 : (Try.prog.info? 49).map (·.size) = some 32 := by kernel_rfl
theorem zr49 : (Try.prog.info? 49).map (·.zero) = some (some (.agg (i64s (List.replicate 32 0)).toArray)) := by kernel_rfl
theorem in49 : (Try.prog.info? 49).map (fun i => (i.zero, i.size, i.bytes)) = some (some (.agg (i64s (List.replicate 32 0)).toArray), 32, 256) := by kernel_rfl
theorem sz52 : (Try.prog.info? 52).map (·.size) = some 32 := by kernel_rfl
theorem zr52 : (Try.prog.info? 52).map (·.zero) = some (some (.agg (u64s (List.replicate 32 0)).toArray)) := by kernel_rfl
theorem in52 : (Try.prog.info? 52).map (fun i => (i.zero, i.size, i.bytes)) = some (some (.agg (u64s (List.replicate 32 0)).toArray), 32, 256) := by kernel_rfl
theorem sz53 : (Try.prog.info? 53).map (·.size) = some 1 := by kernel_rfl
theorem in53 : (Try.prog.info? 53).map (fun i => (i.zero, i.size, i.bytes)) = some (some (Value.pointer none), 1, 8) := by kernel_rfl
theorem zr53 : (Try.prog.info? 53).map (·.zero) = some (some (Value.pointer none)) := by kernel_rfl
end Go.Proofs.Ytjllcdgnmdieoaa
