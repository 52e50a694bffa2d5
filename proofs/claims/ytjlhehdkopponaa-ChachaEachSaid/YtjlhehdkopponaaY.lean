/- What is known of the types of this program. No condition. -/
import Derived.Test.YtjlhehdkopponaaProg
import Derived.Test.YtjlhehdkopponaaVO
import Derived.KernelRfl
namespace Go.Proofs.Ytjlhehdkopponaa
open Go.RowKit Go.PBYtjlhehdkopponaa
set_option maxRecDepth 10000
theorem sz3 : (Try.prog.info? 3).map (·.size) = some 1 := by kernel_rfl
theorem in3 : (Try.prog.info? 3).map (fun i => (i.zero, i.size, i.bytes)) = some (some (Value.int .i64 0), 1, 8) := by kernel_rfl
theorem zr3 : (Try.prog.info? 3).map (·.zero) = some (some (Value.int .i64 0)) := by kernel_rfl
theorem sz4 : (Try.prog.info? 4).map (·.size) = some 1 := by kernel_rfl
theorem in4 : (Try.prog.info? 4).map (fun i => (i.zero, i.size, i.bytes)) = some (some (Value.bool false), 1, 1) := by kernel_rfl
theorem zr4 : (Try.prog.info? 4).map (·.zero) = some (some (Value.bool false)) := by kernel_rfl
theorem sz5 : (Try.prog.info? 5).map (·.size) = some 1 := by kernel_rfl
theorem in5 : (Try.prog.info? 5).map (fun i => (i.zero, i.size, i.bytes)) = some (some (Value.int .u8 0), 1, 1) := by kernel_rfl
theorem zr5 : (Try.prog.info? 5).map (·.zero) = some (some (Value.int .u8 0)) := by kernel_rfl
theorem sz9 : (Try.prog.info? 9).map (·.size) = some 1 := by kernel_rfl
theorem in9 : (Try.prog.info? 9).map (fun i => (i.zero, i.size, i.bytes)) = some (some (Value.string ⟨#[]⟩), 1, 16) := by kernel_rfl
theorem zr9 : (Try.prog.info? 9).map (·.zero) = some (some (Value.string ⟨#[]⟩)) := by kernel_rfl
theorem sz23 : (Try.prog.info? 23).map (·.size) = some 32 := by kernel_rfl
theorem zr23 : (Try.prog.info? 23).map (·.zero) = some (some (.agg (bys (List.replicate 32 0)).toArray)) := by kernel_rfl
theorem in23 : (Try.prog.info? 23).map (fun i => (i.zero, i.size, i.bytes)) = some (some (.agg (bys (List.replicate 32 0)).toArray), 32, 32) := by kernel_rfl
theorem sz24 : (Try.prog.info? 24).map (·.size) = some 12 := by kernel_rfl
theorem zr24 : (Try.prog.info? 24).map (·.zero) = some (some (.agg (bys (List.replicate 12 0)).toArray)) := by kernel_rfl
theorem in24 : (Try.prog.info? 24).map (fun i => (i.zero, i.size, i.bytes)) = some (some (.agg (bys (List.replicate 12 0)).toArray), 12, 12) := by kernel_rfl
theorem sz25 : (Try.prog.info? 25).map (·.size) = some 1 := by kernel_rfl
theorem in25 : (Try.prog.info? 25).map (fun i => (i.zero, i.size, i.bytes)) = some (some (Value.int .u32 0), 1, 4) := by kernel_rfl
theorem zr25 : (Try.prog.info? 25).map (·.zero) = some (some (Value.int .u32 0)) := by kernel_rfl
theorem sz27 : (Try.prog.info? 27).map (·.size) = some 45 := by kernel_rfl
theorem zr27 : (Try.prog.info? 27).map (·.zero) = some (some (.agg (bys (List.replicate 32 0) ++ bys (List.replicate 12 0) ++ [Value.int .u32 0]).toArray)) := by kernel_rfl
theorem in27 : (Try.prog.info? 27).map (fun i => (i.zero, i.size, i.bytes)) = some (some (.agg (bys (List.replicate 32 0) ++ bys (List.replicate 12 0) ++ [Value.int .u32 0]).toArray), 45, 48) := by kernel_rfl
theorem fo27_0 : fieldOff Try.prog 27 0 = some (0, 32) := by kernel_rfl
theorem ft27_0 : fieldTy Try.prog 27 0 = some (23, 0) := by kernel_rfl
theorem fo27_1 : fieldOff Try.prog 27 1 = some (32, 12) := by kernel_rfl
theorem ft27_1 : fieldTy Try.prog 27 1 = some (24, 32) := by kernel_rfl
theorem fo27_2 : fieldOff Try.prog 27 2 = some (44, 1) := by kernel_rfl
theorem ft27_2 : fieldTy Try.prog 27 2 = some (25, 44) := by kernel_rfl
theorem sz29 : (Try.prog.info? 29).map (·.size) = some 64 := by kernel_rfl
theorem zr29 : (Try.prog.info? 29).map (·.zero) = some (some (.agg (bys (List.replicate 64 0)).toArray)) := by kernel_rfl
theorem in29 : (Try.prog.info? 29).map (fun i => (i.zero, i.size, i.bytes)) = some (some (.agg (bys (List.replicate 64 0)).toArray), 64, 64) := by kernel_rfl
theorem sz32 : (Try.prog.info? 32).map (·.size) = some 1 := by kernel_rfl
theorem in32 : (Try.prog.info? 32).map (fun i => (i.zero, i.size, i.bytes)) = some (some (Value.slice none 0 0), 1, 24) := by kernel_rfl
theorem zr32 : (Try.prog.info? 32).map (·.zero) = some (some (Value.slice none 0 0)) := by kernel_rfl
theorem sz38 : (Try.prog.info? 38).map (·.size) = some 16 := by kernel_rfl
theorem zr38 : (Try.prog.info? 38).map (·.zero) = some (some (.agg (u32s (List.replicate 16 0)).toArray)) := by kernel_rfl
theorem in38 : (Try.prog.info? 38).map (fun i => (i.zero, i.size, i.bytes)) = some (some (.agg (u32s (List.replicate 16 0)).toArray), 16, 64) := by kernel_rfl
theorem sz42 : (Try.prog.info? 42).map (·.size) = some 1 := by kernel_rfl
theorem in42 : (Try.prog.info? 42).map (fun i => (i.zero, i.size, i.bytes)) = some (some (Value.int .u64 0), 1, 8) := by kernel_rfl
theorem zr42 : (Try.prog.info? 42).map (·.zero) = some (some (Value.int .u64 0)) := by kernel_rfl
theorem sz43 : (Try.prog.info? 43).map (·.size) = some 1 := by kernel_rfl
theorem in43 : (Try.prog.info? 43).map (fun i => (i.zero, i.size, i.bytes)) = some (some (Value.slice none 0 0), 1, 24) := by kernel_rfl
theorem zr43 : (Try.prog.info? 43).map (·.zero) = some (some (Value.slice none 0 0)) := by kernel_rfl
theorem sz46 : (Try.prog.info? 46).map (·.size) = some 1 := by kernel_rfl
theorem in46 : (Try.prog.info? 46).map (fun i => (i.zero, i.size, i.bytes)) = some (some (Value.int .i64 0), 1, 8) := by kernel_rfl
theorem zr46 : (Try.prog.info? 46).map (·.zero) = some (some (Value.int .i64 0)) := by kernel_rfl
theorem sz50 : (Try.prog.info? 50).map (·.size) = some 1 := by kernel_rfl
theorem in50 : (Try.prog.info? 50).map (fun i => (i.zero, i.size, i.bytes)) = some (some (Value.pointer none), 1, 8) := by kernel_rfl
theorem zr50 : (Try.prog.info? 50).map (·.zero) = some (some (Value.pointer none)) := by kernel_rfl
theorem sz51 : (Try.prog.info? 51).map (·.size) = some 2 := by kernel_rfl
theorem zr51 : (Try.prog.info? 51).map (·.zero) = some (some (.agg (i64s (List.replicate 2 0)).toArray)) := by kernel_rfl
theorem in51 : (Try.prog.info? 51).map (fun i => (i.zero, i.size, i.bytes)) = some (some (.agg (i64s (List.replicate 2 0)).toArray), 2, 16) := by kernel_rfl
theorem sz52 : (Try.prog.info? 52).map (·.size) = some 4 := by kernel_rfl
theorem zr52 : (Try.prog.info? 52).map (·.zero) = some (some (.agg (i64s (List.replicate 4 0)).toArray)) := by kernel_rfl
theorem in52 : (Try.prog.info? 52).map (fun i => (i.zero, i.size, i.bytes)) = some (some (.agg (i64s (List.replicate 4 0)).toArray), 4, 32) := by kernel_rfl
theorem sz54 : (Try.prog.info? 54).map (·.size) = some 1 := by kernel_rfl
theorem in54 : (Try.prog.info? 54).map (fun i => (i.zero, i.size, i.bytes)) = some (some (Value.int .u64 0), 1, 8) := by kernel_rfl
theorem zr54 : (Try.prog.info? 54).map (·.zero) = some (some (Value.int .u64 0)) := by kernel_rfl
end Go.Proofs.Ytjlhehdkopponaa
