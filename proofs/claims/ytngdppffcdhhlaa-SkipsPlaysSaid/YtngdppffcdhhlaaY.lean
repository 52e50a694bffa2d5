/- What is known of the types of this program. No condition. -/
import Derived.Test.YtngdppffcdhhlaaProg
import Derived.Test.YtngdppffcdhhlaaVQ
import Derived.KernelRfl
namespace Go.Proofs.Ytngdppffcdhhlaa
open Go.RowKit Go.PBYtngdppffcdhhlaa
set_option maxRecDepth 10000
theorem sz3 : (Try.prog.info? 3).map (·.size) = some 1 := by kernel_rfl
theorem in3 : (Try.prog.info? 3).map (fun i => (i.zero, i.size, i.bytes)) = some (some (Value.int .i64 0), 1, 8) := by kernel_rfl
theorem zr3 : (Try.prog.info? 3).map (·.zero) = some (some (Value.int .i64 0)) := by kernel_rfl
theorem sz4 : (Try.prog.info? 4).map (·.size) = some 1 := by kernel_rfl
theorem in4 : (Try.prog.info? 4).map (fun i => (i.zero, i.size, i.bytes)) = some (some (Value.bool false), 1, 1) := by kernel_rfl
theorem zr4 : (Try.prog.info? 4).map (·.zero) = some (some (Value.bool false)) := by kernel_rfl
theorem sz5 : (Try.prog.info? 5).map (·.size) = some 1 := by kernel_rfl
theorem in5 : (Try.prog.info? 5).map (fun i => (i.zero, i.size, i.bytes)) = some (some (Value.int .u8 0), 1, 1) := by kernel_rfl
theorem zr5 : (Try.prog.info? 5).map (·.zero) = some (some (Value.int .u8 0)) := by kernel_rfl
theorem sz9 : (Try.prog.info? 9).map (·.size) = some 1 := by kernel_rfl
theorem in9 : (Try.prog.info? 9).map (fun i => (i.zero, i.size, i.bytes)) = some (some (Value.string ⟨#[]⟩), 1, 16) := by kernel_rfl
theorem zr9 : (Try.prog.info? 9).map (·.zero) = some (some (Value.string ⟨#[]⟩)) := by kernel_rfl
theorem sz23 : (Try.prog.info? 23).map (·.size) = some 32 := by kernel_rfl
theorem zr23 : (Try.prog.info? 23).map (·.zero) = some (some (.agg (bys (List.replicate 32 0)).toArray)) := by kernel_rfl
theorem in23 : (Try.prog.info? 23).map (fun i => (i.zero, i.size, i.bytes)) = some (some (.agg (bys (List.replicate 32 0)).toArray), 32, 32) := by kernel_rfl
theorem sz24 : (Try.prog.info? 24).map (·.size) = some 2 := by kernel_rfl
theorem zr24 : (Try.prog.info? 24).map (·.zero) = some (some (.agg (i64s (List.replicate 2 0)).toArray)) := by kernel_rfl
theorem in24 : (Try.prog.info? 24).map (fun i => (i.zero, i.size, i.bytes)) = some (some (.agg (i64s (List.replicate 2 0)).toArray), 2, 16) := by kernel_rfl
theorem sz26 : (Try.prog.info? 26).map (·.size) = some 1 := by kernel_rfl
theorem in26 : (Try.prog.info? 26).map (fun i => (i.zero, i.size, i.bytes)) = some (some (Value.pointer none), 1, 8) := by kernel_rfl
theorem zr26 : (Try.prog.info? 26).map (·.zero) = some (some (Value.pointer none)) := by kernel_rfl
theorem sz28 : (Try.prog.info? 28).map (·.size) = some 1 := by kernel_rfl
theorem in28 : (Try.prog.info? 28).map (fun i => (i.zero, i.size, i.bytes)) = some (some (Value.int .i64 0), 1, 8) := by kernel_rfl
theorem zr28 : (Try.prog.info? 28).map (·.zero) = some (some (Value.int .i64 0)) := by kernel_rfl
theorem sz35 : (Try.prog.info? 35).map (·.size) = some 96 := by kernel_rfl
theorem zr35 : (Try.prog.info? 35).map (·.zero) = some (some (.agg (bys (List.replicate 96 0)).toArray)) := by kernel_rfl
theorem in35 : (Try.prog.info? 35).map (fun i => (i.zero, i.size, i.bytes)) = some (some (.agg (bys (List.replicate 96 0)).toArray), 96, 96) := by kernel_rfl
theorem sz37 : (Try.prog.info? 37).map (·.size) = some 1 := by kernel_rfl
theorem in37 : (Try.prog.info? 37).map (fun i => (i.zero, i.size, i.bytes)) = some (some (Value.slice none 0 0), 1, 24) := by kernel_rfl
theorem zr37 : (Try.prog.info? 37).map (·.zero) = some (some (Value.slice none 0 0)) := by kernel_rfl
theorem sz38 : (Try.prog.info? 38).map (·.size) = some 1 := by kernel_rfl
theorem in38 : (Try.prog.info? 38).map (fun i => (i.zero, i.size, i.bytes)) = some (some (Value.pointer none), 1, 8) := by kernel_rfl
theorem zr38 : (Try.prog.info? 38).map (·.zero) = some (some (Value.pointer none)) := by kernel_rfl
theorem sz39 : (Try.prog.info? 39).map (·.size) = some 1 := by kernel_rfl
theorem in39 : (Try.prog.info? 39).map (fun i => (i.zero, i.size, i.bytes)) = some (some (Value.slice none 0 0), 1, 24) := by kernel_rfl
theorem zr39 : (Try.prog.info? 39).map (·.zero) = some (some (Value.slice none 0 0)) := by kernel_rfl
theorem sz41 : (Try.prog.info? 41).map (·.size) = some 1 := by kernel_rfl
theorem zr41 : (Try.prog.info? 41).map (·.zero) = some (some (.agg ([Value.slice none 0 0]).toArray)) := by kernel_rfl
theorem in41 : (Try.prog.info? 41).map (fun i => (i.zero, i.size, i.bytes)) = some (some (.agg ([Value.slice none 0 0]).toArray), 1, 24) := by kernel_rfl
theorem fo41_0 : fieldOff Try.prog 41 0 = some (0, 1) := by kernel_rfl
theorem ft41_0 : fieldTy Try.prog 41 0 = some (39, 0) := by kernel_rfl
theorem sz43 : (Try.prog.info? 43).map (·.size) = some 66 := by kernel_rfl
theorem zr43 : (Try.prog.info? 43).map (·.zero) = some (some (.agg ([Value.int .i64 0] ++ bys (List.replicate 32 0) ++ [Value.int .i64 0] ++ bys (List.replicate 32 0)).toArray)) := by kernel_rfl
theorem in43 : (Try.prog.info? 43).map (fun i => (i.zero, i.size, i.bytes)) = some (some (.agg ([Value.int .i64 0] ++ bys (List.replicate 32 0) ++ [Value.int .i64 0] ++ bys (List.replicate 32 0)).toArray), 66, 80) := by kernel_rfl
theorem fo43_0 : fieldOff Try.prog 43 0 = some (0, 1) := by kernel_rfl
theorem ft43_0 : fieldTy Try.prog 43 0 = some (3, 0) := by kernel_rfl
theorem fo43_1 : fieldOff Try.prog 43 1 = some (1, 32) := by kernel_rfl
theorem ft43_1 : fieldTy Try.prog 43 1 = some (23, 1) := by kernel_rfl
theorem fo43_2 : fieldOff Try.prog 43 2 = some (33, 1) := by kernel_rfl
theorem ft43_2 : fieldTy Try.prog 43 2 = some (3, 33) := by kernel_rfl
theorem fo43_3 : fieldOff Try.prog 43 3 = some (34, 32) := by kernel_rfl
theorem ft43_3 : fieldTy Try.prog 43 3 = some (23, 34) := by kernel_rfl
theorem sz46 : (Try.prog.info? 46).map (·.size) = some 1 := by kernel_rfl
theorem in46 : (Try.prog.info? 46).map (fun i => (i.zero, i.size, i.bytes)) = some (some (Value.map none), 1, 8) := by kernel_rfl
theorem zr46 : (Try.prog.info? 46).map (·.zero) = some (some (Value.map none)) := by kernel_rfl
theorem sz47 : (Try.prog.info? 47).map (·.size) = some 1 := by kernel_rfl
theorem in47 : (Try.prog.info? 47).map (fun i => (i.zero, i.size, i.bytes)) = some (some (Value.slice none 0 0), 1, 24) := by kernel_rfl
theorem zr47 : (Try.prog.info? 47).map (·.zero) = some (some (Value.slice none 0 0)) := by kernel_rfl
theorem sz49 : (Try.prog.info? 49).map (·.size) = some 2 := by kernel_rfl
theorem zr49 : (Try.prog.info? 49).map (·.zero) = some (some (.agg ([Value.map none] ++ [Value.slice none 0 0]).toArray)) := by kernel_rfl
theorem in49 : (Try.prog.info? 49).map (fun i => (i.zero, i.size, i.bytes)) = some (some (.agg ([Value.map none] ++ [Value.slice none 0 0]).toArray), 2, 32) := by kernel_rfl
theorem fo49_0 : fieldOff Try.prog 49 0 = some (0, 1) := by kernel_rfl
theorem ft49_0 : fieldTy Try.prog 49 0 = some (46, 0) := by kernel_rfl
theorem fo49_1 : fieldOff Try.prog 49 1 = some (1, 1) := by kernel_rfl
theorem ft49_1 : fieldTy Try.prog 49 1 = some (47, 1) := by kernel_rfl
theorem sz51 : (Try.prog.info? 51).map (·.size) = some 33 := by kernel_rfl
theorem zr51 : (Try.prog.info? 51).map (·.zero) = some (some (.agg (bys (List.replicate 32 0) ++ [Value.int .i64 0]).toArray)) := by kernel_rfl
theorem in51 : (Try.prog.info? 51).map (fun i => (i.zero, i.size, i.bytes)) = some (some (.agg (bys (List.replicate 32 0) ++ [Value.int .i64 0]).toArray), 33, 40) := by kernel_rfl
theorem fo51_0 : fieldOff Try.prog 51 0 = some (0, 32) := by kernel_rfl
theorem ft51_0 : fieldTy Try.prog 51 0 = some (23, 0) := by kernel_rfl
theorem fo51_1 : fieldOff Try.prog 51 1 = some (32, 1) := by kernel_rfl
theorem ft51_1 : fieldTy Try.prog 51 1 = some (3, 32) := by kernel_rfl
theorem sz55 : (Try.prog.info? 55).map (·.size) = some 65 := by kernel_rfl
theorem zr55 : (Try.prog.info? 55).map (·.zero) = some (some (.agg (bys (List.replicate 32 0) ++ [Value.int .i64 0] ++ bys (List.replicate 32 0)).toArray)) := by kernel_rfl
theorem in55 : (Try.prog.info? 55).map (fun i => (i.zero, i.size, i.bytes)) = some (some (.agg (bys (List.replicate 32 0) ++ [Value.int .i64 0] ++ bys (List.replicate 32 0)).toArray), 65, 72) := by kernel_rfl
theorem fo55_0 : fieldOff Try.prog 55 0 = some (0, 32) := by kernel_rfl
theorem ft55_0 : fieldTy Try.prog 55 0 = some (23, 0) := by kernel_rfl
theorem fo55_1 : fieldOff Try.prog 55 1 = some (32, 1) := by kernel_rfl
theorem ft55_1 : fieldTy Try.prog 55 1 = some (3, 32) := by kernel_rfl
theorem fo55_2 : fieldOff Try.prog 55 2 = some (33, 32) := by kernel_rfl
theorem ft55_2 : fieldTy Try.prog 55 2 = some (23, 33) := by kernel_rfl
end Go.Proofs.Ytngdppffcdhhlaa
