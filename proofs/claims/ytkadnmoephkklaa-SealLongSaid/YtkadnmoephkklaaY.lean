/- What is known of the types of this program. No condition. -/
import Derived.Test.YtkadnmoephkklaaProg
import Derived.Test.YtkadnmoephkklaaVQ
import Derived.KernelRfl
namespace Go.Proofs.Ytkadnmoephkklaa
open Go.RowKit Go.PBYtkadnmoephkklaa
set_option maxRecDepth 10000
theorem sz3 : (Try.prog.info? 3).map (·.size) = some 1 := by kernel_rfl
theorem in3 : (Try.prog.info? 3).map (fun i => (i.zero, i.size, i.bytes)) = some (some (Value.int .i64 0), 1, 8) := by kernel_rfl
theorem zr3 : (Try.prog.info? 3).map (·.zero) = some (some (Value.int .i64 0)) := by kernel_rfl
theorem sz4 : (Try.prog.info? 4).map (·.size) = some 1 := by kernel_rfl
theorem in4 : (Try.prog.info? 4).map (fun i => (i.zero, i.size, i.bytes)) = some (some (Value.bool false), 1, 1) := by kernel_rfl
theorem zr4 : (Try.prog.info? 4).map (·.zero) = some (some (Value.bool false)) := by kernel_rfl
theorem sz5 : (Try.prog.info? 5).map (·.size) = some 1 := by kernel_rfl
theorem in5 : (Try.prog.info? 5).map (fun i => (i.zero, i.size, i.bytes)) = some (some (Value.int .u8 0), 1, 1) := by kernel_rfl
theorem zr5 : (Try.prog.info? 5).map (·.zero) = some (some (Value.int .u8 0)) := by kernel_rfl
theorem sz9 : (Try.prog.info? 9).map (·.size) = some 1 := by kernel_rfl
theorem in9 : (Try.prog.info? 9).map (fun i => (i.zero, i.size, i.bytes)) = some (some (Value.string ⟨#[]⟩), 1, 16) := by kernel_rfl
theorem zr9 : (Try.prog.info? 9).map (·.zero) = some (some (Value.string ⟨#[]⟩)) := by kernel_rfl
theorem sz23 : (Try.prog.info? 23).map (·.size) = some 32 := by kernel_rfl
theorem zr23 : (Try.prog.info? 23).map (·.zero) = some (some (.agg (bys (List.replicate 32 0)).toArray)) := by kernel_rfl
theorem in23 : (Try.prog.info? 23).map (fun i => (i.zero, i.size, i.bytes)) = some (some (.agg (bys (List.replicate 32 0)).toArray), 32, 32) := by kernel_rfl
theorem sz24 : (Try.prog.info? 24).map (·.size) = some 1 := by kernel_rfl
theorem in24 : (Try.prog.info? 24).map (fun i => (i.zero, i.size, i.bytes)) = some (some (Value.slice none 0 0), 1, 24) := by kernel_rfl
theorem zr24 : (Try.prog.info? 24).map (·.zero) = some (some (Value.slice none 0 0)) := by kernel_rfl
theorem sz26 : (Try.prog.info? 26).map (·.size) = some 1 := by kernel_rfl
theorem in26 : (Try.prog.info? 26).map (fun i => (i.zero, i.size, i.bytes)) = some (some (Value.int .i64 0), 1, 8) := by kernel_rfl
theorem zr26 : (Try.prog.info? 26).map (·.zero) = some (some (Value.int .i64 0)) := by kernel_rfl
theorem sz31 : (Try.prog.info? 31).map (·.size) = some 1 := by kernel_rfl
theorem in31 : (Try.prog.info? 31).map (fun i => (i.zero, i.size, i.bytes)) = some (some (Value.slice none 0 0), 1, 24) := by kernel_rfl
theorem zr31 : (Try.prog.info? 31).map (·.zero) = some (some (Value.slice none 0 0)) := by kernel_rfl
theorem sz32 : (Try.prog.info? 32).map (·.size) = some 1 := by kernel_rfl
theorem in32 : (Try.prog.info? 32).map (fun i => (i.zero, i.size, i.bytes)) = some (some (Value.slice none 0 0), 1, 24) := by kernel_rfl
theorem zr32 : (Try.prog.info? 32).map (·.zero) = some (some (Value.slice none 0 0)) := by kernel_rfl
theorem sz36 : (Try.prog.info? 36).map (·.size) = some 2 := by kernel_rfl
theorem zr36 : (Try.prog.info? 36).map (·.zero) = some (some (.agg (i64s (List.replicate 2 0)).toArray)) := by kernel_rfl
theorem in36 : (Try.prog.info? 36).map (fun i => (i.zero, i.size, i.bytes)) = some (some (.agg (i64s (List.replicate 2 0)).toArray), 2, 16) := by kernel_rfl
theorem sz56 : (Try.prog.info? 56).map (·.size) = some 1 := by kernel_rfl
theorem in56 : (Try.prog.info? 56).map (fun i => (i.zero, i.size, i.bytes)) = some (some (Value.int .u32 0), 1, 4) := by kernel_rfl
theorem zr56 : (Try.prog.info? 56).map (·.zero) = some (some (Value.int .u32 0)) := by kernel_rfl
theorem sz58 : (Try.prog.info? 58).map (·.size) = some 8 := by kernel_rfl
theorem zr58 : (Try.prog.info? 58).map (·.zero) = some (some (.agg (u32s (List.replicate 8 0)).toArray)) := by kernel_rfl
theorem in58 : (Try.prog.info? 58).map (fun i => (i.zero, i.size, i.bytes)) = some (some (.agg (u32s (List.replicate 8 0)).toArray), 8, 32) := by kernel_rfl
theorem sz60 : (Try.prog.info? 60).map (·.size) = some 1 := by kernel_rfl
theorem in60 : (Try.prog.info? 60).map (fun i => (i.zero, i.size, i.bytes)) = some (some (Value.int .u64 0), 1, 8) := by kernel_rfl
theorem zr60 : (Try.prog.info? 60).map (·.zero) = some (some (Value.int .u64 0)) := by kernel_rfl
theorem sz61 : (Try.prog.info? 61).map (·.size) = some 1 := by kernel_rfl
theorem in61 : (Try.prog.info? 61).map (fun i => (i.zero, i.size, i.bytes)) = some (some (Value.int .u64 0), 1, 8) := by kernel_rfl
theorem zr61 : (Try.prog.info? 61).map (·.zero) = some (some (Value.int .u64 0)) := by kernel_rfl
theorem sz63 : (Try.prog.info? 63).map (·.size) = some 1 := by kernel_rfl
theorem in63 : (Try.prog.info? 63).map (fun i => (i.zero, i.size, i.bytes)) = some (some (Value.pointer none), 1, 8) := by kernel_rfl
theorem zr63 : (Try.prog.info? 63).map (·.zero) = some (some (Value.pointer none)) := by kernel_rfl
theorem sz64 : (Try.prog.info? 64).map (·.size) = some 64 := by kernel_rfl
theorem zr64 : (Try.prog.info? 64).map (·.zero) = some (some (.agg (bys (List.replicate 64 0)).toArray)) := by kernel_rfl
theorem in64 : (Try.prog.info? 64).map (fun i => (i.zero, i.size, i.bytes)) = some (some (.agg (bys (List.replicate 64 0)).toArray), 64, 64) := by kernel_rfl
theorem sz67 : (Try.prog.info? 67).map (·.size) = some 64 := by kernel_rfl
theorem zr67 : (Try.prog.info? 67).map (·.zero) = some (some (.agg (bys (List.replicate 32 0) ++ bys (List.replicate 32 0)).toArray)) := by kernel_rfl
theorem in67 : (Try.prog.info? 67).map (fun i => (i.zero, i.size, i.bytes)) = some (some (.agg (bys (List.replicate 32 0) ++ bys (List.replicate 32 0)).toArray), 64, 64) := by kernel_rfl
theorem fo67_0 : fieldOff Try.prog 67 0 = some (0, 32) := by kernel_rfl
theorem ft67_0 : fieldTy Try.prog 67 0 = some (23, 0) := by kernel_rfl
theorem fo67_1 : fieldOff Try.prog 67 1 = some (32, 32) := by kernel_rfl
theorem ft67_1 : fieldTy Try.prog 67 1 = some (23, 32) := by kernel_rfl
theorem sz69 : (Try.prog.info? 69).map (·.size) = some 96 := by kernel_rfl
theorem zr69 : (Try.prog.info? 69).map (·.zero) = some (some (.agg (bys (List.replicate 32 0) ++ bys (List.replicate 32 0) ++ bys (List.replicate 32 0)).toArray)) := by kernel_rfl
theorem in69 : (Try.prog.info? 69).map (fun i => (i.zero, i.size, i.bytes)) = some (some (.agg (bys (List.replicate 32 0) ++ bys (List.replicate 32 0) ++ bys (List.replicate 32 0)).toArray), 96, 96) := by kernel_rfl
theorem fo69_0 : fieldOff Try.prog 69 0 = some (0, 64) := by kernel_rfl
theorem ft69_0 : fieldTy Try.prog 69 0 = some (67, 0) := by kernel_rfl
theorem fo69_1 : fieldOff Try.prog 69 1 = some (64, 32) := by kernel_rfl
theorem ft69_1 : fieldTy Try.prog 69 1 = some (23, 64) := by kernel_rfl
theorem sz74 : (Try.prog.info? 74).map (·.size) = some 33 := by kernel_rfl
theorem zr74 : (Try.prog.info? 74).map (·.zero) = some (some (.agg (bys (List.replicate 32 0) ++ [Value.int .i64 0]).toArray)) := by kernel_rfl
theorem in74 : (Try.prog.info? 74).map (fun i => (i.zero, i.size, i.bytes)) = some (some (.agg (bys (List.replicate 32 0) ++ [Value.int .i64 0]).toArray), 33, 40) := by kernel_rfl
theorem fo74_0 : fieldOff Try.prog 74 0 = some (0, 32) := by kernel_rfl
theorem ft74_0 : fieldTy Try.prog 74 0 = some (23, 0) := by kernel_rfl
theorem fo74_1 : fieldOff Try.prog 74 1 = some (32, 1) := by kernel_rfl
theorem ft74_1 : fieldTy Try.prog 74 1 = some (3, 32) := by kernel_rfl
theorem sz80 : (Try.prog.info? 80).map (·.size) = some 1 := by kernel_rfl
theorem in80 : (Try.prog.info? 80).map (fun i => (i.zero, i.size, i.bytes)) = some (some (Value.pointer none), 1, 8) := by kernel_rfl
theorem zr80 : (Try.prog.info? 80).map (·.zero) = some (some (Value.pointer none)) := by kernel_rfl
theorem sz81 : (Try.prog.info? 81).map (·.size) = some 16 := by kernel_rfl
theorem zr81 : (Try.prog.info? 81).map (·.zero) = some (some (.agg (u32s (List.replicate 16 0)).toArray)) := by kernel_rfl
theorem in81 : (Try.prog.info? 81).map (fun i => (i.zero, i.size, i.bytes)) = some (some (.agg (u32s (List.replicate 16 0)).toArray), 16, 64) := by kernel_rfl
theorem sz82 : (Try.prog.info? 82).map (·.size) = some 1 := by kernel_rfl
theorem in82 : (Try.prog.info? 82).map (fun i => (i.zero, i.size, i.bytes)) = some (some (Value.slice none 0 0), 1, 24) := by kernel_rfl
theorem zr82 : (Try.prog.info? 82).map (·.zero) = some (some (Value.slice none 0 0)) := by kernel_rfl
theorem sz84 : (Try.prog.info? 84).map (·.size) = some 1 := by kernel_rfl
theorem in84 : (Try.prog.info? 84).map (fun i => (i.zero, i.size, i.bytes)) = some (some (Value.pointer none), 1, 8) := by kernel_rfl
theorem zr84 : (Try.prog.info? 84).map (·.zero) = some (some (Value.pointer none)) := by kernel_rfl
theorem sz86 : (Try.prog.info? 86).map (·.size) = some 16 := by kernel_rfl
theorem zr86 : (Try.prog.info? 86).map (·.zero) = some (some (.agg (bys (List.replicate 16 0)).toArray)) := by kernel_rfl
theorem in86 : (Try.prog.info? 86).map (fun i => (i.zero, i.size, i.bytes)) = some (some (.agg (bys (List.replicate 16 0)).toArray), 16, 16) := by kernel_rfl
theorem sz88 : (Try.prog.info? 88).map (·.size) = some 1 := by kernel_rfl
theorem in88 : (Try.prog.info? 88).map (fun i => (i.zero, i.size, i.bytes)) = some (some (Value.pointer none), 1, 8) := by kernel_rfl
theorem zr88 : (Try.prog.info? 88).map (·.zero) = some (some (Value.pointer none)) := by kernel_rfl
theorem sz90 : (Try.prog.info? 90).map (·.size) = some 12 := by kernel_rfl
theorem zr90 : (Try.prog.info? 90).map (·.zero) = some (some (.agg (bys (List.replicate 12 0)).toArray)) := by kernel_rfl
theorem in90 : (Try.prog.info? 90).map (fun i => (i.zero, i.size, i.bytes)) = some (some (.agg (bys (List.replicate 12 0)).toArray), 12, 12) := by kernel_rfl
theorem sz93 : (Try.prog.info? 93).map (·.size) = some 1 := by kernel_rfl
theorem in93 : (Try.prog.info? 93).map (fun i => (i.zero, i.size, i.bytes)) = some (some (Value.slice none 0 0), 1, 24) := by kernel_rfl
theorem zr93 : (Try.prog.info? 93).map (·.zero) = some (some (Value.slice none 0 0)) := by kernel_rfl
theorem sz96 : (Try.prog.info? 96).map (·.size) = some 160 := by kernel_rfl
theorem zr96 : (Try.prog.info? 96).map (·.zero) = some (some (.agg (bys (List.replicate 160 0)).toArray)) := by kernel_rfl
theorem in96 : (Try.prog.info? 96).map (fun i => (i.zero, i.size, i.bytes)) = some (some (.agg (bys (List.replicate 160 0)).toArray), 160, 160) := by kernel_rfl
theorem sz101 : (Try.prog.info? 101).map (·.size) = some 1 := by kernel_rfl
theorem in101 : (Try.prog.info? 101).map (fun i => (i.zero, i.size, i.bytes)) = some (some (Value.slice none 0 0), 1, 24) := by kernel_rfl
theorem zr101 : (Try.prog.info? 101).map (·.zero) = some (some (Value.slice none 0 0)) := by kernel_rfl
theorem sz103 : (Try.prog.info? 103).map (·.size) = some 1 := by kernel_rfl
theorem in103 : (Try.prog.info? 103).map (fun i => (i.zero, i.size, i.bytes)) = some (some (Value.slice none 0 0), 1, 24) := by kernel_rfl
theorem zr103 : (Try.prog.info? 103).map (·.zero) = some (some (Value.slice none 0 0)) := by kernel_rfl
theorem sz105 : (Try.prog.info? 105).map (·.size) = some 16 := by kernel_rfl
theorem zr105 : (Try.prog.info? 105).map (·.zero) = some (some (.agg (u32s (List.replicate 16 0)).toArray)) := by kernel_rfl
theorem in105 : (Try.prog.info? 105).map (fun i => (i.zero, i.size, i.bytes)) = some (some (.agg (u32s (List.replicate 16 0)).toArray), 16, 64) := by kernel_rfl
theorem sz110 : (Try.prog.info? 110).map (·.size) = some 1 := by kernel_rfl
theorem in110 : (Try.prog.info? 110).map (fun i => (i.zero, i.size, i.bytes)) = some (some (Value.pointer none), 1, 8) := by kernel_rfl
theorem zr110 : (Try.prog.info? 110).map (·.zero) = some (some (Value.pointer none)) := by kernel_rfl
theorem sz111 : (Try.prog.info? 111).map (·.size) = some 4 := by kernel_rfl
theorem zr111 : (Try.prog.info? 111).map (·.zero) = some (some (.agg (i64s (List.replicate 4 0)).toArray)) := by kernel_rfl
theorem in111 : (Try.prog.info? 111).map (fun i => (i.zero, i.size, i.bytes)) = some (some (.agg (i64s (List.replicate 4 0)).toArray), 4, 32) := by kernel_rfl
end Go.Proofs.Ytkadnmoephkklaa
