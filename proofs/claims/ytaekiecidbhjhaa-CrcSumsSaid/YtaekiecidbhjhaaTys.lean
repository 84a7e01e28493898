/- Struct types: their cells at first, their fields' places. Printed by wip/specs/tys.py. -/
import Derived.Test.YtaekiecidbhjhaaMem
import Derived.Test.YtaekiecidbhjhaaTy
namespace Go.Proofs.Ytaekiecidbhjhaa
open Go.RowKit

theorem st_pool_Pool : StTy Try.prog 116 [VNil, Value.int .i64 0] [(0, 1), (1, 1)] := StTy.of (by kernel_rfl) (by kernel_rfl) (by kernel_rfl)
theorem st_queue_Queue : StTy Try.prog 112 [VNil, Value.int .i64 0] [(0, 1), (1, 1)] := StTy.of (by kernel_rfl) (by kernel_rfl) (by kernel_rfl)
theorem st_api_Packet : StTy Try.prog 43 [Value.int .i64 0, Value.int .i64 0, Value.int .i64 0, Value.int .i64 0, Value.int .i64 0, Value.int .i64 0, Value.int .i64 0, VB false, VNil] [(0, 1), (1, 1), (2, 1), (3, 1), (4, 1), (5, 1), (6, 1), (7, 1), (8, 1)] := StTy.of (by kernel_rfl) (by kernel_rfl) (by kernel_rfl)
theorem st_memdir_Row : StTy Try.prog 32 [Value.int .i64 0, Value.int .i64 0, VNil] [(0, 1), (1, 1), (2, 1)] := StTy.of (by kernel_rfl) (by kernel_rfl) (by kernel_rfl)
theorem st_memdir_Dir : StTy Try.prog 110 [Value.int .i64 0, Value.int .i64 0, Value.int .i64 0, Value.int .i64 0, Value.int .i64 0, Value.int .i64 0, Value.int .i64 0, VNil, Value.map none] [(0, 8), (8, 1)] := StTy.of (by kernel_rfl) (by kernel_rfl) (by kernel_rfl)
theorem st_api_Config : StTy Try.prog 26 [Value.int .i64 0, Value.int .i64 0, Value.int .i64 0, Value.int .i64 0, Value.int .i64 0, Value.int .i64 0, Value.int .i64 0, VNil] [(0, 1), (1, 1), (2, 1), (3, 1), (4, 1), (5, 1), (6, 1), (7, 1)] := StTy.of (by kernel_rfl) (by kernel_rfl) (by kernel_rfl)
theorem st_chapletplay_Setup : StTy Try.prog 24 [Value.int .i64 0, Value.int .i64 0, Value.int .i64 0, Value.int .i64 0, Value.int .i64 0, Value.int .i64 0, Value.int .i64 0, VNil, VNil, VNil, VNil, VNil] [(0, 1), (1, 1), (2, 1), (3, 1), (4, 1), (5, 1), (6, 1), (7, 1), (8, 1), (9, 1), (10, 1), (11, 1)] := StTy.of (by kernel_rfl) (by kernel_rfl) (by kernel_rfl)
theorem st_api_Op : StTy Try.prog 119 [Value.int .i64 0, Value.int .i64 0, Value.int .i64 0] [(0, 1), (1, 1), (2, 1)] := StTy.of (by kernel_rfl) (by kernel_rfl) (by kernel_rfl)
theorem st_chapletref07_Homes : StTy Try.prog 86 [Value.int .i64 0, Value.int .i64 0, Value.int .i64 0, Value.int .i64 0, Value.int .i64 0, Value.int .i64 0, Value.int .i64 0, VNil, Value.int .i64 0, VNil, VNil, VNil] [(0, 8), (8, 1), (9, 1), (10, 2)] := StTy.of (by kernel_rfl) (by kernel_rfl) (by kernel_rfl)
theorem st_chapletref07_Turns : StTy Try.prog 84 [VNil, VNil] [(0, 1), (1, 1)] := StTy.of (by kernel_rfl) (by kernel_rfl) (by kernel_rfl)
end Go.Proofs.Ytaekiecidbhjhaa
