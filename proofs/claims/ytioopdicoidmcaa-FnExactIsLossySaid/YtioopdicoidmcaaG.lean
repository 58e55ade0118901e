/- The functions: what each is held to. -/
import Derived.Test.YtioopdicoidmcaaProg
import Derived.Test.YtioopdicoidmcaaOD
import Derived.KernelRfl
import Derived.Test.YtioopdicoidmcaaQ0
set_option maxRecDepth 100000
namespace Go.Opt
open Go.Proofs
def ns : List (Nat × Nat) := [(4, 1), (11, 8), (12, 9), (13, 10), (14, 11), (15, 12), (32, 29), (34, 31), (37, 34), (48, 45), (49, 46), (50, 47), (66, 63), (67, 64), (71, 68), (72, 69), (75, 72), (76, 73), (88, 85), (89, 86), (90, 87)]
def ts : List (Nat × Fn') := [(1, q1), (8, q8), (9, q9), (10, q10), (11, q11), (12, q12), (29, q29), (31, q31), (34, q34), (45, q45), (46, q46), (47, q47), (63, q63), (64, q64), (68, q68), (69, q69), (72, q72), (73, q73), (85, q85), (86, q86), (87, q87)]
def gs : List (Nat × Sg) := [
  (1, ⟨[.v [.sc, .sc, .sc, .sc, .sh, .sh, .sc, .sc, .sc, .sh, .sh]], [.v false [.sc]], [true]⟩),
  (8, ⟨[.v [.sc, .sc, .sc, .sc, .sh, .sh, .sc, .sc, .sc, .sh, .sh], .v [.sc]], [.v false [.sc]], [true, false]⟩),
  (9, ⟨[.v [.sc, .sc, .sc, .sc, .sh, .sh, .sc, .sc, .sc, .sh, .sh]], [.v false [.sc]], [true]⟩),
  (10, ⟨[.v [.sc, .sc, .sc, .sc, .sh, .sh, .sc, .sc, .sc, .sh, .sh]], [.v true [.sc, .sc, .sc, .sc, .ow, .ow, .sc, .sc, .sc, .ow, .ow]], [true]⟩),
  (11, ⟨[.v [.sc, .sc, .sc, .sc, .sh, .sh, .sc, .sc, .sc, .sh, .sh]], [.v false [.sc]], [true]⟩),
  (12, ⟨[.v [.sc, .sc, .sc, .sc, .sh, .sh, .sc, .sc, .sc, .sh, .sh], .v [.sc, .sc, .sc, .sc, .sh, .sh, .sc, .sc, .sc, .sh, .sh]], [.v false [.sc]], [true, true]⟩),
  (29, ⟨[.v [.sc, .sh, .sh], .v [.sc]], [.v false [.sc]], [true, false]⟩),
  (31, ⟨[.v [.sc, .sh, .sh]], [.v true [.sc, .ow, .ow]], [true]⟩),
  (34, ⟨[.v [.sc, .sh, .sh], .v [.sc, .sh, .sh]], [.v false [.sc]], [true, true]⟩),
  (45, ⟨[.v [.sc, .sc, .sc, .sh, .sh], .v [.sc]], [.v false [.sc]], [true, false]⟩),
  (46, ⟨[.v [.sc, .sc, .sc, .sh, .sh]], [.v true [.sc, .sc, .sc, .ow, .ow]], [true]⟩),
  (47, ⟨[.v [.sc, .sc, .sc, .sh, .sh], .v [.sc, .sc, .sc, .sh, .sh]], [.v false [.sc]], [true, true]⟩),
  (63, ⟨[.v [.sh], .v [.sc]], [.v false [.sc]], [false, false]⟩),
  (64, ⟨[.v [.sh], .v [.sc]], [.v false [.sc]], [false, false]⟩),
  (68, ⟨[.v [.sh]], [.v false [.ow]], [false]⟩),
  (69, ⟨[.v [.sh]], [.v false [.ow]], [false]⟩),
  (72, ⟨[.v [.sh], .v [.sh]], [.v false [.sc]], [false, false]⟩),
  (73, ⟨[.v [.sh], .v [.sh]], [.v false [.sc]], [false, false]⟩),
  (85, ⟨[.v [.sh], .v [.sc]], [.v false [.sc]], [false, false]⟩),
  (86, ⟨[.v [.sh]], [.v false [.ow]], [false]⟩),
  (87, ⟨[.v [.sh], .v [.sh]], [.v false [.sc]], [false, false]⟩)]
theorem o1 : One Try.prog ns ts gs (4, 1) := ⟨Try.f4, q1, ⟨[.v [.sc, .sc, .sc, .sc, .sh, .sh, .sc, .sc, .sc, .sh, .sh]], [.v false [.sc]], [true]⟩, Try.func4, by kernel_rfl, by kernel_rfl, by kernel_rfl, by kernel_rfl⟩ -- laws_FnExactIsLossy
theorem o8 : One Try.prog ns ts gs (11, 8) := ⟨Try.f11, q8, ⟨[.v [.sc, .sc, .sc, .sc, .sh, .sh, .sc, .sc, .sc, .sh, .sh], .v [.sc]], [.v false [.sc]], [true, false]⟩, Try.func11, by kernel_rfl, by kernel_rfl, by kernel_rfl, by kernel_rfl⟩ -- laws_szMigration
theorem o9 : One Try.prog ns ts gs (12, 9) := ⟨Try.f12, q9, ⟨[.v [.sc, .sc, .sc, .sc, .sh, .sh, .sc, .sc, .sc, .sh, .sh]], [.v false [.sc]], [true]⟩, Try.func12, by kernel_rfl, by kernel_rfl, by kernel_rfl, by kernel_rfl⟩ -- spec_IsLossy
theorem o10 : One Try.prog ns ts gs (13, 10) := ⟨Try.f13, q10, ⟨[.v [.sc, .sc, .sc, .sc, .sh, .sh, .sc, .sc, .sc, .sh, .sh]], [.v true [.sc, .sc, .sc, .sc, .ow, .ow, .sc, .sc, .sc, .ow, .ow]], [true]⟩, Try.func13, by kernel_rfl, by kernel_rfl, by kernel_rfl, by kernel_rfl⟩ -- laws_toMigration
theorem o11 : One Try.prog ns ts gs (14, 11) := ⟨Try.f14, q11, ⟨[.v [.sc, .sc, .sc, .sc, .sh, .sh, .sc, .sc, .sc, .sh, .sh]], [.v false [.sc]], [true]⟩, Try.func14, by kernel_rfl, by kernel_rfl, by kernel_rfl, by kernel_rfl⟩ -- impl_IsLossy
theorem o12 : One Try.prog ns ts gs (15, 12) := ⟨Try.f15, q12, ⟨[.v [.sc, .sc, .sc, .sc, .sh, .sh, .sc, .sc, .sc, .sh, .sh], .v [.sc, .sc, .sc, .sc, .sh, .sh, .sc, .sc, .sc, .sh, .sh]], [.v false [.sc]], [true, true]⟩, Try.func15, by kernel_rfl, by kernel_rfl, by kernel_rfl, by kernel_rfl⟩ -- laws_eqMigration
theorem o29 : One Try.prog ns ts gs (32, 29) := ⟨Try.f32, q29, ⟨[.v [.sc, .sh, .sh], .v [.sc]], [.v false [.sc]], [true, false]⟩, Try.func32, by kernel_rfl, by kernel_rfl, by kernel_rfl, by kernel_rfl⟩ -- laws_szType
theorem o31 : One Try.prog ns ts gs (34, 31) := ⟨Try.f34, q31, ⟨[.v [.sc, .sh, .sh]], [.v true [.sc, .ow, .ow]], [true]⟩, Try.func34, by kernel_rfl, by kernel_rfl, by kernel_rfl, by kernel_rfl⟩ -- laws_toType
theorem o34 : One Try.prog ns ts gs (37, 34) := ⟨Try.f37, q34, ⟨[.v [.sc, .sh, .sh], .v [.sc, .sh, .sh]], [.v false [.sc]], [true, true]⟩, Try.func37, by kernel_rfl, by kernel_rfl, by kernel_rfl, by kernel_rfl⟩ -- laws_eqType
theorem o45 : One Try.prog ns ts gs (48, 45) := ⟨Try.f48, q45, ⟨[.v [.sc, .sc, .sc, .sh, .sh], .v [.sc]], [.v false [.sc]], [true, false]⟩, Try.func48, by kernel_rfl, by kernel_rfl, by kernel_rfl, by kernel_rfl⟩ -- laws_szValue
theorem o46 : One Try.prog ns ts gs (49, 46) := ⟨Try.f49, q46, ⟨[.v [.sc, .sc, .sc, .sh, .sh]], [.v true [.sc, .sc, .sc, .ow, .ow]], [true]⟩, Try.func49, by kernel_rfl, by kernel_rfl, by kernel_rfl, by kernel_rfl⟩ -- laws_toValue
theorem o47 : One Try.prog ns ts gs (50, 47) := ⟨Try.f50, q47, ⟨[.v [.sc, .sc, .sc, .sh, .sh], .v [.sc, .sc, .sc, .sh, .sh]], [.v false [.sc]], [true, true]⟩, Try.func50, by kernel_rfl, by kernel_rfl, by kernel_rfl, by kernel_rfl⟩ -- laws_eqValue
theorem o63 : One Try.prog ns ts gs (66, 63) := ⟨Try.f66, q63, ⟨[.v [.sh], .v [.sc]], [.v false [.sc]], [false, false]⟩, Try.func66, by kernel_rfl, by kernel_rfl, by kernel_rfl, by kernel_rfl⟩ -- laws_szStringS
theorem o64 : One Try.prog ns ts gs (67, 64) := ⟨Try.f67, q64, ⟨[.v [.sh], .v [.sc]], [.v false [.sc]], [false, false]⟩, Try.func67, by kernel_rfl, by kernel_rfl, by kernel_rfl, by kernel_rfl⟩ -- laws_szTypeS
theorem o68 : One Try.prog ns ts gs (71, 68) := ⟨Try.f71, q68, ⟨[.v [.sh]], [.v false [.ow]], [false]⟩, Try.func71, by kernel_rfl, by kernel_rfl, by kernel_rfl, by kernel_rfl⟩ -- laws_toStringS
theorem o69 : One Try.prog ns ts gs (72, 69) := ⟨Try.f72, q69, ⟨[.v [.sh]], [.v false [.ow]], [false]⟩, Try.func72, by kernel_rfl, by kernel_rfl, by kernel_rfl, by kernel_rfl⟩ -- laws_toTypeS
theorem o72 : One Try.prog ns ts gs (75, 72) := ⟨Try.f75, q72, ⟨[.v [.sh], .v [.sh]], [.v false [.sc]], [false, false]⟩, Try.func75, by kernel_rfl, by kernel_rfl, by kernel_rfl, by kernel_rfl⟩ -- laws_eqStringS
theorem o73 : One Try.prog ns ts gs (76, 73) := ⟨Try.f76, q73, ⟨[.v [.sh], .v [.sh]], [.v false [.sc]], [false, false]⟩, Try.func76, by kernel_rfl, by kernel_rfl, by kernel_rfl, by kernel_rfl⟩ -- laws_eqTypeS
theorem o85 : One Try.prog ns ts gs (88, 85) := ⟨Try.f88, q85, ⟨[.v [.sh], .v [.sc]], [.v false [.sc]], [false, false]⟩, Try.func88, by kernel_rfl, by kernel_rfl, by kernel_rfl, by kernel_rfl⟩ -- laws_szValueS
theorem o86 : One Try.prog ns ts gs (89, 86) := ⟨Try.f89, q86, ⟨[.v [.sh]], [.v false [.ow]], [false]⟩, Try.func89, by kernel_rfl, by kernel_rfl, by kernel_rfl, by kernel_rfl⟩ -- laws_toValueS
theorem o87 : One Try.prog ns ts gs (90, 87) := ⟨Try.f90, q87, ⟨[.v [.sh], .v [.sh]], [.v false [.sc]], [false, false]⟩, Try.func90, by kernel_rfl, by kernel_rfl, by kernel_rfl, by kernel_rfl⟩ -- laws_eqValueS
theorem ground : Ground Try.prog (namesOf ns) (tableOf ts) (sigsOf gs) := ground_of (by kernel_rfl) (.cons o1 (.cons o8 (.cons o9 (.cons o10 (.cons o11 (.cons o12 (.cons o29 (.cons o31 (.cons o34 (.cons o45 (.cons o46 (.cons o47 (.cons o63 (.cons o64 (.cons o68 (.cons o69 (.cons o72 (.cons o73 (.cons o85 (.cons o86 (.cons o87 (.nil))))))))))))))))))))))
abbrev D : Table := tableOf ts
end Go.Opt
