/- THE SEAT'S RECORD FOR THE ENGINE: the plans of its regions, and that they serve. Made by program. -/
import Derived.Test.YtbhmmgdeiaajbaaGreatDoorChecked
import Derived.Test.YtbhmmgdeiaajbaaGreatDoorEngP2
import Derived.KernelRfl
namespace Go.Proofs.YtbhmmgdeiaajbaaGreatDoor
open Go.Eng
noncomputable def plans : List (FuncId × List (Nat × Plan)) := [
  (4, [(6, [(0, false, 0), (1, false, 0), (2, false, 0), (4, false, 0), (5, false, 0), (6, false, 0), (3, true, 7), (7, true, 127), (8, true, 255), (9, true, 511)]), (16, [(0, false, 0), (1, false, 0), (2, false, 0), (3, false, 0), (4, false, 0), (5, false, 0), (6, false, 0), (7, false, 0), (8, false, 0), (9, false, 0), (10, false, 0), (11, false, 0), (12, false, 0), (13, false, 0), (14, false, 0), (15, false, 0), (16, false, 0), (17, false, 0), (18, false, 0), (19, false, 0), (20, false, 0), (21, false, 0), (22, false, 0), (23, false, 0), (24, false, 0), (25, false, 0), (26, false, 0), (27, false, 0), (28, true, 268435455), (29, false, 0), (30, false, 0), (31, false, 0), (32, false, 0), (33, false, 0), (34, false, 0), (35, true, 4294967295), (36, false, 0), (37, false, 0), (38, false, 0), (39, false, 0), (40, false, 0), (41, false, 0), (42, false, 0), (43, false, 0), (44, true, 17592186044415), (45, false, 0), (46, false, 0), (47, false, 0), (48, false, 0), (49, false, 0), (50, false, 0), (51, false, 0), (52, false, 0), (53, false, 0), (54, false, 0), (55, true, 36028797018963967)])]),
  (7, [(3, [(0, false, 0), (2, false, 0), (3, false, 0), (4, false, 0), (5, false, 0), (6, false, 0), (7, false, 0), (1, true, 1), (8, true, 255), (9, false, 0), (10, true, 1023), (11, true, 2047)]), (6, [(0, false, 0), (1, false, 0), (2, false, 0), (3, false, 0), (4, false, 0), (5, false, 0), (6, false, 0), (7, false, 0), (8, false, 0), (9, false, 0), (10, true, 1023), (11, false, 0), (12, false, 0), (13, true, 8191), (14, true, 16383)])]),
  (8, [(6, [(1, false, 0), (2, false, 0), (4, false, 0), (5, false, 0), (0, true, 0), (3, false, 0), (6, true, 63), (7, true, 127)])]),
  (12, [(7, [(0, false, 0), (1, false, 0), (2, false, 0), (3, false, 0), (4, false, 0), (5, false, 0), (6, true, 32), (7, true, 127)]), (11, [(0, false, 0), (1, false, 0), (2, false, 0), (3, false, 0), (4, false, 0), (5, false, 0), (6, true, 32), (7, true, 127)]), (12, [(0, false, 0), (1, false, 0), (2, false, 0), (3, false, 0), (4, false, 0), (5, false, 0), (6, false, 0), (7, false, 0), (8, true, 255)])]),
  (13, [(1, [(0, false, 0), (1, true, 1), (2, false, 0), (3, false, 0), (4, false, 0), (5, true, 31), (6, false, 0), (7, false, 0), (8, false, 0), (9, false, 0), (10, false, 0), (11, false, 0), (12, false, 0), (13, false, 0), (14, false, 0), (15, false, 0), (16, false, 0), (17, true, 131071), (18, false, 0), (19, false, 0), (20, false, 0), (21, false, 0), (22, false, 0), (23, false, 0), (24, false, 0), (25, false, 0), (26, false, 0), (27, false, 0), (28, true, 268435455), (29, false, 0), (30, false, 0), (31, false, 0), (32, false, 0), (33, false, 0), (34, false, 0), (35, false, 0), (36, false, 0), (37, false, 0), (38, false, 0), (39, true, 549755813887), (40, false, 0), (41, true, 2199023255551)])]),
  (27, [(3, [(0, false, 0), (1, false, 0), (2, false, 0), (3, false, 0), (4, false, 0), (5, false, 0), (6, false, 0), (7, false, 0), (8, false, 0), (9, false, 0), (10, false, 0), (11, false, 0), (13, false, 0), (12, true, 3840), (14, true, 16128), (15, false, 0), (16, false, 0), (17, true, 131071)])]),
  (53, [(11, [(0, false, 0), (1, false, 0), (2, false, 0), (3, false, 0), (4, false, 0), (5, false, 0), (6, false, 0), (7, true, 127)])]),
  (62, [(3, [(0, false, 0), (1, false, 0), (3, false, 0), (4, false, 0), (2, true, 3), (5, true, 31), (6, false, 0), (7, true, 127), (8, true, 255)])]),
  (64, [(1, [(0, false, 0), (1, false, 0), (2, false, 0), (3, false, 0), (4, false, 0), (5, false, 0), (6, false, 0), (7, false, 0), (8, false, 0), (9, false, 0), (10, false, 0), (11, true, 1023), (12, true, 4095)]), (3, [(0, false, 0), (2, false, 0), (3, false, 0), (1, true, 1), (4, false, 0)]), (8, [(0, false, 0), (1, false, 0), (2, false, 0), (3, false, 0), (4, false, 0), (5, false, 0), (6, false, 0), (7, false, 0), (8, true, 255)])]),
  (65, [(1, [(0, false, 0), (1, false, 0), (2, false, 0), (3, false, 0), (4, false, 0), (5, false, 0), (6, false, 0), (7, false, 0), (8, false, 0), (9, false, 0), (10, true, 511), (11, true, 2047)]), (4, [(0, false, 0), (1, false, 0), (2, false, 0), (3, false, 0), (4, false, 0), (5, false, 0), (6, false, 0), (7, false, 0), (8, false, 0), (9, false, 0), (10, true, 511), (11, true, 2047)]), (12, [(0, false, 0), (1, false, 0), (2, false, 0), (3, false, 0), (4, false, 0), (5, false, 0), (6, false, 0), (7, false, 0), (8, false, 0), (9, false, 0), (10, false, 0), (11, true, 1023), (12, true, 4095)]), (15, [(0, false, 0), (2, false, 0), (1, true, 1), (3, true, 7), (4, true, 15)]), (19, [(0, false, 0), (1, false, 0), (2, false, 0), (3, false, 0), (4, false, 0), (5, false, 0), (6, false, 0), (7, false, 0), (8, true, 192), (9, true, 511)])]),
  (66, [(1, [(0, false, 0), (1, false, 0), (2, false, 0), (3, false, 0), (4, false, 0), (5, false, 0), (6, false, 0), (7, false, 0), (8, false, 0), (9, false, 0), (10, true, 511), (11, true, 2047)]), (6, [(0, false, 0), (1, false, 0), (2, false, 0), (3, false, 0), (4, false, 0), (5, false, 0), (6, false, 0), (7, false, 0), (8, false, 0), (9, false, 0), (10, true, 511), (11, true, 2047)]), (23, [(0, false, 0), (1, false, 0), (2, false, 0), (3, false, 0), (4, false, 0), (5, false, 0), (6, false, 0), (7, false, 0), (8, false, 0), (9, false, 0), (10, true, 1023), (11, false, 0), (12, false, 0), (13, false, 0), (14, true, 8191), (15, true, 32767)]), (28, [(0, false, 0), (1, false, 0), (2, false, 0), (3, false, 0), (4, false, 0), (5, false, 0), (6, true, 63)]), (29, [(0, false, 0), (1, false, 0), (2, false, 0), (3, false, 0), (4, false, 0), (5, false, 0), (6, false, 0), (7, false, 0), (8, true, 255)])]),
  (88, [(8, [(0, false, 0), (2, false, 0), (3, false, 0), (4, false, 0), (5, false, 0), (6, false, 0), (1, true, 1), (7, true, 127), (8, true, 255)])]),
  (118, [(1, [(0, false, 0), (2, false, 0), (3, false, 0), (1, true, 1), (4, true, 15), (5, false, 0), (6, true, 63), (7, true, 127)])]),
  (122, [(3, [(0, false, 0), (1, false, 0), (2, false, 0), (3, false, 0), (4, false, 0), (5, true, 31), (6, false, 0), (7, false, 0), (8, false, 0), (9, true, 255), (10, true, 1023)]), (6, [(0, false, 0), (1, false, 0), (2, false, 0), (3, false, 0), (4, false, 0), (5, false, 0), (6, false, 0)]), (8, [(0, false, 0), (1, false, 0), (2, false, 0), (3, false, 0), (4, false, 0), (5, false, 0), (6, true, 63), (7, false, 0), (8, false, 0), (9, false, 0), (10, true, 511), (11, true, 2047)]), (11, [(0, false, 0), (1, false, 0), (2, false, 0), (3, false, 0), (4, false, 0), (5, false, 0), (6, false, 0), (7, false, 0), (8, false, 0), (9, true, 510), (10, false, 0), (11, false, 0), (12, true, 4095)]), (12, [(0, false, 0), (1, false, 0), (2, false, 0), (3, false, 0), (4, false, 0), (5, false, 0), (6, true, 63), (7, false, 0), (8, false, 0), (9, false, 0), (10, true, 511)]), (13, [(0, false, 0), (1, false, 0), (2, false, 0), (3, false, 0), (4, false, 0), (5, false, 0), (6, false, 0), (7, true, 64), (8, false, 0), (9, true, 510), (10, false, 0), (11, false, 0), (12, true, 4095)])]),
  (128, [(17, [(0, false, 0), (1, false, 0), (2, false, 0), (3, false, 0), (4, false, 0), (5, false, 0), (6, false, 0), (7, false, 0), (8, false, 0), (9, false, 0), (10, false, 0), (11, false, 0), (12, true, 4095), (13, false, 0), (14, false, 0)])]),
  (134, [(5, [(0, false, 0), (1, false, 0), (2, false, 0), (3, false, 0), (4, false, 0), (5, false, 0), (6, true, 63), (7, false, 0)]), (8, [(0, false, 0), (1, false, 0), (2, false, 0), (3, false, 0), (4, false, 0), (5, false, 0), (6, false, 0), (7, false, 0), (8, false, 0), (9, false, 0), (10, false, 0), (11, true, 2046), (12, false, 0), (13, false, 0), (14, true, 4095), (15, true, 32767)])]),
  (154, [(11, [(0, false, 0), (1, false, 0), (2, false, 0), (3, false, 0), (4, false, 0), (5, false, 0), (6, false, 0), (7, false, 0), (8, true, 255)]), (15, [(0, false, 0), (1, false, 0), (2, false, 0), (3, false, 0), (4, false, 0), (5, false, 0), (6, false, 0), (7, false, 0), (8, true, 255)])]),
  (157, [(11, [(0, false, 0), (1, false, 0), (2, false, 0), (3, false, 0), (4, false, 0), (5, false, 0), (6, false, 0), (7, false, 0), (8, true, 255)]), (15, [(0, false, 0), (1, false, 0), (2, false, 0), (3, false, 0), (4, false, 0), (5, false, 0), (6, false, 0), (7, false, 0), (8, true, 255)])]),
  (161, [(4, [(0, false, 0), (1, false, 0), (2, false, 0), (3, false, 0), (4, false, 0), (5, false, 0), (6, false, 0), (7, false, 0), (8, false, 0), (9, false, 0), (10, false, 0), (11, false, 0), (12, false, 0), (13, true, 8191), (14, false, 0)]), (6, [(0, false, 0), (1, false, 0), (2, false, 0), (3, false, 0), (4, false, 0), (5, false, 0), (6, false, 0), (7, false, 0), (8, false, 0), (9, false, 0), (10, false, 0), (11, false, 0), (12, false, 0), (13, false, 0), (14, false, 0), (15, true, 32739), (16, false, 0), (17, true, 131071)])])]
def oks : List TypeId := [7, 8, 26, 27, 30, 31, 33, 34, 37, 38, 44, 45, 69, 70, 71, 72, 73, 74, 96, 97, 136, 137, 143, 144, 168, 169, 210, 270, 271, 291, 292]
def laps : List (FuncId × Ext) := [(184, .overlaps 70), (194, .overlaps 23), (197, .overlaps 144)]
noncomputable abbrev cfgOf (sums : List (FuncId × List AV × List AV)) (sig : Nat → Value) : Cfg := { P := Tryz.prog, plans := plans, sums := sums, ok := oks, lap := laps, sig := sig }
theorem fns0 (sums : List (FuncId × List AV × List AV)) (sig : Nat → Value) : (List.range' 0 30).all (fnOk (cfgOf sums sig)) = true := by kernel_rfl
theorem fns30 (sums : List (FuncId × List AV × List AV)) (sig : Nat → Value) : (List.range' 30 30).all (fnOk (cfgOf sums sig)) = true := by kernel_rfl
theorem fns60 (sums : List (FuncId × List AV × List AV)) (sig : Nat → Value) : (List.range' 60 30).all (fnOk (cfgOf sums sig)) = true := by kernel_rfl
theorem fns90 (sums : List (FuncId × List AV × List AV)) (sig : Nat → Value) : (List.range' 90 30).all (fnOk (cfgOf sums sig)) = true := by kernel_rfl
theorem fns120 (sums : List (FuncId × List AV × List AV)) (sig : Nat → Value) : (List.range' 120 30).all (fnOk (cfgOf sums sig)) = true := by kernel_rfl
theorem fns150 (sums : List (FuncId × List AV × List AV)) (sig : Nat → Value) : (List.range' 150 30).all (fnOk (cfgOf sums sig)) = true := by kernel_rfl
theorem fns180 (sums : List (FuncId × List AV × List AV)) (sig : Nat → Value) : (List.range' 180 30).all (fnOk (cfgOf sums sig)) = true := by kernel_rfl
theorem fns210 (sums : List (FuncId × List AV × List AV)) (sig : Nat → Value) : (List.range' 210 30).all (fnOk (cfgOf sums sig)) = true := by kernel_rfl
theorem fns240 (sums : List (FuncId × List AV × List AV)) (sig : Nat → Value) : (List.range' 240 30).all (fnOk (cfgOf sums sig)) = true := by kernel_rfl
theorem fns270 (sums : List (FuncId × List AV × List AV)) (sig : Nat → Value) : (List.range' 270 3).all (fnOk (cfgOf sums sig)) = true := by kernel_rfl
theorem size_is : Tryz.prog.funcs.size = 273 := by kernel_rfl
theorem oks_hold : oksB Tryz.prog oks = true := by kernel_rfl
theorem names_hold : namesB Tryz.prog = true := by kernel_rfl
theorem mixed : Tryz.prog.follows .mixedOrders = true := by kernel_rfl
set_option maxRecDepth 100000 in
theorem lap184 : LapRun Tryz.prog 184 (.overlaps 70) := lap_overlaps (P := Tryz.prog) (g := 184) (t := 35) (r := 4) (elem := 70) Tryz.func184 (by kernel_rfl) (by kernel_rfl) (by kernel_rfl) (by kernel_rfl) (by kernel_rfl)
set_option maxRecDepth 100000 in
theorem lap194 : LapRun Tryz.prog 194 (.overlaps 23) := lap_overlaps (P := Tryz.prog) (g := 194) (t := 28) (r := 4) (elem := 23) Tryz.func194 (by kernel_rfl) (by kernel_rfl) (by kernel_rfl) (by kernel_rfl) (by kernel_rfl)
set_option maxRecDepth 100000 in
theorem lap197 : LapRun Tryz.prog 197 (.overlaps 144) := lap_overlaps (P := Tryz.prog) (g := 197) (t := 29) (r := 4) (elem := 144) Tryz.func197 (by kernel_rfl) (by kernel_rfl) (by kernel_rfl) (by kernel_rfl) (by kernel_rfl)
theorem laps_hold : ∀ g x, laps.find? (·.1 == g) = some x → LapRun Tryz.prog g x.2 :=
  lap_cons lap184 (lap_cons lap194 (lap_cons lap197 (lap_nil)))
theorem all_fns (sums : List (FuncId × List AV × List AV)) (sig : Nat → Value) : allOk (cfgOf sums sig) = true := by
  refine all_parts (n := 273) size_is ?_
  refine all_part (k := 0) (n := 30) (fns0 sums sig) ?_
  refine all_part (k := 30) (n := 30) (fns30 sums sig) ?_
  refine all_part (k := 60) (n := 30) (fns60 sums sig) ?_
  refine all_part (k := 90) (n := 30) (fns90 sums sig) ?_
  refine all_part (k := 120) (n := 30) (fns120 sums sig) ?_
  refine all_part (k := 150) (n := 30) (fns150 sums sig) ?_
  refine all_part (k := 180) (n := 30) (fns180 sums sig) ?_
  refine all_part (k := 210) (n := 30) (fns210 sums sig) ?_
  refine all_part (k := 240) (n := 30) (fns240 sums sig) ?_
  refine all_part (k := 270) (n := 3) (fns270 sums sig) ?_
  exact all_end
theorem pok : POk Tryz.prog oks laps := ⟨okTypes_of (P := Tryz.prog) oks_hold, laps_hold, names_of (P := Tryz.prog) names_hold⟩
theorem cfg_ok (sums : List (FuncId × List AV × List AV)) (sig : Nat → Value) : CfgOk (cfgOf sums sig) where
  P := pok
  mixed := mixed
  fns := fns_of (all_fns sums sig)
end Go.Proofs.YtbhmmgdeiaajbaaGreatDoor
