/- THE CHAPTER's EXAMPLES HOLD: 'lives' answers true, by the engine, in one closed computation. -/
import Derived.Test.YtbhmmgdeiaajbaaGreatDoorEngCfg
namespace Go.Proofs.YtbhmmgdeiaajbaaGreatDoor
open Go.Eng
theorem lives_runs (sig : Nat → Value) : isTrue (ev (cfgOf [] sig) 100000 (.call 4 [] St.empty [])) = true := by kernel_rfl
theorem lives_calls (W : World) : CallsIn Fence.wide 0 Tryz.prog 4 #[] W fun e w' => e = .returned (.bool true) ∧ RowKit.Below W.heap.size W w' :=
  closed_true (cfg := cfgOf [] fun _ => .nilFunc) (cfg_ok _ _) rfl (lives_runs _) W
theorem law_runs (sig : Nat → Value) : isTrue (ev (cfgOf [(4, [], [.bool true])] sig) 100000 (.call 3 (argsAt Tryz.prog 0 Tryz.f3.params.toList) St.empty [])) = true := by kernel_rfl
end Go.Proofs.YtbhmmgdeiaajbaaGreatDoor
