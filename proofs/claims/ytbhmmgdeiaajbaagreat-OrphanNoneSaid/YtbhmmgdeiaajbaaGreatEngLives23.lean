/- THE CHAPTER's EXAMPLES HOLD: 'lives' of layer 23 answers true, by the engine, in one closed computation. No conditions. -/
import Derived.Test.YtbhmmgdeiaajbaaGreatEngCfg
namespace Go.Proofs.YtbhmmgdeiaajbaaGreat
open Go.Eng
theorem lives23_runs (sig : Nat → Value) : isTrue (ev (cfgOf [] sig) 100000 (.call 12 [] St.empty [])) = true := by kernel_rfl
theorem lives23_calls (W : World) : CallsIn Fence.wide 0 Tryz.prog 12 #[] W fun e w' => e = .returned (.bool true) ∧ RowKit.Below W.heap.size W w' :=
  closed_true (cfg := cfgOf [] fun _ => .nilFunc) (cfg_ok _ _) rfl (lives23_runs _) W
theorem law23_runs (sig : Nat → Value) : isTrue (ev (cfgOf [(12, [], [.bool true])] sig) 100000 (.call 4 (argsAt Tryz.prog 0 Tryz.f4.params.toList) St.empty [])) = true := by kernel_rfl
end Go.Proofs.YtbhmmgdeiaajbaaGreat
