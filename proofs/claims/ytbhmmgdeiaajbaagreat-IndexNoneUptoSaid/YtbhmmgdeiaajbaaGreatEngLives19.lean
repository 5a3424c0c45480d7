/- THE CHAPTER's EXAMPLES HOLD: 'lives' of layer 19 answers true, by the engine, in one closed computation. No conditions. -/
import Derived.Test.YtbhmmgdeiaajbaaGreatEngCfg
namespace Go.Proofs.YtbhmmgdeiaajbaaGreat
open Go.Eng
theorem lives19_runs (sig : Nat → Value) : isTrue (ev (cfgOf [] sig) 100000 (.call 5 [] St.empty [])) = true := by kernel_rfl
theorem lives19_calls (W : World) : CallsIn Fence.wide 0 Tryz.prog 5 #[] W fun e w' => e = .returned (.bool true) ∧ RowKit.Below W.heap.size W w' :=
  closed_true (cfg := cfgOf [] fun _ => .nilFunc) (cfg_ok _ _) rfl (lives19_runs _) W
theorem law19_runs (sig : Nat → Value) : isTrue (ev (cfgOf [(5, [], [.bool true]), (6, (argsAt Tryz.prog 0 Tryz.f3.params.toList).take 1, [.bool true, .bool false])] sig) 100000 (.call 3 (argsAt Tryz.prog 0 Tryz.f3.params.toList) St.empty [])) = true := by kernel_rfl
end Go.Proofs.YtbhmmgdeiaajbaaGreat
