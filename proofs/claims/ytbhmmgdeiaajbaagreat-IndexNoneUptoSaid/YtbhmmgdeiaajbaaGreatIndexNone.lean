/- IndexNone answers true for every input of bulk at most 1048576, and each argument reads behind the call as it did. No other conditions. -/
import Derived.Test.YtbhmmgdeiaajbaaGreatEngLives19
import Derived.Test.YtbhmmgdeiaajbaaGreatSyFits
import Derived.Test.YtbhmmgdeiaajbaaGreatRows
import Derived.WalkKit
import Derived.ProofKit
import Derived.OpenShut
import Derived.Deep.DeepHandedRow
import Derived.Lib.LaidTab
namespace Go.Proofs.YtbhmmgdeiaajbaaGreat.indexNone
open Go.ChangeShapes Go.WideShapes Go.ChangeAt Go.RowKit Go.Eng

theorem own : ownKnob Tryz.prog.godebug = none := by kernel_rfl
theorem laidOut : laidOutB Tryz.prog = true := by kernel_rfl

theorem xs6 : (argsAt Tryz.prog 0 Tryz.f3.params.toList).take 1 = [.agg [.ext 0, .ext 1, .ext 2, .ext 3, .ext 4, .ext 5]] := by kernel_rfl
theorem agg6 {E : Env} {vs : List Value} (h : VRels E [.ext 0, .ext 1, .ext 2, .ext 3, .ext 4, .ext 5] vs) : vs = [E.σ 0, E.σ 1, E.σ 2, E.σ 3, E.σ 4, E.σ 5] := by
  cases h with | cons h0 h =>
  cases h with | cons h1 h =>
  cases h with | cons h2 h =>
  cases h with | cons h3 h =>
  cases h with | cons h4 h =>
  cases h with | cons h5 h =>
  cases h
  cases h0 with | ext e0 _ =>
  cases h1 with | ext e1 _ =>
  cases h2 with | ext e2 _ =>
  cases h3 with | ext e3 _ =>
  cases h4 with | ext e4 _ =>
  cases h5 with | ext e5 _ =>
  rw [e0, e1, e2, e3, e4, e5]
theorem six {α : Type} {l : List α} (h : l.length = 6) : ∃ a b c d e f, l = [a, b, c, d, e, f] := by
  match l, h with
  | [a, b, c, d, e, f], _ => exact ⟨a, b, c, d, e, f, rfl⟩
theorem cells29 : Tryz.prog.cellsOf 29 = 6 := by kernel_rfl
noncomputable abbrev sums3 : List (FuncId × List AV × List AV) := [(5, [], [.bool true]), (6, (argsAt Tryz.prog 0 Tryz.f3.params.toList).take 1, [.bool true, .bool false])]
/-- 'fits' among what is known. -/
theorem sum_fits {H : Type} {enc : TypeId × Value → H} {W : World} {args : List Value} {cs : Array Value} {rest : List Value} {d : DataW H} {p : List MemPlace} (hargs : args = .agg cs :: rest) (hlen : cs.toList.length = 6)
    (h : DataW.Trod enc Tryz.prog W 0 (fun _ => true) true 29 (.agg cs) d p) (E : Env) (w : World) (args' : Array Value) (hs : E.σ = sigOf args) (ha : VRels E ((argsAt Tryz.prog 0 Tryz.f3.params.toList).take 1) args'.toList) (hb : Below W.heap.size W w) :
    CallsIn Fence.wide 0 Tryz.prog 6 args' w fun e w' => ∃ v', e = .returned v' ∧ (∃ v ∈ [AV.bool true, AV.bool false], VRel E v v') ∧ Below w.heap.size w w' := by
  rw [xs6] at ha
  obtain ⟨c0, c1, c2, c3, c4, c5, hcs⟩ := six hlen
  have e : args' = #[.agg cs] := by
    cases hv : args'.toList with
    | nil => rw [hv] at ha; cases ha
    | cons v vs =>
      rw [hv] at ha
      cases ha with | cons h1 h2 =>
      cases h2
      cases h1 with | agg h3 =>
      rename_i us
      have h4 := agg6 h3
      rw [hs, hargs] at h4
      have h5 : us = cs := by
        apply Array.ext'
        rw [h4, hcs]
        simp [sigOf, cellsAll, Value.cells, hcs]
      apply Array.ext'
      rw [hv, h5]
  subst e
  refine CallsIn.mono (Sf.fits_calls h hb) fun e w' he => ?_
  obtain ⟨b, rfl, hbel⟩ := he
  refine ⟨_, rfl, ?_, hbel⟩
  cases b with
  | true => exact ⟨_, .head _, .bool true⟩
  | false => exact ⟨_, .tail _ (.head _), .bool false⟩
set_option maxRecDepth 100000 in
theorem calls {H : Type} (enc : TypeId × Value → H) (W : World) (base : Nat) (args : Array Value) {ds gs : List (DataW H)} {before : List MemPlace} (hlen : args.size = Tryz.f3.params.size)
    (hval : ∀ (j : Nat) t v, Tryz.f3.params[j]? = some t → args[j]? = some v → Value.okWide Tryz.prog W .any base t v)
    (hW : DataW.Whole enc Tryz.prog Tryz.f3.params.toList Rows.indexNoneSpec.vars false W args.toList ds gs before) :
    Calls Tryz.prog 3 args W fun e w' => e = .returned (.bool true) ∧ Below W.heap.size W w' := by
  obtain ⟨p, q, hA, _⟩ := id hW
  rw [Tryz.params3] at hA
  obtain ⟨v0, vs0, d0, ds0, p0, q0, hargs, _, _, h0, _⟩ := trodAll_cons hA
  have hp0 : Tryz.f3.params[0]? = some 29 := by rw [← Array.getElem?_toList, Tryz.params3]; rfl
  have ha0 : args[0]? = some v0 := by rw [← Array.getElem?_toList, hargs]; rfl
  have hok := hval 0 29 v0 hp0 ha0
  obtain ⟨cs, rfl, hsz⟩ : ∃ cs, v0 = .agg cs ∧ cs.size = 6 := by
    unfold Value.okWide at hok
    rw [Tryz.underlying29] at hok
    obtain ⟨cs, h1, h2, _⟩ := hok
    exact ⟨cs, h1, by rw [h2]; exact cells29⟩
  have hS : SumsOk (cfgOf sums3 (sigOf args.toList)) W :=
    sums_cons rfl (sum_true lives19_calls) (sums_cons rfl (sum_fits hargs (by simpa using hsz) h0) (sums_nil rfl))
  have h := @law_true (cfgOf sums3 (sigOf args.toList)) (cfg_ok _ _) W hS 100000 3 Tryz.f3 args .any base rfl hlen
  exact h hval (law19_runs _)

set_option maxRecDepth 100000 in
theorem contract (H : Type) (enc : TypeId × Value → H) (W : World) (base : Nat) (args : Array Value) (ds gs : List (DataW H)) (before : List MemPlace)
    (hval : ∀ (j : Nat) t v, Tryz.f3.params[j]? = some t → args[j]? = some v → Value.okWide Tryz.prog W .any base t v)
    (hW : DataW.Whole enc Tryz.prog Tryz.f3.params.toList Rows.indexNoneSpec.vars false W args.toList ds gs before) :
    Calls Tryz.prog 3 args W fun e W' => ∃ v, e = .returned v ∧ Rows.indexNoneSpec.post enc Tryz.prog Tryz.f3 false true false false W args v W' := by
  obtain ⟨p, q, hA, hV, _⟩ := id hW
  obtain ⟨rfl, rfl⟩ := trodVars_none hV
  rw [Tryz.params3] at hA
  obtain ⟨v0, vs0, d0, ds0, p0, q0, hargs, rfl, rfl, h0, r0⟩ := trodAll_cons hA
  obtain ⟨v1, vs1, d1, ds1, p1, q1, rfl, rfl, rfl, h1, r1⟩ := trodAll_cons r0
  obtain ⟨v2, vs2, d2, ds2, p2, q2, rfl, rfl, rfl, h2, r2⟩ := trodAll_cons r1
  obtain ⟨rfl, rfl, rfl⟩ := trodAll_nil r2
  have hsz : args.size = Tryz.f3.params.size := by
    rw [Tryz.params3, ← Array.length_toList, hargs]; rfl
  refine (calls (H := H) enc W base args hsz hval hW).mono fun e W' ⟨he, hb⟩ => ⟨_, he, ?_⟩
  exact law_post (tb := 4) laidOut (by kernel_rfl) (by kernel_rfl) Tryz.underlying4 rfl hW rfl hb

/-- A world for the witness: the settled one. -/
noncomputable def laidWorld (os : Os) : World := World.holding Tryz.prog os ⟨#[], #[], []⟩
def args0 : Array Value := #[.agg #[.int .u8 0, .string ⟨#[]⟩, .bool false, .slice none 0 0, .slice none 0 0, .slice none 0 0], .int .u64 0, .int .u64 0]
theorem laid_met (os : Os) : laidMet Tryz.prog Rows.indexNoneUptoRow.laid ((laidWorld os).forCall (fun _ _ => 0) ⟨#[], args0, []⟩).memory :=
  laidMet_of_run' 8 (by kernel_rfl) (by kernel_rfl)
theorem reads (os : Os) {H : Type} (enc : TypeId × Value → H) : ∃ places, DataW.whole enc Tryz.prog ((laidWorld os).forCall (fun _ _ => 0) ⟨#[], args0, []⟩).memory Tryz.f3.params.toList Rows.indexNoneSpec.vars false args0.toList 8 = some ([.agg [.lit (.int .u8 0), .agg [.lit (.string []), .lit (.bool false)], .nil, .nil, .nil], .lit (.int .u64 0), .lit (.int .u64 0)], [], places) :=
  ⟨[], by kernel_rfl⟩

set_option maxRecDepth 100000 in
theorem lifted (os : Os) (started : os.Started) (H : Type) (enc : TypeId × Value → H) (F : Stop.Interp) :
    ReturnsInHanded {} Tryz.checked os 3 .any ((Rows.OpenSpec.upto Rows.indexNoneSpec).preRow enc Tryz.prog Tryz.f3 Rows.indexNoneUptoRow.domain false Rows.indexNoneUptoRow.laid) (((Rows.OpenSpec.upto Rows.indexNoneSpec).at F).post enc Tryz.prog Tryz.f3 false true false false) := by
  obtain ⟨places, hx⟩ := reads os enc
  refine returnsInHanded_of_row (C := Tryz.checked) (s := Rows.OpenSpec.upto Rows.indexNoneSpec) own started (by kernel_rfl) Tryz.func3
    (witness_row_at (enc := enc) (C := Tryz.checked) false (laidWorld os) args0 rfl (by kernel_rfl) (by kernel_rfl) (by kernel_rfl)
      (OpenSpec.preRow_of_cond 8 hx (by kernel_rfl) (fun k hk => by cases hk; kernel_rfl) (by kernel_rfl) (laid_met os))) ?_
  intro W base args ds gs before hval hW _ _ _ _ _ _
  exact contract H enc W base args ds gs before hval hW

set_option maxRecDepth 100000 in
theorem said : Rows.IndexNoneUptoSaid :=
  OpenClaim.holds_of_cond 3 Tryz.f3 rfl rfl rfl rfl rfl rfl rfl ⟨rfl, rfl, rfl, rfl, rfl⟩ rfl rfl rfl rfl rfl (by kernel_rfl) Tryz.func3 (by kernel_rfl)
    (of_decide_eq_true (by kernel_rfl)) (by unfold Func.isWrapper; first | (rw [if_pos (by decide +kernel)]; kernel_rfl) | (rw [if_neg (by decide +kernel)]; exact ⟨rfl, rfl⟩))
    (fun os started H enc _ F => by rw [OpenClaim.pre_eq_preRow]; exact lifted os started H enc F)
end Go.Proofs.YtbhmmgdeiaajbaaGreat.indexNone
