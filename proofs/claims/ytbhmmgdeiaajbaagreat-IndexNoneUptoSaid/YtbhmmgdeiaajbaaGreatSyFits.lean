/- 'fits' of layer 19 answers a truth, whatever function it is asked of, and turns nothing that was there. No conditions. -/
import Derived.Test.YtbhmmgdeiaajbaaGreatSyP2
import Derived.Test.YtbhmmgdeiaajbaaGreatChecked
import Derived.KernelRfl
namespace Go.Proofs.YtbhmmgdeiaajbaaGreat.Sf
open Go.Sy Go.RowKit
noncomputable abbrev cfgWith (sums : List (FuncId × SumF)) (loops : List (FuncId × Nat × LoopF)) : Cfg := { P := Tryz.prog, plans := [], ok := [], sums := sums, loops := loops }
theorem size_is : Tryz.prog.funcs.size = 275 := by kernel_rfl
theorem names_hold : namesB Tryz.prog = true := by kernel_rfl
theorem mixed : Tryz.prog.follows .mixedOrders = true := by kernel_rfl
theorem fnsA (sums : List (FuncId × SumF)) (loops : List (FuncId × Nat × LoopF)) : (List.range' 0 100).all (fnOk (cfgWith sums loops)) = true := by kernel_rfl
theorem fnsB (sums : List (FuncId × SumF)) (loops : List (FuncId × Nat × LoopF)) : (List.range' 100 100).all (fnOk (cfgWith sums loops)) = true := by kernel_rfl
theorem fnsC (sums : List (FuncId × SumF)) (loops : List (FuncId × Nat × LoopF)) : (List.range' 200 75).all (fnOk (cfgWith sums loops)) = true := by kernel_rfl
theorem all_fns (sums : List (FuncId × SumF)) (loops : List (FuncId × Nat × LoopF)) : AllFrom (cfgWith sums loops) 0 275 := by
  refine all_part (k := 0) (n := 100) (fnsA sums loops) ?_
  refine all_part (k := 100) (n := 100) (fnsB sums loops) ?_
  refine all_part (k := 200) (n := 75) (fnsC sums loops) ?_
  exact all_end
theorem pok : POk Tryz.prog [] := ⟨okTypes_of (P := Tryz.prog) (by kernel_rfl), names_of (P := Tryz.prog) names_hold⟩
theorem cfg0_ok : CfgOk (cfgWith [] []) where
  P := pok
  mixed := mixed
  fns := fns_of size_is (all_fns [] [])
  sums := fun f s h => by cases h
  keeps := fun f s h => by cases h
  loops := fun fn b F h => by
    unfold findLoop at h
    split at h
    · cases h
    · cases h
def vtys : List STy := [.int .u8, .bool, .int .i64, .str, .int .u64]
noncomputable def body6 : Code := match Tryz.prog.funcs[6]? with | some f => f.body.getD .skip | none => .skip
noncomputable def loop6 : Code := (loopsOf body6).headD .skip
theorem loops6 : loopsOf body6 = [loop6] := by kernel_rfl
theorem body_ev (i : Nat) (n : Int) (v : Go.Sy.Rows) (x0 x1 x2 x4 x5 : AV) (pc : List (Bool × Bool)) :
    viewed [1, 3, 4] [0] (ev (cfgWith [] []) 60 (.code 6 loop6 (frameAt 6 [(1, .ptr 0 0), (3, .sint .i64 n), (4, .sint .i64 i)]) (stAt [(0, .cells [x0, x1, x2, .srows vtys v, x4, x5] 29)] 1 pc))) =
    some ([(.normal, [.ptr 0 0, .sint .i64 (IntKind.i64.wrap (n + (dStr (elemD v (i : Int).toNat 3)).length)), .sint .i64 (IntKind.i64.wrap (i + 1))], [.cells [x0, x1, x2, .srows vtys v, x4, x5] 29], 1, (decide ((i : Int) < 100), true) :: (decide ((i : Int) < v.length), true) :: pc),
      (.exit 0, [.ptr 0 0, .sint .i64 n, .sint .i64 i], [.cells [x0, x1, x2, .srows vtys v, x4, x5] 29], 1, (decide ((i : Int) < 100), false) :: (decide ((i : Int) < v.length), true) :: pc),
      (.exit 0, [.ptr 0 0, .sint .i64 n, .sint .i64 i], [.cells [x0, x1, x2, .srows vtys v, x4, x5] 29], 1, (decide ((i : Int) < v.length), false) :: pc)],
      [((decide ((i : Int) < 100), true) :: (decide ((i : Int) < v.length), true) :: pc, decide ((0 : Int) ≤ i) && decide ((i : Int) < v.length))]) := by kernel_rfl

def go (v : Go.Sy.Rows) : Nat → Nat → Int → Int
  | 0, _, n => n
  | k + 1, i, n => if i < v.length then go v k (i + 1) (IntKind.i64.wrap (n + (dStr (elemD v i 3)).length)) else n
theorem wrap_i64 {n : Int} (h1 : 0 ≤ n) (h2 : n < 9223372036854775808) : IntKind.i64.wrap n = n := by
  have h3 : n % 18446744073709551616 = n := Int.emod_eq_of_lt h1 (by omega)
  simp only [IntKind.wrap, IntKind.bits, IntKind.signed]
  simp [h3]
  omega
noncomputable abbrev obj6 (v : Go.Sy.Rows) (x0 x1 x2 x4 x5 : AV) : AObj := .cells [x0, x1, x2, .srows vtys v, x4, x5] 29
noncomputable def F6 : LoopF := fun aa st =>
  match aa.tmps.get 1, aa.tmps.get 3, aa.tmps.get 4, st.obj 0 with
  | .ptr 0 0, .sint .i64 n, .int .i64 0, .cells [x0, x1, x2, .srows tys v, x4, x5] e =>
    cond (STy.beqs tys vtys && Nat.beq e 29 && Nat.beq st.hn 1) (some ([(.exit 0, frameAt 6 [(1, .ptr 0 0), (3, .sint .i64 (go v 100 0 n))], stAt [(0, obj6 v x0 x1 x2 x4 x5)] 1 st.pc)], [])) none
  | _, _, _, _ => none

theorem loop6_sound (v : Go.Sy.Rows) (x0 x1 x2 x4 x5 : AV) (pc : List (Bool × Bool)) (s0 : {p : Nat × Int // p.1 ≤ 100}) {E : Env} {a : Act} {w : World} (hok : CodeAt (cfgWith [] []) 6 43 (.loop loop6))
    (hR : Rel E (stAt [(0, obj6 v x0 x1 x2 x4 x5)] 1 pc) w) (hA : ARel E 43 (frameAt 6 [(1, .ptr 0 0), (3, .sint .i64 s0.1.2), (4, .sint .i64 s0.1.1)]) a) :
    (Code.loop loop6).wpIn Fence.wide 0 Tryz.prog (CodePost E w 43 [(.exit 0, frameAt 6 [(1, .ptr 0 0), (3, .sint .i64 (go v (100 - s0.1.1) s0.1.1 s0.1.2))], stAt [(0, obj6 v x0 x1 x2 x4 x5)] 1 pc)]) a w := by
  refine loop_sound (cfg := cfgWith [] []) cfg0_ok (σ := {p : Nat × Int // p.1 ≤ 100}) (fun s => frameAt 6 [(1, .ptr 0 0), (3, .sint .i64 s.1.2), (4, .sint .i64 s.1.1)]) (fun _ => stAt [(0, obj6 v x0 x1 x2 x4 x5)] 1 pc) (fun s => 100 - s.1.1)
    (fun s => [(.exit 0, frameAt 6 [(1, .ptr 0 0), (3, .sint .i64 (go v (100 - s.1.1) s.1.1 s.1.2))], stAt [(0, obj6 v x0 x1 x2 x4 x5)] 1 pc)]) 43 (fun s => ?_) s0 hok hR hA
  obtain ⟨⟨i, n⟩, hi⟩ := s
  obtain ⟨l, hl, hmem⟩ := view_mem (body_ev i n v x0 x1 x2 x4 x5 pc)
  refine ⟨60, l, _, hl, ?_, fun x hx hpc => ?_⟩
  · intro o ho
    have : o = _ := List.mem_singleton.1 ho
    subst this
    intro hp
    have h1 := hp _ (.tail _ (.head _))
    simp only [decide_eq_true_eq] at h1
    simp [h1]
  · have hm := hmem x hx
    obtain ⟨ex, xa, xs⟩ := x
    simp only [view, List.map_cons, List.map_nil, List.mem_cons, Prod.mk.injEq, List.not_mem_nil, or_false, List.cons.injEq, and_true] at hm
    simp only at hpc
    rcases hm with ⟨rfl, ⟨h1, h3, h4⟩, ho, hh, hp⟩ | ⟨rfl, ⟨h1, h3, h4⟩, ho, hh, hp⟩ | ⟨rfl, ⟨h1, h3, h4⟩, ho, hh, hp⟩
    · rw [hp] at hpc
      have c1 := hpc _ (.head _)
      have c2 := hpc _ (.tail _ (.head _))
      simp only [decide_eq_true_eq] at c1 c2
      have hi100 : i < 100 := by omega
      have hilen : i < v.length := by omega
      refine ⟨⟨(i + 1, IntKind.i64.wrap (n + (dStr (elemD v i 3)).length)), by omega⟩, by simp only; omega, frameAt_fw (by decide) _ (fun y hy => ?_), stAt_w hh.symm (fun y hy => ?_) (fun y hy => by rw [hp]; exact .tail _ (.tail _ hy)), fun y hy => ?_⟩
      · simp only [List.mem_cons, List.not_mem_nil, or_false] at hy
        rcases hy with rfl | rfl | rfl
        · exact ⟨by simp, by rw [h1]; exact .refl _⟩
        · exact ⟨by simp, by rw [h3]; simpa using Wider.refl _⟩
        · refine ⟨by simp, ?_⟩
          rw [h4, wrap_i64 (by omega) (by omega)]
          exact .refl _
      · simp only [List.mem_cons, List.not_mem_nil, or_false] at hy
        subst hy
        exact ⟨by simp, ho⟩
      · have e1 : 100 - i = (100 - (i + 1)) + 1 := by omega
        simp only [e1, go, hilen, if_true]
        exact hy
    · rw [hp] at hpc
      have c1 := hpc _ (.head _)
      simp only [decide_eq_false_iff_not] at c1
      have hi100 : i = 100 := by simp only at hi; omega
      refine ⟨_, .head _, rfl, frameAt_fw (by decide) _ (fun y hy => ?_), stAt_w hh.symm (fun y hy => ?_) (fun y hy => by rw [hp]; exact .tail _ (.tail _ hy))⟩
      · simp only [List.mem_cons, List.not_mem_nil, or_false] at hy
        rcases hy with rfl | rfl
        · exact ⟨by simp, by rw [h1]; exact .refl _⟩
        · refine ⟨by simp, ?_⟩
          rw [h3, hi100]; exact .refl _
      · simp only [List.mem_cons, List.not_mem_nil, or_false] at hy
        subst hy
        exact ⟨by simp, ho⟩
    · rw [hp] at hpc
      have c1 := hpc _ (.head _)
      simp only [decide_eq_false_iff_not] at c1
      have hilen : ¬ i < v.length := by omega
      refine ⟨_, .head _, rfl, frameAt_fw (by decide) _ (fun y hy => ?_), stAt_w hh.symm (fun y hy => ?_) (fun y hy => by rw [hp]; exact .tail _ hy)⟩
      · simp only [List.mem_cons, List.not_mem_nil, or_false] at hy
        rcases hy with rfl | rfl
        · exact ⟨by simp, by rw [h1]; exact .refl _⟩
        · refine ⟨by simp, ?_⟩
          rw [h3]
          have : go v (100 - i) i n = n := by cases h100 : 100 - i <;> simp [go, hilen]
          simp only [this]
          exact .refl _
      · simp only [List.mem_cons, List.not_mem_nil, or_false] at hy
        subst hy
        exact ⟨by simp, ho⟩

set_option maxRecDepth 100000 in
theorem F6_sound {aa : AAct} {st : St} {r : List Res × List Bool} (h : F6 aa st = some r) {cfg : Cfg} (hp : cfg.plans = []) (hP : cfg.P = Tryz.prog) {b : Code} : SoundTask cfg (.code 6 (.loop b) aa st) (r.1, obsAt st r.2) := by
  intro E a w N hq hok hR hA
  have hok0 : CodeAt (cfgWith [] []) 6 N (.loop b) := hok.plans hp hP
  obtain ⟨hb, hN⟩ := loop_of (cfg := cfgWith [] []) hok0 Tryz.func6 (body := body6) (by kernel_rfl) loops6
  have hb : b = loop6 := by simpa using hb
  subst hb
  have hN : N = 43 := by rw [← hN]; kernel_rfl
  subst hN
  unfold F6 at h
  split at h
  · rename_i n x0 x1 x2 tys v x4 x5 e h1 h3 h4 ho
    obtain ⟨hc, h'⟩ := cond_some h
    clear h
    cases h'
    simp only [Bool.and_eq_true] at hc
    obtain ⟨⟨c1, c2⟩, c3⟩ := hc
    have c1 := STy.beqs_eq c1
    have c2 := nat_beq c2
    have c3 := nat_beq c3
    subst c1; subst c2
    rw [hP]
    refine loop6_sound v x0 x1 x2 x4 x5 st.pc ⟨(0, n), by simp⟩ hok0 (hR.weak (stAt_w c3.symm (fun y hy => ?_) fun y hy => hy)) (hA.weak (frameAt_fw (by decide) _ fun y hy => ?_))
    · simp only [List.mem_cons, List.not_mem_nil, or_false] at hy
      subst hy
      exact ⟨by simp, ho⟩
    · simp only [List.mem_cons, List.not_mem_nil, or_false] at hy
      rcases hy with rfl | rfl | rfl
      · exact ⟨by simp, by rw [h1]; exact .refl _⟩
      · exact ⟨by simp, by rw [h3]; exact .refl _⟩
      · exact ⟨by simp, by rw [h4]; exact .sint _ _⟩
  · cases h
theorem cfg1_ok : CfgOk (cfgWith [] [(6, 3, F6)]) where
  P := pok
  mixed := mixed
  fns := fns_of size_is (all_fns [] _)
  sums := fun f s h => by cases h
  keeps := fun f s h => by cases h
  loops := fun fn b F h => by
    rcases findLoop_cons rfl h with ⟨rfl, _, rfl⟩ | ⟨id, _, x, hx, _⟩
    · exact fun aa st r hr => F6_sound hr rfl rfl
    · cases hx
theorem fits_ev (k : Int) (s : List UInt8) (b : Bool) (v u r : Go.Sy.Rows) :
    (ev (cfgWith [] [(6, 3, F6)]) 60 (.call 6 [.agg [.sint .u8 k, .sstr s, .sbool b, .srows vtys v, .srows [.int .u64] u, .srows [.str] r]] St.empty)).map (fun x => (x.1.map fun y => (y.1, y.2.2.pc), x.2)) =
    some ([(.val (.sbool (decide (go v 100 0 (IntKind.i64.wrap (IntKind.i64.wrap (IntKind.i64.wrap (s.length + v.length) + u.length) + r.length)) ≤ 2000))), [])], []) := by kernel_rfl

def tys29 : List STy := [.int .u8, .str, .bool, .rows vtys, .rows [.int .u64], .rows [.str]]
theorem lay29 : layOk Tryz.prog 12 29 = true := by kernel_rfl
theorem stys29 : stysOf Tryz.prog 12 29 = some tys29 := by kernel_rfl
theorem row29 {row : List DV} (h : HasTys tys29 row) : ∃ k s b v u r, rowAV tys29 row = [.sint .u8 k, .sstr s, .sbool b, .srows vtys v, .srows [.int .u64] u, .srows [.str] r] := by
  cases h with | cons h0 h =>
  cases h with | cons h1 h =>
  cases h with | cons h2 h =>
  cases h with | cons h3 h =>
  cases h with | cons h4 h =>
  cases h with | cons h5 h =>
  cases h
  cases h0; cases h1; cases h2; cases h3; cases h4; cases h5
  exact ⟨_, _, _, _, _, _, rfl⟩
theorem fits_calls {H : Type} {enc : TypeId × Value → H} {W w : World} {cs : Array Value} {d : DataW H} {p : List MemPlace} (h : DataW.Trod enc Tryz.prog W 0 (fun _ => true) true 29 (.agg cs) d p) (hb : Below W.heap.size W w) :
    CallsIn Fence.wide 0 Tryz.prog 6 #[.agg cs] w fun e w' => ∃ b, e = .returned (.bool b) ∧ Below w.heap.size w w' := by
  obtain ⟨fuel, h⟩ := h
  obtain ⟨row, h1, _, h2⟩ := trod_gives 12 29 tys29 lay29 stys29 fuel _ _ h
  obtain ⟨k, s, b, v, u, r, hrow⟩ := row29 h1
  have hm : ∀ b o, mem W b = some o → mem w b = some o := fun b o ho => by
    have : b < W.heap.size := heap_lt ho
    show w.heap[b]? = _
    rw [hb.block b this]; exact ho
  have hr : VRels (Env.at w) [.agg [.sint .u8 k, .sstr s, .sbool b, .srows vtys v, .srows [.int .u64] u, .srows [.str] r]] (#[Value.agg cs] : Array Value).toList := by
    refine .cons (.agg ?_) .nil
    rw [← hrow]
    exact rowAV_rel h1 ⟨h2.1, fun j x hj => by
      obtain ⟨y, g1, g2⟩ := h2.2 j x hj
      exact ⟨y, g1, g2.mono hm⟩⟩
  have hev := fits_ev k s b v u r
  cases hl : ev (cfgWith [] [(6, 3, F6)]) 60 (.call 6 [.agg [.sint .u8 k, .sstr s, .sbool b, .srows vtys v, .srows [.int .u64] u, .srows [.str] r]] St.empty) with
  | none => rw [hl] at hev; cases hev
  | some y =>
    obtain ⟨l, q⟩ := y
    rw [hl] at hev
    simp only [Option.map_some, Option.some.injEq, Prod.mk.injEq] at hev
    obtain ⟨e1, rfl⟩ := hev
    refine CallsIn.mono (run_call cfg1_ok hl (fun o ho => by cases ho) hr) fun e w' he => ?_
    obtain ⟨v', rfl, ⟨x, hx, y, E', hy, _, hvr⟩, hbel⟩ := he
    have hx' : (x.1, x.2.2.pc) ∈ l.map (fun y => (y.1, y.2.2.pc)) := List.mem_map.2 ⟨x, hx, rfl⟩
    rw [e1] at hx'
    have hx' := List.mem_singleton.1 hx'
    have hv : x.1 = _ := (Prod.mk.inj hx').1
    rw [hy] at hv
    cases hv
    cases hvr
    exact ⟨_, rfl, hbel⟩
end Go.Proofs.YtbhmmgdeiaajbaaGreat.Sf
