/- For every input the law FnExactDecode returns true and leaves its arguments as they were; no condition. -/
import Derived.Test.YtbkepbngdcakaaaDecodeq4
import Derived.Test.YtbkepbngdcakaaaRows
set_option linter.unusedSimpArgs false
set_option linter.unusedVariables false
namespace Go.V
open Go Go.RowKit Go.Proofs
theorem cs5 : Try.prog.cellsOf 5 = 1 := by kernel_rfl
theorem opn5 (W : World) : Opn Try.prog W 5 1 eIu8 (fun x : Int => (Lit.int .u8 x).wf = true) := opn_int Try.underlying5
theorem cs22 : Try.prog.cellsOf 22 = 1 := by kernel_rfl
theorem opn22 (W : World) : Opn Try.prog W 22 1 (fun xs : (List Int) => [.sl none (xs.map eIu8)]) (fun x : (List Int) => (x.length ≤ 9223372036854775807 ∧ ∀ y ∈ x, (Lit.int .u8 y).wf = true)) := opn_slice Try.underlying22 cs5 (by decide) (opn5 W)
end Go.V
namespace Go.Proofs.Ytbkepbngdcakaaa.fnExactDecode
open Go.ChangeShapes Go.WideShapes Go.ChangeAt Go.RowKit Go.V
open Go.ChangeMaps (open_string shut_string)
theorem own : ownKnob Try.prog.godebug = none := by kernel_rfl
theorem laidOut : laidOutB Try.prog = true := by kernel_rfl
set_option maxRecDepth 100000 in
theorem lifted (os : Os) (started : os.Started) (H : Type) (enc : TypeId × Value → H) :
    ReturnsInHanded {} Try.checked os 3 .any (Rows.fnExactDecodeSpec.pre6 enc Try.prog Try.f3 Rows.fnExactDecodeRow.domain false) (Rows.fnExactDecodeSpec.post enc Try.prog Try.f3 false true false false) := by
  refine returnsInHanded_of_change_sized (C := Try.checked) own started (by kernel_rfl) Try.func3
    (ChangeSpec.witness6 (enc := enc) (C := Try.checked) false ⟨#[], #[.slice none 0 0], []⟩ 8 (by kernel_rfl) (by kernel_rfl) (by kernel_rfl) (by kernel_rfl)) ?_
  intro W base args ds gs before hval0 hW hcnd hsz0 _
  have hval : ∀ (j : Nat) t v, Try.f3.params[j]? = some t → args[j]? = some v → Value.okWide Try.prog W .any base t v := hval0
  have hW' := hW
  obtain ⟨p, q, hA0, hV, rfl, hfz, hnd⟩ := hW
  have hA : DataW.TrodAll enc Try.prog W 0 (fun _ => true) true Try.f3.params.toList args.toList ds p := hA0
  rw [Try.params3] at hA hval
  obtain ⟨v0, vs0, d0, ds0, p0, q0, hargs, rfl, rfl, h0, r0⟩ := trodAll_cons hA
  obtain ⟨rfl, rfl, rfl⟩ := trodAll_nil r0
  obtain rfl : args = #[v0] := by cases args; simp_all
  obtain ⟨rfl, rfl⟩ := trodVars_none hV
  obtain ⟨ad0, len0, cap0, rfl⟩ := okWide_slice Try.underlying22 (hval 0 22 v0 rfl rfl)
  have k0 := h0
  have lt0 : ∀ x ∈ p0, x.block < W.heap.size := by obtain ⟨m, hm⟩ := k0; exact DataW.trod_lt m _ _ _ hm
  obtain ⟨fuel0, hf0⟩ := h0
  obtain ⟨a0, w0, _, rr0⟩ := opn22 W H enc _ _ _ _ _ _ hf0
  have rr0 : Rels (RepR W (· < W.heap.size)) _ [Value.slice ad0 len0 cap0] := rr0
  have e0 : RepR W (· < W.heap.size) (.sl none (a0.map eIu8)) (.slice ad0 len0 cap0) := by cases rr0 with | cons h _ => exact h
  have hp := pure_FnExactDecode a0 w0
  have hc := laws_FnExactDecode_ok hp W (· < W.heap.size) [.slice ad0 len0 cap0] (.cons e0 .nil) (fun b hb => hb)
  refine Calls.mono hc fun e W' hx => ?_
  obtain ⟨rv, fr, S', he, hkeep, hrt, _⟩ := hx
  have bel : Below W.heap.size W W' := hkeep.below
  obtain rfl : rv = [.bool true] := by
    cases hrt with
    | cons h hs => cases hs; cases h; rfl
  subst he
  exact ⟨_, rfl, _, _, _, [], _, [], hW', trodAll_mk1 (shut_bool Try.underlying4 _), (trodAll_cons_mk (Below.trod laidOut (by kernel_rfl) (of_decide_eq_true (by kernel_rfl)) k0 bel lt0) trodAll_mk0), rfl, bel.frame _, fun h => by cases h⟩
theorem band {a b : Bool} (h : a = true) (k : b = true) : (a && b) = true := by rw [h, k]; rfl
set_option maxHeartbeats 20000000 in
set_option maxRecDepth 100000 in
theorem closed : joinedFacts Try.prog 3 Try.f3 Rows.fnExactDecodeSpec Rows.fnExactDecodeRow = true := by
  unfold joinedFacts
  simp only [Bool.and_eq_true]
  repeat' apply And.intro
  all_goals (as_aux_lemma => kernel_rfl)
theorem over : Rows.fnExactDecodeRow.holds Try.pinned (OpenSpec.ofChange Rows.fnExactDecodeSpec) :=
  OpenClaim.holds_of_wide 3 Try.f3 rfl rfl rfl rfl rfl rfl rfl ⟨rfl, rfl, rfl, rfl, rfl⟩ rfl rfl rfl rfl rfl (by as_aux_lemma => kernel_rfl) Try.func3 closed
    (of_decide_eq_true (by as_aux_lemma => kernel_rfl)) (by unfold Func.isWrapper; first | (rw [if_pos (by decide +kernel)]; kernel_rfl) | (rw [if_neg (by decide +kernel)]; exact ⟨rfl, rfl⟩))
    (fun os started H enc _ => lifted os started H enc)
end Go.Proofs.Ytbkepbngdcakaaa.fnExactDecode
namespace Go.Proofs.Ytbkepbngdcakaaa
theorem fnExactDecode_holds : Rows.FnExactDecodeSaid := fnExactDecode.over
end Go.Proofs.Ytbkepbngdcakaaa
