/- GraphChecks: for every two graphs the law answers true, and both read afterwards as they read before. No condition. -/
import Derived.Test.YtjmifihjamiggaaMe
import Derived.Test.YtjmifihjamiggaaRows
namespace Go.Proofs.Ytjmifihjamiggaa
open Go.ChangeShapes Go.Ab

theorem Try.own : ownKnob Try.prog.godebug = none := by kernel_rfl
theorem Try.laidOut : laidOutB Try.prog = true := by kernel_rfl

set_option maxRecDepth 100000 in
theorem graphChecks_lifted (os : Os) (started : os.Started) (H : Type) (enc : TypeId × Value → H) :
    ReturnsInHanded {} Try.checked os 5 .any (Rows.graphChecksSpec.pre6 enc Try.prog Try.f5 Rows.graphChecksRow.domain false) (Rows.graphChecksSpec.post enc Try.prog Try.f5 false true false false) := by
  refine returnsInHanded_of_change (C := Try.checked) Try.own started (by kernel_rfl) Try.func5
    (ChangeSpec.witness6 (enc := enc) (C := Try.checked) false ⟨#[], #[.agg #[.slice none 0 0, .slice none 0 0], .agg #[.slice none 0 0, .slice none 0 0]], []⟩ 8 (by kernel_rfl) (by kernel_rfl) (by kernel_rfl) (by kernel_rfl)) ?_
  intro W base args ds gs before hval0 hW hcnd _
  have hW' := hW
  obtain ⟨p, q, hA0, hV, rfl, hfz, hnd⟩ := hW
  obtain ⟨rfl, rfl⟩ := trodVars_none hV
  simp only [List.append_nil] at hW'
  have hA : DataW.TrodAll enc Try.prog W 0 (fun _ => true) true Try.f5.params.toList args.toList ds p := hA0
  have hA1 := hA
  rw [Try.params5] at hA1
  obtain ⟨v0, v1, d0, d1, p0, p1, rfl, rfl, rfl, ⟨n0, h0⟩, ⟨n1, h1⟩⟩ := trodAll_two hA1
  obtain ⟨g, hg, rg⟩ := decG.2.2 H enc W n0 _ _ h0
  obtain ⟨o, ho, ro⟩ := decG.2.2 H enc W n1 _ _ h1
  refine ((graphChecks_ok g o (strG_of hg)).row (w := W) (vals := #[v0, v1]) rfl fun j a v hj hv => ?_).mono fun e W' hR => ?_
  · match j, hj, hv with
    | 0, hj, hv => cases hj; cases hv; exact arg_agg rg (by show (2 : Nat) ≠ 1; decide)
    | 1, hj, hv => cases hj; cases hv; exact arg_agg ro (by show (2 : Nat) ≠ 1; decide)
    | j + 2, hj, hv => simp at hj
  · obtain ⟨v, F', he, hr, hb⟩ := hR
    obtain rfl := vB_inv hr
    exact ⟨_, he, law_post Try.laidOut rfl (tb := 4) rfl Try.underlying4 (of_decide_eq_true (by kernel_rfl)) hW' hA ⟨rfl, rfl, rfl⟩ hb⟩

theorem graphChecks_holds : Rows.GraphChecksSaid :=
  OpenClaim.holds_of_wide 5 Try.f5 rfl rfl rfl rfl rfl rfl rfl ⟨rfl, rfl, rfl, rfl, rfl⟩ rfl rfl rfl rfl rfl (by kernel_rfl) Try.func5 (by kernel_rfl)
    (of_decide_eq_true (by kernel_rfl)) (by unfold Func.isWrapper; first | (rw [if_pos (by decide +kernel)]; kernel_rfl) | (rw [if_neg (by decide +kernel)]; exact ⟨rfl, rfl⟩))
    (fun os started H enc _ => graphChecks_lifted os started H enc)

#print axioms graphChecks_holds
end Go.Proofs.Ytjmifihjamiggaa
