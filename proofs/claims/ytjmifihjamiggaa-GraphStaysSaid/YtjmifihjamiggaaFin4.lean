/- GraphStays: for every graph, all ops and every op more the law answers true, and all read afterwards as they read before. No condition. -/
import Derived.Test.YtjmifihjamiggaaMe
import Derived.Test.YtjmifihjamiggaaRows
namespace Go.Proofs.Ytjmifihjamiggaa
open Go.ChangeShapes Go.Ab

theorem Try.own : ownKnob Try.prog.godebug = none := by kernel_rfl
theorem Try.laidOut : laidOutB Try.prog = true := by kernel_rfl

set_option maxRecDepth 100000 in
theorem graphStays_lifted (os : Os) (started : os.Started) (H : Type) (enc : TypeId × Value → H) :
    ReturnsInHanded {} Try.checked os 4 .any (Rows.graphStaysSpec.pre6 enc Try.prog Try.f4 Rows.graphStaysRow.domain false) (Rows.graphStaysSpec.post enc Try.prog Try.f4 false true false false) := by
  refine returnsInHanded_of_change (C := Try.checked) Try.own started (by kernel_rfl) Try.func4
    (ChangeSpec.witness6 (enc := enc) (C := Try.checked) false ⟨#[], #[.agg #[.slice none 0 0, .slice none 0 0], .slice none 0 0, .agg #[.int .i64 0, .string ByteArray.empty, .string ByteArray.empty, .string ByteArray.empty, .string ByteArray.empty, .int .i64 0, .int .i64 0, .string ByteArray.empty]], []⟩ 8 (by kernel_rfl) (by kernel_rfl) (by kernel_rfl) (by kernel_rfl)) ?_
  intro W base args ds gs before hval0 hW hcnd _
  have hW' := hW
  obtain ⟨p, q, hA0, hV, rfl, hfz, hnd⟩ := hW
  obtain ⟨rfl, rfl⟩ := trodVars_none hV
  simp only [List.append_nil] at hW'
  have hA : DataW.TrodAll enc Try.prog W 0 (fun _ => true) true Try.f4.params.toList args.toList ds p := hA0
  have hA1 := hA
  have hval : ∀ (j : Nat) t v, Try.f4.params[j]? = some t → args[j]? = some v → Value.okWide Try.prog W .any base t v := hval0
  rw [Try.params4] at hA1 hval
  obtain ⟨v0, v1, v2, d0, d1, d2, p0, p1, p2, rfl, rfl, rfl, ⟨n0, h0⟩, ⟨n1, h1⟩, ⟨n2, h2⟩⟩ := trodAll_three hA1
  obtain ⟨g, hg, rg⟩ := decG.2.2 H enc W n0 _ _ h0
  obtain ⟨x, hx, rx⟩ := decSO.2.2 H enc W n1 _ _ h1
  obtain ⟨o, ho, ro⟩ := decO.2.2 H enc W n2 _ _ h2
  refine ((graphStays_ok g x o).row (w := W) (vals := #[v0, v1, v2]) rfl fun j a v hj hv => ?_).mono fun e W' hR => ?_
  · match j, hj, hv with
    | 0, hj, hv => cases hj; cases hv; exact arg_agg rg (by show (2 : Nat) ≠ 1; decide)
    | 1, hj, hv => cases hj; cases hv; exact arg_one rx (WideShapes.okWide_slice Try.underlying33 (hval 1 33 v1 rfl rfl))
    | 2, hj, hv => cases hj; cases hv; exact arg_agg ro (by show (8 : Nat) ≠ 1; decide)
    | j + 3, hj, hv => simp at hj
  · obtain ⟨v, F', he, hr, hb⟩ := hR
    obtain rfl := vB_inv hr
    exact ⟨_, he, law_post Try.laidOut rfl (tb := 4) rfl Try.underlying4 (of_decide_eq_true (by kernel_rfl)) hW' hA ⟨rfl, rfl, rfl⟩ hb⟩

theorem graphStays_holds : Rows.GraphStaysSaid :=
  OpenClaim.holds_of_wide 4 Try.f4 rfl rfl rfl rfl rfl rfl rfl ⟨rfl, rfl, rfl, rfl, rfl⟩ rfl rfl rfl rfl rfl (by kernel_rfl) Try.func4 (by kernel_rfl)
    (of_decide_eq_true (by kernel_rfl)) (by unfold Func.isWrapper; first | (rw [if_pos (by decide +kernel)]; kernel_rfl) | (rw [if_neg (by decide +kernel)]; exact ⟨rfl, rfl⟩))
    (fun os started H enc _ => graphStays_lifted os started H enc)

#print axioms graphStays_holds
end Go.Proofs.Ytjmifihjamiggaa
