/- Part of a proof that the law FnExactMore answers true for every input: the printed functions of this program and their plain laws. No conditions beyond the statement. -/
import Derived.Test.YthppnigdofgojaaGreatP4
import Derived.Test.YthppnigdofgojaaGreatFw4
import Derived.Test.YthppnigdofgojaaGreatRows
set_option maxRecDepth 100000
set_option maxHeartbeats 4000000
namespace Go.Av
end Go.Av
namespace Go.Proofs.YthppnigdofgojaaGreat
open Go.ChangeShapes Go.WideShapes Go.ChangeAt Go.RowKit Go.Av
theorem Tryz.own : ownKnob Tryz.prog.godebug = none := by kernel_rfl
theorem Tryz.laidOut : laidOutB Tryz.prog = true := by kernel_rfl
theorem more_lifted (os : Os) (started : os.Started) (H : Type) (enc : TypeId × Value → H) :
    ReturnsInHanded {} Tryz.checked os 3 .any (Rows.fnExactMoreSpec.pre6 enc Tryz.prog Tryz.f3 Rows.fnExactMoreRow.domain false) (Rows.fnExactMoreSpec.post enc Tryz.prog Tryz.f3 false true false false) := by
  refine returnsInHanded_of_change_shaped (C := Tryz.checked) Tryz.own started (by kernel_rfl) Tryz.func3
    (ChangeSpec.witness6 (enc := enc) (C := Tryz.checked) false ⟨#[], #[.agg #[.string ⟨#[]⟩, .int .i64 0, .int .i64 0, .int .i64 0, .int .i64 0, .slice none 0 0, .int .i64 0, .int .i64 0, .slice none 0 0, .slice none 0 0, .slice none 0 0], .string ⟨#[]⟩, .int .i64 0, .int .i64 0], []⟩ 8 (by kernel_rfl) (by kernel_rfl) (by kernel_rfl) (by kernel_rfl)) ?_
  intro W base args ds gs before hval hW hcnd hwt _ _
  have hW' := hW
  obtain ⟨p, q, hA, hV, _, _, _⟩ := hW'
  obtain ⟨rfl, rfl⟩ : gs = [] ∧ q = [] := by
    cases gs with
    | nil => exact ⟨rfl, hV⟩
    | cons _ _ => exact hV.elim
  have hwt2 : ∀ m ∈ DataW.weightsEach Tryz.prog Tryz.f3.params.toList ds, m ≤ big := fun m hm => by
    have e : Rows.fnExactMoreSpec.plain.varTypes Tryz.checked.prog = [] := rfl
    rw [e, List.append_nil, List.append_nil] at hwt
    have := List.all_eq_true.1 hwt m hm
    have h2 : m ≤ reachBytes := by simpa using this
    exact Nat.le_trans h2 (by decide)
  obtain ⟨x, hx, hbg⟩ := args_all (E := E0) (P := Tryz.prog) hT Tryz.f3.params.toList s3.ps (by kernel_rfl) args.toList ds p 0 hA (fun j t v ht hv => hval j t v (by rw [← Array.getElem?_toList]; exact ht) (by rw [← Array.getElem?_toList]; exact hv)) hwt2
  have hacct : bgAcct x.1 := by
    obtain ⟨a1, _, _, _, _, ⟨a2, a3⟩, _, _, ⟨a4, _⟩, ⟨a5, _⟩, ⟨a6, a7⟩, _⟩ := hbg.1
    exact ⟨a1, ⟨a2, fun y hy => (a3 y hy).1⟩, ⟨a4, a5⟩, a6, fun y hy => ⟨(a7 y hy).1, (a7 y hy).2.1, (a7 y hy).2.2.1.1⟩⟩
  refine (law_calls (P := Tryz.prog) (c := bodyOf Tryz.f3) ok3 Tryz.func3 (by kernel_rfl) (by kernel_rfl) hx ⟨_, more_law x.1 x.2.1.1 x.2.2.1.1 x.2.2.2.1.1 hacct hbg.2.1.1, fun _ _ _ _ hr => resR_bool hr⟩).mono fun e W' ⟨he, hb⟩ => ⟨_, he, ?_⟩
  have hds : ∃ d1 d2 d3 d4, ds = [d1, d2, d3, d4] := by
    obtain ⟨_, _, _, _, d1, d2, d3, d4, _, _, _, _, _, rfl, _⟩ := trodAll_four (args := args) hA
    exact ⟨d1, d2, d3, d4, rfl⟩
  obtain ⟨d1, d2, d3, d4, rfl⟩ := hds
  exact law_post (rt := 4) Tryz.laidOut rfl (by kernel_rfl) (by kernel_rfl) (by decide +kernel) hW hb rfl
theorem more_holds : Rows.FnExactMoreSaid :=
  OpenClaim.holds_of_wide 3 Tryz.f3 rfl rfl rfl rfl rfl rfl rfl ⟨rfl, rfl, rfl, rfl, rfl⟩ rfl rfl rfl rfl rfl (by kernel_rfl) Tryz.func3 (by kernel_rfl)
    (of_decide_eq_true (by kernel_rfl)) (by unfold Func.isWrapper; first | (rw [if_pos (by decide +kernel)]; kernel_rfl) | (rw [if_neg (by decide +kernel)]; exact ⟨rfl, rfl⟩))
    (fun os started H enc _ => more_lifted os started H enc)
end Go.Proofs.YthppnigdofgojaaGreat
#print axioms Go.Proofs.YthppnigdofgojaaGreat.more_holds
namespace Go.Av

end Go.Av

