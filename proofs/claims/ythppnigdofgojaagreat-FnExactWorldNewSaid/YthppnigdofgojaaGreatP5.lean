/- The law FnExactWorldNew answers true for every input, and its arguments read as they did. No conditions beyond the statement. -/
import Derived.Test.YthppnigdofgojaaGreatP4
import Derived.Test.YthppnigdofgojaaGreatFw4
import Derived.Test.YthppnigdofgojaaGreatRows
set_option maxRecDepth 100000
set_option maxHeartbeats 4000000
namespace Go.Av
theorem bgHold_of (x : ((List UInt8) × Int × Int × Unit)) (h : BgL [.str, .int .i64, .int .i64] x) : bgHold x := h.1
theorem bgSlot_of (x : ((List UInt8) × (List UInt8) × (List R5) × Unit)) (h : BgL [.str, .str, .sl 5 kk5] x) : bgSlot x := ⟨h.1, h.2.1, h.2.2.1.1⟩
theorem bgAcct_of (x : ((List UInt8) × Int × Int × Int × Int × (List R103) × Int × Int × (List R3) × (List R3) × (List R108) × Unit)) (h : BgL [.str, .int .i64, .int .i64, .int .i64, .int .i64, .sl 103 kk103, .int .i64, .int .i64, .sl 3 kk3, .sl 3 kk3, .sl 108 kk108] x) : bgAcct x := ⟨h.1, ⟨h.2.2.2.2.2.1.1, fun y hy => bgHold_of y (h.2.2.2.2.2.1.2 y hy)⟩, ⟨h.2.2.2.2.2.2.2.2.1.1, h.2.2.2.2.2.2.2.2.2.1.1⟩, ⟨h.2.2.2.2.2.2.2.2.2.2.1.1, fun y hy => bgSlot_of y (h.2.2.2.2.2.2.2.2.2.2.1.2 y hy)⟩⟩
theorem bgBook_of (x : ((List R28) × Unit)) (h : BgL [.sl 28 kk28] x) : bgBook x := ⟨h.1.1, fun y hy => bgAcct_of y (h.1.2 y hy)⟩
end Go.Av
namespace Go.Proofs.YthppnigdofgojaaGreat
open Go.ChangeShapes Go.WideShapes Go.ChangeAt Go.RowKit Go.Av
theorem Tryz.own : ownKnob Tryz.prog.godebug = none := by kernel_rfl
theorem Tryz.laidOut : laidOutB Tryz.prog = true := by kernel_rfl
theorem wnew_lifted (os : Os) (started : os.Started) (H : Type) (enc : TypeId × Value → H) :
    ReturnsInHanded {} Tryz.checked os 5 .any (Rows.fnExactWorldNewSpec.pre6 enc Tryz.prog Tryz.f5 Rows.fnExactWorldNewRow.domain false) (Rows.fnExactWorldNewSpec.post enc Tryz.prog Tryz.f5 false true false false) := by
  refine returnsInHanded_of_change_shaped (C := Tryz.checked) Tryz.own started (by kernel_rfl) Tryz.func5
    (ChangeSpec.witness6 (enc := enc) (C := Tryz.checked) false ⟨#[], #[.agg #[.slice none 0 0], .int .i64 0], []⟩ 8 (by kernel_rfl) (by kernel_rfl) (by kernel_rfl) (by kernel_rfl)) ?_
  intro W base args ds gs before hval hW hcnd hwt _ _
  have hW' := hW
  obtain ⟨p, q, hA, hV, _, _, _⟩ := hW'
  obtain ⟨rfl, rfl⟩ : gs = [] ∧ q = [] := by
    cases gs with
    | nil => exact ⟨rfl, hV⟩
    | cons _ _ => exact hV.elim
  have hwt2 : ∀ m ∈ DataW.weightsEach Tryz.prog Tryz.f5.params.toList ds, m ≤ big := fun m hm => by
    have e : Rows.fnExactWorldNewSpec.plain.varTypes Tryz.checked.prog = [] := rfl
    rw [e, List.append_nil, List.append_nil] at hwt
    have := List.all_eq_true.1 hwt m hm
    have h2 : m ≤ reachBytes := by simpa using this
    exact Nat.le_trans h2 (by decide)
  obtain ⟨x, hx, hbg⟩ := args_all (E := E0) (P := Tryz.prog) hT Tryz.f5.params.toList s5.ps (by kernel_rfl) args.toList ds p 0 hA (fun j t v ht hv => hval j t v (by rw [← Array.getElem?_toList]; exact ht) (by rw [← Array.getElem?_toList]; exact hv)) hwt2
  refine (law_calls (P := Tryz.prog) (c := bodyOf Tryz.f5) ok5 Tryz.func5 (by kernel_rfl) (by kernel_rfl) hx ⟨_, world_law x.1 x.2.1.1 (bgBook_of x.1 hbg.1), fun _ _ _ _ hr => resR_bool hr⟩).mono fun e W' ⟨he, hb⟩ => ⟨_, he, ?_⟩
  have hlen : ds.length = 2 := trod_len _ _ _ _ hA
  obtain ⟨d1, d2, rfl⟩ : ∃ d1 d2, ds = [d1, d2] := by
    match ds, hlen with
    | [d1, d2], _ => exact ⟨d1, d2, rfl⟩
  exact law_post (rt := 4) Tryz.laidOut rfl (by kernel_rfl) (by kernel_rfl) (by decide +kernel) hW hb rfl
theorem wnew_holds : Rows.FnExactWorldNewSaid :=
  OpenClaim.holds_of_wide 5 Tryz.f5 rfl rfl rfl rfl rfl rfl rfl ⟨rfl, rfl, rfl, rfl, rfl⟩ rfl rfl rfl rfl rfl (by kernel_rfl) Tryz.func5 (by kernel_rfl)
    (of_decide_eq_true (by kernel_rfl)) (by unfold Func.isWrapper; first | (rw [if_pos (by decide +kernel)]; kernel_rfl) | (rw [if_neg (by decide +kernel)]; exact ⟨rfl, rfl⟩))
    (fun os started H enc _ => wnew_lifted os started H enc)
end Go.Proofs.YthppnigdofgojaaGreat
#print axioms Go.Proofs.YthppnigdofgojaaGreat.wnew_holds

