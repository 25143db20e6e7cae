/- Part of a proof that the law FnExactAccounts answers true for every input: texts printed for this program and laws about them. No conditions beyond the statement. -/
import Derived.Test.YtcamhfnfedojjaaP4
import Derived.Test.YtcamhfnfedojjaaFw4
import Derived.Test.YtcamhfnfedojjaaRows
set_option maxRecDepth 100000
set_option maxHeartbeats 4000000
namespace Go.Av
theorem bgHold_of (x : ((List UInt8) × Int × Int × Unit)) (h : BgL [.str, .int .i64, .int .i64] x) : bgHold x := h.1
theorem bgSlot_of (x : ((List UInt8) × (List UInt8) × (List R5) × Unit)) (h : BgL [.str, .str, .sl 5 kk5] x) : bgSlot x := ⟨h.1, h.2.1, h.2.2.1.1⟩
theorem bgAcct_of (x : ((List UInt8) × Int × Int × Int × Int × (List R99) × Int × Int × (List R3) × (List R3) × (List R101) × Unit)) (h : BgL [.str, .int .i64, .int .i64, .int .i64, .int .i64, .sl 99 kk99, .int .i64, .int .i64, .sl 3 kk3, .sl 3 kk3, .sl 101 kk101] x) : bgAcct x := ⟨h.1, ⟨h.2.2.2.2.2.1.1, fun y hy => bgHold_of y (h.2.2.2.2.2.1.2 y hy)⟩, ⟨h.2.2.2.2.2.2.2.2.1.1, h.2.2.2.2.2.2.2.2.2.1.1⟩, ⟨h.2.2.2.2.2.2.2.2.2.2.1.1, fun y hy => bgSlot_of y (h.2.2.2.2.2.2.2.2.2.2.1.2 y hy)⟩⟩
theorem bgStripe_of (x : (Int × (List R107) × Unit)) (h : BgL [.int .i64, .sl 107 kk107] x) : bgStripe x := ⟨h.2.1.1, fun y hy => bgAcct_of y (h.2.1.2 y hy)⟩
theorem bgTask_of (x : ((List R5) × Int × (List R3) × Int × Int × Int × Int × Int × (List R5) × Unit)) (h : BgL [.sl 5 kk5, .int .i64, .sl 3 kk3, .int .i64, .int .i64, .int .i64, .int .i64, .int .i64, .sl 5 kk5] x) : bgTask x := ⟨h.1.1, h.2.2.1.1, h.2.2.2.2.2.2.2.2.1.1⟩
theorem bgWorld_of (x : ((List R55) × Int × Int × (List R60) × Unit)) (h : BgL [.sl 55 kk55, .int .i64, .int .i64, .sl 60 kk60] x) : bgWorld x := ⟨⟨h.1.1, fun y hy => bgStripe_of y (h.1.2 y hy)⟩, ⟨h.2.2.2.1.1, fun y hy => bgTask_of y (h.2.2.2.1.2 y hy)⟩⟩
end Go.Av
namespace Go.Proofs.Ytcamhfnfedojjaa
open Go.ChangeShapes Go.WideShapes Go.ChangeAt Go.RowKit Go.Av
theorem Try.own : ownKnob Try.prog.godebug = none := by kernel_rfl
theorem Try.laidOut : laidOutB Try.prog = true := by kernel_rfl
theorem acc_lifted (os : Os) (started : os.Started) (H : Type) (enc : TypeId × Value → H) :
    ReturnsInHanded {} Try.checked os 3 .any (Rows.fnExactAccountsSpec.pre6 enc Try.prog Try.f3 Rows.fnExactAccountsRow.domain false) (Rows.fnExactAccountsSpec.post enc Try.prog Try.f3 false true false false) := by
  refine returnsInHanded_of_change_shaped (C := Try.checked) Try.own started (by kernel_rfl) Try.func3
    (ChangeSpec.witness6 (enc := enc) (C := Try.checked) false ⟨#[], #[.agg #[.slice none 0 0, .int .i64 0, .int .i64 0, .slice none 0 0]], []⟩ 8 (by kernel_rfl) (by kernel_rfl) (by kernel_rfl) (by kernel_rfl)) ?_
  intro W base args ds gs before hval hW hcnd hwt _ _
  have hW' := hW
  obtain ⟨p, q, hA, hV, _, _, _⟩ := hW'
  obtain ⟨rfl, rfl⟩ : gs = [] ∧ q = [] := by
    cases gs with
    | nil => exact ⟨rfl, hV⟩
    | cons _ _ => exact hV.elim
  have hwt2 : ∀ m ∈ DataW.weightsEach Try.prog Try.f3.params.toList ds, m ≤ big := fun m hm => by
    have e : Rows.fnExactAccountsSpec.plain.varTypes Try.checked.prog = [] := rfl
    rw [e, List.append_nil, List.append_nil] at hwt
    have := List.all_eq_true.1 hwt m hm
    have h2 : m ≤ reachBytes := by simpa using this
    exact Nat.le_trans h2 (by decide)
  obtain ⟨x, hx, hbg⟩ := args_all (E := E0) (P := Try.prog) hT Try.f3.params.toList s3.ps (by kernel_rfl) args.toList ds p 0 hA (fun j t v ht hv => hval j t v (by rw [← Array.getElem?_toList]; exact ht) (by rw [← Array.getElem?_toList]; exact hv)) hwt2
  refine (law_calls (P := Try.prog) (c := bodyOf Try.f3) ok3 Try.func3 (by kernel_rfl) (by kernel_rfl) hx ⟨_, accounts_law x.1 (bgWorld_of x.1 hbg.1), fun _ _ _ _ hr => resR_bool hr⟩).mono fun e W' ⟨he, hb⟩ => ⟨_, he, ?_⟩
  have hlen : ds.length = 1 := trod_len _ _ _ _ hA
  obtain ⟨d1, rfl⟩ : ∃ d1, ds = [d1] := by
    match ds, hlen with
    | [d1], _ => exact ⟨d1, rfl⟩
  exact law_post (rt := 4) Try.laidOut rfl (by kernel_rfl) (by kernel_rfl) (by decide +kernel) hW hb rfl
theorem acc_holds : Rows.FnExactAccountsSaid :=
  OpenClaim.holds_of_wide 3 Try.f3 rfl rfl rfl rfl rfl rfl rfl ⟨rfl, rfl, rfl, rfl, rfl⟩ rfl rfl rfl rfl rfl (by kernel_rfl) Try.func3 (by kernel_rfl)
    (of_decide_eq_true (by kernel_rfl)) (by unfold Func.isWrapper; first | (rw [if_pos (by decide +kernel)]; kernel_rfl) | (rw [if_neg (by decide +kernel)]; exact ⟨rfl, rfl⟩))
    (fun os started H enc _ => acc_lifted os started H enc)
end Go.Proofs.Ytcamhfnfedojjaa
#print axioms Go.Proofs.Ytcamhfnfedojjaa.acc_holds
