/- Part of a proof that the law FnExactAccounts answers true for every input: texts printed for this program and laws about them. No conditions beyond the statement. -/
import Derived.Test.YtcamhfnfedojjaaP2
import Derived.Test.YtcamhfnfedojjaaP3
set_option maxRecDepth 100000
set_option maxHeartbeats 4000000
namespace Go.Av
theorem acctB_of {a : AcctT} (h : wAcct a ≤ 1048576) : AcctB a := by
  have hw : wAcct a = a.1.length + wL wHold a.2.2.2.2.2.1 + wRing (rgOf a) + wL wSlot a.2.2.2.2.2.2.2.2.2.2.1 := rfl
  have hr : wRing (rgOf a) = a.2.2.2.2.2.2.2.2.1.length + a.2.2.2.2.2.2.2.2.2.1.length := rfl
  have h1 := len_le_wL wHold a.2.2.2.2.2.1
  have h2 := len_le_wL wSlot a.2.2.2.2.2.2.2.2.2.2.1
  refine ⟨by omega, ⟨by omega, fun y hy => ?_⟩, ⟨?_, ?_⟩, by omega, fun y hy => ?_⟩
  · have := mem_le_wL wHold hy
    have e : wHold y = y.1.length := rfl
    omega
  · show a.2.2.2.2.2.2.2.2.1.length ≤ _; omega
  · show a.2.2.2.2.2.2.2.2.2.1.length ≤ _; omega
  · have := mem_le_wL wSlot hy
    have e : wSlot y = y.1.length + y.2.1.length + y.2.2.1.length := rfl
    omega
theorem stb_perm {α : Type} {lt : α → α → Bool} (h : Swo lt) : ∀ {xs ys : List α}, Stb lt xs ys → xs.Perm ys
  | [], ys, hs => by rw [List.length_eq_zero_iff.1 hs.1.symm]
  | x :: xs, ys, hs => by
    have h0 := hs.2 x
    rw [List.filter_cons_of_pos (eqv_self h x)] at h0
    obtain ⟨A, B, rfl, h1, _, h3⟩ := List.filter_eq_cons_iff.1 h0.symm
    refine ((stb_perm h (ys := A ++ B) ⟨by have := hs.1; simp only [List.length_cons, List.length_append] at this ⊢; omega, fun z => ?_⟩).cons x).trans List.perm_middle.symm
    have hz := hs.2 z
    rw [List.filter_append] at hz ⊢
    by_cases hzx : eqv lt z x = true
    · have hA : A.filter (eqv lt z) = [] := List.filter_eq_nil_iff.2 fun a ha hh => h1 a ha (eqv_trans h (eqv_symm hzx) hh)
      rw [List.filter_cons_of_pos hzx, List.filter_cons_of_pos hzx, hA, List.nil_append] at hz
      rw [hA, List.nil_append]
      exact (List.cons.inj hz).2
    · rw [List.filter_cons_of_neg hzx, List.filter_cons_of_neg hzx] at hz
      exact hz
theorem allA_w : ∀ l : List StrT, wL wAcct (allA l) = (l.map wStripe).sum
  | [] => rfl
  | s :: l => by
    have ih := allA_w l
    have e : allA (s :: l) = s.2.1 ++ allA l := by simp [allA]
    have e2 : wStripe s = s.2.1.length + (s.2.1.map wAcct).sum := rfl
    rw [e, List.map_cons, List.sum_cons, ← ih, e2]
    show (s.2.1 ++ allA l).length + ((s.2.1 ++ allA l).map wAcct).sum = s.2.1.length + (s.2.1.map wAcct).sum + ((allA l).length + ((allA l).map wAcct).sum)
    rw [List.length_append, List.map_append, List.sum_append]
    omega
theorem accounts_law (x : List StrT × Int × Int × List (R60) × Unit) (hb : bgWorld x) : g3 x = some ((), ((true, ()), ())) := by
  have hbig : big = 140737488355328 := rfl
  unfold g3
  rw [szWorld x 1048576 (by decide) (by decide) hb]
  dsimp only [cond_false, Option.bind_some]
  by_cases hw : ((wWorld x : Nat) : Int) ≤ 1048576
  rotate_left
  · rw [szR_neg hw]; rfl
  have hw' : wWorld x ≤ 1048576 := by omega
  have hwe : wWorld x = wL wStripe x.1 + wL wTask x.2.2.2.1 := rfl
  have hws : wL wStripe x.1 = x.1.length + (x.1.map wStripe).sum := rfl
  have hA := allA_w x.1
  have hAl := len_le_wL wAcct (allA x.1)
  have hG : GatB x.1 := ⟨by omega, by omega, fun s hs a ha => acctB_of (by
    have h1 := mem_le_wL wStripe hs
    have h2 := mem_le_wL wAcct ha
    have e : wStripe s = wL wAcct s.2.1 := rfl
    omega)⟩
  obtain ⟨M, m1, m2, m3, hs, hm⟩ := gather_eq x.1 hG
  have hp := stb_perm swoA m3
  have hMw : wBook (M, ()) ≤ 1048576 := by
    have e : wBook (M, ()) = M.length + (M.map wAcct).sum := rfl
    have e2 : wL wAcct (allA x.1) = (allA x.1).length + ((allA x.1).map wAcct).sum := rfl
    have := (hp.map wAcct).sum_nat
    omega
  have hs' : g5 x = some ((), ((M, ()), ())) := by unfold g5; rw [hs]; rfl
  have hm' : g7 x = some ((), ((M, ()), ())) := by unfold g7; rw [hm]; rfl
  have c1 := cBook_le (M, ())
  have c2 := cWorld_le x
  have m1 := markWorld x 1 (by decide) (by omega) (by omega)
  have m2 := markBook (M, ()) 1 (by decide) (by omega) (by omega)
  have m3 := heldBook (M, ()) 1 (by decide) (by omega) (by omega)
  have e1 := eqBook (M, ()) (by omega)
  have e2 := eqWorld x (by omega)
  have n1 : ltI (1 + ((cWorld x : Nat) : Int)) 0 = false := ltI_no (by omega)
  have n2 : ltI (1 + ((cBook (M, ()) : Nat) : Int)) 0 = false := ltI_no (by omega)
  rw [szR_pos hw, ltI_no (by omega)]
  simp only [cond_false, cond_true, Option.bind_some, toWorld x hw', hs', hm', e1, e2, m1, m2, m3, n1, n2, eqI_refl, Bool.not_true]
end Go.Av
