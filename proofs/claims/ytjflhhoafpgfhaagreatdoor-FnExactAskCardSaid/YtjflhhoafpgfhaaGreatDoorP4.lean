/- Part of a proof that the law FnExactAsk answers true for every input: the printed functions of this program and their plain laws. No conditions beyond the statement. -/
import Derived.Test.YtjflhhoafpgfhaaGreatDoorP2
import Derived.Test.YtjflhhoafpgfhaaGreatDoorP3
set_option maxRecDepth 100000
set_option maxHeartbeats 4000000
namespace Go.Av
theorem acctB_of {a : AcctT} (h : wAcct a ≤ 1048576) : AcctB a := by
  have hw : wAcct a = a.1.length + wL wHold a.2.2.2.2.2.1 + wRing (rgOf a) + wL wSlot a.2.2.2.2.2.2.2.2.2.2.1 := rfl
  have hr : wRing (rgOf a) = a.2.2.2.2.2.2.2.2.1.length + a.2.2.2.2.2.2.2.2.2.1.length := rfl
  have h1 := len_le_wL wHold a.2.2.2.2.2.1
  have h2 := len_le_wL wSlot a.2.2.2.2.2.2.2.2.2.2.1
  refine ⟨by omega, ⟨by omega, fun y hy => ?_⟩, ⟨?_, ?_⟩, by omega, fun y hy => ?_⟩
  · have := mem_le_wL wHold hy
    have e : wHold y = y.1.length := rfl
    omega
  · show a.2.2.2.2.2.2.2.2.1.length ≤ _; omega
  · show a.2.2.2.2.2.2.2.2.2.1.length ≤ _; omega
  · have := mem_le_wL wSlot hy
    have e : wSlot y = y.1.length + y.2.1.length + y.2.2.1.length := rfl
    omega
theorem ask_law (a : AcctT) (now : Int) (hb : bgAcct a) : g3 a now = some ((), ((true, ()), ())) := by
  unfold g3
  rw [szAcct a 1048576 (by decide) (by decide) hb]
  dsimp only [cond_false, Option.bind_some]
  by_cases hw : ((wAcct a : Nat) : Int) ≤ 1048576
  rotate_left
  · rw [szR_neg hw]; rfl
  have hw' : wAcct a ≤ 1048576 := by omega
  have hab := acctB_of hw'
  have hs := ask_s a now hab
  have hm := ask_i a now hab
  have e2 := eqAcct a (by omega)
  rw [szR_pos hw, ltI_no (by omega)]
  simp only [cond_false, cond_true, Option.bind_some, toAcct a hw', hs, hm, e2, eqI_refl, eqS_refl, Bool.not_true]
end Go.Av

