/- Part of a proof that the law FnExactMore answers true for every input: the printed functions of this program and their plain laws. No conditions beyond the statement. -/
import Derived.Test.YthppnigdofgojaaGreatP2
import Derived.Test.YthppnigdofgojaaGreatP3
set_option maxRecDepth 100000
set_option maxHeartbeats 4000000
namespace Go.Av
/-! ### the law -/
theorem acctB_of {a : AcctT} (h : wAcct a ≤ 1048576) : AcctB a := by
  have hw : wAcct a = a.1.length + wL wHold a.2.2.2.2.2.1 + wRing (rgOf a) + wL wSlot a.2.2.2.2.2.2.2.2.2.2.1 := rfl
  have hr : wRing (rgOf a) = a.2.2.2.2.2.2.2.2.1.length + a.2.2.2.2.2.2.2.2.2.1.length := rfl
  have h1 := len_le_wL wHold a.2.2.2.2.2.1
  have h2 := len_le_wL wSlot a.2.2.2.2.2.2.2.2.2.2.1
  refine ⟨by omega, ⟨by omega, fun y hy => ?_⟩, ⟨?_, ?_⟩, by omega, fun y hy => ?_⟩
  · have := mem_le_wL wHold hy
    have e : wHold y = y.1.length := rfl
    omega
  · show a.2.2.2.2.2.2.2.2.1.length ≤ _; omega
  · show a.2.2.2.2.2.2.2.2.2.1.length ≤ _; omega
  · have := mem_le_wL wSlot hy
    have e : wSlot y = y.1.length + y.2.1.length + y.2.2.1.length := rfl
    omega
theorem swept_w (a : AcctT) (now : Int) : wAcct (sweptM a now) ≤ wAcct a := by
  unfold sweptM
  have hw : wAcct a = a.1.length + wL wHold a.2.2.2.2.2.1 + wRing (rgOf a) + wL wSlot a.2.2.2.2.2.2.2.2.2.2.1 := rfl
  cases acctM a with
  | false => exact Nat.le_refl _
  | true =>
    cases timeM now with
    | false => exact Nat.le_refl _
    | true =>
      have := wL_filter wHold (liveM now) a.2.2.2.2.2.1
      show a.1.length + wL wHold (a.2.2.2.2.2.1.filter (liveM now)) + wRing (rgOf a) + wL wSlot a.2.2.2.2.2.2.2.2.2.2.1 ≤ _
      omega
theorem more_w (a : AcctT) (id : List UInt8) (amt now : Int) : wAcct (moreM a id amt now).1 ≤ wAcct a := by
  have h0 : wAcct acct0 ≤ wAcct a := Nat.le_trans (Nat.le_of_eq rfl) (Nat.zero_le _)
  have hs := swept_w a now
  unfold moreM
  cases cond (acctM a) (cond (timeM now) (holdIdM id) false) false with
  | false => exact h0
  | true =>
    cases inM amt 1 9007199254740992 with
    | false => exact h0
    | true =>
      generalize sweptM a now = s at hs ⊢
      by_cases hat : holdAtM s.2.2.2.2.2.1 id < 0
      · rw [ltI_yes hat]; exact h0
      · rw [ltI_no hat]
        cases eqI (fitsM s amt now) 0 with
        | false => exact h0
        | true =>
          have hw : wAcct s = s.1.length + wL wHold s.2.2.2.2.2.1 + wRing (rgOf s) + wL wSlot s.2.2.2.2.2.2.2.2.2.2.1 := rfl
          have hl := ringAdd_len (rgOf s) now amt
          have e1 := wL_stI wHold (xs := s.2.2.2.2.2.1) (k := holdAtM s.2.2.2.2.2.1 id) (y := ((gt ([], 0, 0, ()) s.2.2.2.2.2.1 (holdAtM s.2.2.2.2.2.1 id)).1, addW .i64 (gt ([], 0, 0, ()) s.2.2.2.2.2.1 (holdAtM s.2.2.2.2.2.1 id)).2.1 amt, (gt ([], 0, 0, ()) s.2.2.2.2.2.1 (holdAtM s.2.2.2.2.2.1 id)).2.2.1, ())) ([], 0, 0, ()) (holdAt_in hat) rfl
          have e2 : wRing (rgOf s) = (rgOf s).2.2.1.length + (rgOf s).2.2.2.1.length := rfl
          show s.1.length + wL wHold (stI s.2.2.2.2.2.1 (holdAtM s.2.2.2.2.2.1 id) _) + ((ringAddM (rgOf s) now amt).2.2.1.length + (ringAddM (rgOf s) now amt).2.2.2.1.length) + wL wSlot s.2.2.2.2.2.2.2.2.2.2.1 ≤ _
          rw [e1]
          omega
theorem more_law (a : AcctT) (id : List UInt8) (amt now : Int) (hb : bgAcct a) (hi : id.length ≤ big) : g3 a id amt now = some ((), ((true, ()), ())) := by
  have hbig : big = 140737488355328 := rfl
  unfold g3
  by_cases hl : 1048576 < lenI id
  · rw [ltI_yes hl]; rfl
  rw [ltI_no hl, szAcct a 1048576 (by decide) (by decide) hb]
  dsimp only [cond_false, Option.bind_some]
  by_cases hw : ((wAcct a : Nat) : Int) ≤ 1048576
  rotate_left
  · rw [szR_neg hw]; rfl
  have hw' : wAcct a ≤ 1048576 := by omega
  have hi' : id.length ≤ 1048576 := by unfold lenI at hl; omega
  have hab := acctB_of hw'
  have hqw := more_w a id amt now
  have hs := more_s a id amt now hab hi'
  have hm := more_i a id amt now hab hi'
  generalize hq : (moreM a id amt now).1 = q at hqw hs hm
  generalize hc : (moreM a id amt now).2 = c at hs hm
  have c1 := cAcct_le a
  have c2 := cAcct_le q
  have m1 := markAcct a 1 (by decide) (by omega) (by omega)
  have m2 := markAcct q 1 (by decide) (by omega) (by omega)
  have m3 := heldAcct q 1 (by decide) (by omega) (by omega)
  have m3' : g13 (q.1, q.2.1, q.2.2.1, q.2.2.2.1, q.2.2.2.2.1, (mkAcct q 1).2.2.2.2.2.1, q.2.2.2.2.2.2.1, q.2.2.2.2.2.2.2.1, (mkAcct q 1).2.2.2.2.2.2.2.2.1, (mkAcct q 1).2.2.2.2.2.2.2.2.2.1, (mkAcct q 1).2.2.2.2.2.2.2.2.2.2.1, ()) 1 = _ := m3
  have e1 := eqAcct q (by omega)
  have e2 := eqAcct a (by omega)
  have n1 : ltI (1 + ((cAcct a : Nat) : Int)) 0 = false := ltI_no (by omega)
  have n2 : ltI (1 + ((cAcct q : Nat) : Int)) 0 = false := ltI_no (by omega)
  rw [szR_pos hw, ltI_no (by omega)]
  simp only [cond_false, cond_true, Option.bind_some, toAcct a hw', hs, hm, e1, e2, m1, m2, m3', n1, n2, eqI_refl, Bool.not_true]

end Go.Av

