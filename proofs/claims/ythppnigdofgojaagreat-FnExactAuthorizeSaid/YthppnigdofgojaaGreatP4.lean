/- Part of a proof that the law FnExactAuthorize answers true for every input: the printed functions of this program and their plain laws. No conditions beyond the statement. -/
import Derived.Test.YthppnigdofgojaaGreatP2
import Derived.Test.YthppnigdofgojaaGreatP3
set_option maxRecDepth 100000
set_option maxHeartbeats 4000000
namespace Go.Av
/-! ### the law -/
theorem acctB_of {a : AcctT} (h : wAcct a ≤ 1048576) : AcctB a := by
  have hw : wAcct a = a.1.length + wL wHold a.2.2.2.2.2.1 + wRing (rgOf a) + wL wSlot a.2.2.2.2.2.2.2.2.2.2.1 := rfl
  have hr : wRing (rgOf a) = a.2.2.2.2.2.2.2.2.1.length + a.2.2.2.2.2.2.2.2.2.1.length := rfl
  have h1 := len_le_wL wHold a.2.2.2.2.2.1
  have h2 := len_le_wL wSlot a.2.2.2.2.2.2.2.2.2.2.1
  refine ⟨by omega, ⟨by omega, fun y hy => ?_⟩, ⟨?_, ?_⟩, by omega, fun y hy => ?_⟩
  · have := mem_le_wL wHold hy
    have e : wHold y = y.1.length := rfl
    omega
  · show a.2.2.2.2.2.2.2.2.1.length ≤ _; omega
  · show a.2.2.2.2.2.2.2.2.2.1.length ≤ _; omega
  · have := mem_le_wL wSlot hy
    have e : wSlot y = y.1.length + y.2.1.length + y.2.2.1.length := rfl
    omega
theorem swept_w (a : AcctT) (now : Int) : wAcct (sweptM a now) ≤ wAcct a := by
  unfold sweptM
  have hw : wAcct a = a.1.length + wL wHold a.2.2.2.2.2.1 + wRing (rgOf a) + wL wSlot a.2.2.2.2.2.2.2.2.2.2.1 := rfl
  cases acctM a with
  | false => exact Nat.le_refl _
  | true =>
    cases timeM now with
    | false => exact Nat.le_refl _
    | true =>
      have := wL_filter wHold (liveM now) a.2.2.2.2.2.1
      show a.1.length + wL wHold (a.2.2.2.2.2.1.filter (liveM now)) + wRing (rgOf a) + wL wSlot a.2.2.2.2.2.2.2.2.2.2.1 ≤ _
      omega

theorem put_w (xs : List HoldT) (h : HoldT) : wL wHold (holdPutM xs h).1 ≤ wL wHold xs + 1 + h.1.length := by
  have h0 : wL wHold ([] : List HoldT) = 0 := rfl
  unfold holdPutM
  cases holdsM xs with
  | false => simp only [cond_false]; omega
  | true =>
    cases holdsM (putM xs h) with
    | false => simp only [cond_true, cond_false]; omega
    | true =>
      simp only [cond_true]
      have e1 : cL wHold (putM xs h) = cL wHold (xs.takeWhile (ltH h)) + (wHold h + cL wHold ((xs.dropWhile (ltH h)).filter (keepM h.1))) := by
        unfold putM cL
        simp only [List.map_append, List.sum_append, List.map_cons, List.sum_cons]
      have e2 := cL_filter wHold (keepM h.1) (xs.dropWhile (ltH h))
      have e3 : cL wHold xs = cL wHold (xs.takeWhile (ltH h)) + cL wHold (xs.dropWhile (ltH h)) := by
        have : xs = xs.takeWhile (ltH h) ++ xs.dropWhile (ltH h) := List.takeWhile_append_dropWhile.symm
        conv => lhs; rw [this]
        simp only [cL, List.map_append, List.sum_append]
      have e4 := put_len xs h
      have e5 : wHold h = h.1.length := rfl
      show (putM xs h).length + cL wHold (putM xs h) ≤ (xs.length + cL wHold xs) + 1 + h.1.length
      omega

theorem auth_w (a : AcctT) (id : List UInt8) (amt ttl now : Int) : wAcct (authM a id amt ttl now).1 ≤ wAcct a + 1 + id.length := by
  have h0 : wAcct acct0 ≤ wAcct a := Nat.le_trans (Nat.le_of_eq rfl) (Nat.zero_le _)
  have hs := swept_w a now
  unfold authM
  generalize sweptM a now = s at hs ⊢
  cases cond (acctM a) (cond (timeM now) (holdIdM id) false) false with
  | false => simp only [cond_false]; omega
  | true =>
  cases inM amt 1 9007199254740992 with
  | false => simp only [cond_true, cond_false]; omega
  | true =>
  cases (cond (!inM ttl 1 9999) true (ltI 1000000000 (addW .i64 now ttl))) with
  | true => simp only [cond_true, cond_false]; omega
  | false =>
  cases leI 0 (holdAtM s.2.2.2.2.2.1 id) with
  | true => simp only [cond_true, cond_false]; omega
  | false =>
  cases eqI (lenI s.2.2.2.2.2.1) 4 with
  | true => simp only [cond_true, cond_false]; omega
  | false =>
  cases eqI (fitsM s amt now) 0 with
  | false => simp only [cond_true, cond_false]; omega
  | true =>
    simp only [cond_true, cond_false]
    have hw : wAcct s = s.1.length + wL wHold s.2.2.2.2.2.1 + wRing (rgOf s) + wL wSlot s.2.2.2.2.2.2.2.2.2.2.1 := rfl
    have hl := ringAdd_len (rgOf s) now amt
    have e1 := put_w s.2.2.2.2.2.1 (id, amt, addW .i64 now ttl, ())
    have e2 : wRing (rgOf s) = (rgOf s).2.2.1.length + (rgOf s).2.2.2.1.length := rfl
    show s.1.length + wL wHold (holdPutM s.2.2.2.2.2.1 (id, amt, addW .i64 now ttl, ())).1 + ((ringAddM (rgOf s) now amt).2.2.1.length + (ringAddM (rgOf s) now amt).2.2.2.1.length) + wL wSlot s.2.2.2.2.2.2.2.2.2.2.1 ≤ _
    simp only at e1
    omega
theorem auth_law (a : AcctT) (id : List UInt8) (amt ttl now : Int) (hb : bgAcct a) (hi : id.length ≤ big) : g6 a id amt ttl now = some ((), ((true, ()), ())) := by
  have hbig : big = 140737488355328 := rfl
  unfold g6
  by_cases hl : 1048576 < lenI id
  · rw [ltI_yes hl]; rfl
  rw [ltI_no hl, szAcct a 1048576 (by decide) (by decide) hb]
  dsimp only [cond_false, Option.bind_some]
  by_cases hw : ((wAcct a : Nat) : Int) ≤ 1048576
  rotate_left
  · rw [szR_neg hw]; rfl
  have hw' : wAcct a ≤ 1048576 := by omega
  have hi' : id.length ≤ 1048576 := by unfold lenI at hl; omega
  have hab := acctB_of hw'
  have hqw := auth_w a id amt ttl now
  have hs := auth_s a id amt ttl now hab hi'
  have hm := auth_i a id amt ttl now hab hi'
  generalize hq : (authM a id amt ttl now).1 = q at hqw hs hm
  generalize hc : (authM a id amt ttl now).2 = c at hs hm
  have c1 := cAcct_le a
  have c2 := cAcct_le q
  have m1 := markAcct a 1 (by decide) (by omega) (by omega)
  have m2 := markAcct q 1 (by decide) (by omega) (by omega)
  have m3 := heldAcct q 1 (by decide) (by omega) (by omega)
  have m3' : g13 (q.1, q.2.1, q.2.2.1, q.2.2.2.1, q.2.2.2.2.1, (mkAcct q 1).2.2.2.2.2.1, q.2.2.2.2.2.2.1, q.2.2.2.2.2.2.2.1, (mkAcct q 1).2.2.2.2.2.2.2.2.1, (mkAcct q 1).2.2.2.2.2.2.2.2.2.1, (mkAcct q 1).2.2.2.2.2.2.2.2.2.2.1, ()) 1 = _ := m3
  have e1 := eqAcct q (by omega)
  have e2 := eqAcct a (by omega)
  have n1 : ltI (1 + ((cAcct a : Nat) : Int)) 0 = false := ltI_no (by omega)
  have n2 : ltI (1 + ((cAcct q : Nat) : Int)) 0 = false := ltI_no (by omega)
  rw [szR_pos hw, ltI_no (by omega)]
  simp only [cond_false, cond_true, Option.bind_some, toAcct a hw', hs, hm, e1, e2, m1, m2, m3', n1, n2, eqI_refl, Bool.not_true]

end Go.Av

