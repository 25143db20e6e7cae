/- Part of a proof that the law FnExactMove answers true for every input: the printed functions of this program and their plain laws. No conditions beyond the statement. -/
import Derived.Test.YthppnigdofgojaaGreatP2
import Derived.Test.YthppnigdofgojaaGreatP3
set_option maxRecDepth 100000
set_option maxHeartbeats 4000000
namespace Go.Av
/-! ### the law -/
theorem acctB_of {a : AcctT} (h : wAcct a ≤ 1048576) : AcctB a := by
  have hw : wAcct a = a.1.length + wL wHold a.2.2.2.2.2.1 + wRing (rgOf a) + wL wSlot a.2.2.2.2.2.2.2.2.2.2.1 := rfl
  have hr : wRing (rgOf a) = a.2.2.2.2.2.2.2.2.1.length + a.2.2.2.2.2.2.2.2.2.1.length := rfl
  have h1 := len_le_wL wHold a.2.2.2.2.2.1
  have h2 := len_le_wL wSlot a.2.2.2.2.2.2.2.2.2.2.1
  refine ⟨by omega, ⟨by omega, fun y hy => ?_⟩, ⟨?_, ?_⟩, by omega, fun y hy => ?_⟩
  · have := mem_le_wL wHold hy
    have e : wHold y = y.1.length := rfl
    omega
  · show a.2.2.2.2.2.2.2.2.1.length ≤ _; omega
  · show a.2.2.2.2.2.2.2.2.2.1.length ≤ _; omega
  · have := mem_le_wL wSlot hy
    have e : wSlot y = y.1.length + y.2.1.length + y.2.2.1.length := rfl
    omega
theorem swept_w (a : AcctT) (now : Int) : wAcct (sweptM a now) ≤ wAcct a := by
  unfold sweptM
  have hw : wAcct a = a.1.length + wL wHold a.2.2.2.2.2.1 + wRing (rgOf a) + wL wSlot a.2.2.2.2.2.2.2.2.2.2.1 := rfl
  cases acctM a with
  | false => exact Nat.le_refl _
  | true =>
    cases timeM now with
    | false => exact Nat.le_refl _
    | true =>
      have := wL_filter wHold (liveM now) a.2.2.2.2.2.1
      show a.1.length + wL wHold (a.2.2.2.2.2.1.filter (liveM now)) + wRing (rgOf a) + wL wSlot a.2.2.2.2.2.2.2.2.2.2.1 ≤ _
      omega

theorem put_w (xs : List HoldT) (h : HoldT) : wL wHold (holdPutM xs h).1 ≤ wL wHold xs + 1 + h.1.length := by
  have h0 : wL wHold ([] : List HoldT) = 0 := rfl
  unfold holdPutM
  cases holdsM xs with
  | false => simp only [cond_false]; omega
  | true =>
    cases holdsM (putM xs h) with
    | false => simp only [cond_true, cond_false]; omega
    | true =>
      simp only [cond_true]
      have e1 : cL wHold (putM xs h) = cL wHold (xs.takeWhile (ltH h)) + (wHold h + cL wHold ((xs.dropWhile (ltH h)).filter (keepM h.1))) := by
        unfold putM cL
        simp only [List.map_append, List.sum_append, List.map_cons, List.sum_cons]
      have e2 := cL_filter wHold (keepM h.1) (xs.dropWhile (ltH h))
      have e3 : cL wHold xs = cL wHold (xs.takeWhile (ltH h)) + cL wHold (xs.dropWhile (ltH h)) := by
        have : xs = xs.takeWhile (ltH h) ++ xs.dropWhile (ltH h) := List.takeWhile_append_dropWhile.symm
        conv => lhs; rw [this]
        simp only [cL, List.map_append, List.sum_append]
      have e4 := put_len xs h
      have e5 : wHold h = h.1.length := rfl
      show (putM xs h).length + cL wHold (putM xs h) ≤ (xs.length + cL wHold xs) + 1 + h.1.length
      omega

theorem wHolds_w (a : AcctT) (l : List HoldT) {n : Nat} (h : wL wHold l ≤ wL wHold a.2.2.2.2.2.1 + n) : wAcct (wHolds a l) ≤ wAcct a + n := by
  have hw : wAcct a = a.1.length + wL wHold a.2.2.2.2.2.1 + wRing (rgOf a) + wL wSlot a.2.2.2.2.2.2.2.2.2.2.1 := rfl
  show a.1.length + wL wHold l + wRing (rgOf a) + wL wSlot a.2.2.2.2.2.2.2.2.2.2.1 ≤ _
  omega
theorem move_w (a b : AcctT) (id : List UInt8) (now : Int) (hb : AcctB a) : wAcct (moveM a b id now).1 ≤ wAcct a ∧ wAcct (moveM a b id now).2.1 ≤ wAcct b + 1 + 1048576 := by
  have h0 : wAcct acct0 = 0 := rfl
  have hs := swept_w a now
  have ht := swept_w b now
  have hsb := swept_b now hb
  unfold moveM
  generalize sweptM a now = s at hs hsb ⊢
  generalize sweptM b now = t at ht ⊢
  cases cond (acctM a) (cond (timeM now) (holdIdM id) false) false with
  | false => simp only [cond_false]; omega
  | true =>
  cases acctM b with
  | false => simp only [cond_true, cond_false]; omega
  | true =>
  cases eqS a.1 b.1 with
  | true => simp only [cond_true, cond_false]; omega
  | false =>
  cases ltI (holdAtM s.2.2.2.2.2.1 id) 0 with
  | true => simp only [cond_true, cond_false]; omega
  | false =>
  cases leI 0 (holdAtM t.2.2.2.2.2.1 id) with
  | true => simp only [cond_true, cond_false]; omega
  | false =>
  cases eqI (lenI t.2.2.2.2.2.1) 4 with
  | true => simp only [cond_true, cond_false]; omega
  | false =>
  cases ltI (roomM t now) (gt hd0 s.2.2.2.2.2.1 (holdAtM s.2.2.2.2.2.1 id)).2.1 with
  | true => simp only [cond_true, cond_false]; omega
  | false =>
    simp only [cond_true, cond_false]
    have hg := gt_hd (k := holdAtM s.2.2.2.2.2.1 id) hsb.2.1.2
    have e1 := put_w t.2.2.2.2.2.1 (gt hd0 s.2.2.2.2.2.1 (holdAtM s.2.2.2.2.2.1 id))
    have w1 := wHolds_w s (s.2.2.2.2.2.1.filter (keepM id)) (n := 0) (wL_filter wHold (keepM id) s.2.2.2.2.2.1)
    have w2 := wHolds_w t (holdPutM t.2.2.2.2.2.1 (gt hd0 s.2.2.2.2.2.1 (holdAtM s.2.2.2.2.2.1 id))).1 (n := 1 + 1048576) (by omega)
    omega
theorem move_law (a b : AcctT) (id : List UInt8) (now : Int) (hb : bgAcct a) (hb2 : bgAcct b) (hi : id.length ≤ big) : g4 a b id now = some ((), ((true, ()), ())) := by
  have hbig : big = 140737488355328 := rfl
  unfold g4
  by_cases hl : 1048576 < lenI id
  · rw [ltI_yes hl]; rfl
  rw [ltI_no hl, szAcct a 1048576 (by decide) (by decide) hb]
  dsimp only [cond_false, Option.bind_some]
  by_cases hw : ((wAcct a : Nat) : Int) ≤ 1048576
  rotate_left
  · rw [szR_neg hw]; rfl
  rw [szR_pos hw, ltI_no (by omega), szAcct b (1048576 - ((wAcct a : Nat) : Int)) (by omega) (by omega) hb2]
  dsimp only [cond_false, Option.bind_some]
  by_cases hv : ((wAcct b : Nat) : Int) ≤ 1048576 - ((wAcct a : Nat) : Int)
  rotate_left
  · rw [szR_neg hv]; rfl
  have hw' : wAcct a ≤ 1048576 := by omega
  have hv' : wAcct b ≤ 1048576 := by omega
  have hi' : id.length ≤ 1048576 := by unfold lenI at hl; omega
  have hab := acctB_of hw'
  have hbb := acctB_of hv'
  obtain ⟨hqw, hpw⟩ := move_w a b id now hab
  have hs := move_s a b id now hab hbb hi'
  have hm := move_i a b id now hab hbb hi'
  generalize hq : (moveM a b id now).1 = q at hqw hs hm
  generalize hp : (moveM a b id now).2.1 = p at hpw hs hm
  generalize hc : (moveM a b id now).2.2 = c at hs hm
  have c1 := cAcct_le a
  have c2 := cAcct_le q
  have c3 := cAcct_le b
  have c4 := cAcct_le p
  have m1 := markAcct a 1 (by decide) (by omega) (by omega)
  have m1b := markAcct b (1 + ((cAcct a : Nat) : Int)) (by omega) (by omega) (by omega)
  have m2 := markAcct q 1 (by decide) (by omega) (by omega)
  have m2b := markAcct p (1 + ((cAcct q : Nat) : Int)) (by omega) (by omega) (by omega)
  have m3 := heldAcct q 1 (by decide) (by omega) (by omega)
  have m3' : g13 (q.1, q.2.1, q.2.2.1, q.2.2.2.1, q.2.2.2.2.1, (mkAcct q 1).2.2.2.2.2.1, q.2.2.2.2.2.2.1, q.2.2.2.2.2.2.2.1, (mkAcct q 1).2.2.2.2.2.2.2.2.1, (mkAcct q 1).2.2.2.2.2.2.2.2.2.1, (mkAcct q 1).2.2.2.2.2.2.2.2.2.2.1, ()) 1 = _ := m3
  have m4 := heldAcct p (1 + ((cAcct q : Nat) : Int)) (by omega) (by omega) (by omega)
  have m4' : g13 (p.1, p.2.1, p.2.2.1, p.2.2.2.1, p.2.2.2.2.1, (mkAcct p (1 + ((cAcct q : Nat) : Int))).2.2.2.2.2.1, p.2.2.2.2.2.2.1, p.2.2.2.2.2.2.2.1, (mkAcct p (1 + ((cAcct q : Nat) : Int))).2.2.2.2.2.2.2.2.1, (mkAcct p (1 + ((cAcct q : Nat) : Int))).2.2.2.2.2.2.2.2.2.1, (mkAcct p (1 + ((cAcct q : Nat) : Int))).2.2.2.2.2.2.2.2.2.2.1, ()) (1 + ((cAcct q : Nat) : Int)) = _ := m4
  have e1 := eqAcct q (by omega)
  have e2 := eqAcct a (by omega)
  have e3 := eqAcct p (by omega)
  have e4 := eqAcct b (by omega)
  have n1 : ltI (1 + ((cAcct a : Nat) : Int) + ((cAcct b : Nat) : Int)) 0 = false := ltI_no (by omega)
  have n2 : ltI (1 + ((cAcct q : Nat) : Int)) 0 = false := ltI_no (by omega)
  have n3 : ltI (1 + ((cAcct q : Nat) : Int) + ((cAcct p : Nat) : Int)) 0 = false := ltI_no (by omega)
  rw [szR_pos hv, ltI_no (by omega)]
  simp only [cond_false, cond_true, Option.bind_some, toAcct a hw', toAcct b hv', hs, hm, e1, e2, e3, e4, m1, m1b, m2, m2b, m3', m4', n1, n2, n3, eqI_refl, Bool.not_true]

end Go.Av

