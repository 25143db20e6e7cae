/- Part of a proof that the law FnExactWorldNew answers true for every input: the printed functions of this program and their plain laws. No conditions beyond the statement. -/
import Derived.Test.YthppnigdofgojaaGreatP2
import Derived.Test.YthppnigdofgojaaGreatP3
set_option maxRecDepth 100000
set_option maxHeartbeats 4000000
namespace Go.Av
/-! ### the law -/
theorem acctB_of {a : AcctT} (h : wAcct a ≤ 1048576) : AcctB a := by
  have hw : wAcct a = a.1.length + wL wHold a.2.2.2.2.2.1 + wRing (rgOf a) + wL wSlot a.2.2.2.2.2.2.2.2.2.2.1 := rfl
  have hr : wRing (rgOf a) = a.2.2.2.2.2.2.2.2.1.length + a.2.2.2.2.2.2.2.2.2.1.length := rfl
  have h1 := len_le_wL wHold a.2.2.2.2.2.1
  have h2 := len_le_wL wSlot a.2.2.2.2.2.2.2.2.2.2.1
  refine ⟨by omega, ⟨by omega, fun y hy => ?_⟩, ⟨?_, ?_⟩, by omega, fun y hy => ?_⟩
  · have := mem_le_wL wHold hy
    have e : wHold y = y.1.length := rfl
    omega
  · show a.2.2.2.2.2.2.2.2.1.length ≤ _; omega
  · show a.2.2.2.2.2.2.2.2.2.1.length ≤ _; omega
  · have := mem_le_wL wSlot hy
    have e : wSlot y = y.1.length + y.2.1.length + y.2.2.1.length := rfl
    omega

theorem sum_le (f : Nat → Nat) (B : Nat) (h : ∀ k, f k ≤ B) : ∀ l : List Nat, (l.map f).sum ≤ l.length * B
  | [] => by simp
  | k :: r => by
    have h1 := h k
    have h2 := sum_le f B h r
    rw [List.map_cons, List.sum_cons, List.length_cons, Nat.add_mul]
    omega
theorem sp_w (n : Nat) (m : Int) (b : List AcctT) : wL wStripe (sp n m b) ≤ n + n * wL wAcct b := by
  have e : (sp n m b).map wStripe = (List.range n).map fun (k : Nat) => wL wAcct (b.filter (fun a => eqI (stripeM a.1 m) (k : Int))) := by
    unfold sp
    rw [List.map_map]
    rfl
  have h := sum_le (fun (k : Nat) => wL wAcct (b.filter (fun a => eqI (stripeM a.1 m) (k : Int)))) (wL wAcct b) (fun k => wL_filter wAcct _ b) (List.range n)
  rw [List.length_range] at h
  show (sp n m b).length + ((sp n m b).map wStripe).sum ≤ _
  rw [sp_len, e]
  omega
theorem spread_w (b : List AcctT) (n : Int) : wL wStripe (spreadM b n) ≤ 5 + 5 * wL wAcct b := by
  have h0 : wL wStripe ([] : List StripeT) = 0 := rfl
  unfold spreadM
  cases bookM b with
  | false => simp only [cond_false]; omega
  | true =>
  cases hn : inM n 1 5 with
  | false => simp only [cond_true, cond_false]; omega
  | true =>
    obtain ⟨n1, n2⟩ := inM_iff.1 hn
    have h := sp_w n.toNat n b
    have h5 : n.toNat ≤ 5 := by omega
    have := Nat.mul_le_mul_right (wL wAcct b) h5
    simp only [cond_true]
    omega
theorem world_w (b : List AcctT) (n : Int) : wL wStripe (worldM b n).1 ≤ 5 + 5 * wL wAcct b := by
  have h0 : wL wStripe ([] : List StripeT) = 0 := rfl
  unfold worldM
  cases eqI (lenI (spreadM b n)) 0 with
  | true => simp only [cond_true]; omega
  | false => exact spread_w b n
theorem eqB_refl (c : Bool) : eqB c c = true := by cases c <;> rfl
theorem world_law (x : List AcctT × Unit) (n : Int) (hb : bgBook x) : g5 x n = some ((), ((true, ()), ())) := by
  have hbig : big = 140737488355328 := rfl
  obtain ⟨b, u⟩ := x
  unfold g5
  rw [szBook (b, ()) 1048576 (by decide) (by decide) hb]
  dsimp only [cond_false, Option.bind_some]
  by_cases hw : ((wBook (b, ()) : Nat) : Int) ≤ 1048576
  rotate_left
  · rw [szR_neg hw]; rfl
  have hw' : wBook (b, ()) ≤ 1048576 := by omega
  have hw2 : wL wAcct b ≤ 1048576 := hw'
  have hbb : BookB b := ⟨by have := len_le_wL wAcct b; omega, fun a ha => acctB_of (by have := mem_le_wL wAcct ha; omega)⟩
  have hs := world_s b n hbb
  have hm := world_i b n hbb
  have hqw := world_w b n
  generalize hq : (worldM b n).1 = q at hqw hs hm
  generalize hc : (worldM b n).2 = c at hs hm
  have hww : wWorld (q, 0, 0, [], ()) ≤ 10485760 := by
    have : wWorld (q, 0, 0, [], ()) = wL wStripe q + 0 := rfl
    omega
  have c1 := cBook_le (b, ())
  have c2 := cWorld_le (q, 0, 0, [], ())
  have m1 := markBook (b, ()) 1 (by decide) (by omega) (by omega)
  have m2 := markWorld (q, 0, 0, [], ()) 1 (by decide) (by omega) (by omega)
  have m3 := heldWorld (q, 0, 0, [], ()) 1 (by decide) (by omega) (by omega)
  have m3' : g24 ((mkWorld (q, 0, 0, [], ()) 1).1, 0, 0, (mkWorld (q, 0, 0, [], ()) 1).2.2.2.1, ()) 1 = _ := m3
  have e1 := eqWorld (q, 0, 0, [], ()) (by omega)
  have e2 := eqBook (b, ()) (by omega)
  have n1 : ltI (1 + ((cBook (b, ()) : Nat) : Int)) 0 = false := ltI_no (by omega)
  have n2 : ltI (1 + ((cWorld (q, 0, 0, [], ()) : Nat) : Int)) 0 = false := ltI_no (by omega)
  have ec := eqB_refl c
  rw [szR_pos hw, ltI_no (by omega)]
  simp only [cond_false, cond_true, Option.bind_some, toBook (b, ()) hw', hs, hm, e1, e2, m1, m2, m3', n1, n2, ec, eqI_refl, Bool.not_true]

end Go.Av

