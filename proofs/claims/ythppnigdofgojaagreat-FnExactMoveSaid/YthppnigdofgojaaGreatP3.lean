/- Part of a proof that the law FnExactMove answers true for every input: the printed functions of this program and their plain laws. No conditions beyond the statement. -/
import Derived.Test.YthppnigdofgojaaGreatP1
import Derived.Test.YthppnigdofgojaaGreatFw4
set_option maxRecDepth 100000
set_option maxHeartbeats 4000000
namespace Go.Av
/-! ### the reference model's checks, as plain functions -/
abbrev HoldT := List UInt8 × Int × Int × Unit
abbrev SlotT := List UInt8 × List UInt8 × List (Int × Unit) × Unit
abbrev RingT := Int × Int × List (Int × Unit) × List (Int × Unit) × Unit
def inM (a lo hi : Int) : Bool := cond (leI lo a) (leI a hi) false
theorem inM_iff {a lo hi : Int} : inM a lo hi = true ↔ lo ≤ a ∧ a ≤ hi := by
  unfold inM leI
  by_cases h : lo ≤ a <;> simp [h]
theorem in_s (a lo hi : Int) : g31 a lo hi = some ((), ((inM a lo hi, ()), ())) := rfl
theorem in_i (a lo hi : Int) : g73 a lo hi = some ((), ((inM a lo hi, ()), ())) := rfl
def moneyM (a : Int) : Bool := inM a 0 4611686018427387904
theorem money_s (a : Int) : g85 a = some ((), ((moneyM a, ()), ())) := rfl
theorem money_i (a : Int) : g96 a = some ((), ((moneyM a, ()), ())) := rfl
def timeM (a : Int) : Bool := inM a 0 1000000000
theorem time_s (a : Int) : g77 a = some ((), ((timeM a, ()), ())) := rfl
theorem time_i (a : Int) : g95 a = some ((), ((timeM a, ()), ())) := rfl

def digM (x : UInt8) : Bool := cond (ltI (x.toNat : Int) 48) false (!(ltI 57 (x.toNat : Int)))
theorem digM_iff {x : UInt8} : digM x = true ↔ 48 ≤ x.toNat ∧ x.toNat ≤ 57 := by
  unfold digM ltI
  by_cases h : (x.toNat : Int) < 48
  · simp [h]; omega
  · by_cases h2 : (57 : Int) < x.toNat
    · simp [h, h2]; omega
    · simp [h, h2]; omega
def digitsM (s : List UInt8) : Bool := cond (s.all digM) (ltI 0 (lenI s)) false
theorem digits_s (s : List UInt8) (hs : s.length ≤ big) : g156 s = some ((), ((digitsM s, ()), ())) := by
  unfold g156
  have h := loop_list (step := fun (x : (List UInt8) × Int × Unit) => r156_0 x.1 x.2.1) s (fun i (_ : Unit) => (s, ((i : Nat) : Int), ())) (fun _ x _ => bif digM x then Sum.inl () else .inr (.inr (false, ()))) (fun _ => .inl (s, (s.length : Int), ())) (a0 := ()) (fun i x a hx => by
      have hlt := lt_of_get hx
      show r156_0 s (i : Int) = _
      unfold r156_0 digM
      rw [ltI_in hx, inB_in hx, bytI_in hx, addW1 (by omega)]
      dsimp only [cond_true]
      cases ltI (x.toNat : Int) 48 <;> cases ltI 57 (x.toNat : Int) <;> rfl) (fun a => by
      show r156_0 s (s.length : Int) = _
      unfold r156_0
      rw [ltI_out rfl]; rfl)
  rw [goL_all] at h
  have h' : l156_0 s 0 = _ := h
  rw [h']
  unfold digitsM
  cases s.all digM <;> rfl
theorem digits_i (s : List UInt8) (hs : s.length ≤ big) : g165 s = some ((), ((digitsM s, ()), ())) := by
  unfold g165
  have h := loop_list (step := fun (x : (List UInt8) × Int × Int × Unit) => r165_0 x.1 x.2.1 x.2.2.1) s (fun i (_ : Unit) => (s, lenI s, ((i : Nat) : Int), ())) (fun _ x _ => bif digM x then Sum.inl () else .inr (.inr (false, ()))) (fun _ => .inl (s, lenI s, (s.length : Int), ())) (a0 := ()) (fun i x a hx => by
      have hlt := lt_of_get hx
      show r165_0 s (lenI s) (i : Int) = _
      unfold r165_0 digM
      rw [ltI_in hx, inB_in hx, bytI_in hx, addW1 (by omega)]
      dsimp only [cond_true]
      cases ltI (x.toNat : Int) 48 <;> cases ltI 57 (x.toNat : Int) <;> rfl) (fun a => by
      show r165_0 s (lenI s) (s.length : Int) = _
      unfold r165_0
      rw [ltI_out rfl]; rfl)
  rw [goL_all] at h
  have h' : l165_0 s (lenI s) 0 = _ := h
  rw [h']
  unfold digitsM
  cases s with
  | nil => rfl
  | cons x r =>
    have e1 : ltI 0 (lenI (x :: r)) = true := ltI_yes (by unfold lenI; simp only [List.length_cons]; omega)
    have e2 : eqS (x :: r) [] = false := rfl
    cases (x :: r).all digM
    · rfl
    · dsimp only [cond_true, cond_false, Option.bind_some, Sum.elim_inl]
      rw [e1, e2]; rfl

/-- One letter or figure of a hold's name. -/
def holdChM (x : UInt8) : Bool := cond (ltI (x.toNat : Int) 48) (cond (ltI (x.toNat : Int) 97) false (!(ltI 122 (x.toNat : Int)))) (cond (ltI 57 (x.toNat : Int)) (cond (ltI (x.toNat : Int) 97) false (!(ltI 122 (x.toNat : Int)))) true)
def holdIdM (s : List UInt8) : Bool := cond (s.all holdChM) (inM (lenI s) 1 6) false
theorem holdId_s (s : List UInt8) (hs : s.length ≤ big) : g78 s = some ((), ((holdIdM s, ()), ())) := by
  unfold g78
  have h := loop_list (step := fun (x : (List UInt8) × Int × Unit) => r78_0 x.1 x.2.1) s (fun i (_ : Unit) => (s, ((i : Nat) : Int), ())) (fun _ x _ => bif holdChM x then Sum.inl () else .inr (.inr (false, ()))) (fun _ => .inl (s, (s.length : Int), ())) (a0 := ()) (fun i x a hx => by
      have hlt := lt_of_get hx
      show r78_0 s (i : Int) = _
      unfold r78_0 holdChM
      rw [ltI_in hx, inB_in hx, bytI_in hx, addW1 (by omega)]
      dsimp only [cond_true]
      cases ltI (x.toNat : Int) 48 <;> cases ltI 57 (x.toNat : Int) <;> cases ltI (x.toNat : Int) 97 <;> cases ltI 122 (x.toNat : Int) <;> rfl) (fun a => by
      show r78_0 s (s.length : Int) = _
      unfold r78_0
      rw [ltI_out rfl]; rfl)
  rw [goL_all] at h
  have h' : l78_0 s 0 = _ := h
  rw [h']
  unfold holdIdM
  cases s.all holdChM <;> rfl
theorem holdId_i (s : List UInt8) (hs : s.length ≤ big) : g57 s = some ((), ((holdIdM s, ()), ())) := by
  unfold g57
  have h := loop_list (step := fun (x : (List UInt8) × Int × Int × Unit) => r57_0 x.1 x.2.1 x.2.2.1) s (fun i (_ : Unit) => (s, lenI s, ((i : Nat) : Int), ())) (fun _ x _ => bif holdChM x then Sum.inl () else .inr (.inr (false, ()))) (fun _ => .inl (s, lenI s, (s.length : Int), ())) (a0 := ()) (fun i x a hx => by
      have hlt := lt_of_get hx
      show r57_0 s (lenI s) (i : Int) = _
      unfold r57_0 holdChM
      rw [ltI_in hx, inB_in hx, bytI_in hx, addW1 (by omega)]
      dsimp only [cond_true]
      cases ltI (x.toNat : Int) 48 <;> cases ltI 57 (x.toNat : Int) <;> cases ltI (x.toNat : Int) 97 <;> cases ltI 122 (x.toNat : Int) <;> rfl) (fun a => by
      show r57_0 s (lenI s) (s.length : Int) = _
      unfold r57_0
      rw [ltI_out rfl]; rfl)
  rw [goL_all] at h
  have h' : l57_0 s (lenI s) 0 = _ := h
  rw [h']
  unfold holdIdM
  cases s.all holdChM <;> rfl

def holdM (h : HoldT) : Bool := cond (holdIdM h.1) (cond (inM h.2.1 1 9007199254740992) (timeM h.2.2.1) false) false
theorem hold_s (h : HoldT) (hs : h.1.length ≤ big) : g143 h = some ((), ((holdM h, ()), ())) := by
  unfold g143 holdM
  simp only [holdId_s _ hs, in_s, time_s, Option.bind_some]
  cases holdIdM h.1 <;> cases inM h.2.1 1 9007199254740992 <;> rfl
theorem hold_i (h : HoldT) (hs : h.1.length ≤ big) : g149 h = some ((), ((holdM h, ()), ())) := by
  unfold g149 holdM
  simp only [holdId_i _ hs, in_i, time_i, Option.bind_some]
  cases holdIdM h.1 <;> cases inM h.2.1 1 9007199254740992 <;> rfl
/-- The i-th hold: itself in order, and its name behind the one before it. -/
def holdStep (xs : List HoldT) (i : Nat) (x : HoldT) : Bool := cond (holdM x) (cond (ltI 0 (i : Int)) (ltS (gt ([], 0, 0, ()) xs ((i : Int) - 1)).1 x.1) true) false
def holdsM (xs : List HoldT) : Bool := cond (allI (holdStep xs) 0 xs) (leI (lenI xs) 4) false
theorem bytesLess_tri : ∀ (s t : List UInt8), (Op.bytesLess s t || eqS s t) = !(Op.bytesLess t s)
  | [], [] => rfl
  | [], _ :: _ => rfl
  | _ :: _, [] => rfl
  | a :: s, b :: t => by
    have ih := bytesLess_tri s t
    have e : eqS (a :: s) (b :: t) = (a == b && eqS s t) := rfl
    show ((decide (a < b) || (a == b && Op.bytesLess s t)) || eqS (a :: s) (b :: t)) = !(decide (b < a) || (b == a && Op.bytesLess t s))
    rw [e]
    rcases Nat.lt_trichotomy a.toNat b.toNat with h | h | h
    · have h1 : a < b := UInt8.lt_iff_toNat_lt.2 h
      have h2 : ¬ b < a := fun hh => by have := UInt8.lt_iff_toNat_lt.1 hh; omega
      have h3 : (b == a) = false := by rw [beq_eq_false_iff_ne]; intro hh; subst hh; omega
      simp [h1, h2, h3]
    · have h1 : a = b := UInt8.toNat_inj.1 h
      subst h1
      have h2 : ¬ a < a := fun hh => by have := UInt8.lt_iff_toNat_lt.1 hh; omega
      simpa [h2] using ih
    · have h1 : ¬ a < b := fun hh => by have := UInt8.lt_iff_toNat_lt.1 hh; omega
      have h2 : b < a := UInt8.lt_iff_toNat_lt.2 h
      have h3 : (a == b) = false := by rw [beq_eq_false_iff_ne]; intro hh; subst hh; omega
      simp [h1, h2, h3]
theorem leS_not (s t : List UInt8) : leS s t = !(ltS t s) := bytesLess_tri s t
/-- Memory that a hold's name takes is no more than any machine's. -/
def HoldsB (xs : List HoldT) : Prop := xs.length ≤ big ∧ ∀ y ∈ xs, y.1.length ≤ big
theorem prev_get {α : Type} {xs : List α} {i : Nat} {x : α} (hx : xs[i]? = some x) (h : 0 < i) : inB ((i : Int) - 1) xs = true := by
  have := lt_of_get hx
  have e : (i : Int) - 1 = ((i - 1 : Nat) : Int) := by omega
  rw [e]; exact inB_lt (by omega)
theorem holds_s (xs : List HoldT) (hb : HoldsB xs) : g108 xs = some ((), ((holdsM xs, ()), ())) := by
  have hbig : big = 140737488355328 := rfl
  unfold g108
  have h := loop_list (step := fun (x : (List HoldT) × (List HoldT) × Int × Int × Unit) => r108_0 x.1 x.2.1 x.2.2.1 x.2.2.2.1) xs (fun i (_ : Unit) => (xs, xs, lenI xs, ((i : Nat) : Int), ())) (fun i x _ => bif holdStep xs i x then Sum.inl () else .inr (.inr (false, ()))) (fun _ => .inl (xs, xs, lenI xs, (xs.length : Int), ())) (a0 := ()) (fun i x a hx => by
      have hlt := lt_of_get hx
      have hl := hb.1
      show r108_0 xs xs (lenI xs) (i : Int) = _
      unfold r108_0 holdStep
      rw [ltI_in hx, inB_in hx, gt_in _ hx]
      dsimp only [cond_true]
      rw [hold_s x (hb.2 x (List.mem_of_getElem? hx)), addW1 (by omega)]
      dsimp only [Option.bind_some]
      cases holdM x with
      | false => rfl
      | true =>
        by_cases h0 : 0 < i
        · rw [ltI_yes (show (0 : Int) < i by omega), subW_in (by omega) (by omega), prev_get hx h0]
          dsimp only [cond_true, cond_false, Bool.not_true]
          have e : gt d74 xs ((i : Int) - 1) = gt ([], 0, 0, ()) xs ((i : Int) - 1) := rfl
          rw [e]
          cases ltS (gt ([], 0, 0, ()) xs ((i : Int) - 1)).1 x.1 <;> rfl
        · rw [ltI_no (show ¬ (0 : Int) < i by omega)]; rfl) (fun a => by
      show r108_0 xs xs (lenI xs) (xs.length : Int) = _
      unfold r108_0
      rw [ltI_out rfl]; rfl)
  rw [goL_allI] at h
  have h' : l108_0 xs xs (lenI xs) 0 = _ := h
  rw [h']
  unfold holdsM
  cases allI (holdStep xs) 0 xs <;> rfl
theorem holds_i (xs : List HoldT) (hb : HoldsB xs) : g117 xs = some ((), ((holdsM xs, ()), ())) := by
  have hbig : big = 140737488355328 := rfl
  unfold g117
  have h := loop_list (step := fun (x : (List HoldT) × (List HoldT) × Int × Int × Unit) => r117_0 x.1 x.2.1 x.2.2.1 x.2.2.2.1) xs (fun i (_ : Unit) => (xs, xs, lenI xs, ((i : Nat) : Int), ())) (fun i x _ => bif holdStep xs i x then Sum.inl () else .inr (.inr (false, ()))) (fun _ => .inl (xs, xs, lenI xs, (xs.length : Int), ())) (a0 := ()) (fun i x a hx => by
      have hlt := lt_of_get hx
      have hl := hb.1
      show r117_0 xs xs (lenI xs) (i : Int) = _
      unfold r117_0 holdStep
      rw [ltI_in hx, inB_in hx, gt_in _ hx]
      dsimp only [cond_true]
      rw [hold_i x (hb.2 x (List.mem_of_getElem? hx)), addW1 (by omega)]
      dsimp only [Option.bind_some]
      cases holdM x with
      | false => rfl
      | true =>
        by_cases h0 : 0 < i
        · rw [ltI_yes (show (0 : Int) < i by omega), subW_in (by omega) (by omega), prev_get hx h0]
          dsimp only [cond_true, cond_false, Bool.not_true]
          rw [leS_not]
          have e : gt d74 xs ((i : Int) - 1) = gt ([], 0, 0, ()) xs ((i : Int) - 1) := rfl
          rw [e]
          cases ltS (gt ([], 0, 0, ()) xs ((i : Int) - 1)).1 x.1 <;> rfl
        · rw [ltI_no (show ¬ (0 : Int) < i by omega)]; rfl) (fun a => by
      show r117_0 xs xs (lenI xs) (xs.length : Int) = _
      unfold r117_0
      rw [ltI_out rfl]; rfl)
  rw [goL_allI] at h
  have h' : l117_0 xs xs (lenI xs) 0 = _ := h
  rw [h']
  unfold holdsM
  cases allI (holdStep xs) 0 xs <;> rfl


/-! ### account numbers -/
def lunE (dbl : Bool) (x : UInt8) : Int := cond dbl (cond (ltI 9 (2 * ((x.toNat : Int) - 48))) (2 * ((x.toNat : Int) - 48) - 9) (2 * ((x.toNat : Int) - 48))) ((x.toNat : Int) - 48)
theorem lunE_bd (b : Bool) {x : UInt8} (h : digM x = true) : 0 ≤ lunE b x ∧ lunE b x ≤ 9 := by
  obtain ⟨h1, h2⟩ := digM_iff.1 h
  unfold lunE ltI
  cases b
  · dsimp only [cond_false]; omega
  · dsimp only [cond_true]
    by_cases h9 : 9 < 2 * ((x.toNat : Int) - 48)
    · rw [decide_eq_true h9]; dsimp only [cond_true]; omega
    · rw [decide_eq_false h9]; dsimp only [cond_false]; omega
def lunS (xs : List UInt8) (a : Int × Bool) : Int × Bool := xs.foldl (fun a x => (a.1 + lunE a.2 x, !a.2)) a
def lunT (xs : List UInt8) (a : Int × Bool) : Int × Bool := xs.foldl (fun a x => ((a.1 + lunE a.2 x) % 10, !a.2)) a
theorem lunT_eq : ∀ (xs : List UInt8) (a : Int) (b : Bool), lunT xs (a % 10, b) = ((lunS xs (a, b)).1 % 10, (lunS xs (a, b)).2)
  | [], a, b => rfl
  | x :: r, a, b => by
    have e : (a % 10 + lunE b x) % 10 = (a + lunE b x) % 10 := by omega
    show lunT r ((a % 10 + lunE b x) % 10, !b) = ((lunS r (a + lunE b x, !b)).1 % 10, (lunS r (a + lunE b x, !b)).2)
    rw [e]
    exact lunT_eq r _ _
def luhnM (s : List UInt8) : Int := cond (digitsM s) ((10 - (lunS s.reverse (0, true)).1 % 10) % 10) (-1)
theorem digitsM_all {s : List UInt8} (h : digitsM s = true) : ∀ x ∈ s, digM x = true := by
  unfold digitsM at h
  cases hs : s.all digM with
  | true => exact fun x hx => List.all_eq_true.1 hs x hx
  | false => rw [hs] at h; simp at h
theorem rev_get {s : List UInt8} {i : Nat} {x : UInt8} (h : s.reverse[i]? = some x) : i < s.length ∧ s[s.length - 1 - i]? = some x := by
  have hl : i < s.length := by simpa using lt_of_get h
  refine ⟨hl, ?_⟩
  rwa [List.getElem?_reverse hl] at h
theorem dig_s {x : UInt8} (h : digM x = true) : subW .i64 (cvtW .i64 (x.toNat : Int)) 48 = (x.toNat : Int) - 48 := by
  obtain ⟨h1, h2⟩ := digM_iff.1 h
  have e : cvtW .i64 (x.toNat : Int) = (x.toNat : Int) := IntWalk.i64_in _ (by omega)
  rw [e]; exact subW_in (by omega) (by omega)
theorem dig_i {x : UInt8} (h : digM x = true) : cvtW .i64 (subW .u8 (x.toNat : Int) 48) = (x.toNat : Int) - 48 := by
  obtain ⟨h1, h2⟩ := digM_iff.1 h
  have e : subW .u8 (x.toNat : Int) 48 = (x.toNat : Int) - 48 := IntWalk.u8_in _ (by omega)
  rw [e]; exact IntWalk.i64_in _ (by omega)
theorem mulW_in {a b : Int} (h1 : -4611686018427387904 ≤ a * b) (h2 : a * b ≤ 4611686018427387904) : mulW .i64 a b = a * b := by
  unfold mulW; rw [IntWalk.i64_in _ (by omega)]
theorem remI_10 {a : Int} (h : 0 ≤ a) : remI a 10 = a % 10 := by unfold remI; exact Int.tmod_eq_emod_of_nonneg h
theorem luhn_s (s : List UInt8) (hs : s.length ≤ big) : g157 s = some ((), ((luhnM s, ()), ())) := by
  have hbig : big = 140737488355328 := rfl
  unfold g157 luhnM
  rw [digits_s s hs]
  dsimp only [Option.bind_some]
  cases hd : digitsM s with
  | false => rfl
  | true =>
  have hall := digitsM_all hd
  have h := loop_inv (step := fun (x : (List UInt8) × Int × Bool × Int × Unit) => r157_0 x.1 x.2.1 x.2.2.1 x.2.2.2.1) s.reverse (fun i (a : Int × Bool) => (s, a.1, a.2, (s.length : Int) - 1 - ((i : Nat) : Int), ())) (fun _ x a => Sum.inl ((a.1 + lunE a.2 x) % 10, !a.2)) (fun a => .inl (s, a.1, a.2, (-1 : Int), ()))
    (fun _ a => 0 ≤ a.1 ∧ a.1 < 10) (a0 := (0, true)) ⟨by decide, by decide⟩ (fun i x a hx ha => by
      obtain ⟨hlt, hx'⟩ := rev_get hx
      have hdx := hall x (List.mem_of_getElem? hx')
      have hbd := lunE_bd a.2 hdx
      have hdd := digM_iff.1 hdx
      have e : (s.length : Int) - 1 - (i : Int) = ((s.length - 1 - i : Nat) : Int) := by omega
      have e' : (s.length : Int) - 1 - ((i + 1 : Nat) : Int) = ((s.length - 1 - i : Nat) : Int) - 1 := by omega
      obtain ⟨a1, a2⟩ := a
      show r157_0 s a1 a2 ((s.length : Int) - 1 - (i : Int)) = some (.inl (s, (a1 + lunE a2 x) % 10, !a2, (s.length : Int) - 1 - ((i + 1 : Nat) : Int), ()))
      rw [e, e']
      have hle : leI 0 ((s.length - 1 - i : Nat) : Int) = true := decide_eq_true (by omega)
      have ha : 0 ≤ a1 ∧ a1 < 10 := ha
      unfold r157_0
      rw [hle, inB_in hx', bytI_in hx', dig_s hdx, subW_in (a := ((s.length - 1 - i : Nat) : Int)) (b := 1) (by omega) (by omega)]
      have hb : (0 ≤ lunE a2 x ∧ lunE a2 x ≤ 9) := hbd
      cases a2 with
      | false =>
        have hv : lunE false x = (x.toNat : Int) - 48 := rfl
        dsimp only [cond_true, cond_false, Bool.not_false]
        rw [addW_in (by omega) (by omega), remI_10 (by omega), hv]
      | true =>
        dsimp only [cond_true, cond_false, Bool.not_false, Bool.not_true]
        rw [mulW_in (by omega) (by omega)]
        by_cases h9 : 9 < 2 * ((x.toNat : Int) - 48)
        · have hv : lunE true x = 2 * ((x.toNat : Int) - 48) - 9 := by unfold lunE; rw [ltI_yes h9]; rfl
          rw [ltI_yes h9]; dsimp only [cond_true, cond_false, Bool.not_false]; rw [subW_in (by omega) (by omega), addW_in (by omega) (by omega), remI_10 (by omega), hv]
        · have hv : lunE true x = 2 * ((x.toNat : Int) - 48) := by unfold lunE; rw [ltI_no h9]; rfl
          rw [ltI_no h9]; dsimp only [cond_true, cond_false, Bool.not_false]; rw [addW_in (by omega) (by omega), remI_10 (by omega), hv]) (fun i x a a' hx ha hf => by
      simp only [Sum.inl.injEq] at hf
      subst hf
      show 0 ≤ (a.1 + lunE a.2 x) % 10 ∧ (a.1 + lunE a.2 x) % 10 < 10
      omega) (fun a ha => by
      have e : (s.length : Int) - 1 - ((s.reverse.length : Nat) : Int) = -1 := by simp; omega
      show r157_0 s a.1 a.2 ((s.length : Int) - 1 - ((s.reverse.length : Nat) : Int)) = _
      rw [e]
      rfl)
  rw [goL_fold (fun x a => ((a.1 + lunE a.2 x) % 10, !a.2))] at h
  have h' : l157_0 s 0 true ((s.length : Int) - 1 - ((0 : Nat) : Int)) = some (.inl (s, (lunT s.reverse (0, true)).1, (lunT s.reverse (0, true)).2, (-1 : Int), ())) := h
  have e0 : (s.length : Int) - 1 - ((0 : Nat) : Int) = subW .i64 (lenI s) 1 := by rw [subW_in (by unfold lenI; omega) (by unfold lenI; omega)]; unfold lenI; omega
  have eT : (lunT s.reverse (0, true)).1 = (lunS s.reverse (0, true)).1 % 10 := by
    have := lunT_eq s.reverse 0 true
    rw [show (0 : Int) % 10 = 0 from rfl] at this
    rw [this]
  rw [e0] at h'
  rw [h', eT]
  dsimp only [Option.bind_some, Sum.elim_inl, cond_true, cond_false, Bool.not_true]
  rw [subW_in (by omega) (by omega), remI_10 (by omega)]; rfl
theorem luhn_i (s : List UInt8) (hs : s.length ≤ big) : g166 s = some ((), ((luhnM s, ()), ())) := by
  have hbig : big = 140737488355328 := rfl
  unfold g166 luhnM
  rw [digits_i s hs]
  dsimp only [Option.bind_some]
  cases hd : digitsM s with
  | false => rfl
  | true =>
  have hall := digitsM_all hd
  have h := loop_inv (step := fun (x : (List UInt8) × Int × Bool × Int × Unit) => r166_0 x.1 x.2.1 x.2.2.1 x.2.2.2.1) s.reverse (fun i (a : Int × Bool) => (s, a.1, a.2, (s.length : Int) - 1 - ((i : Nat) : Int), ())) (fun _ x a => Sum.inl (a.1 + lunE a.2 x, !a.2)) (fun a => .inl (s, a.1, a.2, (-1 : Int), ()))
    (fun i a => 0 ≤ a.1 ∧ a.1 ≤ 9 * i) (a0 := (0, true)) ⟨by decide, by decide⟩ (fun i x a hx ha => by
      obtain ⟨hlt, hx'⟩ := rev_get hx
      have hdx := hall x (List.mem_of_getElem? hx')
      have hbd := lunE_bd a.2 hdx
      have hdd := digM_iff.1 hdx
      have e : (s.length : Int) - 1 - (i : Int) = ((s.length - 1 - i : Nat) : Int) := by omega
      have e' : (s.length : Int) - 1 - ((i + 1 : Nat) : Int) = ((s.length - 1 - i : Nat) : Int) - 1 := by omega
      obtain ⟨a1, a2⟩ := a
      show r166_0 s a1 a2 ((s.length : Int) - 1 - (i : Int)) = some (.inl (s, a1 + lunE a2 x, !a2, (s.length : Int) - 1 - ((i + 1 : Nat) : Int), ()))
      rw [e, e']
      have hle : leI 0 ((s.length - 1 - i : Nat) : Int) = true := decide_eq_true (by omega)
      have ha : 0 ≤ a1 ∧ a1 ≤ 9 * i := ha
      unfold r166_0
      rw [hle, inB_in hx', bytI_in hx', dig_i hdx, subW_in (a := ((s.length - 1 - i : Nat) : Int)) (b := 1) (by omega) (by omega)]
      have hb : (0 ≤ lunE a2 x ∧ lunE a2 x ≤ 9) := hbd
      cases a2 with
      | false =>
        have hv : lunE false x = (x.toNat : Int) - 48 := rfl
        dsimp only [cond_true, cond_false, Bool.not_false]
        rw [addW_in (by omega) (by omega), hv]
      | true =>
        dsimp only [cond_true, cond_false, Bool.not_false, Bool.not_true]
        have em : mulW .i64 ((x.toNat : Int) - 48) 2 = 2 * ((x.toNat : Int) - 48) := by rw [mulW_in (by omega) (by omega)]; omega
        rw [em]
        by_cases h9 : 9 < 2 * ((x.toNat : Int) - 48)
        · have hv : lunE true x = 2 * ((x.toNat : Int) - 48) - 9 := by unfold lunE; rw [ltI_yes h9]; rfl
          rw [ltI_yes h9]; dsimp only [cond_true, cond_false, Bool.not_false]; rw [subW_in (by omega) (by omega), addW_in (by omega) (by omega), hv]
        · have hv : lunE true x = 2 * ((x.toNat : Int) - 48) := by unfold lunE; rw [ltI_no h9]; rfl
          rw [ltI_no h9]; dsimp only [cond_true, cond_false, Bool.not_false]; rw [addW_in (by omega) (by omega), hv]) (fun i x a a' hx ha hf => by
      have hbd := lunE_bd a.2 (hall x (List.mem_of_getElem? (rev_get hx).2))
      simp only [Sum.inl.injEq] at hf
      subst hf
      show 0 ≤ a.1 + lunE a.2 x ∧ a.1 + lunE a.2 x ≤ 9 * ((i + 1 : Nat) : Int)
      omega) (fun a ha => by
      have e : (s.length : Int) - 1 - ((s.reverse.length : Nat) : Int) = -1 := by simp; omega
      show r166_0 s a.1 a.2 ((s.length : Int) - 1 - ((s.reverse.length : Nat) : Int)) = _
      rw [e]
      rfl)
  rw [goL_fold (fun x a => (a.1 + lunE a.2 x, !a.2))] at h
  have h' : l166_0 s 0 true ((s.length : Int) - 1 - ((0 : Nat) : Int)) = some (.inl (s, (lunS s.reverse (0, true)).1, (lunS s.reverse (0, true)).2, (-1 : Int), ())) := h
  have e0 : (s.length : Int) - 1 - ((0 : Nat) : Int) = subW .i64 (lenI s) 1 := by rw [subW_in (by unfold lenI; omega) (by unfold lenI; omega)]; unfold lenI; omega
  have hS : ∀ (xs : List UInt8) (a : Int × Bool), (∀ x ∈ xs, digM x = true) → 0 ≤ a.1 → 0 ≤ (lunS xs a).1 := by
    intro xs
    induction xs with
    | nil => intro a _ h; exact h
    | cons x r ih =>
      intro a hx h
      have := lunE_bd a.2 (hx x (List.mem_cons_self ..))
      exact ih (a.1 + lunE a.2 x, !a.2) (fun y hy => hx y (List.mem_cons_of_mem _ hy)) (by show 0 ≤ a.1 + lunE a.2 x; omega)
  have h0 := hS s.reverse (0, true) (fun x hx => hall x (List.mem_reverse.1 hx)) (by decide)
  rw [e0] at h'
  rw [h']
  dsimp only [Option.bind_some, Sum.elim_inl, cond_true, cond_false, Bool.not_true]
  rw [remI_10 h0, subW_in (by omega) (by omega), remI_10 (by omega)]; rfl
def luhnOkM (s : List UInt8) : Bool := cond (digitsM s) (cond (leI 2 (lenI s)) (eqI (luhnM (sub s 0 (lenI s - 1))) (bytI s (lenI s - 1) - 48)) false) false
theorem lastD {s : List UInt8} (hd : digitsM s = true) (h : 2 ≤ s.length) : ∃ x, digM x = true ∧ inB (lenI s - 1) s = true ∧ bytI s (lenI s - 1) = (x.toNat : Int) ∧ cutB 0 (lenI s - 1) s = true ∧ (sub s 0 (lenI s - 1)).length ≤ s.length := by
  have e : lenI s - 1 = ((s.length - 1 : Nat) : Int) := by unfold lenI; omega
  obtain ⟨x, hx⟩ : ∃ x, s[s.length - 1]? = some x := ⟨s[s.length - 1]'(by omega), by simp⟩
  refine ⟨x, digitsM_all hd x (List.mem_of_getElem? hx), ?_, ?_, ?_, ?_⟩
  · rw [e]; exact inB_in hx
  · rw [e]; exact bytI_in hx
  · rw [e]; unfold cutB cutOk leI
    rw [decide_eq_true (by decide), decide_eq_true (by omega), decide_eq_true (by omega)]; rfl
  · rw [e]; unfold sub; simp
theorem luhnOk_s (s : List UInt8) (hs : s.length ≤ big) : g142 s = some ((), ((luhnOkM s, ()), ())) := by
  have hbig : big = 140737488355328 := rfl
  unfold g142 luhnOkM
  rw [digits_s s hs]
  dsimp only [Option.bind_some]
  cases hd : digitsM s with
  | false => rfl
  | true =>
    by_cases h2 : 2 ≤ s.length
    · obtain ⟨x, h3, h4, h5, h6, h7⟩ := lastD hd h2
      have e1 : leI 2 (lenI s) = true := decide_eq_true (by unfold lenI; omega)
      have e2 : subW .i64 (lenI s) 1 = lenI s - 1 := subW_in (by unfold lenI; omega) (by unfold lenI; omega)
      rw [ltI_no (show ¬ lenI s < 2 by unfold lenI; omega), e1, e2]
      dsimp only [cond_true, cond_false, Bool.not_true]
      rw [h6, h4, luhn_s _ (Nat.le_trans h7 hs), h5, dig_s h3]; rfl
    · have e1 : leI 2 (lenI s) = false := decide_eq_false (by unfold lenI; omega)
      rw [ltI_yes (show lenI s < 2 by unfold lenI; omega), e1]; rfl
theorem luhnOk_i (s : List UInt8) (hs : s.length ≤ big) : g158 s = some ((), ((luhnOkM s, ()), ())) := by
  have hbig : big = 140737488355328 := rfl
  unfold g158 luhnOkM
  have e2 : subW .i64 (lenI s) 1 = lenI s - 1 := subW_in (by unfold lenI; omega) (by unfold lenI; omega)
  dsimp only
  rw [digits_i s hs, e2]
  dsimp only [Option.bind_some]
  by_cases h2 : 2 ≤ s.length
  · have e1 : leI 2 (lenI s) = true := decide_eq_true (by unfold lenI; omega)
    have e3 : leI 1 (lenI s - 1) = true := decide_eq_true (by unfold lenI; omega)
    rw [e1, e3]
    cases hd : digitsM s with
    | false => rfl
    | true =>
      obtain ⟨x, h3, h4, h5, h6, h7⟩ := lastD hd h2
      dsimp only [cond_true, cond_false, Bool.not_true]
      rw [h6, h4, luhn_i _ (Nat.le_trans h7 hs), h5, dig_i h3]; rfl
  · have e1 : leI 2 (lenI s) = false := decide_eq_false (by unfold lenI; omega)
    have e3 : leI 1 (lenI s - 1) = false := decide_eq_false (by unfold lenI; omega)
    rw [e1, e3]
    cases digitsM s <;> rfl
def acctIdM (s : List UInt8) : Bool := cond (leI (lenI s) 19) (luhnOkM s) false
theorem acctId_s (s : List UInt8) (hs : s.length ≤ big) : g107 s = some ((), ((acctIdM s, ()), ())) := by
  unfold g107 acctIdM
  rw [luhnOk_s s hs]
  cases leI (lenI s) 19 <;> rfl
theorem acctId_i (s : List UInt8) (hs : s.length ≤ big) : g145 s = some ((), ((acctIdM s, ()), ())) := by
  unfold g145 acctIdM
  rw [luhnOk_i s hs]
  cases leI (lenI s) 19 <;> rfl

/-! ### money -/
def clampM (a : Int) : Int := if a < 0 then 0 else if 4611686018427387904 < a then 4611686018427387904 else a
theorem clampM_bd (a : Int) : 0 ≤ clampM a ∧ clampM a ≤ 4611686018427387904 := by 
  unfold clampM
  split
  · omega
  · split <;> omega
def satM (a b : Int) : Int := if 4611686018427387904 - clampM b < clampM a then 4611686018427387904 else clampM a + clampM b
theorem satM_bd (a b : Int) : 0 ≤ satM a b ∧ satM a b ≤ 4611686018427387904 := by
  have := clampM_bd a; have := clampM_bd b
  unfold satM; split <;> omega
theorem clamp_s (a : Int) : g134 a 0 4611686018427387904 = some ((), ((clampM a, ()), ())) := by
  unfold g134 clampM
  by_cases h : a < 0
  · rw [ltI_yes h, if_pos h]; rfl
  · by_cases h2 : 4611686018427387904 < a
    · rw [ltI_no h, if_neg h, ltI_yes h2, if_pos h2]; rfl
    · rw [ltI_no h, if_neg h, ltI_no h2, if_neg h2]; rfl
theorem moneyM_yes {a : Int} (h : 0 ≤ a ∧ a ≤ 4611686018427387904) : moneyM a = true := inM_iff.2 h
theorem sat_s (a b : Int) : g81 a b = some ((), ((satM a b, ()), ())) := by
  unfold g81 g133 satM
  have h1 := clampM_bd a
  have h2 := clampM_bd b
  rw [clamp_s, clamp_s]
  dsimp only [Option.bind_some]
  rw [money_s, money_s, moneyM_yes h1, moneyM_yes h2, subW_in (by omega) (by omega)]
  dsimp only [Option.bind_some, Bool.not_true, cond_false]
  by_cases h : 4611686018427387904 - clampM b < clampM a
  · rw [ltI_yes h, if_pos h]; rfl
  · rw [ltI_no h, if_neg h, addW_in (by omega) (by omega)]; rfl
theorem sat_i (a b : Int) : g91 a b = some ((), ((satM a b, ()), ())) := by
  have e : ∀ x : Int, mxI 0 (mnI x 4611686018427387904) = clampM x := fun x => by
    unfold mxI mnI clampM
    split <;> split <;> (try split) <;> omega
  have h1 := clampM_bd a
  have h2 := clampM_bd b
  unfold g91 satM
  dsimp only
  rw [e, e, subW_in (by omega) (by omega)]
  by_cases h : 4611686018427387904 - clampM b < clampM a
  · rw [ltI_yes h, if_pos h]; rfl
  · rw [ltI_no h, if_neg h, addW_in (by omega) (by omega)]; rfl
def storedM (xs : List HoldT) : Int := xs.foldl (fun a h => satM a h.2.1) 0
theorem stored_s (xs : List HoldT) (hs : xs.length ≤ big) : g110 xs = some ((), ((storedM xs, ()), ())) := by
  unfold g110
  have h := loop_list (step := fun (x : Int × (List HoldT) × Int × Int × Unit) => r110_0 x.1 x.2.1 x.2.2.1 x.2.2.2.1) xs (fun i (a : Int) => (a, xs, lenI xs, ((i : Nat) : Int), ())) (fun _ x a => Sum.inl (satM a x.2.1)) (fun a => .inl (a, xs, lenI xs, (xs.length : Int), ())) (a0 := 0) (fun i x a hx => by
      have hlt := lt_of_get hx
      show r110_0 a xs (lenI xs) (i : Int) = _
      unfold r110_0
      rw [ltI_in hx, inB_in hx, gt_in _ hx, addW1 (by omega), sat_s]; rfl) (fun a => by
      show r110_0 a xs (lenI xs) (xs.length : Int) = _
      unfold r110_0
      rw [ltI_out rfl]; rfl)
  rw [goL_fold (fun (x : HoldT) a => satM a x.2.1)] at h
  have h' : l110_0 0 xs (lenI xs) 0 = _ := h
  rw [h']; rfl
theorem stored_i (xs : List HoldT) (hs : xs.length ≤ big) : g147 xs = some ((), ((storedM xs, ()), ())) := by
  unfold g147
  have h := loop_list (step := fun (x : Int × (List HoldT) × Int × Int × Unit) => r147_0 x.1 x.2.1 x.2.2.1 x.2.2.2.1) xs (fun i (a : Int) => (a, xs, lenI xs, ((i : Nat) : Int), ())) (fun _ x a => Sum.inl (satM a x.2.1)) (fun a => .inl (a, xs, lenI xs, (xs.length : Int), ())) (a0 := 0) (fun i x a hx => by
      have hlt := lt_of_get hx
      show r147_0 a xs (lenI xs) (i : Int) = _
      unfold r147_0
      rw [ltI_in hx, inB_in hx, gt_in _ hx, addW1 (by omega), sat_i]; rfl) (fun a => by
      show r147_0 a xs (lenI xs) (xs.length : Int) = _
      unfold r147_0
      rw [ltI_out rfl]; rfl)
  rw [goL_fold (fun (x : HoldT) a => satM a x.2.1)] at h
  have h' : l147_0 0 xs (lenI xs) 0 = _ := h
  rw [h']; rfl


/-! ### rings -/
def ringM (r : RingT) : Bool := cond (inM r.1 1 1000) (cond (inM (lenI r.2.2.1) 1 8) (cond (eqI (lenI r.2.2.2.1) (lenI r.2.2.1)) (cond (timeM r.2.1) (r.2.2.1.all (fun x => moneyM x.1) && r.2.2.2.1.all (fun x => moneyM x.1)) false) false) false) false
def RingB (r : RingT) : Prop := r.2.2.1.length ≤ 1048576 ∧ r.2.2.2.1.length ≤ 1048576
theorem eqI_iff {a b : Int} : eqI a b = true ↔ a = b := by simp [eqI]
theorem ring_s (r : RingT) (hb : RingB r) : g84 r = some ((), ((ringM r, ()), ())) := by
  have hbig : big = 140737488355328 := rfl
  obtain ⟨hb1, hb2⟩ := hb
  unfold g84 ringM
  dsimp only
  rw [in_s, in_s, time_s]
  dsimp only [Option.bind_some]
  cases inM r.1 1 1000 with
  | false => rfl
  | true =>
  cases inM (lenI r.2.2.1) 1 8 with
  | false => rfl
  | true =>
  cases he : eqI (lenI r.2.2.2.1) (lenI r.2.2.1) with
  | false => rfl
  | true =>
  cases timeM r.2.1 with
  | false => rfl
  | true =>
  have hlen : r.2.2.2.1.length = r.2.2.1.length := by
    have := eqI_iff.1 he
    unfold lenI at this; omega
  dsimp only [cond_true, cond_false, Bool.not_true]
  have h := loop_list (step := fun (x : Int × Int × RingT × Unit) => r84_0 x.1 x.2.1 x.2.2.1) (r.2.2.1.zip r.2.2.2.1) (fun i (_ : Unit) => (lenI r.2.2.1, ((i : Nat) : Int), r, ())) (fun _ x _ => bif moneyM x.1.1 && moneyM x.2.1 then Sum.inl () else .inr (.inr (false, ()))) (fun _ => .inl (lenI r.2.2.1, (r.2.2.1.length : Int), r, ())) (a0 := ()) (fun i x a hx => by
      have hx' := List.getElem?_zip_eq_some.1 hx
      have hlt := lt_of_get hx'.1
      show r84_0 (lenI r.2.2.1) (i : Int) r = _
      unfold r84_0
      rw [ltI_in hx'.1, inB_in hx'.1, inB_in hx'.2, gt_in _ hx'.1, gt_in _ hx'.2, money_s, money_s, addW1 (by omega)]
      dsimp only [cond_true, Option.bind_some]
      cases moneyM x.1.1 <;> cases moneyM x.2.1 <;> rfl) (fun a => by
      have e : (r.2.2.1.zip r.2.2.2.1).length = r.2.2.1.length := by rw [List.length_zip, hlen, Nat.min_self]
      rw [e]
      show r84_0 (lenI r.2.2.1) (r.2.2.1.length : Int) r = _
      unfold r84_0
      rw [ltI_out rfl]; rfl)
  rw [goL_all (fun (x : (Int × Unit) × (Int × Unit)) => moneyM x.1.1 && moneyM x.2.1)] at h
  have h' : l84_0 (lenI r.2.2.1) 0 r = _ := h
  rw [h']
  have hz : ∀ (a b : List (Int × Unit)), b.length = a.length → (a.zip b).all (fun x => moneyM x.1.1 && moneyM x.2.1) = (a.all (fun x => moneyM x.1) && b.all (fun x => moneyM x.1)) := by
    intro a
    induction a with
    | nil => intro b hb; cases b with | nil => rfl | cons _ _ => simp at hb
    | cons x a ih =>
      intro b hb
      cases b with
      | nil => simp at hb
      | cons y b =>
        simp only [List.zip_cons_cons, List.all_cons]
        rw [ih b (by simpa using hb)]
        cases moneyM x.1 <;> cases moneyM y.1 <;> simp
  rw [hz _ _ hlen]
  cases r.2.2.1.all (fun x => moneyM x.1) && r.2.2.2.1.all (fun x => moneyM x.1) <;> rfl
theorem concat_i (a b : List (Int × Unit)) (ha : a.length ≤ 1048576) (hb : b.length ≤ 1048576) : g138 [(a, ()), (b, ())] = some ((), ((a ++ b, ()), ())) := by
  have hbig : big = 140737488355328 := rfl
  unfold g138
  have hlen : ((a.length + b.length : Nat) : Int) = (a.length : Int) + b.length := by omega
  have h : l138_0 [(a, ()), (b, ())] 0 [(a, ()), (b, ())] 2 0 = some (.inl ([(a, ()), (b, ())], (a.length : Int) + b.length, [(a, ()), (b, ())], 2, 2, ())) := by
    refine loopF_step _ (x' := ([(a, ()), (b, ())], (a.length : Int), [(a, ()), (b, ())], 2, 1, ())) ?_ (loopF_step _ (x' := ([(a, ()), (b, ())], (a.length : Int) + b.length, [(a, ()), (b, ())], 2, 2, ())) ?_ (loopF_end _ ?_))
    · show r138_0 [(a, ()), (b, ())] 0 [(a, ()), (b, ())] 2 0 = _
      unfold r138_0
      have e : addW .i64 0 (lenI (gt d23 [(a, ()), (b, ())] 0).1) = (a.length : Int) := by
        show addW .i64 0 (lenI a) = _
        rw [addW_in (by unfold lenI; omega) (by unfold lenI; omega)]; unfold lenI; omega
      dsimp only
      rw [e, ltI_no (a := (a.length : Int)) (b := 0) (by omega)]; rfl
    · show r138_0 [(a, ()), (b, ())] (a.length : Int) [(a, ()), (b, ())] 2 1 = _
      unfold r138_0
      have e : addW .i64 (a.length : Int) (lenI (gt d23 [(a, ()), (b, ())] 1).1) = (a.length : Int) + b.length := by
        show addW .i64 (a.length : Int) (lenI b) = _
        rw [addW_in (by unfold lenI; omega) (by unfold lenI; omega)]; unfold lenI; omega
      dsimp only
      rw [e, ltI_no (a := (a.length : Int) + b.length) (b := 0) (by omega)]; rfl
    · rfl
  have h1 : l138_0 [(a, ()), (b, ())] 0 [(a, ()), (b, ())] (lenI [(a, ()), (b, ())]) 0 = _ := h
  have hg : g155 ((a.length : Int) + b.length) = some ((), (([], ()), ())) := by
    unfold g155
    dsimp only
    rw [ltI_no (by omega), subW_in (a := 0) (b := 0) (by decide) (by decide), subW_in (by omega) (by omega)]
    by_cases h0 : (0 : Int) < (a.length : Int) + b.length - (0 - 0)
    · have e2 : mzB 8 ((a.length : Int) + b.length - (0 - 0)) = true := by
        unfold mzB leI
        rw [decide_eq_true (by omega), decide_eq_true (by rw [hbig]; omega)]; rfl
      have e3 : cutB 0 0 (repI d3 ((a.length : Int) + b.length - (0 - 0))) = true := by
        unfold cutB cutOk leI
        rw [decide_eq_true (by decide), decide_eq_true (by omega)]; rfl
      rw [ltI_yes h0, e2, e3]
      rfl
    · rw [ltI_no h0]; rfl
  have h2 : l138_2 [] [(a, ()), (b, ())] 2 0 = some (.inl (a ++ b, [(a, ()), (b, ())], 2, 2, ())) := by
    refine loopF_step _ (x' := (a, [(a, ()), (b, ())], 2, 1, ())) ?_ (loopF_step _ (x' := (a ++ b, [(a, ()), (b, ())], 2, 2, ())) ?_ (loopF_end _ ?_))
    · show r138_2 [] [(a, ()), (b, ())] 2 0 = _
      unfold r138_2
      have e : fitB 8 ([] : List (Int × Unit)) (gt d23 [(a, ()), (b, ())] 0).1 = true := Nat.ble_eq_true_of_le (by show (0 + a.length) * 8 ≤ big; omega)
      rw [e]; rfl
    · show r138_2 a [(a, ()), (b, ())] 2 1 = _
      unfold r138_2
      have e : fitB 8 a (gt d23 [(a, ()), (b, ())] 1).1 = true := Nat.ble_eq_true_of_le (by show (a.length + b.length) * 8 ≤ big; omega)
      rw [e]; rfl
    · rfl
  have h2' : l138_2 [] [(a, ()), (b, ())] (lenI [(a, ()), (b, ())]) 0 = _ := h2
  rw [h1]
  dsimp only [Option.bind_some, Sum.elim_inl]
  rw [hg]
  dsimp only [Option.bind_some, Sum.elim_inl]
  rw [h2']; rfl
theorem ring_i (r : RingT) (hb : RingB r) : g94 r = some ((), ((ringM r, ()), ())) := by
  have hbig : big = 140737488355328 := rfl
  obtain ⟨hb1, hb2⟩ := hb
  unfold g94
  rw [concat_i _ _ hb1 hb2]
  dsimp only [Option.bind_some]
  have h := loop_list (step := fun (x : Int × (List (Int × Unit)) × Int × Int × RingT × Unit) => r94_0 x.1 x.2.1 x.2.2.1 x.2.2.2.1 x.2.2.2.2.1) (r.2.2.1 ++ r.2.2.2.1) (fun i (_ : Unit) => (lenI r.2.2.1, r.2.2.1 ++ r.2.2.2.1, lenI (r.2.2.1 ++ r.2.2.2.1), ((i : Nat) : Int), r, ())) (fun _ x _ => bif moneyM x.1 then Sum.inl () else .inr (.inr (false, ()))) (fun _ => .inl (lenI r.2.2.1, r.2.2.1 ++ r.2.2.2.1, lenI (r.2.2.1 ++ r.2.2.2.1), ((r.2.2.1 ++ r.2.2.2.1).length : Int), r, ())) (a0 := ()) (fun i x a hx => by
      have hlt := lt_of_get hx
      rw [List.length_append] at hlt
      show r94_0 (lenI r.2.2.1) (r.2.2.1 ++ r.2.2.2.1) (lenI (r.2.2.1 ++ r.2.2.2.1)) (i : Int) r = _
      unfold r94_0
      rw [ltI_in hx, inB_in hx, gt_in _ hx, money_i, addW1 (by omega)]
      dsimp only [cond_true, Option.bind_some]
      cases moneyM x.1 <;> rfl) (fun a => by
      show r94_0 (lenI r.2.2.1) (r.2.2.1 ++ r.2.2.2.1) (lenI (r.2.2.1 ++ r.2.2.2.1)) ((r.2.2.1 ++ r.2.2.2.1).length : Int) r = _
      unfold r94_0
      rw [ltI_out rfl]; rfl)
  rw [goL_all (fun (x : Int × Unit) => moneyM x.1)] at h
  have h' : l94_0 (lenI r.2.2.1) (r.2.2.1 ++ r.2.2.2.1) (lenI (r.2.2.1 ++ r.2.2.2.1)) 0 r = _ := h
  rw [h', List.all_append]
  unfold ringM
  cases r.2.2.1.all (fun x => moneyM x.1) && r.2.2.2.1.all (fun x => moneyM x.1) with
  | false =>
    cases inM r.1 1 1000 <;> cases inM (lenI r.2.2.1) 1 8 <;> cases eqI (lenI r.2.2.2.1) (lenI r.2.2.1) <;> cases timeM r.2.1 <;> rfl
  | true =>
    dsimp only [cond_true, Option.bind_some, Sum.elim_inl]
    rw [in_i, in_i, time_i]
    dsimp only [Option.bind_some]
    cases inM r.1 1 1000 <;> cases inM (lenI r.2.2.1) 1 8 <;> cases eqI (lenI r.2.2.2.1) (lenI r.2.2.1) <;> cases timeM r.2.1 <;> rfl
theorem ringM_spec {r : RingT} (h : ringM r = true) : (1 ≤ r.1 ∧ r.1 ≤ 1000) ∧ (1 ≤ r.2.2.1.length ∧ r.2.2.1.length ≤ 8) ∧ r.2.2.2.1.length = r.2.2.1.length ∧ (0 ≤ r.2.1 ∧ r.2.1 ≤ 1000000000) := by
  unfold ringM at h
  cases h1 : inM r.1 1 1000 with
  | false => rw [h1] at h; simp at h
  | true =>
  cases h2 : inM (lenI r.2.2.1) 1 8 with
  | false => rw [h1, h2] at h; simp at h
  | true =>
  cases h3 : eqI (lenI r.2.2.2.1) (lenI r.2.2.1) with
  | false => rw [h1, h2, h3] at h; simp at h
  | true =>
  cases h4 : timeM r.2.1 with
  | false => rw [h1, h2, h3, h4] at h; simp at h
  | true =>
  have a := inM_iff.1 h1
  have b := inM_iff.1 h2
  have c := eqI_iff.1 h3
  have d := inM_iff.1 h4
  unfold lenI at b c
  exact ⟨a, ⟨by omega, by omega⟩, by omega, d⟩


/-! ### slots -/
def slotM (s : SlotT) : Bool := cond (cond (digitsM s.1) (eqI (lenI s.1) 6) false) (cond (cond (digitsM s.2.1) (eqI (lenI s.2.1) 4) false) (inM (lenI s.2.2.1) 1 200) false) false
def SlotB (s : SlotT) : Prop := s.1.length ≤ big ∧ s.2.1.length ≤ big
theorem slot_s (s : SlotT) (hb : SlotB s) : g144 s = some ((), ((slotM s, ()), ())) := by
  unfold g144 slotM
  rw [digits_s _ hb.1, digits_s _ hb.2]
  dsimp only [Option.bind_some]
  rw [in_s]
  cases cond (digitsM s.1) (eqI (lenI s.1) 6) false <;> cases cond (digitsM s.2.1) (eqI (lenI s.2.1) 4) false <;> rfl
theorem slot_i (s : SlotT) (hb : SlotB s) : g159 s = some ((), ((slotM s, ()), ())) := by
  unfold g159 g167 slotM
  rw [digits_i _ hb.1, digits_i _ hb.2]
  dsimp only [Option.bind_some]
  rw [in_i]
  cases cond (digitsM s.1) (eqI (lenI s.1) 6) false <;> cases cond (digitsM s.2.1) (eqI (lenI s.2.1) 4) false <;> rfl
def sameSlot (a b : SlotT) : Bool := cond (eqS a.1 b.1) (eqS a.2.1 b.2.1) false
/-- The i-th slot: itself in order, and no slot before it is the same. -/
def slotStep (xs : List SlotT) (i : Nat) (x : SlotT) : Bool := cond (slotM x) ((xs.take i).all (fun y => !sameSlot y x)) false
def slotsM (xs : List SlotT) : Bool := cond (allI (slotStep xs) 0 xs) (leI (lenI xs) 6) false
def SlotsB (xs : List SlotT) : Prop := xs.length ≤ 1048576 ∧ ∀ y ∈ xs, SlotB y
theorem sub_take {α : Type} (xs : List α) (i : Nat) : sub xs 0 (i : Int) = xs.take i := by unfold sub; simp
theorem cutB_take {α : Type} {xs : List α} {i : Nat} (h : i ≤ xs.length) : cutB 0 (i : Int) xs = true := by
  unfold cutB cutOk leI
  rw [decide_eq_true (by decide), decide_eq_true (by omega), decide_eq_true (by omega)]; rfl
theorem slots_s (xs : List SlotT) (hb : SlotsB xs) : g109 xs = some ((), ((slotsM xs, ()), ())) := by
  have hbig : big = 140737488355328 := rfl
  have hb1 := hb.1
  unfold g109
  have inner : ∀ (i : Nat) (x : SlotT), i ≤ xs.length → l109_2 xs xs (lenI xs) (i : Int) (xs.take i) (lenI (xs.take i)) 0 x = some (bif (xs.take i).all (fun y => !sameSlot y x) then .inl (xs, xs, lenI xs, (i : Int), xs.take i, lenI (xs.take i), ((xs.take i).length : Int), x, ()) else .inr (false, ())) := fun i x hi => by
    have hti : (xs.take i).length ≤ xs.length := by rw [List.length_take]; exact Nat.min_le_right _ _
    have h := loop_list (step := fun (z : (List SlotT) × (List SlotT) × Int × Int × (List SlotT) × Int × Int × SlotT × Unit) => r109_2 z.1 z.2.1 z.2.2.1 z.2.2.2.1 z.2.2.2.2.1 z.2.2.2.2.2.1 z.2.2.2.2.2.2.1 z.2.2.2.2.2.2.2.1) (xs.take i) (fun j (_ : Unit) => (xs, xs, lenI xs, (i : Int), xs.take i, lenI (xs.take i), ((j : Nat) : Int), x, ())) (fun _ y _ => bif !sameSlot y x then Sum.inl () else .inr (.inr (false, ()))) (fun _ => .inl (xs, xs, lenI xs, (i : Int), xs.take i, lenI (xs.take i), ((xs.take i).length : Int), x, ())) (a0 := ()) (fun j y a hy => by
        have hlt := lt_of_get hy
        show r109_2 xs xs (lenI xs) (i : Int) (xs.take i) (lenI (xs.take i)) (j : Int) x = _
        unfold r109_2 sameSlot
        rw [ltI_in hy, inB_in hy, gt_in _ hy, addW1 (by omega)]
        dsimp only [cond_true]
        cases cond (eqS y.1 x.1) (eqS y.2.1 x.2.1) false <;> rfl) (fun a => by
        show r109_2 xs xs (lenI xs) (i : Int) (xs.take i) (lenI (xs.take i)) ((xs.take i).length : Int) x = _
        unfold r109_2
        rw [ltI_out rfl]; rfl)
    rw [goL_all (fun y => !sameSlot y x)] at h
    exact h
  have h := loop_list (step := fun (x : (List SlotT) × (List SlotT) × Int × Int × Unit) => r109_0 x.1 x.2.1 x.2.2.1 x.2.2.2.1) xs (fun i (_ : Unit) => (xs, xs, lenI xs, ((i : Nat) : Int), ())) (fun i x _ => bif slotStep xs i x then Sum.inl () else .inr (.inr (false, ()))) (fun _ => .inl (xs, xs, lenI xs, (xs.length : Int), ())) (a0 := ()) (fun i x a hx => by
      have hlt := lt_of_get hx
      show r109_0 xs xs (lenI xs) (i : Int) = _
      unfold r109_0 slotStep
      rw [ltI_in hx, inB_in hx, gt_in _ hx]
      dsimp only [cond_true]
      rw [slot_s x (hb.2 x (List.mem_of_getElem? hx)), cutB_take (Nat.le_of_lt hlt), sub_take]
      dsimp only [cond_true, Option.bind_some]
      rw [inner i x (Nat.le_of_lt hlt)]
      cases slotM x with
      | false => rfl
      | true =>
        cases (xs.take i).all (fun y => !sameSlot y x) with
        | false => rfl
        | true =>
          dsimp only [cond_true, cond_false, Bool.not_true, Option.bind_some, Sum.elim_inl]
          rw [addW1 (by omega)]; rfl) (fun a => by
      show r109_0 xs xs (lenI xs) (xs.length : Int) = _
      unfold r109_0
      rw [ltI_out rfl]; rfl)
  rw [goL_allI] at h
  have h' : l109_0 xs xs (lenI xs) 0 = _ := h
  rw [h']
  unfold slotsM
  cases allI (slotStep xs) 0 xs <;> rfl
/-- Where the first element is that passes. -/
def findI {α : Type} (p : α → Bool) : Nat → List α → Int
  | _, [] => -1
  | i, x :: r => bif p x then (i : Int) else findI p (i + 1) r
theorem goL_find {α Y : Type} (p : α → Bool) (y : Int → Y) (z : Y) (out : Y → Int) (hy : ∀ n, out (y n) = n) (hz : out z = -1) : ∀ (xs : List α) (i : Nat), out (goL (fun i x _ => bif p x then Sum.inr (y (i : Int)) else .inl ()) (fun _ => z) i xs ()) = findI p i xs
  | [], _ => hz
  | x :: r, i => by
    rw [goL, findI]
    cases hp : p x with
    | true => exact hy _
    | false => exact goL_find p y z out hy hz r (i + 1)
theorem findI_bd {α : Type} (p : α → Bool) : ∀ (xs : List α) (i : Nat), findI p i xs = -1 ∨ ((i : Int) ≤ findI p i xs ∧ findI p i xs < i + xs.length)
  | [], _ => .inl rfl
  | x :: r, i => by
    rw [findI]
    cases p x with
    | true => right; simp only [cond_true, List.length_cons]; omega
    | false =>
      rcases findI_bd p r (i + 1) with h | h
      · exact .inl h
      · right; simp only [cond_false, List.length_cons]; omega
/-- The first that passes is the i-th: it passes, and none before it. -/
theorem findI_eq {α : Type} (p : α → Bool) : ∀ {xs : List α} {i : Nat} {x : α} (k : Nat), xs[i]? = some x → p x = true → (findI p k xs = ((k + i : Nat) : Int) ↔ (xs.take i).all (fun y => !p y) = true)
  | [], i, x, k, h, _ => by simp at h
  | y :: r, 0, x, k, h, hp => by
    simp only [List.getElem?_cons_zero, Option.some.injEq] at h
    subst h
    rw [findI, hp]; simp
  | y :: r, i + 1, x, k, h, hp => by
    have ih := findI_eq p (xs := r) (i := i) (x := x) (k + 1) (by simpa using h) hp
    rw [findI, List.take_succ_cons, List.all_cons]
    cases hy : p y with
    | true =>
      simp only [cond_true, Bool.not_true, Bool.false_and, Bool.false_eq_true, iff_false]
      omega
    | false =>
      simp only [cond_false, Bool.not_false, Bool.true_and]
      rw [← ih, show k + 1 + i = k + (i + 1) by omega]
theorem slotAt_i (xs : List SlotT) (a b : List UInt8) (hs : xs.length ≤ 1048576) : g160 xs a b = some ((), ((findI (fun y => cond (eqS y.1 a) (eqS y.2.1 b) false) 0 xs, ()), ())) := by
  have hbig : big = 140737488355328 := rfl
  unfold g160 g168
  have h := loop_list (step := fun (z : (List SlotT) × (((List UInt8) × Unit) × ((List UInt8) × Unit) × Unit) × Int × Int × Unit) => r168_0 z.1 z.2.1 z.2.2.1 z.2.2.2.1) xs (fun i (_ : Unit) => (xs, ((a, ()), (b, ()), ()), lenI xs, ((i : Nat) : Int), ())) (fun i y _ => bif cond (eqS y.1 a) (eqS y.2.1 b) false then Sum.inr (.inr ((i : Int), ())) else Sum.inl ()) (fun _ => .inl (xs, ((a, ()), (b, ()), ()), lenI xs, (xs.length : Int), ())) (a0 := ()) (fun i y u hy => by
      have hlt := lt_of_get hy
      show r168_0 xs ((a, ()), (b, ()), ()) (lenI xs) (i : Int) = _
      unfold r168_0 g169
      rw [ltI_in hy, inB_in hy, gt_in _ hy, addW1 (by omega)]
      dsimp only [cond_true, Option.bind_some]
      cases cond (eqS y.1 a) (eqS y.2.1 b) false <;> rfl) (fun u => by
      show r168_0 xs ((a, ()), (b, ()), ()) (lenI xs) (xs.length : Int) = _
      unfold r168_0
      rw [ltI_out rfl]; rfl)
  have h' : l168_0 xs ((a, ()), (b, ()), ()) (lenI xs) 0 = _ := h
  rw [h']
  have hf := goL_find (Y := Sum ((List SlotT) × (((List UInt8) × Unit) × ((List UInt8) × Unit) × Unit) × Int × Int × Unit) (Int × Unit)) (fun (y : SlotT) => cond (eqS y.1 a) (eqS y.2.1 b) false) (fun n => .inr (n, ())) (.inl (xs, ((a, ()), (b, ()), ()), lenI xs, (xs.length : Int), ())) (fun y => match y with | .inl _ => -1 | .inr z => z.1) (fun _ => rfl) rfl xs 0
  rw [← hf]
  dsimp only [Option.bind_some]
  cases goL _ _ 0 xs () <;> rfl
theorem slots_i (xs : List SlotT) (hb : SlotsB xs) : g146 xs = some ((), ((slotsM xs, ()), ())) := by
  have hbig : big = 140737488355328 := rfl
  have hb1 := hb.1
  unfold g146
  have h := loop_list (step := fun (x : (List SlotT) × (List SlotT) × Int × Int × Unit) => r146_0 x.1 x.2.1 x.2.2.1 x.2.2.2.1) xs (fun i (_ : Unit) => (xs, xs, lenI xs, ((i : Nat) : Int), ())) (fun i x _ => bif slotStep xs i x then Sum.inl () else .inr (.inr (false, ()))) (fun _ => .inl (xs, xs, lenI xs, (xs.length : Int), ())) (a0 := ()) (fun i x a hx => by
      have hlt := lt_of_get hx
      show r146_0 xs xs (lenI xs) (i : Int) = _
      unfold r146_0 slotStep
      rw [ltI_in hx, inB_in hx, gt_in _ hx]
      dsimp only [cond_true]
      rw [slot_i x (hb.2 x (List.mem_of_getElem? hx))]
      dsimp only [cond_true, Option.bind_some]
      rw [slotAt_i xs _ _ hb1, addW1 (by omega)]
      have hp : cond (eqS x.1 x.1) (eqS x.2.1 x.2.1) false = true := by rw [eqS_refl, eqS_refl]; rfl
      have hk := findI_eq (fun (y : SlotT) => cond (eqS y.1 x.1) (eqS y.2.1 x.2.1) false) 0 hx hp
      rw [Nat.zero_add, ← eqI_iff] at hk
      have hk' : eqI (findI (fun (y : SlotT) => cond (eqS y.1 x.1) (eqS y.2.1 x.2.1) false) 0 xs) (i : Int) = (xs.take i).all (fun y => !sameSlot y x) := by
        rw [Bool.eq_iff_iff]; exact hk
      cases slotM x with
      | false => rfl
      | true =>
        dsimp only [cond_true, cond_false, Bool.not_true, Option.bind_some]
        rw [hk']
        cases (xs.take i).all (fun y => !sameSlot y x) <;> rfl) (fun a => by
      show r146_0 xs xs (lenI xs) (xs.length : Int) = _
      unfold r146_0
      rw [ltI_out rfl]; rfl)
  rw [goL_allI] at h
  have h' : l146_0 xs xs (lenI xs) 0 = _ := h
  rw [h']
  unfold slotsM
  cases allI (slotStep xs) 0 xs <;> rfl


/-! ### accounts -/
abbrev AcctT := List UInt8 × Int × Int × Int × Int × List HoldT × Int × Int × List (Int × Unit) × List (Int × Unit) × List SlotT × Unit
def rgOf (a : AcctT) : RingT := (a.2.2.2.2.2.2.1, a.2.2.2.2.2.2.2.1, a.2.2.2.2.2.2.2.2.1, a.2.2.2.2.2.2.2.2.2.1, ())
/-- No larger than what the laws look at. -/
def AcctB (a : AcctT) : Prop := a.1.length ≤ 1048576 ∧ (a.2.2.2.2.2.1.length ≤ 1048576 ∧ ∀ y ∈ a.2.2.2.2.2.1, y.1.length ≤ 1048576) ∧ RingB (rgOf a) ∧ a.2.2.2.2.2.2.2.2.2.2.1.length ≤ 1048576 ∧ ∀ y ∈ a.2.2.2.2.2.2.2.2.2.2.1, y.1.length ≤ 1048576 ∧ y.2.1.length ≤ 1048576 ∧ y.2.2.1.length ≤ 1048576
theorem le_big {n : Nat} (h : n ≤ 1048576) : n ≤ big := Nat.le_trans h (by decide)
theorem AcctB.hs {a : AcctT} (h : AcctB a) : HoldsB a.2.2.2.2.2.1 := ⟨le_big h.2.1.1, fun y hy => le_big (h.2.1.2 y hy)⟩
theorem AcctB.ss {a : AcctT} (h : AcctB a) : SlotsB a.2.2.2.2.2.2.2.2.2.2.1 := ⟨h.2.2.2.1, fun y hy => ⟨le_big (h.2.2.2.2 y hy).1, le_big (h.2.2.2.2 y hy).2.1⟩⟩
def acctM (a : AcctT) : Bool := cond (acctIdM a.1) (cond (inM a.2.1 0 9007199254740992) (cond (inM a.2.2.2.1 0 1000) (cond (inM a.2.2.2.2.1 0 9007199254740992) (cond (moneyM a.2.2.1) (cond (holdsM a.2.2.2.2.2.1) (cond (ringM (rgOf a)) (cond (slotsM a.2.2.2.2.2.2.2.2.2.2.1) (leI (satM a.2.2.1 (storedM a.2.2.2.2.2.1)) a.2.1) false) false) false) false) false) false) false) false
theorem acct_s (a : AcctT) (hb : AcctB a) : g51 a = some ((), ((acctM a, ()), ())) := by
  have h1 := acctId_s a.1 (le_big hb.1)
  have h2 := holds_s _ hb.hs
  have h3 : g84 (a.2.2.2.2.2.2.1, a.2.2.2.2.2.2.2.1, a.2.2.2.2.2.2.2.2.1, a.2.2.2.2.2.2.2.2.2.1, ()) = _ := ring_s (rgOf a) hb.2.2.1
  have h4 := slots_s _ hb.ss
  have h5 := stored_s _ hb.hs.1
  unfold g51 acctM
  rw [h1, h2, h3, h4, h5, in_s, in_s, in_s, money_s]
  dsimp only [Option.bind_some]
  rw [sat_s]
  dsimp only [Option.bind_some]
  cases acctIdM a.1 <;> first | rfl | skip
  cases inM a.2.1 0 9007199254740992 <;> first | rfl | skip
  cases inM a.2.2.2.1 0 1000 <;> first | rfl | skip
  cases inM a.2.2.2.2.1 0 9007199254740992 <;> first | rfl | skip
  cases moneyM a.2.2.1 <;> first | rfl | skip
  cases holdsM a.2.2.2.2.2.1 <;> first | rfl | skip
  cases ringM (rgOf a) <;> first | rfl | skip
  cases slotsM a.2.2.2.2.2.2.2.2.2.2.1 <;> rfl
theorem acct_i (a : AcctT) (hb : AcctB a) : g112 a = some ((), ((acctM a, ()), ())) := by
  have h1 := acctId_i a.1 (le_big hb.1)
  have h2 := holds_i _ hb.hs
  have h3 : g94 (a.2.2.2.2.2.2.1, a.2.2.2.2.2.2.2.1, a.2.2.2.2.2.2.2.2.1, a.2.2.2.2.2.2.2.2.2.1, ()) = _ := ring_i (rgOf a) hb.2.2.1
  have h4 := slots_i _ hb.ss
  have h5 := stored_i _ hb.hs.1
  unfold g112 acctM
  rw [h1, h2, h3, h4, h5, in_i, in_i, in_i, money_i]
  dsimp only [Option.bind_some]
  rw [sat_i]
  dsimp only [Option.bind_some]
  cases acctIdM a.1 <;> first | rfl | skip
  cases inM a.2.1 0 9007199254740992 <;> first | rfl | skip
  cases inM a.2.2.2.1 0 1000 <;> first | rfl | skip
  cases inM a.2.2.2.2.1 0 9007199254740992 <;> first | rfl | skip
  cases moneyM a.2.2.1 <;> first | rfl | skip
  cases holdsM a.2.2.2.2.2.1 <;> first | rfl | skip
  cases ringM (rgOf a) <;> first | rfl | skip
  cases slotsM a.2.2.2.2.2.2.2.2.2.2.1 <;> rfl

/-! ### copies -/
theorem fitB_nil {α : Type} {b : Nat} {xs : List α} (h : xs.length * b ≤ big) : fitB b ([] : List α) xs = true := Nat.ble_eq_true_of_le (by simpa using h)
theorem ringCp_s (r : RingT) (hb : RingB r) : g86 r = some ((), (r, ())) := by
  have hbig : big = 140737488355328 := rfl
  obtain ⟨h1, h2⟩ := hb
  unfold g86
  rw [fitB_nil (by omega), fitB_nil (by omega)]; rfl
theorem ringCp_i (r : RingT) (hb : RingB r) : g97 r = some ((), (r, ())) := by
  have hbig : big = 140737488355328 := rfl
  obtain ⟨h1, h2⟩ := hb
  unfold g97 g139
  rw [fitB_nil (by omega), fitB_nil (by omega)]; rfl
theorem slotsCp_s (xs : List SlotT) (hs : xs.length ≤ 1048576) (hb : ∀ y ∈ xs, y.2.2.1.length ≤ 1048576) : g131 xs = some ((), ((xs, ()), ())) := by
  have hbig : big = 140737488355328 := rfl
  unfold g131
  have h := loop_inv (step := fun (z : (List SlotT) × (List SlotT) × Int × Int × Unit) => r131_0 z.1 z.2.1 z.2.2.1 z.2.2.2.1) xs (fun i (a : List SlotT) => (a, xs, lenI xs, ((i : Nat) : Int), ())) (fun _ x a => Sum.inl (a ++ [x])) (fun a => .inl (a, xs, lenI xs, (xs.length : Int), ())) (fun i a => a.length = i) (a0 := []) rfl (fun i x a hx ha => by
      have hlt := lt_of_get hx
      have hm := hb x (List.mem_of_getElem? hx)
      show r131_0 a xs (lenI xs) (i : Int) = _
      unfold r131_0
      have e : ∀ y : SlotT, fitB 56 a [y] = true := fun y => Nat.ble_eq_true_of_le (by simp; omega)
      rw [ltI_in hx, inB_in hx, gt_in _ hx]
      dsimp only [cond_true]
      rw [fitB_nil (by omega), e, addW1 (by omega)]
      rfl) (fun i x a a' hx ha hf => by
      simp only [Sum.inl.injEq] at hf
      rw [← hf, List.length_append, ha]; rfl) (fun a ha => by
      show r131_0 a xs (lenI xs) (xs.length : Int) = _
      unfold r131_0
      rw [ltI_out rfl]; rfl)
  rw [goL_cp] at h
  have h' : l131_0 [] xs (lenI xs) 0 = _ := h
  rw [h']; rfl
theorem slotsCp_i (xs : List SlotT) (hs : xs.length ≤ 1048576) (hb : ∀ y ∈ xs, y.2.2.1.length ≤ 1048576) : g154 xs = some ((), ((xs, ()), ())) := by
  have hbig : big = 140737488355328 := rfl
  unfold g154
  have h := loop_inv (step := fun (z : (List SlotT) × (List SlotT) × Int × Int × Unit) => r154_0 z.1 z.2.1 z.2.2.1 z.2.2.2.1) xs (fun i (a : List SlotT) => (a, xs, lenI xs, ((i : Nat) : Int), ())) (fun _ x a => Sum.inl (a ++ [x])) (fun a => .inl (a, xs, lenI xs, (xs.length : Int), ())) (fun i a => a.length = i) (a0 := []) rfl (fun i x a hx ha => by
      have hlt := lt_of_get hx
      have hm := hb x (List.mem_of_getElem? hx)
      show r154_0 a xs (lenI xs) (i : Int) = _
      unfold r154_0 g164
      have e : ∀ y : SlotT, fitB 56 a [y] = true := fun y => Nat.ble_eq_true_of_le (by simp; omega)
      rw [ltI_in hx, inB_in hx, gt_in _ hx]
      dsimp only [cond_true]
      rw [fitB_nil (by omega), addW1 (by omega)]
      dsimp only [cond_true, Option.bind_some]
      rw [e]
      rfl) (fun i x a a' hx ha hf => by
      simp only [Sum.inl.injEq] at hf
      rw [← hf, List.length_append, ha]; rfl) (fun a ha => by
      show r154_0 a xs (lenI xs) (xs.length : Int) = _
      unfold r154_0
      rw [ltI_out rfl]; rfl)
  rw [goL_cp] at h
  have h' : l154_0 [] xs (lenI xs) 0 = _ := h
  rw [h']; rfl
theorem acctCp_s (a : AcctT) (hb : AcctB a) : g79 a = some ((), (a, ())) := by
  have hbig : big = 140737488355328 := rfl
  have h1 := hb.2.1.1
  have h2 : g86 (a.2.2.2.2.2.2.1, a.2.2.2.2.2.2.2.1, a.2.2.2.2.2.2.2.2.1, a.2.2.2.2.2.2.2.2.2.1, ()) = _ := ringCp_s (rgOf a) hb.2.2.1
  have h3 := slotsCp_s _ hb.2.2.2.1 (fun y hy => (hb.2.2.2.2 y hy).2.2)
  unfold g79
  rw [fitB_nil (by omega), h2, h3]; rfl
theorem acctCp_i (a : AcctT) (hb : AcctB a) : g126 a = some ((), (a, ())) := by
  have hbig : big = 140737488355328 := rfl
  have h1 := hb.2.1.1
  have h2 : g97 (a.2.2.2.2.2.2.1, a.2.2.2.2.2.2.2.1, a.2.2.2.2.2.2.2.2.1, a.2.2.2.2.2.2.2.2.2.1, ()) = _ := ringCp_i (rgOf a) hb.2.2.1
  have h3 := slotsCp_i _ hb.2.2.2.1 (fun y hy => (hb.2.2.2.2 y hy).2.2)
  unfold g126 g120
  rw [fitB_nil (by omega), h2, h3]; rfl

/-! ### holds that live -/
def liveM (now : Int) (h : HoldT) : Bool := ltI now h.2.2.1
theorem goL_filter {α Y : Type} (p : α → Bool) (z : List α → Y) : ∀ (xs : List α) (i : Nat) (d : List α), goL (fun _ x (a : List α) => Sum.inl (bif p x then a ++ [x] else a)) z i xs d = z (d ++ xs.filter p)
  | [], _, d => by simp [goL]
  | x :: r, i, d => by
    rw [goL]
    simp only
    rw [goL_filter p z r (i + 1)]
    cases hp : p x with
    | true => simp [hp]
    | false => simp [hp]
theorem live_s (xs : List HoldT) (now : Int) (hs : xs.length ≤ 1048576) : g80 xs now = some ((), ((xs.filter (liveM now), ()), ())) := by
  have hbig : big = 140737488355328 := rfl
  unfold g80
  have h := loop_inv (step := fun (z : Int × (List HoldT) × (List HoldT) × Int × Int × Unit) => r80_0 z.1 z.2.1 z.2.2.1 z.2.2.2.1 z.2.2.2.2.1) xs (fun i (a : List HoldT) => (now, a, xs, lenI xs, ((i : Nat) : Int), ())) (fun _ x a => Sum.inl (bif liveM now x then a ++ [x] else a)) (fun a => .inl (now, a, xs, lenI xs, (xs.length : Int), ())) (fun i a => a.length ≤ i) (a0 := []) (Nat.le_refl _) (fun i x a hx ha => by
      have hlt := lt_of_get hx
      show r80_0 now a xs (lenI xs) (i : Int) = _
      unfold r80_0 g132 liveM
      have e : ∀ y : HoldT, fitB 32 a [y] = true := fun y => Nat.ble_eq_true_of_le (by simp; omega)
      rw [ltI_in hx, inB_in hx, gt_in _ hx]
      dsimp only [cond_true, Option.bind_some]
      rw [e, addW1 (by omega)]
      cases ltI now x.2.2.1 <;> rfl) (fun i x a a' hx ha hf => by
      simp only [Sum.inl.injEq] at hf
      rw [← hf]
      cases liveM now x with
      | true => simp; omega
      | false => simp; omega) (fun a ha => by
      show r80_0 now a xs (lenI xs) (xs.length : Int) = _
      unfold r80_0
      rw [ltI_out rfl]; rfl)
  rw [goL_filter] at h
  have h' : l80_0 now [] xs (lenI xs) 0 = _ := h
  rw [h']; rfl


theorem idxLive_i (xs : List HoldT) (now : Int) (hs : xs.length ≤ 1048576) : g114 xs (now, ()) = some ((), ((findI (fun y => !liveM now y) 0 xs, ()), ())) := by
  have hbig : big = 140737488355328 := rfl
  unfold g114
  have h := loop_list (step := fun (z : (List HoldT) × ((Int × Unit) × Unit) × Int × Int × Unit) => r114_0 z.1 z.2.1 z.2.2.1 z.2.2.2.1) xs (fun i (_ : Unit) => (xs, ((now, ()), ()), lenI xs, ((i : Nat) : Int), ())) (fun i y _ => bif !liveM now y then Sum.inr (.inr ((i : Int), ())) else Sum.inl ()) (fun _ => .inl (xs, ((now, ()), ()), lenI xs, (xs.length : Int), ())) (a0 := ()) (fun i y u hy => by
      have hlt := lt_of_get hy
      show r114_0 xs ((now, ()), ()) (lenI xs) (i : Int) = _
      unfold r114_0 g161 g162 liveM
      rw [ltI_in hy, inB_in hy, gt_in _ hy, addW1 (by omega)]
      dsimp only [cond_true, Option.bind_some]
      cases ltI now y.2.2.1 <;> rfl) (fun u => by
      show r114_0 xs ((now, ()), ()) (lenI xs) (xs.length : Int) = _
      unfold r114_0
      rw [ltI_out rfl]; rfl)
  have h' : l114_0 xs ((now, ()), ()) (lenI xs) 0 = _ := h
  rw [h']
  have hf := goL_find (Y := Sum ((List HoldT) × ((Int × Unit) × Unit) × Int × Int × Unit) (Int × Unit)) (fun (y : HoldT) => !liveM now y) (fun n => .inr (n, ())) (.inl (xs, ((now, ()), ()), lenI xs, (xs.length : Int), ())) (fun y => match y with | .inl _ => -1 | .inr z => z.1) (fun _ => rfl) rfl xs 0
  rw [← hf]
  dsimp only [Option.bind_some]
  cases goL _ _ 0 xs () <;> rfl
theorem findI_none {α : Type} (p : α → Bool) : ∀ (xs : List α) (k : Nat), findI p k xs = -1 → xs.filter (fun y => !p y) = xs
  | [], _, _ => rfl
  | x :: r, k, h => by
    rw [findI] at h
    cases hp : p x with
    | true => rw [hp] at h; simp only [cond_true] at h; omega
    | false =>
      rw [hp] at h
      simp only [cond_false] at h
      rw [List.filter_cons_of_pos (by simp [hp]), findI_none p r (k + 1) h]
theorem findI_some {α : Type} (p : α → Bool) : ∀ (xs : List α) (k : Nat), findI p k xs ≠ -1 → ∃ i x, findI p k xs = ((k + i : Nat) : Int) ∧ xs[i]? = some x ∧ p x = true ∧ (xs.take i).filter (fun y => !p y) = xs.take i
  | [], _, h => absurd rfl h
  | x :: r, k, h => by
    rw [findI] at h ⊢
    cases hp : p x with
    | true => exact ⟨0, x, by simp, rfl, hp, rfl⟩
    | false =>
      rw [hp] at h
      simp only [cond_false] at h ⊢
      obtain ⟨i, y, h1, h2, h3, h4⟩ := findI_some p r (k + 1) h
      refine ⟨i + 1, y, by rw [h1]; omega, by simpa using h2, h3, ?_⟩
      rw [List.take_succ_cons, List.filter_cons_of_pos (by simp [hp]), h4]
theorem set_len {α : Type} {done : List α} {x y : α} {r : List α} {i : Nat} (h : done.length = i) : (done ++ x :: r).set i y = done ++ y :: r := by
  subst h; simp [List.set_append]
theorem delete_i (xs : List HoldT) (now : Int) (hs : xs.length ≤ 1048576) : g119 xs (now, ()) = some ((), ((xs.filter (liveM now), ()), ())) := by
  have hbig : big = 140737488355328 := rfl
  have hnn : (fun y : HoldT => !(!liveM now y)) = liveM now := by funext y; simp
  unfold g119
  rw [idxLive_i xs now hs]
  dsimp only [Option.bind_some]
  by_cases hf : findI (fun y => !liveM now y) 0 xs = -1
  · have := findI_none _ _ _ hf
    rw [hnn] at this
    rw [hf, this]; rfl
  · obtain ⟨k, x0, h1, h2, h3, h4⟩ := findI_some _ _ _ hf
    rw [hnn] at h4
    rw [Nat.zero_add] at h1
    have hk := lt_of_get h2
    have he : eqI (k : Int) (-1) = false := by unfold eqI; rw [beq_eq_false_iff_ne]; omega
    rw [h1, he, addW1 (by omega)]
    dsimp only [cond_false]
    obtain ⟨⟨cur, i⟩, hI, hl⟩ := loop_post (step := fun (z : (List HoldT) × ((Int × Unit) × Unit) × Int × Int × Unit) => r119_0 z.1 z.2.1 z.2.2.1 z.2.2.2.1) xs (fun j (a : List HoldT × Nat) => (a.1, ((now, ()), ()), (a.2 : Int), ((j : Nat) : Int), ())) (fun a => .inl (a.1, ((now, ()), ()), (a.2 : Int), (xs.length : Int), ())) (fun j a => a.1.length = xs.length ∧ a.2 < j ∧ a.1.take a.2 = (xs.take j).filter (liveM now) ∧ a.1.drop j = xs.drop j) (fun j x a hx ha => by
        obtain ⟨cur, i⟩ := a
        obtain ⟨ha1, ha2, ha3, ha4⟩ := ha
        simp only at ha1 ha2 ha3 ha4
        have hlt := lt_of_get hx
        have hcx : cur[j]? = some x := by
          have e1 : (cur.drop j)[0]? = some x := by rw [ha4, List.getElem?_drop, Nat.add_zero]; exact hx
          rw [List.getElem?_drop, Nat.add_zero] at e1
          exact e1
        have hdr : cur.drop (j + 1) = xs.drop (j + 1) := by
          have := congrArg List.tail ha4
          simpa using this
        have hst : r119_0 cur ((now, ()), ()) (i : Int) (j : Int) = some (.inl (bif liveM now x then (cur.set i x, ((now, ()), ()), ((i + 1 : Nat) : Int), ((j + 1 : Nat) : Int), ()) else (cur, ((now, ()), ()), (i : Int), ((j + 1 : Nat) : Int), ()))) := by
          unfold r119_0 g161 g162 liveM
          have hi : i < cur.length := by omega
          have hsp : cur = cur.take i ++ cur[i] :: cur.drop (i + 1) := by
            rw [← List.drop_eq_getElem_cons hi, List.take_append_drop]
          have htl : (cur.take i).length = i := by rw [List.length_take]; omega
          rw [ltI_in hcx, inB_in hcx, gt_in _ hcx, inB_lt hi, addW1 (show j ≤ big by omega), addW1 (show i ≤ big by omega)]
          dsimp only [cond_true, Option.bind_some]
          cases ltI now x.2.2.1 with
          | false => rfl
          | true =>
            dsimp only [cond_true, cond_false, Bool.not_true, Bool.not_false]
            generalize hci : cur[i] = ci at hsp
            generalize hD : cur.drop (i + 1) = D at hsp
            generalize hT : cur.take i = T at hsp htl
            rw [hsp]
            simp only [gt_mid _ htl, stI_mid htl, set_len htl]
            rfl
        cases hlv : liveM now x with
        | true =>
          rw [hlv] at hst
          refine ⟨(cur.set i x, i + 1), hst, by simp [ha1], by omega, ?_, ?_⟩
          · show (cur.set i x).take (i + 1) = _
            have hi : i < cur.length := by omega
            rw [List.take_add_one, List.getElem?_set_self hi, List.take_set_of_le (Nat.le_refl _), ha3, List.take_add_one, hx]
            simp [List.filter_append, hlv]
          · show (cur.set i x).drop (j + 1) = _
            rw [List.drop_set_of_lt (by omega), hdr]
        | false =>
          rw [hlv] at hst
          refine ⟨(cur, i), hst, ha1, by omega, ?_, hdr⟩
          show cur.take i = _
          rw [ha3, List.take_add_one, hx]
          simp [List.filter_append, hlv]) (fun a ha => by
        show r119_0 a.1 ((now, ()), ()) (a.2 : Int) (xs.length : Int) = _
        unfold r119_0
        rw [ltI_out ha.1]; rfl) (xs.length - (k + 1)) (k + 1) (xs, k) (by omega) ⟨rfl, by omega, by
        show xs.take k = _
        have hx0 : liveM now x0 = false := by simpa using h3
        rw [List.take_add_one, h2, List.filter_append, h4]
        simp [hx0], rfl⟩
    obtain ⟨i1, i2, i3, _⟩ := hI
    simp only at i1 i2 i3
    have hl' : l119_0 xs ((now, ()), ()) (k : Int) ((k + 1 : Nat) : Int) = some (.inl (cur, ((now, ()), ()), (i : Int), (xs.length : Int), ())) := hl
    rw [hl']
    dsimp only [Option.bind_some, Sum.elim_inl]
    have c1 : cutB (i : Int) (lenI cur) cur = true := by
      unfold cutB cutOk leI lenI
      rw [decide_eq_true (by omega), decide_eq_true (by omega), decide_eq_true (by omega)]; rfl
    have c0 : (clrI ([], 0, 0, ()) cur (i : Int)) = cur.take i ++ List.replicate (cur.length - i) ([], 0, 0, ()) := by unfold clrI clr; simp
    have c3 : tkI (clrI d74 cur (i : Int)) (i : Int) = cur.take i := by
      show tkI (clrI ([], 0, 0, ()) cur (i : Int)) (i : Int) = _
      rw [c0]; unfold tkI
      have : (cur.take i).length = i := by rw [List.length_take]; omega
      simp only [Int.toNat_natCast]
      rw [List.take_append_of_le_length (by omega), List.take_of_length_le (by omega)]
    have c2 : cutB 0 (i : Int) (clrI d74 cur (i : Int)) = true := by
      show cutB 0 (i : Int) (clrI ([], 0, 0, ()) cur (i : Int)) = true
      rw [c0]; exact cutB_take (by simp; omega)
    rw [c1]
    dsimp only [cond_true]
    rw [c2, c3, i3, List.take_length]; rfl
theorem live_i (xs : List HoldT) (now : Int) (hs : xs.length ≤ 1048576) : g148 xs now = some ((), ((xs.filter (liveM now), ()), ())) := by
  have hbig : big = 140737488355328 := rfl
  unfold g148 g120
  rw [fitB_nil (by omega)]
  dsimp only [cond_true, Option.bind_some]
  rw [delete_i xs now hs]; rfl
def sweptM (a : AcctT) (now : Int) : AcctT := cond (acctM a) (cond (timeM now) (a.1, a.2.1, a.2.2.1, a.2.2.2.1, a.2.2.2.2.1, a.2.2.2.2.2.1.filter (liveM now), a.2.2.2.2.2.2.1, a.2.2.2.2.2.2.2.1, a.2.2.2.2.2.2.2.2.1, a.2.2.2.2.2.2.2.2.2.1, a.2.2.2.2.2.2.2.2.2.2.1, ()) a) a
theorem swept_s (a : AcctT) (now : Int) (hb : AcctB a) : g32 a now = some ((), (sweptM a now, ())) := by
  unfold g32 sweptM
  rw [acctCp_s a hb, acct_s a hb, time_s, live_s _ now hb.2.1.1]
  dsimp only [Option.bind_some]
  cases acctM a <;> cases timeM now <;> rfl
theorem swept_i (a : AcctT) (now : Int) (hb : AcctB a) : g113 a now = some ((), (sweptM a now, ())) := by
  unfold g113 sweptM
  rw [acctCp_i a hb, acct_i a hb, time_i, live_i _ now hb.2.1.1]
  dsimp only [Option.bind_some]
  cases acctM a <;> cases timeM now <;> rfl
theorem swept_b {a : AcctT} (now : Int) (hb : AcctB a) : AcctB (sweptM a now) := by
  unfold sweptM
  cases acctM a with
  | false => exact hb
  | true =>
    cases timeM now with
    | false => exact hb
    | true =>
      obtain ⟨h1, ⟨h2, h3⟩, h4, h5, h6⟩ := hb
      exact ⟨h1, ⟨Nat.le_trans (List.length_filter_le _ _) h2, fun y hy => h3 y (List.mem_filter.1 hy).1⟩, h4, h5, h6⟩


/-! ### a hold by its name; sums -/
def holdAtM (xs : List HoldT) (id : List UInt8) : Int := findI (fun y => eqS y.1 id) 0 xs
theorem holdAt_s (xs : List HoldT) (id : List UInt8) (hs : xs.length ≤ 1048576) : g33 xs id = some ((), ((holdAtM xs id, ()), ())) := by
  have hbig : big = 140737488355328 := rfl
  unfold g33 holdAtM
  have h := loop_list (step := fun (z : (List UInt8) × (List HoldT) × Int × Int × Unit) => r33_0 z.1 z.2.1 z.2.2.1 z.2.2.2.1) xs (fun i (_ : Unit) => (id, xs, lenI xs, ((i : Nat) : Int), ())) (fun i y _ => bif eqS y.1 id then Sum.inr (.inr ((i : Int), ())) else Sum.inl ()) (fun _ => .inl (id, xs, lenI xs, (xs.length : Int), ())) (a0 := ()) (fun i y u hy => by
      have hlt := lt_of_get hy
      show r33_0 id xs (lenI xs) (i : Int) = _
      unfold r33_0
      rw [ltI_in hy, inB_in hy, gt_in _ hy, addW1 (by omega)]
      dsimp only [cond_true]
      cases eqS y.1 id <;> rfl) (fun u => by
      show r33_0 id xs (lenI xs) (xs.length : Int) = _
      unfold r33_0
      rw [ltI_out rfl]; rfl)
  have h' : l33_0 id xs (lenI xs) 0 = _ := h
  rw [h']
  have hf := goL_find (Y := Sum ((List UInt8) × (List HoldT) × Int × Int × Unit) (Int × Unit)) (fun (y : HoldT) => eqS y.1 id) (fun n => .inr (n, ())) (.inl (id, xs, lenI xs, (xs.length : Int), ())) (fun y => match y with | .inl _ => -1 | .inr z => z.1) (fun _ => rfl) rfl xs 0
  rw [← hf]
  dsimp only [Option.bind_some]
  cases goL _ _ 0 xs () <;> rfl
theorem holdAt_i (xs : List HoldT) (id : List UInt8) (hs : xs.length ≤ 1048576) : g56 xs id = some ((), ((holdAtM xs id, ()), ())) := by
  have hbig : big = 140737488355328 := rfl
  unfold g56 g114v1 holdAtM
  have h := loop_list (step := fun (z : (List HoldT) × (((List UInt8) × Unit) × Unit) × Int × Int × Unit) => r114v1_0 z.1 z.2.1 z.2.2.1 z.2.2.2.1) xs (fun i (_ : Unit) => (xs, ((id, ()), ()), lenI xs, ((i : Nat) : Int), ())) (fun i y _ => bif eqS y.1 id then Sum.inr (.inr ((i : Int), ())) else Sum.inl ()) (fun _ => .inl (xs, ((id, ()), ()), lenI xs, (xs.length : Int), ())) (a0 := ()) (fun i y u hy => by
      have hlt := lt_of_get hy
      show r114v1_0 xs ((id, ()), ()) (lenI xs) (i : Int) = _
      unfold r114v1_0 g115
      rw [ltI_in hy, inB_in hy, gt_in _ hy, addW1 (by omega)]
      dsimp only [cond_true, Option.bind_some]
      cases eqS y.1 id <;> rfl) (fun u => by
      show r114v1_0 xs ((id, ()), ()) (lenI xs) (xs.length : Int) = _
      unfold r114v1_0
      rw [ltI_out rfl]; rfl)
  have h' : l114v1_0 xs ((id, ()), ()) (lenI xs) 0 = _ := h
  rw [h']
  have hf := goL_find (Y := Sum ((List HoldT) × (((List UInt8) × Unit) × Unit) × Int × Int × Unit) (Int × Unit)) (fun (y : HoldT) => eqS y.1 id) (fun n => .inr (n, ())) (.inl (xs, ((id, ()), ()), lenI xs, (xs.length : Int), ())) (fun y => match y with | .inl _ => -1 | .inr z => z.1) (fun _ => rfl) rfl xs 0
  rw [← hf]
  dsimp only [Option.bind_some]
  cases goL _ _ 0 xs () <;> rfl
def liveSumM (xs : List HoldT) (now : Int) : Int := storedM (xs.filter (liveM now))
theorem liveSum_s (xs : List HoldT) (now : Int) (hs : xs.length ≤ 1048576) : g111 xs now = some ((), ((liveSumM xs now, ()), ())) := by
  unfold g111
  rw [live_s xs now hs]
  dsimp only [Option.bind_some]
  rw [stored_s _ (le_big (Nat.le_trans (List.length_filter_le _ _) hs))]; rfl
theorem liveSum_i (xs : List HoldT) (now : Int) (hs : xs.length ≤ 1048576) : g116 xs now = some ((), ((liveSumM xs now, ()), ())) := by
  unfold g116
  rw [live_i xs now hs]
  dsimp only [Option.bind_some]
  rw [stored_i _ (le_big (Nat.le_trans (List.length_filter_le _ _) hs))]; rfl
def roomM (a : AcctT) (now : Int) : Int := cond (acctM a) (cond (timeM now) (subW .i64 (subW .i64 a.2.1 a.2.2.1) (liveSumM a.2.2.2.2.2.1 now)) 0) 0
theorem room_s (a : AcctT) (now : Int) (hb : AcctB a) : g52 a now = some ((), ((roomM a now, ()), ())) := by
  unfold g52 roomM
  rw [acct_s a hb, time_s, liveSum_s _ now hb.2.1.1]
  dsimp only [Option.bind_some]
  cases acctM a <;> cases timeM now <;> rfl
theorem room_i (a : AcctT) (now : Int) (hb : AcctB a) : g58 a now = some ((), ((roomM a now, ()), ())) := by
  unfold g58 roomM
  rw [acct_i a hb, time_i, liveSum_i _ now hb.2.1.1]
  dsimp only [Option.bind_some]
  cases acctM a <;> cases timeM now <;> rfl



/-! ### a hold's place -/
def acct0 : AcctT := ([], 0, 0, 0, 0, [], 0, 0, [], [], [], ())
theorem holdAt_in {xs : List HoldT} {id : List UInt8} (h : ¬ holdAtM xs id < 0) : inB (holdAtM xs id) xs = true := by
  rcases findI_bd (fun (y : HoldT) => eqS y.1 id) xs 0 with h1 | h1
  · exfalso; apply h; show findI _ 0 xs < 0; omega
  · have e : holdAtM xs id = ((holdAtM xs id).toNat : Int) := by omega
    rw [e]
    have : holdAtM xs id < xs.length := by have := h1.2; simp only [holdAtM]; omega
    exact inB_lt (by omega)


/-! ### holds: drop, put -/
def keepM (id : List UInt8) (h : HoldT) : Bool := !eqS h.1 id
theorem idxDrop_i (xs : List HoldT) (id : List UInt8) (hs : xs.length ≤ 1048576) : g114v2 xs (id, ()) = some ((), ((findI (fun y => !keepM id y) 0 xs, ()), ())) := by
  have hbig : big = 140737488355328 := rfl
  unfold g114v2
  have h := loop_list (step := fun (z : (List HoldT) × ((List UInt8 × Unit) × Unit) × Int × Int × Unit) => r114v2_0 z.1 z.2.1 z.2.2.1 z.2.2.2.1) xs (fun i (_ : Unit) => (xs, ((id, ()), ()), lenI xs, ((i : Nat) : Int), ())) (fun i y _ => bif !keepM id y then Sum.inr (.inr ((i : Int), ())) else Sum.inl ()) (fun _ => .inl (xs, ((id, ()), ()), lenI xs, (xs.length : Int), ())) (a0 := ()) (fun i y u hy => by
      have hlt := lt_of_get hy
      show r114v2_0 xs ((id, ()), ()) (lenI xs) (i : Int) = _
      unfold r114v2_0 g121 keepM
      rw [ltI_in hy, inB_in hy, gt_in _ hy, addW1 (by omega)]
      dsimp only [cond_true, Option.bind_some]
      cases eqS y.1 id <;> rfl) (fun u => by
      show r114v2_0 xs ((id, ()), ()) (lenI xs) (xs.length : Int) = _
      unfold r114v2_0
      rw [ltI_out rfl]; rfl)
  have h' : l114v2_0 xs ((id, ()), ()) (lenI xs) 0 = _ := h
  rw [h']
  have hf := goL_find (Y := Sum ((List HoldT) × ((List UInt8 × Unit) × Unit) × Int × Int × Unit) (Int × Unit)) (fun (y : HoldT) => !keepM id y) (fun n => .inr (n, ())) (.inl (xs, ((id, ()), ()), lenI xs, (xs.length : Int), ())) (fun y => match y with | .inl _ => -1 | .inr z => z.1) (fun _ => rfl) rfl xs 0
  rw [← hf]
  dsimp only [Option.bind_some]
  cases goL _ _ 0 xs () <;> rfl
theorem deleteDrop_i (xs : List HoldT) (id : List UInt8) (hs : xs.length ≤ 1048576) : g119v1 xs (id, ()) = some ((), ((xs.filter (keepM id), ()), ())) := by
  have hbig : big = 140737488355328 := rfl
  have hnn : (fun y : HoldT => !(!keepM id y)) = keepM id := by funext y; simp
  unfold g119v1
  rw [idxDrop_i xs id hs]
  dsimp only [Option.bind_some]
  by_cases hf : findI (fun y => !keepM id y) 0 xs = -1
  · have := findI_none _ _ _ hf
    rw [hnn] at this
    rw [hf, this]; rfl
  · obtain ⟨k, x0, h1, h2, h3, h4⟩ := findI_some _ _ _ hf
    rw [hnn] at h4
    rw [Nat.zero_add] at h1
    have hk := lt_of_get h2
    have he : eqI (k : Int) (-1) = false := by unfold eqI; rw [beq_eq_false_iff_ne]; omega
    rw [h1, he, addW1 (by omega)]
    dsimp only [cond_false]
    obtain ⟨⟨cur, i⟩, hI, hl⟩ := loop_post (step := fun (z : (List HoldT) × ((List UInt8 × Unit) × Unit) × Int × Int × Unit) => r119v1_0 z.1 z.2.1 z.2.2.1 z.2.2.2.1) xs (fun j (a : List HoldT × Nat) => (a.1, ((id, ()), ()), (a.2 : Int), ((j : Nat) : Int), ())) (fun a => .inl (a.1, ((id, ()), ()), (a.2 : Int), (xs.length : Int), ())) (fun j a => a.1.length = xs.length ∧ a.2 < j ∧ a.1.take a.2 = (xs.take j).filter (keepM id) ∧ a.1.drop j = xs.drop j) (fun j x a hx ha => by
        obtain ⟨cur, i⟩ := a
        obtain ⟨ha1, ha2, ha3, ha4⟩ := ha
        simp only at ha1 ha2 ha3 ha4
        have hlt := lt_of_get hx
        have hcx : cur[j]? = some x := by
          have e1 : (cur.drop j)[0]? = some x := by rw [ha4, List.getElem?_drop, Nat.add_zero]; exact hx
          rw [List.getElem?_drop, Nat.add_zero] at e1
          exact e1
        have hdr : cur.drop (j + 1) = xs.drop (j + 1) := by
          have := congrArg List.tail ha4
          simpa using this
        have hst : r119v1_0 cur ((id, ()), ()) (i : Int) (j : Int) = some (.inl (bif keepM id x then (cur.set i x, ((id, ()), ()), ((i + 1 : Nat) : Int), ((j + 1 : Nat) : Int), ()) else (cur, ((id, ()), ()), (i : Int), ((j + 1 : Nat) : Int), ()))) := by
          unfold r119v1_0 g121 keepM
          have hi : i < cur.length := by omega
          have hsp : cur = cur.take i ++ cur[i] :: cur.drop (i + 1) := by
            rw [← List.drop_eq_getElem_cons hi, List.take_append_drop]
          have htl : (cur.take i).length = i := by rw [List.length_take]; omega
          rw [ltI_in hcx, inB_in hcx, gt_in _ hcx, inB_lt hi, addW1 (show j ≤ big by omega), addW1 (show i ≤ big by omega)]
          dsimp only [cond_true, Option.bind_some]
          cases eqS x.1 id with
          | true => rfl
          | false =>
            try dsimp only [cond_true, cond_false, Bool.not_true, Bool.not_false]
            generalize hci : cur[i] = ci at hsp
            generalize hD : cur.drop (i + 1) = D at hsp
            generalize hT : cur.take i = T at hsp htl
            rw [hsp]
            simp only [gt_mid _ htl, stI_mid htl, set_len htl]
            rfl
        cases hlv : keepM id x with
        | true =>
          rw [hlv] at hst
          refine ⟨(cur.set i x, i + 1), hst, by simp [ha1], by omega, ?_, ?_⟩
          · show (cur.set i x).take (i + 1) = _
            have hi : i < cur.length := by omega
            rw [List.take_add_one, List.getElem?_set_self hi, List.take_set_of_le (Nat.le_refl _), ha3, List.take_add_one, hx]
            simp [List.filter_append, hlv]
          · show (cur.set i x).drop (j + 1) = _
            rw [List.drop_set_of_lt (by omega), hdr]
        | false =>
          rw [hlv] at hst
          refine ⟨(cur, i), hst, ha1, by omega, ?_, hdr⟩
          show cur.take i = _
          rw [ha3, List.take_add_one, hx]
          simp [List.filter_append, hlv]) (fun a ha => by
        show r119v1_0 a.1 ((id, ()), ()) (a.2 : Int) (xs.length : Int) = _
        unfold r119v1_0
        rw [ltI_out ha.1]; rfl) (xs.length - (k + 1)) (k + 1) (xs, k) (by omega) ⟨rfl, by omega, by
        show xs.take k = _
        have hx0 : keepM id x0 = false := by simpa using h3
        rw [List.take_add_one, h2, List.filter_append, h4]
        simp [hx0], rfl⟩
    obtain ⟨i1, i2, i3, _⟩ := hI
    simp only at i1 i2 i3
    have hl' : l119v1_0 xs ((id, ()), ()) (k : Int) ((k + 1 : Nat) : Int) = some (.inl (cur, ((id, ()), ()), (i : Int), (xs.length : Int), ())) := hl
    rw [hl']
    dsimp only [Option.bind_some, Sum.elim_inl]
    have c1 : cutB (i : Int) (lenI cur) cur = true := by
      unfold cutB cutOk leI lenI
      rw [decide_eq_true (by omega), decide_eq_true (by omega), decide_eq_true (by omega)]; rfl
    have c0 : (clrI ([], 0, 0, ()) cur (i : Int)) = cur.take i ++ List.replicate (cur.length - i) ([], 0, 0, ()) := by unfold clrI clr; simp
    have c3 : tkI (clrI d74 cur (i : Int)) (i : Int) = cur.take i := by
      show tkI (clrI ([], 0, 0, ()) cur (i : Int)) (i : Int) = _
      rw [c0]; unfold tkI
      have : (cur.take i).length = i := by rw [List.length_take]; omega
      simp only [Int.toNat_natCast]
      rw [List.take_append_of_le_length (by omega), List.take_of_length_le (by omega)]
    have c2 : cutB 0 (i : Int) (clrI d74 cur (i : Int)) = true := by
      show cutB 0 (i : Int) (clrI ([], 0, 0, ()) cur (i : Int)) = true
      rw [c0]; exact cutB_take (by simp; omega)
    rw [c1]
    dsimp only [cond_true]
    rw [c2, c3, i3, List.take_length]; rfl
theorem drop_i (xs : List HoldT) (id : List UInt8) (hs : xs.length ≤ 1048576) : g60 xs id = some ((), ((xs.filter (keepM id), ()), ())) := by
  have hbig : big = 140737488355328 := rfl
  unfold g60 g120
  rw [fitB_nil (by omega)]
  dsimp only [cond_true, Option.bind_some]
  rw [deleteDrop_i xs id hs]; rfl
/-! ### the order of texts -/
theorem less_irr : ∀ s : List UInt8, Op.bytesLess s s = false
  | [] => rfl
  | x :: r => by simp [Op.bytesLess, less_irr r]
theorem less_trans : ∀ s t u : List UInt8, Op.bytesLess s t = true → Op.bytesLess t u = true → Op.bytesLess s u = true
  | [], [], u, h, _ => by simp [Op.bytesLess] at h
  | _ :: _, [], u, h, _ => by simp [Op.bytesLess] at h
  | _, _ :: _, [], _, h => by simp [Op.bytesLess] at h
  | [], _ :: _, _ :: _, _, _ => by simp [Op.bytesLess]
  | x :: r, y :: t, z :: u, h1, h2 => by
    simp only [Op.bytesLess, Bool.or_eq_true, decide_eq_true_eq, Bool.and_eq_true, beq_iff_eq] at h1 h2 ⊢
    rcases h1 with h1 | ⟨rfl, h1⟩
    · rcases h2 with h2 | ⟨rfl, h2⟩
      · exact .inl (UInt8.lt_trans h1 h2)
      · exact .inl h1
    · rcases h2 with h2 | ⟨rfl, h2⟩
      · exact .inl h2
      · exact .inr ⟨rfl, less_trans r t u h1 h2⟩
def ltH (h x : HoldT) : Bool := ltS x.1 h.1
theorem ltH_keep {h x : HoldT} (hl : ltH h x = true) : keepM h.1 x = true := by
  unfold ltH ltS at hl
  unfold keepM eqS
  by_cases e : x.1 = h.1
  · rw [e, less_irr] at hl; simp at hl
  · simp [e]
def putM (xs : List HoldT) (h : HoldT) : List HoldT := xs.takeWhile (ltH h) ++ h :: (xs.dropWhile (ltH h)).filter (keepM h.1)
def holdPutM (xs : List HoldT) (h : HoldT) : List HoldT × Bool := cond (holdsM xs) (cond (holdsM (putM xs h)) (putM xs h, true) ([], false)) ([], false)
theorem holdsM_len {xs : List HoldT} (h : holdsM xs = true) : xs.length ≤ 4 := by
  unfold holdsM at h
  cases ha : allI (holdStep xs) 0 xs with
  | false => rw [ha] at h; simp at h
  | true =>
    rw [ha] at h
    have : (lenI xs) ≤ 4 := of_decide_eq_true h
    unfold lenI at this; omega
theorem holdsM_sorted {xs : List HoldT} (h : holdsM xs = true) : xs.Pairwise fun a b => ltS a.1 b.1 = true := by
  unfold holdsM at h
  cases ha : allI (holdStep xs) 0 xs with
  | false => rw [ha] at h; simp at h
  | true =>
    have adj : ∀ i (h1 : i + 1 < xs.length), ltS (xs[i]'(by omega)).1 xs[i + 1].1 = true := fun i h1 => by
      have := allI_get _ ha (i := i + 1) (x := xs[i + 1]) (List.getElem?_eq_getElem h1)
      unfold holdStep at this
      cases hm : holdM xs[i + 1] with
      | false => rw [hm] at this; simp at this
      | true =>
        rw [hm, Nat.zero_add, ltI_yes (show (0 : Int) < ((i + 1 : Nat) : Int) by omega)] at this
        simp only [cond_true] at this
        rw [show ((i + 1 : Nat) : Int) - 1 = ((i : Nat) : Int) by omega, gt_in _ (List.getElem?_eq_getElem (show i < xs.length by omega))] at this
        exact this
    rw [List.pairwise_iff_getElem]
    intro i j hi hj hij
    obtain ⟨d, rfl⟩ : ∃ d, j = i + 1 + d := ⟨j - i - 1, by omega⟩
    induction d with
    | zero => exact adj i hj
    | succ d ih => exact less_trans _ _ _ (ih (by omega) (by omega)) (adj (i + 1 + d) hj)
theorem sorted_drop {h : HoldT} : ∀ {xs : List HoldT}, (xs.Pairwise fun a b => ltS a.1 b.1 = true) → (xs.filter (keepM h.1)).takeWhile (ltH h) = xs.takeWhile (ltH h) ∧ (xs.filter (keepM h.1)).dropWhile (ltH h) = (xs.dropWhile (ltH h)).filter (keepM h.1)
  | [], _ => ⟨rfl, rfl⟩
  | x :: r, hp => by
    obtain ⟨h1, h2⟩ := List.pairwise_cons.1 hp
    cases hx : ltH h x with
    | true =>
      obtain ⟨i1, i2⟩ := sorted_drop h2
      rw [List.filter_cons, if_pos (ltH_keep hx), List.takeWhile_cons, List.takeWhile_cons, List.dropWhile_cons, List.dropWhile_cons, hx]
      simp only [if_true]
      exact ⟨by rw [i1], i2⟩
    | false =>
      have hno : ∀ y ∈ (x :: r).filter (keepM h.1), ltH h y = false := fun y hy => by
        rcases List.mem_cons.1 (List.mem_filter.1 hy).1 with e | e
        · subst e; exact hx
        · cases hyl : ltH h y with
          | false => rfl
          | true =>
            have := less_trans _ _ _ (h1 y e) hyl
            unfold ltH ltS at hx
            rw [this] at hx
            simp at hx
      have hF : ∀ F : List HoldT, (∀ y ∈ F, ltH h y = false) → F.takeWhile (ltH h) = [] ∧ F.dropWhile (ltH h) = F := fun F hF => by
        cases F with
        | nil => exact ⟨rfl, rfl⟩
        | cons y F => rw [List.takeWhile_cons, List.dropWhile_cons, hF y (List.mem_cons_self ..)]; exact ⟨rfl, rfl⟩
      obtain ⟨f1, f2⟩ := hF _ hno
      rw [f1, f2, List.takeWhile_cons, List.dropWhile_cons, hx]
      exact ⟨rfl, rfl⟩
def putStep (h x : HoldT) (a : List HoldT × Bool) : List HoldT × Bool := ((cond (cond (!a.2) (!ltH h x) false) (a.1 ++ [h]) a.1) ++ (cond (keepM h.1 x) [x] []), cond (cond (!a.2) (!ltH h x) false) true a.2)
theorem put_done {h : HoldT} : ∀ (xs : List HoldT) (out : List HoldT), xs.foldl (fun a x => putStep h x a) (out, true) = (out ++ xs.filter (keepM h.1), true)
  | [], out => by simp
  | x :: r, out => by
    rw [List.foldl_cons, List.filter_cons]
    have : putStep h x (out, true) = (out ++ (cond (keepM h.1 x) [x] []), true) := rfl
    rw [this, put_done r]
    cases keepM h.1 x <;> simp
theorem put_fold {h : HoldT} : ∀ (xs : List HoldT) (out : List HoldT), xs.foldl (fun a x => putStep h x a) (out, false) = (if xs.all (ltH h) then (out ++ xs, false) else (out ++ putM xs h, true))
  | [], out => by simp
  | x :: r, out => by
    rw [List.foldl_cons, List.all_cons]
    cases hx : ltH h x with
    | true =>
      have : putStep h x (out, false) = (out ++ [x], false) := by unfold putStep; simp only [hx, ltH_keep hx]; rfl
      rw [this, put_fold r]
      have hp : putM (x :: r) h = x :: putM r h := by unfold putM; rw [List.takeWhile_cons, List.dropWhile_cons, hx]; rfl
      rw [hp]
      simp only [Bool.true_and, List.append_assoc, List.singleton_append]
    | false =>
      have : putStep h x (out, false) = (out ++ [h] ++ (cond (keepM h.1 x) [x] []), true) := by unfold putStep; simp only [hx]; rfl
      rw [this, put_done]
      have hp : putM (x :: r) h = h :: (x :: r).filter (keepM h.1) := by unfold putM; rw [List.takeWhile_cons, List.dropWhile_cons, hx]; rfl
      rw [hp, List.filter_cons]
      cases keepM h.1 x <;> simp
theorem putM_all {h : HoldT} {xs : List HoldT} (ha : xs.all (ltH h) = true) : putM xs h = xs ++ [h] := by
  have := List.all_eq_true.1 ha
  have e1 : ∀ ys : List HoldT, (∀ y ∈ ys, ltH h y = true) → ys.takeWhile (ltH h) = ys ∧ ys.dropWhile (ltH h) = [] := by
    intro ys
    induction ys with
    | nil => intro _; exact ⟨rfl, rfl⟩
    | cons y ys ih =>
      intro hy
      obtain ⟨i1, i2⟩ := ih fun z hz => hy z (List.mem_cons_of_mem _ hz)
      rw [List.takeWhile_cons, List.dropWhile_cons, hy y (List.mem_cons_self ..)]
      exact ⟨by simp [i1], by simp [i2]⟩
  obtain ⟨f1, f2⟩ := e1 xs this
  unfold putM
  rw [f1, f2]; rfl
theorem put_len (xs : List HoldT) (h : HoldT) : (putM xs h).length ≤ xs.length + 1 := by
  unfold putM
  have h1 := List.length_filter_le (keepM h.1) (xs.dropWhile (ltH h))
  have h2 : (xs.takeWhile (ltH h)).length + (xs.dropWhile (ltH h)).length = xs.length := by rw [← List.length_append, List.takeWhile_append_dropWhile]
  simp only [List.length_append, List.length_cons]
  omega
theorem put_mem {xs : List HoldT} {h y : HoldT} (hy : y ∈ putM xs h) : y = h ∨ y ∈ xs := by
  unfold putM at hy
  rcases List.mem_append.1 hy with hy | hy
  · exact .inr ((List.takeWhile_prefix _).subset hy)
  · rcases List.mem_cons.1 hy with hy | hy
    · exact .inl hy
    · exact .inr ((List.dropWhile_suffix _).subset (List.mem_filter.1 hy).1)
theorem put_b {xs : List HoldT} {h : HoldT} (hb : HoldsB xs) (hl : xs.length ≤ 1048576) (hh : h.1.length ≤ big) : HoldsB (putM xs h) := by
  have hbig : big = 140737488355328 := rfl
  refine ⟨by have := put_len xs h; omega, fun y hy => ?_⟩
  rcases put_mem hy with e | e
  · rw [e]; exact hh
  · exact hb.2 y e
theorem put_s (xs : List HoldT) (h : HoldT) (hb : HoldsB xs) (hl : xs.length ≤ 1048576) (hh : h.1.length ≤ big) : g53 xs h = some ((), (((holdPutM xs h).1, ()), ((holdPutM xs h).2, ()), ())) := by
  have hbig : big = 140737488355328 := rfl
  unfold g53 holdPutM
  rw [holds_s xs hb]
  dsimp only [Option.bind_some]
  cases hm : holdsM xs with
  | false => rfl
  | true =>
    have hl4 := holdsM_len hm
    simp only [cond_true, Bool.not_true, cond_false]
    have hp := holds_s (putM xs h) (put_b hb hl hh)
    have h' := loop_inv (step := fun (z : (List HoldT) × Bool × (List HoldT) × Int × Int × HoldT × Unit) => r53_0 z.1 z.2.1 z.2.2.1 z.2.2.2.1 z.2.2.2.2.1 z.2.2.2.2.2.1) xs (fun i (a : List HoldT × Bool) => (a.1, a.2, xs, lenI xs, ((i : Nat) : Int), h, ())) (fun _ x a => Sum.inl (putStep h x a)) (fun a => .inl (a.1, a.2, xs, lenI xs, (xs.length : Int), h, ())) (fun i a => a.1.length ≤ 2 * i) (a0 := ([], false)) (Nat.le_refl _) (fun i x a hx ha => by
      have hlt := lt_of_get hx
      show r53_0 a.1 a.2 xs (lenI xs) (i : Int) h = _
      have e : ∀ (o : List HoldT) (y : HoldT), o.length ≤ 100 → fitB 32 o [y] = true := fun o y ho => Nat.ble_eq_true_of_le (by simp; omega)
      have e1 := e a.1 h (by omega)
      have e2 := e a.1 x (by omega)
      have e3 := e (apL a.1 [h]) x (by unfold apL; simp; omega)
      unfold r53_0 putStep
      rw [ltI_in hx, inB_in hx, addW1 (by omega)]
      dsimp only [cond_true]
      have eg : gt d74 xs (i : Int) = x := gt_in _ hx
      rw [eg]
      have q1 : ltH h x = ltS x.1 h.1 := rfl
      have q2 : keepM h.1 x = !eqS x.1 h.1 := rfl
      rw [q1, q2, e1, e2, e3]
      cases a.2 <;> cases ltS x.1 h.1 <;> cases eqS x.1 h.1 <;> simp [apL]) (fun i x a a' hx ha hf => by
      simp only [Sum.inl.injEq] at hf
      rw [← hf]
      unfold putStep
      cases (cond (!a.2) (!ltH h x) false) <;> cases keepM h.1 x <;> simp <;> omega) (fun a ha => by
      show r53_0 a.1 a.2 xs (lenI xs) (xs.length : Int) h = _
      unfold r53_0
      rw [ltI_out rfl]; rfl)
    rw [goL_fold (fun x a => putStep h x a), put_fold] at h'
    have h'' : l53_0 [] false xs (lenI xs) 0 h = _ := h'
    rw [h'']
    by_cases ha : xs.all (ltH h) = true
    · rw [if_pos ha]
      simp only [Option.bind_some, Sum.elim_inl, List.nil_append, Bool.not_false, cond_true]
      have e1 : fitB 32 xs [h] = true := Nat.ble_eq_true_of_le (by simp; omega)
      have e2 : apL xs [h] = putM xs h := (putM_all ha).symm
      rw [e1, e2, hp]
      simp only [cond_true, Option.bind_some]
      cases holdsM (putM xs h) <;> rfl
    · rw [if_neg ha]
      simp only [Option.bind_some, Sum.elim_inl, List.nil_append, Bool.not_true, cond_false]
      rw [hp]
      simp only [Option.bind_some]
      cases holdsM (putM xs h) <;> rfl
theorem goL_tw {α Y : Type} (p : α → Bool) (y : Nat → Y) : ∀ (xs : List α) (i n : Nat), n = i + xs.length → goL (fun i x (_ : Unit) => bif p x then Sum.inl () else .inr (y i)) (fun _ => y n) i xs () = y (i + (xs.takeWhile p).length)
  | [], i, n, h => by simp at h; subst h; simp [goL]
  | x :: r, i, n, h => by
    rw [goL, List.takeWhile_cons]
    cases hp : p x with
    | true =>
      simp only [cond_true, if_true]
      rw [goL_tw p y r (i + 1) n (by simp only [List.length_cons] at h; omega)]
      congr 1
      simp only [List.length_cons]; omega
    | false => simp
theorem tw_take {α : Type} (p : α → Bool) : ∀ (xs : List α), xs.take (xs.takeWhile p).length = xs.takeWhile p ∧ xs.drop (xs.takeWhile p).length = xs.dropWhile p
  | [] => ⟨rfl, rfl⟩
  | x :: r => by
    rw [List.takeWhile_cons, List.dropWhile_cons]
    cases hp : p x with
    | true => obtain ⟨h1, h2⟩ := tw_take p r; simp only [if_true, List.length_cons, List.take_succ_cons, List.drop_succ_cons]; exact ⟨by rw [h1], h2⟩
    | false => exact ⟨rfl, rfl⟩
theorem put_i (xs : List HoldT) (h : HoldT) (hb : HoldsB xs) (hl : xs.length ≤ 1048576) (hh : h.1.length ≤ big) : g59 xs h = some ((), (((holdPutM xs h).1, ()), ((holdPutM xs h).2, ()), ())) := by
  have hbig : big = 140737488355328 := rfl
  unfold g59 holdPutM
  rw [holds_i xs hb, drop_i xs h.1 hl]
  dsimp only [Option.bind_some]
  cases hm : holdsM xs with
  | false => rfl
  | true =>
    have hl4 := holdsM_len hm
    simp only [cond_true, Bool.not_true, cond_false]
    have hp := holds_i (putM xs h) (put_b hb hl hh)
    obtain ⟨s1, s2⟩ := sorted_drop (h := h) (holdsM_sorted hm)
    have hFl := List.length_filter_le (keepM h.1) xs
    generalize hF : xs.filter (keepM h.1) = F at s1 s2 hFl
    obtain ⟨t1, t2⟩ := tw_take (ltH h) F
    have htl : (F.takeWhile (ltH h)).length ≤ F.length := (List.takeWhile_prefix _).length_le
    have h' := loop_list (step := fun (z : (List HoldT) × Int × HoldT × Unit) => r59_0 z.1 z.2.1 z.2.2.1) F (fun i (_ : Unit) => (F, ((i : Nat) : Int), h, ())) (fun i x _ => bif ltH h x then Sum.inl () else .inr (.inl (F, ((i : Nat) : Int), h, ()))) (fun _ => .inl (F, (F.length : Int), h, ())) (a0 := ()) (fun i x a hx => by
      have hlt := lt_of_get hx
      show r59_0 F (i : Int) h = _
      have eg : gt d74 F (i : Int) = x := gt_in _ hx
      have q1 : ltH h x = ltS x.1 h.1 := rfl
      unfold r59_0
      rw [ltI_in hx, inB_in hx, addW1 (by omega), eg, q1]
      dsimp only [cond_true]
      cases ltS x.1 h.1 <;> rfl) (fun a => by
      show r59_0 F (F.length : Int) h = _
      unfold r59_0
      rw [ltI_out rfl]; rfl)
    rw [goL_tw (ltH h) (fun i => Sum.inl (F, ((i : Nat) : Int), h, ())) F 0 F.length (by omega), Nat.zero_add] at h'
    have h'' : l59_0 F 0 h = _ := h'
    rw [h'']
    simp only [Option.bind_some, Sum.elim_inl]
    have hi : g118 F ((F.takeWhile (ltH h)).length : Int) [h] = some ((), ((putM xs h, ()), ())) := by
      unfold g118 insF
      have e1 : leI 0 ((F.takeWhile (ltH h)).length : Int) = true := decide_eq_true (Int.natCast_nonneg _)
      have e2 : leI ((F.takeWhile (ltH h)).length : Int) (F.length : Int) = true := decide_eq_true (by omega)
      have e3 : Nat.ble ((F.length + [h].length) * 32) big = true := Nat.ble_eq_true_of_le (by simp; omega)
      rw [e1, e2, e3]
      simp only [Bool.and_self, cond_true, Int.toNat_natCast]
      rw [t1, t2, s1, s2]
      unfold putM
      simp
    rw [hi]
    simp only [Option.bind_some]
    rw [hp]
    simp only [Option.bind_some]
    cases holdsM (putM xs h) <;> rfl


theorem drop_s (xs : List HoldT) (id : List UInt8) (hs : xs.length ≤ 1048576) : g54 xs id = some ((), ((xs.filter (keepM id), ()), ())) := by
  have hbig : big = 140737488355328 := rfl
  unfold g54
  have h := loop_inv (step := fun (z : List UInt8 × (List HoldT) × (List HoldT) × Int × Int × Unit) => r54_0 z.1 z.2.1 z.2.2.1 z.2.2.2.1 z.2.2.2.2.1) xs (fun i (a : List HoldT) => (id, a, xs, lenI xs, ((i : Nat) : Int), ())) (fun _ x a => Sum.inl (bif keepM id x then a ++ [x] else a)) (fun a => .inl (id, a, xs, lenI xs, (xs.length : Int), ())) (fun i a => a.length ≤ i) (a0 := []) (Nat.le_refl _) (fun i x a hx ha => by
      have hlt := lt_of_get hx
      show r54_0 id a xs (lenI xs) (i : Int) = _
      unfold r54_0 keepM
      have e : ∀ y : HoldT, fitB 32 a [y] = true := fun y => Nat.ble_eq_true_of_le (by simp; omega)
      rw [ltI_in hx, inB_in hx, gt_in _ hx]
      dsimp only [cond_true, Option.bind_some]
      rw [e, addW1 (by omega)]
      cases eqS x.1 id <;> rfl) (fun i x a a' hx ha hf => by
      simp only [Sum.inl.injEq] at hf
      rw [← hf]
      cases keepM id x with
      | true => simp; omega
      | false => simp; omega) (fun a ha => by
      show r54_0 id a xs (lenI xs) (xs.length : Int) = _
      unfold r54_0
      rw [ltI_out rfl]; rfl)
  rw [goL_filter] at h
  have h' : l54_0 id [] xs (lenI xs) 0 = _ := h
  rw [h']; rfl



/-! ### Move -/
def wHolds (a : AcctT) (l : List HoldT) : AcctT := (a.1, a.2.1, a.2.2.1, a.2.2.2.1, a.2.2.2.2.1, l, a.2.2.2.2.2.2.1, a.2.2.2.2.2.2.2.1, a.2.2.2.2.2.2.2.2.1, a.2.2.2.2.2.2.2.2.2.1, a.2.2.2.2.2.2.2.2.2.2.1, ())
def hd0 : HoldT := ([], 0, 0, ())
def moveM (a b : AcctT) (id : List UInt8) (now : Int) : AcctT × AcctT × Int :=
  cond (cond (acctM a) (cond (timeM now) (holdIdM id) false) false)
    (cond (acctM b)
      (cond (eqS a.1 b.1) (acct0, acct0, 4)
        (cond (ltI (holdAtM (sweptM a now).2.2.2.2.2.1 id) 0) (acct0, acct0, 5)
          (cond (leI 0 (holdAtM (sweptM b now).2.2.2.2.2.1 id)) (acct0, acct0, 6)
            (cond (eqI (lenI (sweptM b now).2.2.2.2.2.1) 4) (acct0, acct0, 10)
              (cond (ltI (roomM (sweptM b now) now) (gt hd0 (sweptM a now).2.2.2.2.2.1 (holdAtM (sweptM a now).2.2.2.2.2.1 id)).2.1) (acct0, acct0, 7)
                (wHolds (sweptM a now) ((sweptM a now).2.2.2.2.2.1.filter (keepM id)), wHolds (sweptM b now) (holdPutM (sweptM b now).2.2.2.2.2.1 (gt hd0 (sweptM a now).2.2.2.2.2.1 (holdAtM (sweptM a now).2.2.2.2.2.1 id))).1, 0))))))
      (acct0, acct0, 1))
    (acct0, acct0, 1)
theorem gt_hd {xs : List HoldT} {k : Int} (hb : ∀ y ∈ xs, y.1.length ≤ 1048576) : (gt hd0 xs k).1.length ≤ 1048576 := by
  unfold gt
  rw [List.getD_eq_getElem?_getD]
  cases h : xs[k.toNat]? with
  | none => exact Nat.zero_le _
  | some y => exact hb y (List.mem_of_getElem? h)
theorem move_s (a b : AcctT) (id : List UInt8) (now : Int) (hb : AcctB a) (hc : AcctB b) (hi : id.length ≤ 1048576) : g14 a b id now = some ((), ((moveM a b id now).1, ((moveM a b id now).2.1, ((moveM a b id now).2.2, ()), ()))) := by
  have hsb := swept_b now hb
  have hsc := swept_b now hc
  unfold g14 g30 moveM
  rw [acct_s a hb, time_s, holdId_s id (le_big hi), acct_s b hc, swept_s a now hb, swept_s b now hc]
  dsimp only [Option.bind_some]
  generalize sweptM a now = s at hsb ⊢
  generalize sweptM b now = t at hsc ⊢
  rw [holdAt_s _ id hsb.2.1.1, holdAt_s _ id hsc.2.1.1, room_s t now hsc, drop_s _ id hsb.2.1.1]
  dsimp only [Option.bind_some]
  have hgt : ∀ k : Int, gt d74 s.2.2.2.2.2.1 k = gt hd0 s.2.2.2.2.2.1 k := fun _ => rfl
  rw [hgt, put_s _ _ hsc.hs hsc.2.1.1 (le_big (gt_hd hsb.2.1.2))]
  dsimp only [Option.bind_some]
  cases acctM a <;> first | rfl | skip
  cases timeM now <;> first | rfl | skip
  cases holdIdM id <;> first | rfl | skip
  cases acctM b <;> first | rfl | skip
  cases eqS a.1 b.1 <;> first | rfl | skip
  by_cases hat : holdAtM s.2.2.2.2.2.1 id < 0
  · rw [ltI_yes hat]; rfl
  · rw [ltI_no hat, holdAt_in hat]
    cases leI 0 (holdAtM t.2.2.2.2.2.1 id) <;> first | rfl | skip
    cases eqI (lenI t.2.2.2.2.2.1) 4 <;> first | rfl | skip
    dsimp only [cond_true, cond_false, Bool.not_true, Option.bind_some]
    cases ltI (roomM t now) (gt hd0 s.2.2.2.2.2.1 (holdAtM s.2.2.2.2.2.1 id)).2.1 <;> rfl
theorem move_i (a b : AcctT) (id : List UInt8) (now : Int) (hb : AcctB a) (hc : AcctB b) (hi : id.length ≤ 1048576) : g15 a b id now = some ((), ((moveM a b id now).1, ((moveM a b id now).2.1, ((moveM a b id now).2.2, ()), ()))) := by
  have hsb := swept_b now hb
  have hsc := swept_b now hc
  unfold g15 g55 moveM
  rw [acct_i a hb, time_i, holdId_i id (le_big hi), acct_i b hc, swept_i a now hb, swept_i b now hc]
  dsimp only [Option.bind_some]
  generalize sweptM a now = s at hsb ⊢
  generalize sweptM b now = t at hsc ⊢
  have h0 := holdAt_i [] id (by decide)
  have h1 := holdAt_i s.2.2.2.2.2.1 id hsb.2.1.1
  have h2 := holdAt_i t.2.2.2.2.2.1 id hsc.2.1.1
  have h3 := room_i t now hsc
  have h4 := drop_i s.2.2.2.2.2.1 id hsb.2.1.1
  have hgt : ∀ k : Int, gt d74 s.2.2.2.2.2.1 k = gt hd0 s.2.2.2.2.2.1 k := fun _ => rfl
  have h5 := put_i t.2.2.2.2.2.1 (gt hd0 s.2.2.2.2.2.1 (holdAtM s.2.2.2.2.2.1 id)) hsc.hs hsc.2.1.1 (le_big (gt_hd hsb.2.1.2))
  have e00 : eqI 0 0 = true := rfl
  have e10 : eqI 1 0 = false := rfl
  cases acctM a with
  | false =>
    simp only [cond_true, cond_false, Bool.not_true, Bool.not_false, Option.bind_some, e00, e10]
    cases acctM b <;> cases timeM now <;> (simp only [cond_true, cond_false, Bool.not_true, Bool.not_false, Option.bind_some, h0]; rfl)
  | true =>
  cases timeM now with
  | false =>
    cases acctM b <;> (simp only [cond_true, cond_false, Bool.not_true, Bool.not_false, Option.bind_some, h0]; rfl)
  | true =>
  cases acctM b with
  | false =>
    simp only [cond_true, cond_false, Bool.not_true, Bool.not_false, Option.bind_some, h1, e00, e10]
    cases holdIdM id <;> rfl
  | true =>
  simp only [cond_true, cond_false, Bool.not_true, Bool.not_false, Option.bind_some, h1, h2, h3, h4, e00, e10, hgt, h5]
  cases holdIdM id <;> first | rfl | skip
  cases eqS a.1 b.1 <;> first | rfl | skip
  by_cases hat : holdAtM s.2.2.2.2.2.1 id < 0
  · rw [ltI_yes hat]; rfl
  · rw [ltI_no hat, holdAt_in hat]
    cases leI 0 (holdAtM t.2.2.2.2.2.1 id) <;> first | rfl | skip
    cases eqI (lenI t.2.2.2.2.2.1) 4 <;> first | rfl | skip
    simp only [cond_true, cond_false, Bool.not_true, Bool.not_false, Option.bind_some]
    cases ltI (roomM t now) (gt hd0 s.2.2.2.2.2.1 (holdAtM s.2.2.2.2.2.1 id)).2.1 <;> rfl

end Go.Av

