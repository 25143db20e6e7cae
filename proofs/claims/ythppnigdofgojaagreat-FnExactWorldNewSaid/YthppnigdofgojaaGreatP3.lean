/- Part of a proof that the law FnExactWorldNew answers true for every input: the printed functions of this program and their plain laws. No conditions beyond the statement. -/
import Derived.Test.YthppnigdofgojaaGreatP1
import Derived.Test.YthppnigdofgojaaGreatFw4
set_option maxRecDepth 100000
set_option maxHeartbeats 4000000
namespace Go.Av
/-! ### the reference model's checks, as plain functions -/
abbrev HoldT := List UInt8 × Int × Int × Unit
abbrev SlotT := List UInt8 × List UInt8 × List (Int × Unit) × Unit
abbrev RingT := Int × Int × List (Int × Unit) × List (Int × Unit) × Unit
def inM (a lo hi : Int) : Bool := cond (leI lo a) (leI a hi) false
theorem inM_iff {a lo hi : Int} : inM a lo hi = true ↔ lo ≤ a ∧ a ≤ hi := by
  unfold inM leI
  by_cases h : lo ≤ a <;> simp [h]
theorem in_s (a lo hi : Int) : g31 a lo hi = some ((), ((inM a lo hi, ()), ())) := rfl
theorem in_i (a lo hi : Int) : g73 a lo hi = some ((), ((inM a lo hi, ()), ())) := rfl
def moneyM (a : Int) : Bool := inM a 0 4611686018427387904
theorem money_s (a : Int) : g85 a = some ((), ((moneyM a, ()), ())) := rfl
theorem money_i (a : Int) : g96 a = some ((), ((moneyM a, ()), ())) := rfl
def timeM (a : Int) : Bool := inM a 0 1000000000
theorem time_s (a : Int) : g77 a = some ((), ((timeM a, ()), ())) := rfl
theorem time_i (a : Int) : g95 a = some ((), ((timeM a, ()), ())) := rfl

def digM (x : UInt8) : Bool := cond (ltI (x.toNat : Int) 48) false (!(ltI 57 (x.toNat : Int)))
theorem digM_iff {x : UInt8} : digM x = true ↔ 48 ≤ x.toNat ∧ x.toNat ≤ 57 := by
  unfold digM ltI
  by_cases h : (x.toNat : Int) < 48
  · simp [h]; omega
  · by_cases h2 : (57 : Int) < x.toNat
    · simp [h, h2]; omega
    · simp [h, h2]; omega
def digitsM (s : List UInt8) : Bool := cond (s.all digM) (ltI 0 (lenI s)) false
theorem digits_s (s : List UInt8) (hs : s.length ≤ big) : g156 s = some ((), ((digitsM s, ()), ())) := by
  unfold g156
  have h := loop_list (step := fun (x : (List UInt8) × Int × Unit) => r156_0 x.1 x.2.1) s (fun i (_ : Unit) => (s, ((i : Nat) : Int), ())) (fun _ x _ => bif digM x then Sum.inl () else .inr (.inr (false, ()))) (fun _ => .inl (s, (s.length : Int), ())) (a0 := ()) (fun i x a hx => by
      have hlt := lt_of_get hx
      show r156_0 s (i : Int) = _
      unfold r156_0 digM
      rw [ltI_in hx, inB_in hx, bytI_in hx, addW1 (by omega)]
      dsimp only [cond_true]
      cases ltI (x.toNat : Int) 48 <;> cases ltI 57 (x.toNat : Int) <;> rfl) (fun a => by
      show r156_0 s (s.length : Int) = _
      unfold r156_0
      rw [ltI_out rfl]; rfl)
  rw [goL_all] at h
  have h' : l156_0 s 0 = _ := h
  rw [h']
  unfold digitsM
  cases s.all digM <;> rfl
theorem digits_i (s : List UInt8) (hs : s.length ≤ big) : g165 s = some ((), ((digitsM s, ()), ())) := by
  unfold g165
  have h := loop_list (step := fun (x : (List UInt8) × Int × Int × Unit) => r165_0 x.1 x.2.1 x.2.2.1) s (fun i (_ : Unit) => (s, lenI s, ((i : Nat) : Int), ())) (fun _ x _ => bif digM x then Sum.inl () else .inr (.inr (false, ()))) (fun _ => .inl (s, lenI s, (s.length : Int), ())) (a0 := ()) (fun i x a hx => by
      have hlt := lt_of_get hx
      show r165_0 s (lenI s) (i : Int) = _
      unfold r165_0 digM
      rw [ltI_in hx, inB_in hx, bytI_in hx, addW1 (by omega)]
      dsimp only [cond_true]
      cases ltI (x.toNat : Int) 48 <;> cases ltI 57 (x.toNat : Int) <;> rfl) (fun a => by
      show r165_0 s (lenI s) (s.length : Int) = _
      unfold r165_0
      rw [ltI_out rfl]; rfl)
  rw [goL_all] at h
  have h' : l165_0 s (lenI s) 0 = _ := h
  rw [h']
  unfold digitsM
  cases s with
  | nil => rfl
  | cons x r =>
    have e1 : ltI 0 (lenI (x :: r)) = true := ltI_yes (by unfold lenI; simp only [List.length_cons]; omega)
    have e2 : eqS (x :: r) [] = false := rfl
    cases (x :: r).all digM
    · rfl
    · dsimp only [cond_true, cond_false, Option.bind_some, Sum.elim_inl]
      rw [e1, e2]; rfl

/-- One letter or figure of a hold's name. -/
def holdChM (x : UInt8) : Bool := cond (ltI (x.toNat : Int) 48) (cond (ltI (x.toNat : Int) 97) false (!(ltI 122 (x.toNat : Int)))) (cond (ltI 57 (x.toNat : Int)) (cond (ltI (x.toNat : Int) 97) false (!(ltI 122 (x.toNat : Int)))) true)
def holdIdM (s : List UInt8) : Bool := cond (s.all holdChM) (inM (lenI s) 1 6) false
theorem holdId_s (s : List UInt8) (hs : s.length ≤ big) : g78 s = some ((), ((holdIdM s, ()), ())) := by
  unfold g78
  have h := loop_list (step := fun (x : (List UInt8) × Int × Unit) => r78_0 x.1 x.2.1) s (fun i (_ : Unit) => (s, ((i : Nat) : Int), ())) (fun _ x _ => bif holdChM x then Sum.inl () else .inr (.inr (false, ()))) (fun _ => .inl (s, (s.length : Int), ())) (a0 := ()) (fun i x a hx => by
      have hlt := lt_of_get hx
      show r78_0 s (i : Int) = _
      unfold r78_0 holdChM
      rw [ltI_in hx, inB_in hx, bytI_in hx, addW1 (by omega)]
      dsimp only [cond_true]
      cases ltI (x.toNat : Int) 48 <;> cases ltI 57 (x.toNat : Int) <;> cases ltI (x.toNat : Int) 97 <;> cases ltI 122 (x.toNat : Int) <;> rfl) (fun a => by
      show r78_0 s (s.length : Int) = _
      unfold r78_0
      rw [ltI_out rfl]; rfl)
  rw [goL_all] at h
  have h' : l78_0 s 0 = _ := h
  rw [h']
  unfold holdIdM
  cases s.all holdChM <;> rfl
theorem holdId_i (s : List UInt8) (hs : s.length ≤ big) : g57 s = some ((), ((holdIdM s, ()), ())) := by
  unfold g57
  have h := loop_list (step := fun (x : (List UInt8) × Int × Int × Unit) => r57_0 x.1 x.2.1 x.2.2.1) s (fun i (_ : Unit) => (s, lenI s, ((i : Nat) : Int), ())) (fun _ x _ => bif holdChM x then Sum.inl () else .inr (.inr (false, ()))) (fun _ => .inl (s, lenI s, (s.length : Int), ())) (a0 := ()) (fun i x a hx => by
      have hlt := lt_of_get hx
      show r57_0 s (lenI s) (i : Int) = _
      unfold r57_0 holdChM
      rw [ltI_in hx, inB_in hx, bytI_in hx, addW1 (by omega)]
      dsimp only [cond_true]
      cases ltI (x.toNat : Int) 48 <;> cases ltI 57 (x.toNat : Int) <;> cases ltI (x.toNat : Int) 97 <;> cases ltI 122 (x.toNat : Int) <;> rfl) (fun a => by
      show r57_0 s (lenI s) (s.length : Int) = _
      unfold r57_0
      rw [ltI_out rfl]; rfl)
  rw [goL_all] at h
  have h' : l57_0 s (lenI s) 0 = _ := h
  rw [h']
  unfold holdIdM
  cases s.all holdChM <;> rfl

def holdM (h : HoldT) : Bool := cond (holdIdM h.1) (cond (inM h.2.1 1 9007199254740992) (timeM h.2.2.1) false) false
theorem hold_s (h : HoldT) (hs : h.1.length ≤ big) : g143 h = some ((), ((holdM h, ()), ())) := by
  unfold g143 holdM
  simp only [holdId_s _ hs, in_s, time_s, Option.bind_some]
  cases holdIdM h.1 <;> cases inM h.2.1 1 9007199254740992 <;> rfl
theorem hold_i (h : HoldT) (hs : h.1.length ≤ big) : g149 h = some ((), ((holdM h, ()), ())) := by
  unfold g149 holdM
  simp only [holdId_i _ hs, in_i, time_i, Option.bind_some]
  cases holdIdM h.1 <;> cases inM h.2.1 1 9007199254740992 <;> rfl
/-- The i-th hold: itself in order, and its name behind the one before it. -/
def holdStep (xs : List HoldT) (i : Nat) (x : HoldT) : Bool := cond (holdM x) (cond (ltI 0 (i : Int)) (ltS (gt ([], 0, 0, ()) xs ((i : Int) - 1)).1 x.1) true) false
def holdsM (xs : List HoldT) : Bool := cond (allI (holdStep xs) 0 xs) (leI (lenI xs) 4) false
theorem bytesLess_tri : ∀ (s t : List UInt8), (Op.bytesLess s t || eqS s t) = !(Op.bytesLess t s)
  | [], [] => rfl
  | [], _ :: _ => rfl
  | _ :: _, [] => rfl
  | a :: s, b :: t => by
    have ih := bytesLess_tri s t
    have e : eqS (a :: s) (b :: t) = (a == b && eqS s t) := rfl
    show ((decide (a < b) || (a == b && Op.bytesLess s t)) || eqS (a :: s) (b :: t)) = !(decide (b < a) || (b == a && Op.bytesLess t s))
    rw [e]
    rcases Nat.lt_trichotomy a.toNat b.toNat with h | h | h
    · have h1 : a < b := UInt8.lt_iff_toNat_lt.2 h
      have h2 : ¬ b < a := fun hh => by have := UInt8.lt_iff_toNat_lt.1 hh; omega
      have h3 : (b == a) = false := by rw [beq_eq_false_iff_ne]; intro hh; subst hh; omega
      simp [h1, h2, h3]
    · have h1 : a = b := UInt8.toNat_inj.1 h
      subst h1
      have h2 : ¬ a < a := fun hh => by have := UInt8.lt_iff_toNat_lt.1 hh; omega
      simpa [h2] using ih
    · have h1 : ¬ a < b := fun hh => by have := UInt8.lt_iff_toNat_lt.1 hh; omega
      have h2 : b < a := UInt8.lt_iff_toNat_lt.2 h
      have h3 : (a == b) = false := by rw [beq_eq_false_iff_ne]; intro hh; subst hh; omega
      simp [h1, h2, h3]
theorem leS_not (s t : List UInt8) : leS s t = !(ltS t s) := bytesLess_tri s t
/-- Memory that a hold's name takes is no more than any machine's. -/
def HoldsB (xs : List HoldT) : Prop := xs.length ≤ big ∧ ∀ y ∈ xs, y.1.length ≤ big
theorem prev_get {α : Type} {xs : List α} {i : Nat} {x : α} (hx : xs[i]? = some x) (h : 0 < i) : inB ((i : Int) - 1) xs = true := by
  have := lt_of_get hx
  have e : (i : Int) - 1 = ((i - 1 : Nat) : Int) := by omega
  rw [e]; exact inB_lt (by omega)
theorem holds_s (xs : List HoldT) (hb : HoldsB xs) : g108 xs = some ((), ((holdsM xs, ()), ())) := by
  have hbig : big = 140737488355328 := rfl
  unfold g108
  have h := loop_list (step := fun (x : (List HoldT) × (List HoldT) × Int × Int × Unit) => r108_0 x.1 x.2.1 x.2.2.1 x.2.2.2.1) xs (fun i (_ : Unit) => (xs, xs, lenI xs, ((i : Nat) : Int), ())) (fun i x _ => bif holdStep xs i x then Sum.inl () else .inr (.inr (false, ()))) (fun _ => .inl (xs, xs, lenI xs, (xs.length : Int), ())) (a0 := ()) (fun i x a hx => by
      have hlt := lt_of_get hx
      have hl := hb.1
      show r108_0 xs xs (lenI xs) (i : Int) = _
      unfold r108_0 holdStep
      rw [ltI_in hx, inB_in hx, gt_in _ hx]
      dsimp only [cond_true]
      rw [hold_s x (hb.2 x (List.mem_of_getElem? hx)), addW1 (by omega)]
      dsimp only [Option.bind_some]
      cases holdM x with
      | false => rfl
      | true =>
        by_cases h0 : 0 < i
        · rw [ltI_yes (show (0 : Int) < i by omega), subW_in (by omega) (by omega), prev_get hx h0]
          dsimp only [cond_true, cond_false, Bool.not_true]
          have e : gt d74 xs ((i : Int) - 1) = gt ([], 0, 0, ()) xs ((i : Int) - 1) := rfl
          rw [e]
          cases ltS (gt ([], 0, 0, ()) xs ((i : Int) - 1)).1 x.1 <;> rfl
        · rw [ltI_no (show ¬ (0 : Int) < i by omega)]; rfl) (fun a => by
      show r108_0 xs xs (lenI xs) (xs.length : Int) = _
      unfold r108_0
      rw [ltI_out rfl]; rfl)
  rw [goL_allI] at h
  have h' : l108_0 xs xs (lenI xs) 0 = _ := h
  rw [h']
  unfold holdsM
  cases allI (holdStep xs) 0 xs <;> rfl
theorem holds_i (xs : List HoldT) (hb : HoldsB xs) : g117 xs = some ((), ((holdsM xs, ()), ())) := by
  have hbig : big = 140737488355328 := rfl
  unfold g117
  have h := loop_list (step := fun (x : (List HoldT) × (List HoldT) × Int × Int × Unit) => r117_0 x.1 x.2.1 x.2.2.1 x.2.2.2.1) xs (fun i (_ : Unit) => (xs, xs, lenI xs, ((i : Nat) : Int), ())) (fun i x _ => bif holdStep xs i x then Sum.inl () else .inr (.inr (false, ()))) (fun _ => .inl (xs, xs, lenI xs, (xs.length : Int), ())) (a0 := ()) (fun i x a hx => by
      have hlt := lt_of_get hx
      have hl := hb.1
      show r117_0 xs xs (lenI xs) (i : Int) = _
      unfold r117_0 holdStep
      rw [ltI_in hx, inB_in hx, gt_in _ hx]
      dsimp only [cond_true]
      rw [hold_i x (hb.2 x (List.mem_of_getElem? hx)), addW1 (by omega)]
      dsimp only [Option.bind_some]
      cases holdM x with
      | false => rfl
      | true =>
        by_cases h0 : 0 < i
        · rw [ltI_yes (show (0 : Int) < i by omega), subW_in (by omega) (by omega), prev_get hx h0]
          dsimp only [cond_true, cond_false, Bool.not_true]
          rw [leS_not]
          have e : gt d74 xs ((i : Int) - 1) = gt ([], 0, 0, ()) xs ((i : Int) - 1) := rfl
          rw [e]
          cases ltS (gt ([], 0, 0, ()) xs ((i : Int) - 1)).1 x.1 <;> rfl
        · rw [ltI_no (show ¬ (0 : Int) < i by omega)]; rfl) (fun a => by
      show r117_0 xs xs (lenI xs) (xs.length : Int) = _
      unfold r117_0
      rw [ltI_out rfl]; rfl)
  rw [goL_allI] at h
  have h' : l117_0 xs xs (lenI xs) 0 = _ := h
  rw [h']
  unfold holdsM
  cases allI (holdStep xs) 0 xs <;> rfl


/-! ### account numbers -/
def lunE (dbl : Bool) (x : UInt8) : Int := cond dbl (cond (ltI 9 (2 * ((x.toNat : Int) - 48))) (2 * ((x.toNat : Int) - 48) - 9) (2 * ((x.toNat : Int) - 48))) ((x.toNat : Int) - 48)
theorem lunE_bd (b : Bool) {x : UInt8} (h : digM x = true) : 0 ≤ lunE b x ∧ lunE b x ≤ 9 := by
  obtain ⟨h1, h2⟩ := digM_iff.1 h
  unfold lunE ltI
  cases b
  · dsimp only [cond_false]; omega
  · dsimp only [cond_true]
    by_cases h9 : 9 < 2 * ((x.toNat : Int) - 48)
    · rw [decide_eq_true h9]; dsimp only [cond_true]; omega
    · rw [decide_eq_false h9]; dsimp only [cond_false]; omega
def lunS (xs : List UInt8) (a : Int × Bool) : Int × Bool := xs.foldl (fun a x => (a.1 + lunE a.2 x, !a.2)) a
def lunT (xs : List UInt8) (a : Int × Bool) : Int × Bool := xs.foldl (fun a x => ((a.1 + lunE a.2 x) % 10, !a.2)) a
theorem lunT_eq : ∀ (xs : List UInt8) (a : Int) (b : Bool), lunT xs (a % 10, b) = ((lunS xs (a, b)).1 % 10, (lunS xs (a, b)).2)
  | [], a, b => rfl
  | x :: r, a, b => by
    have e : (a % 10 + lunE b x) % 10 = (a + lunE b x) % 10 := by omega
    show lunT r ((a % 10 + lunE b x) % 10, !b) = ((lunS r (a + lunE b x, !b)).1 % 10, (lunS r (a + lunE b x, !b)).2)
    rw [e]
    exact lunT_eq r _ _
def luhnM (s : List UInt8) : Int := cond (digitsM s) ((10 - (lunS s.reverse (0, true)).1 % 10) % 10) (-1)
theorem digitsM_all {s : List UInt8} (h : digitsM s = true) : ∀ x ∈ s, digM x = true := by
  unfold digitsM at h
  cases hs : s.all digM with
  | true => exact fun x hx => List.all_eq_true.1 hs x hx
  | false => rw [hs] at h; simp at h
theorem rev_get {s : List UInt8} {i : Nat} {x : UInt8} (h : s.reverse[i]? = some x) : i < s.length ∧ s[s.length - 1 - i]? = some x := by
  have hl : i < s.length := by simpa using lt_of_get h
  refine ⟨hl, ?_⟩
  rwa [List.getElem?_reverse hl] at h
theorem dig_s {x : UInt8} (h : digM x = true) : subW .i64 (cvtW .i64 (x.toNat : Int)) 48 = (x.toNat : Int) - 48 := by
  obtain ⟨h1, h2⟩ := digM_iff.1 h
  have e : cvtW .i64 (x.toNat : Int) = (x.toNat : Int) := IntWalk.i64_in _ (by omega)
  rw [e]; exact subW_in (by omega) (by omega)
theorem dig_i {x : UInt8} (h : digM x = true) : cvtW .i64 (subW .u8 (x.toNat : Int) 48) = (x.toNat : Int) - 48 := by
  obtain ⟨h1, h2⟩ := digM_iff.1 h
  have e : subW .u8 (x.toNat : Int) 48 = (x.toNat : Int) - 48 := IntWalk.u8_in _ (by omega)
  rw [e]; exact IntWalk.i64_in _ (by omega)
theorem mulW_in {a b : Int} (h1 : -4611686018427387904 ≤ a * b) (h2 : a * b ≤ 4611686018427387904) : mulW .i64 a b = a * b := by
  unfold mulW; rw [IntWalk.i64_in _ (by omega)]
theorem remI_10 {a : Int} (h : 0 ≤ a) : remI a 10 = a % 10 := by unfold remI; exact Int.tmod_eq_emod_of_nonneg h
theorem luhn_s (s : List UInt8) (hs : s.length ≤ big) : g157 s = some ((), ((luhnM s, ()), ())) := by
  have hbig : big = 140737488355328 := rfl
  unfold g157 luhnM
  rw [digits_s s hs]
  dsimp only [Option.bind_some]
  cases hd : digitsM s with
  | false => rfl
  | true =>
  have hall := digitsM_all hd
  have h := loop_inv (step := fun (x : (List UInt8) × Int × Bool × Int × Unit) => r157_0 x.1 x.2.1 x.2.2.1 x.2.2.2.1) s.reverse (fun i (a : Int × Bool) => (s, a.1, a.2, (s.length : Int) - 1 - ((i : Nat) : Int), ())) (fun _ x a => Sum.inl ((a.1 + lunE a.2 x) % 10, !a.2)) (fun a => .inl (s, a.1, a.2, (-1 : Int), ()))
    (fun _ a => 0 ≤ a.1 ∧ a.1 < 10) (a0 := (0, true)) ⟨by decide, by decide⟩ (fun i x a hx ha => by
      obtain ⟨hlt, hx'⟩ := rev_get hx
      have hdx := hall x (List.mem_of_getElem? hx')
      have hbd := lunE_bd a.2 hdx
      have hdd := digM_iff.1 hdx
      have e : (s.length : Int) - 1 - (i : Int) = ((s.length - 1 - i : Nat) : Int) := by omega
      have e' : (s.length : Int) - 1 - ((i + 1 : Nat) : Int) = ((s.length - 1 - i : Nat) : Int) - 1 := by omega
      obtain ⟨a1, a2⟩ := a
      show r157_0 s a1 a2 ((s.length : Int) - 1 - (i : Int)) = some (.inl (s, (a1 + lunE a2 x) % 10, !a2, (s.length : Int) - 1 - ((i + 1 : Nat) : Int), ()))
      rw [e, e']
      have hle : leI 0 ((s.length - 1 - i : Nat) : Int) = true := decide_eq_true (by omega)
      have ha : 0 ≤ a1 ∧ a1 < 10 := ha
      unfold r157_0
      rw [hle, inB_in hx', bytI_in hx', dig_s hdx, subW_in (a := ((s.length - 1 - i : Nat) : Int)) (b := 1) (by omega) (by omega)]
      have hb : (0 ≤ lunE a2 x ∧ lunE a2 x ≤ 9) := hbd
      cases a2 with
      | false =>
        have hv : lunE false x = (x.toNat : Int) - 48 := rfl
        dsimp only [cond_true, cond_false, Bool.not_false]
        rw [addW_in (by omega) (by omega), remI_10 (by omega), hv]
      | true =>
        dsimp only [cond_true, cond_false, Bool.not_false, Bool.not_true]
        rw [mulW_in (by omega) (by omega)]
        by_cases h9 : 9 < 2 * ((x.toNat : Int) - 48)
        · have hv : lunE true x = 2 * ((x.toNat : Int) - 48) - 9 := by unfold lunE; rw [ltI_yes h9]; rfl
          rw [ltI_yes h9]; dsimp only [cond_true, cond_false, Bool.not_false]; rw [subW_in (by omega) (by omega), addW_in (by omega) (by omega), remI_10 (by omega), hv]
        · have hv : lunE true x = 2 * ((x.toNat : Int) - 48) := by unfold lunE; rw [ltI_no h9]; rfl
          rw [ltI_no h9]; dsimp only [cond_true, cond_false, Bool.not_false]; rw [addW_in (by omega) (by omega), remI_10 (by omega), hv]) (fun i x a a' hx ha hf => by
      simp only [Sum.inl.injEq] at hf
      subst hf
      show 0 ≤ (a.1 + lunE a.2 x) % 10 ∧ (a.1 + lunE a.2 x) % 10 < 10
      omega) (fun a ha => by
      have e : (s.length : Int) - 1 - ((s.reverse.length : Nat) : Int) = -1 := by simp; omega
      show r157_0 s a.1 a.2 ((s.length : Int) - 1 - ((s.reverse.length : Nat) : Int)) = _
      rw [e]
      rfl)
  rw [goL_fold (fun x a => ((a.1 + lunE a.2 x) % 10, !a.2))] at h
  have h' : l157_0 s 0 true ((s.length : Int) - 1 - ((0 : Nat) : Int)) = some (.inl (s, (lunT s.reverse (0, true)).1, (lunT s.reverse (0, true)).2, (-1 : Int), ())) := h
  have e0 : (s.length : Int) - 1 - ((0 : Nat) : Int) = subW .i64 (lenI s) 1 := by rw [subW_in (by unfold lenI; omega) (by unfold lenI; omega)]; unfold lenI; omega
  have eT : (lunT s.reverse (0, true)).1 = (lunS s.reverse (0, true)).1 % 10 := by
    have := lunT_eq s.reverse 0 true
    rw [show (0 : Int) % 10 = 0 from rfl] at this
    rw [this]
  rw [e0] at h'
  rw [h', eT]
  dsimp only [Option.bind_some, Sum.elim_inl, cond_true, cond_false, Bool.not_true]
  rw [subW_in (by omega) (by omega), remI_10 (by omega)]; rfl
theorem luhn_i (s : List UInt8) (hs : s.length ≤ big) : g166 s = some ((), ((luhnM s, ()), ())) := by
  have hbig : big = 140737488355328 := rfl
  unfold g166 luhnM
  rw [digits_i s hs]
  dsimp only [Option.bind_some]
  cases hd : digitsM s with
  | false => rfl
  | true =>
  have hall := digitsM_all hd
  have h := loop_inv (step := fun (x : (List UInt8) × Int × Bool × Int × Unit) => r166_0 x.1 x.2.1 x.2.2.1 x.2.2.2.1) s.reverse (fun i (a : Int × Bool) => (s, a.1, a.2, (s.length : Int) - 1 - ((i : Nat) : Int), ())) (fun _ x a => Sum.inl (a.1 + lunE a.2 x, !a.2)) (fun a => .inl (s, a.1, a.2, (-1 : Int), ()))
    (fun i a => 0 ≤ a.1 ∧ a.1 ≤ 9 * i) (a0 := (0, true)) ⟨by decide, by decide⟩ (fun i x a hx ha => by
      obtain ⟨hlt, hx'⟩ := rev_get hx
      have hdx := hall x (List.mem_of_getElem? hx')
      have hbd := lunE_bd a.2 hdx
      have hdd := digM_iff.1 hdx
      have e : (s.length : Int) - 1 - (i : Int) = ((s.length - 1 - i : Nat) : Int) := by omega
      have e' : (s.length : Int) - 1 - ((i + 1 : Nat) : Int) = ((s.length - 1 - i : Nat) : Int) - 1 := by omega
      obtain ⟨a1, a2⟩ := a
      show r166_0 s a1 a2 ((s.length : Int) - 1 - (i : Int)) = some (.inl (s, a1 + lunE a2 x, !a2, (s.length : Int) - 1 - ((i + 1 : Nat) : Int), ()))
      rw [e, e']
      have hle : leI 0 ((s.length - 1 - i : Nat) : Int) = true := decide_eq_true (by omega)
      have ha : 0 ≤ a1 ∧ a1 ≤ 9 * i := ha
      unfold r166_0
      rw [hle, inB_in hx', bytI_in hx', dig_i hdx, subW_in (a := ((s.length - 1 - i : Nat) : Int)) (b := 1) (by omega) (by omega)]
      have hb : (0 ≤ lunE a2 x ∧ lunE a2 x ≤ 9) := hbd
      cases a2 with
      | false =>
        have hv : lunE false x = (x.toNat : Int) - 48 := rfl
        dsimp only [cond_true, cond_false, Bool.not_false]
        rw [addW_in (by omega) (by omega), hv]
      | true =>
        dsimp only [cond_true, cond_false, Bool.not_false, Bool.not_true]
        have em : mulW .i64 ((x.toNat : Int) - 48) 2 = 2 * ((x.toNat : Int) - 48) := by rw [mulW_in (by omega) (by omega)]; omega
        rw [em]
        by_cases h9 : 9 < 2 * ((x.toNat : Int) - 48)
        · have hv : lunE true x = 2 * ((x.toNat : Int) - 48) - 9 := by unfold lunE; rw [ltI_yes h9]; rfl
          rw [ltI_yes h9]; dsimp only [cond_true, cond_false, Bool.not_false]; rw [subW_in (by omega) (by omega), addW_in (by omega) (by omega), hv]
        · have hv : lunE true x = 2 * ((x.toNat : Int) - 48) := by unfold lunE; rw [ltI_no h9]; rfl
          rw [ltI_no h9]; dsimp only [cond_true, cond_false, Bool.not_false]; rw [addW_in (by omega) (by omega), hv]) (fun i x a a' hx ha hf => by
      have hbd := lunE_bd a.2 (hall x (List.mem_of_getElem? (rev_get hx).2))
      simp only [Sum.inl.injEq] at hf
      subst hf
      show 0 ≤ a.1 + lunE a.2 x ∧ a.1 + lunE a.2 x ≤ 9 * ((i + 1 : Nat) : Int)
      omega) (fun a ha => by
      have e : (s.length : Int) - 1 - ((s.reverse.length : Nat) : Int) = -1 := by simp; omega
      show r166_0 s a.1 a.2 ((s.length : Int) - 1 - ((s.reverse.length : Nat) : Int)) = _
      rw [e]
      rfl)
  rw [goL_fold (fun x a => (a.1 + lunE a.2 x, !a.2))] at h
  have h' : l166_0 s 0 true ((s.length : Int) - 1 - ((0 : Nat) : Int)) = some (.inl (s, (lunS s.reverse (0, true)).1, (lunS s.reverse (0, true)).2, (-1 : Int), ())) := h
  have e0 : (s.length : Int) - 1 - ((0 : Nat) : Int) = subW .i64 (lenI s) 1 := by rw [subW_in (by unfold lenI; omega) (by unfold lenI; omega)]; unfold lenI; omega
  have hS : ∀ (xs : List UInt8) (a : Int × Bool), (∀ x ∈ xs, digM x = true) → 0 ≤ a.1 → 0 ≤ (lunS xs a).1 := by
    intro xs
    induction xs with
    | nil => intro a _ h; exact h
    | cons x r ih =>
      intro a hx h
      have := lunE_bd a.2 (hx x (List.mem_cons_self ..))
      exact ih (a.1 + lunE a.2 x, !a.2) (fun y hy => hx y (List.mem_cons_of_mem _ hy)) (by show 0 ≤ a.1 + lunE a.2 x; omega)
  have h0 := hS s.reverse (0, true) (fun x hx => hall x (List.mem_reverse.1 hx)) (by decide)
  rw [e0] at h'
  rw [h']
  dsimp only [Option.bind_some, Sum.elim_inl, cond_true, cond_false, Bool.not_true]
  rw [remI_10 h0, subW_in (by omega) (by omega), remI_10 (by omega)]; rfl
def luhnOkM (s : List UInt8) : Bool := cond (digitsM s) (cond (leI 2 (lenI s)) (eqI (luhnM (sub s 0 (lenI s - 1))) (bytI s (lenI s - 1) - 48)) false) false
theorem lastD {s : List UInt8} (hd : digitsM s = true) (h : 2 ≤ s.length) : ∃ x, digM x = true ∧ inB (lenI s - 1) s = true ∧ bytI s (lenI s - 1) = (x.toNat : Int) ∧ cutB 0 (lenI s - 1) s = true ∧ (sub s 0 (lenI s - 1)).length ≤ s.length := by
  have e : lenI s - 1 = ((s.length - 1 : Nat) : Int) := by unfold lenI; omega
  obtain ⟨x, hx⟩ : ∃ x, s[s.length - 1]? = some x := ⟨s[s.length - 1]'(by omega), by simp⟩
  refine ⟨x, digitsM_all hd x (List.mem_of_getElem? hx), ?_, ?_, ?_, ?_⟩
  · rw [e]; exact inB_in hx
  · rw [e]; exact bytI_in hx
  · rw [e]; unfold cutB cutOk leI
    rw [decide_eq_true (by decide), decide_eq_true (by omega), decide_eq_true (by omega)]; rfl
  · rw [e]; unfold sub; simp
theorem luhnOk_s (s : List UInt8) (hs : s.length ≤ big) : g142 s = some ((), ((luhnOkM s, ()), ())) := by
  have hbig : big = 140737488355328 := rfl
  unfold g142 luhnOkM
  rw [digits_s s hs]
  dsimp only [Option.bind_some]
  cases hd : digitsM s with
  | false => rfl
  | true =>
    by_cases h2 : 2 ≤ s.length
    · obtain ⟨x, h3, h4, h5, h6, h7⟩ := lastD hd h2
      have e1 : leI 2 (lenI s) = true := decide_eq_true (by unfold lenI; omega)
      have e2 : subW .i64 (lenI s) 1 = lenI s - 1 := subW_in (by unfold lenI; omega) (by unfold lenI; omega)
      rw [ltI_no (show ¬ lenI s < 2 by unfold lenI; omega), e1, e2]
      dsimp only [cond_true, cond_false, Bool.not_true]
      rw [h6, h4, luhn_s _ (Nat.le_trans h7 hs), h5, dig_s h3]; rfl
    · have e1 : leI 2 (lenI s) = false := decide_eq_false (by unfold lenI; omega)
      rw [ltI_yes (show lenI s < 2 by unfold lenI; omega), e1]; rfl
theorem luhnOk_i (s : List UInt8) (hs : s.length ≤ big) : g158 s = some ((), ((luhnOkM s, ()), ())) := by
  have hbig : big = 140737488355328 := rfl
  unfold g158 luhnOkM
  have e2 : subW .i64 (lenI s) 1 = lenI s - 1 := subW_in (by unfold lenI; omega) (by unfold lenI; omega)
  dsimp only
  rw [digits_i s hs, e2]
  dsimp only [Option.bind_some]
  by_cases h2 : 2 ≤ s.length
  · have e1 : leI 2 (lenI s) = true := decide_eq_true (by unfold lenI; omega)
    have e3 : leI 1 (lenI s - 1) = true := decide_eq_true (by unfold lenI; omega)
    rw [e1, e3]
    cases hd : digitsM s with
    | false => rfl
    | true =>
      obtain ⟨x, h3, h4, h5, h6, h7⟩ := lastD hd h2
      dsimp only [cond_true, cond_false, Bool.not_true]
      rw [h6, h4, luhn_i _ (Nat.le_trans h7 hs), h5, dig_i h3]; rfl
  · have e1 : leI 2 (lenI s) = false := decide_eq_false (by unfold lenI; omega)
    have e3 : leI 1 (lenI s - 1) = false := decide_eq_false (by unfold lenI; omega)
    rw [e1, e3]
    cases digitsM s <;> rfl
def acctIdM (s : List UInt8) : Bool := cond (leI (lenI s) 19) (luhnOkM s) false
theorem acctId_s (s : List UInt8) (hs : s.length ≤ big) : g107 s = some ((), ((acctIdM s, ()), ())) := by
  unfold g107 acctIdM
  rw [luhnOk_s s hs]
  cases leI (lenI s) 19 <;> rfl
theorem acctId_i (s : List UInt8) (hs : s.length ≤ big) : g145 s = some ((), ((acctIdM s, ()), ())) := by
  unfold g145 acctIdM
  rw [luhnOk_i s hs]
  cases leI (lenI s) 19 <;> rfl

/-! ### money -/
def clampM (a : Int) : Int := if a < 0 then 0 else if 4611686018427387904 < a then 4611686018427387904 else a
theorem clampM_bd (a : Int) : 0 ≤ clampM a ∧ clampM a ≤ 4611686018427387904 := by 
  unfold clampM
  split
  · omega
  · split <;> omega
def satM (a b : Int) : Int := if 4611686018427387904 - clampM b < clampM a then 4611686018427387904 else clampM a + clampM b
theorem satM_bd (a b : Int) : 0 ≤ satM a b ∧ satM a b ≤ 4611686018427387904 := by
  have := clampM_bd a; have := clampM_bd b
  unfold satM; split <;> omega
theorem clamp_s (a : Int) : g134 a 0 4611686018427387904 = some ((), ((clampM a, ()), ())) := by
  unfold g134 clampM
  by_cases h : a < 0
  · rw [ltI_yes h, if_pos h]; rfl
  · by_cases h2 : 4611686018427387904 < a
    · rw [ltI_no h, if_neg h, ltI_yes h2, if_pos h2]; rfl
    · rw [ltI_no h, if_neg h, ltI_no h2, if_neg h2]; rfl
theorem moneyM_yes {a : Int} (h : 0 ≤ a ∧ a ≤ 4611686018427387904) : moneyM a = true := inM_iff.2 h
theorem sat_s (a b : Int) : g81 a b = some ((), ((satM a b, ()), ())) := by
  unfold g81 g133 satM
  have h1 := clampM_bd a
  have h2 := clampM_bd b
  rw [clamp_s, clamp_s]
  dsimp only [Option.bind_some]
  rw [money_s, money_s, moneyM_yes h1, moneyM_yes h2, subW_in (by omega) (by omega)]
  dsimp only [Option.bind_some, Bool.not_true, cond_false]
  by_cases h : 4611686018427387904 - clampM b < clampM a
  · rw [ltI_yes h, if_pos h]; rfl
  · rw [ltI_no h, if_neg h, addW_in (by omega) (by omega)]; rfl
theorem sat_i (a b : Int) : g91 a b = some ((), ((satM a b, ()), ())) := by
  have e : ∀ x : Int, mxI 0 (mnI x 4611686018427387904) = clampM x := fun x => by
    unfold mxI mnI clampM
    split <;> split <;> (try split) <;> omega
  have h1 := clampM_bd a
  have h2 := clampM_bd b
  unfold g91 satM
  dsimp only
  rw [e, e, subW_in (by omega) (by omega)]
  by_cases h : 4611686018427387904 - clampM b < clampM a
  · rw [ltI_yes h, if_pos h]; rfl
  · rw [ltI_no h, if_neg h, addW_in (by omega) (by omega)]; rfl
def storedM (xs : List HoldT) : Int := xs.foldl (fun a h => satM a h.2.1) 0
theorem stored_s (xs : List HoldT) (hs : xs.length ≤ big) : g110 xs = some ((), ((storedM xs, ()), ())) := by
  unfold g110
  have h := loop_list (step := fun (x : Int × (List HoldT) × Int × Int × Unit) => r110_0 x.1 x.2.1 x.2.2.1 x.2.2.2.1) xs (fun i (a : Int) => (a, xs, lenI xs, ((i : Nat) : Int), ())) (fun _ x a => Sum.inl (satM a x.2.1)) (fun a => .inl (a, xs, lenI xs, (xs.length : Int), ())) (a0 := 0) (fun i x a hx => by
      have hlt := lt_of_get hx
      show r110_0 a xs (lenI xs) (i : Int) = _
      unfold r110_0
      rw [ltI_in hx, inB_in hx, gt_in _ hx, addW1 (by omega), sat_s]; rfl) (fun a => by
      show r110_0 a xs (lenI xs) (xs.length : Int) = _
      unfold r110_0
      rw [ltI_out rfl]; rfl)
  rw [goL_fold (fun (x : HoldT) a => satM a x.2.1)] at h
  have h' : l110_0 0 xs (lenI xs) 0 = _ := h
  rw [h']; rfl
theorem stored_i (xs : List HoldT) (hs : xs.length ≤ big) : g147 xs = some ((), ((storedM xs, ()), ())) := by
  unfold g147
  have h := loop_list (step := fun (x : Int × (List HoldT) × Int × Int × Unit) => r147_0 x.1 x.2.1 x.2.2.1 x.2.2.2.1) xs (fun i (a : Int) => (a, xs, lenI xs, ((i : Nat) : Int), ())) (fun _ x a => Sum.inl (satM a x.2.1)) (fun a => .inl (a, xs, lenI xs, (xs.length : Int), ())) (a0 := 0) (fun i x a hx => by
      have hlt := lt_of_get hx
      show r147_0 a xs (lenI xs) (i : Int) = _
      unfold r147_0
      rw [ltI_in hx, inB_in hx, gt_in _ hx, addW1 (by omega), sat_i]; rfl) (fun a => by
      show r147_0 a xs (lenI xs) (xs.length : Int) = _
      unfold r147_0
      rw [ltI_out rfl]; rfl)
  rw [goL_fold (fun (x : HoldT) a => satM a x.2.1)] at h
  have h' : l147_0 0 xs (lenI xs) 0 = _ := h
  rw [h']; rfl


/-! ### rings -/
def ringM (r : RingT) : Bool := cond (inM r.1 1 1000) (cond (inM (lenI r.2.2.1) 1 8) (cond (eqI (lenI r.2.2.2.1) (lenI r.2.2.1)) (cond (timeM r.2.1) (r.2.2.1.all (fun x => moneyM x.1) && r.2.2.2.1.all (fun x => moneyM x.1)) false) false) false) false
def RingB (r : RingT) : Prop := r.2.2.1.length ≤ 1048576 ∧ r.2.2.2.1.length ≤ 1048576
theorem eqI_iff {a b : Int} : eqI a b = true ↔ a = b := by simp [eqI]
theorem ring_s (r : RingT) (hb : RingB r) : g84 r = some ((), ((ringM r, ()), ())) := by
  have hbig : big = 140737488355328 := rfl
  obtain ⟨hb1, hb2⟩ := hb
  unfold g84 ringM
  dsimp only
  rw [in_s, in_s, time_s]
  dsimp only [Option.bind_some]
  cases inM r.1 1 1000 with
  | false => rfl
  | true =>
  cases inM (lenI r.2.2.1) 1 8 with
  | false => rfl
  | true =>
  cases he : eqI (lenI r.2.2.2.1) (lenI r.2.2.1) with
  | false => rfl
  | true =>
  cases timeM r.2.1 with
  | false => rfl
  | true =>
  have hlen : r.2.2.2.1.length = r.2.2.1.length := by
    have := eqI_iff.1 he
    unfold lenI at this; omega
  dsimp only [cond_true, cond_false, Bool.not_true]
  have h := loop_list (step := fun (x : Int × Int × RingT × Unit) => r84_0 x.1 x.2.1 x.2.2.1) (r.2.2.1.zip r.2.2.2.1) (fun i (_ : Unit) => (lenI r.2.2.1, ((i : Nat) : Int), r, ())) (fun _ x _ => bif moneyM x.1.1 && moneyM x.2.1 then Sum.inl () else .inr (.inr (false, ()))) (fun _ => .inl (lenI r.2.2.1, (r.2.2.1.length : Int), r, ())) (a0 := ()) (fun i x a hx => by
      have hx' := List.getElem?_zip_eq_some.1 hx
      have hlt := lt_of_get hx'.1
      show r84_0 (lenI r.2.2.1) (i : Int) r = _
      unfold r84_0
      rw [ltI_in hx'.1, inB_in hx'.1, inB_in hx'.2, gt_in _ hx'.1, gt_in _ hx'.2, money_s, money_s, addW1 (by omega)]
      dsimp only [cond_true, Option.bind_some]
      cases moneyM x.1.1 <;> cases moneyM x.2.1 <;> rfl) (fun a => by
      have e : (r.2.2.1.zip r.2.2.2.1).length = r.2.2.1.length := by rw [List.length_zip, hlen, Nat.min_self]
      rw [e]
      show r84_0 (lenI r.2.2.1) (r.2.2.1.length : Int) r = _
      unfold r84_0
      rw [ltI_out rfl]; rfl)
  rw [goL_all (fun (x : (Int × Unit) × (Int × Unit)) => moneyM x.1.1 && moneyM x.2.1)] at h
  have h' : l84_0 (lenI r.2.2.1) 0 r = _ := h
  rw [h']
  have hz : ∀ (a b : List (Int × Unit)), b.length = a.length → (a.zip b).all (fun x => moneyM x.1.1 && moneyM x.2.1) = (a.all (fun x => moneyM x.1) && b.all (fun x => moneyM x.1)) := by
    intro a
    induction a with
    | nil => intro b hb; cases b with | nil => rfl | cons _ _ => simp at hb
    | cons x a ih =>
      intro b hb
      cases b with
      | nil => simp at hb
      | cons y b =>
        simp only [List.zip_cons_cons, List.all_cons]
        rw [ih b (by simpa using hb)]
        cases moneyM x.1 <;> cases moneyM y.1 <;> simp
  rw [hz _ _ hlen]
  cases r.2.2.1.all (fun x => moneyM x.1) && r.2.2.2.1.all (fun x => moneyM x.1) <;> rfl
theorem concat_i (a b : List (Int × Unit)) (ha : a.length ≤ 1048576) (hb : b.length ≤ 1048576) : g138 [(a, ()), (b, ())] = some ((), ((a ++ b, ()), ())) := by
  have hbig : big = 140737488355328 := rfl
  unfold g138
  have hlen : ((a.length + b.length : Nat) : Int) = (a.length : Int) + b.length := by omega
  have h : l138_0 [(a, ()), (b, ())] 0 [(a, ()), (b, ())] 2 0 = some (.inl ([(a, ()), (b, ())], (a.length : Int) + b.length, [(a, ()), (b, ())], 2, 2, ())) := by
    refine loopF_step _ (x' := ([(a, ()), (b, ())], (a.length : Int), [(a, ()), (b, ())], 2, 1, ())) ?_ (loopF_step _ (x' := ([(a, ()), (b, ())], (a.length : Int) + b.length, [(a, ()), (b, ())], 2, 2, ())) ?_ (loopF_end _ ?_))
    · show r138_0 [(a, ()), (b, ())] 0 [(a, ()), (b, ())] 2 0 = _
      unfold r138_0
      have e : addW .i64 0 (lenI (gt d23 [(a, ()), (b, ())] 0).1) = (a.length : Int) := by
        show addW .i64 0 (lenI a) = _
        rw [addW_in (by unfold lenI; omega) (by unfold lenI; omega)]; unfold lenI; omega
      dsimp only
      rw [e, ltI_no (a := (a.length : Int)) (b := 0) (by omega)]; rfl
    · show r138_0 [(a, ()), (b, ())] (a.length : Int) [(a, ()), (b, ())] 2 1 = _
      unfold r138_0
      have e : addW .i64 (a.length : Int) (lenI (gt d23 [(a, ()), (b, ())] 1).1) = (a.length : Int) + b.length := by
        show addW .i64 (a.length : Int) (lenI b) = _
        rw [addW_in (by unfold lenI; omega) (by unfold lenI; omega)]; unfold lenI; omega
      dsimp only
      rw [e, ltI_no (a := (a.length : Int) + b.length) (b := 0) (by omega)]; rfl
    · rfl
  have h1 : l138_0 [(a, ()), (b, ())] 0 [(a, ()), (b, ())] (lenI [(a, ()), (b, ())]) 0 = _ := h
  have hg : g155 ((a.length : Int) + b.length) = some ((), (([], ()), ())) := by
    unfold g155
    dsimp only
    rw [ltI_no (by omega), subW_in (a := 0) (b := 0) (by decide) (by decide), subW_in (by omega) (by omega)]
    by_cases h0 : (0 : Int) < (a.length : Int) + b.length - (0 - 0)
    · have e2 : mzB 8 ((a.length : Int) + b.length - (0 - 0)) = true := by
        unfold mzB leI
        rw [decide_eq_true (by omega), decide_eq_true (by rw [hbig]; omega)]; rfl
      have e3 : cutB 0 0 (repI d3 ((a.length : Int) + b.length - (0 - 0))) = true := by
        unfold cutB cutOk leI
        rw [decide_eq_true (by decide), decide_eq_true (by omega)]; rfl
      rw [ltI_yes h0, e2, e3]
      rfl
    · rw [ltI_no h0]; rfl
  have h2 : l138_2 [] [(a, ()), (b, ())] 2 0 = some (.inl (a ++ b, [(a, ()), (b, ())], 2, 2, ())) := by
    refine loopF_step _ (x' := (a, [(a, ()), (b, ())], 2, 1, ())) ?_ (loopF_step _ (x' := (a ++ b, [(a, ()), (b, ())], 2, 2, ())) ?_ (loopF_end _ ?_))
    · show r138_2 [] [(a, ()), (b, ())] 2 0 = _
      unfold r138_2
      have e : fitB 8 ([] : List (Int × Unit)) (gt d23 [(a, ()), (b, ())] 0).1 = true := Nat.ble_eq_true_of_le (by show (0 + a.length) * 8 ≤ big; omega)
      rw [e]; rfl
    · show r138_2 a [(a, ()), (b, ())] 2 1 = _
      unfold r138_2
      have e : fitB 8 a (gt d23 [(a, ()), (b, ())] 1).1 = true := Nat.ble_eq_true_of_le (by show (a.length + b.length) * 8 ≤ big; omega)
      rw [e]; rfl
    · rfl
  have h2' : l138_2 [] [(a, ()), (b, ())] (lenI [(a, ()), (b, ())]) 0 = _ := h2
  rw [h1]
  dsimp only [Option.bind_some, Sum.elim_inl]
  rw [hg]
  dsimp only [Option.bind_some, Sum.elim_inl]
  rw [h2']; rfl
theorem ring_i (r : RingT) (hb : RingB r) : g94 r = some ((), ((ringM r, ()), ())) := by
  have hbig : big = 140737488355328 := rfl
  obtain ⟨hb1, hb2⟩ := hb
  unfold g94
  rw [concat_i _ _ hb1 hb2]
  dsimp only [Option.bind_some]
  have h := loop_list (step := fun (x : Int × (List (Int × Unit)) × Int × Int × RingT × Unit) => r94_0 x.1 x.2.1 x.2.2.1 x.2.2.2.1 x.2.2.2.2.1) (r.2.2.1 ++ r.2.2.2.1) (fun i (_ : Unit) => (lenI r.2.2.1, r.2.2.1 ++ r.2.2.2.1, lenI (r.2.2.1 ++ r.2.2.2.1), ((i : Nat) : Int), r, ())) (fun _ x _ => bif moneyM x.1 then Sum.inl () else .inr (.inr (false, ()))) (fun _ => .inl (lenI r.2.2.1, r.2.2.1 ++ r.2.2.2.1, lenI (r.2.2.1 ++ r.2.2.2.1), ((r.2.2.1 ++ r.2.2.2.1).length : Int), r, ())) (a0 := ()) (fun i x a hx => by
      have hlt := lt_of_get hx
      rw [List.length_append] at hlt
      show r94_0 (lenI r.2.2.1) (r.2.2.1 ++ r.2.2.2.1) (lenI (r.2.2.1 ++ r.2.2.2.1)) (i : Int) r = _
      unfold r94_0
      rw [ltI_in hx, inB_in hx, gt_in _ hx, money_i, addW1 (by omega)]
      dsimp only [cond_true, Option.bind_some]
      cases moneyM x.1 <;> rfl) (fun a => by
      show r94_0 (lenI r.2.2.1) (r.2.2.1 ++ r.2.2.2.1) (lenI (r.2.2.1 ++ r.2.2.2.1)) ((r.2.2.1 ++ r.2.2.2.1).length : Int) r = _
      unfold r94_0
      rw [ltI_out rfl]; rfl)
  rw [goL_all (fun (x : Int × Unit) => moneyM x.1)] at h
  have h' : l94_0 (lenI r.2.2.1) (r.2.2.1 ++ r.2.2.2.1) (lenI (r.2.2.1 ++ r.2.2.2.1)) 0 r = _ := h
  rw [h', List.all_append]
  unfold ringM
  cases r.2.2.1.all (fun x => moneyM x.1) && r.2.2.2.1.all (fun x => moneyM x.1) with
  | false =>
    cases inM r.1 1 1000 <;> cases inM (lenI r.2.2.1) 1 8 <;> cases eqI (lenI r.2.2.2.1) (lenI r.2.2.1) <;> cases timeM r.2.1 <;> rfl
  | true =>
    dsimp only [cond_true, Option.bind_some, Sum.elim_inl]
    rw [in_i, in_i, time_i]
    dsimp only [Option.bind_some]
    cases inM r.1 1 1000 <;> cases inM (lenI r.2.2.1) 1 8 <;> cases eqI (lenI r.2.2.2.1) (lenI r.2.2.1) <;> cases timeM r.2.1 <;> rfl
theorem ringM_spec {r : RingT} (h : ringM r = true) : (1 ≤ r.1 ∧ r.1 ≤ 1000) ∧ (1 ≤ r.2.2.1.length ∧ r.2.2.1.length ≤ 8) ∧ r.2.2.2.1.length = r.2.2.1.length ∧ (0 ≤ r.2.1 ∧ r.2.1 ≤ 1000000000) := by
  unfold ringM at h
  cases h1 : inM r.1 1 1000 with
  | false => rw [h1] at h; simp at h
  | true =>
  cases h2 : inM (lenI r.2.2.1) 1 8 with
  | false => rw [h1, h2] at h; simp at h
  | true =>
  cases h3 : eqI (lenI r.2.2.2.1) (lenI r.2.2.1) with
  | false => rw [h1, h2, h3] at h; simp at h
  | true =>
  cases h4 : timeM r.2.1 with
  | false => rw [h1, h2, h3, h4] at h; simp at h
  | true =>
  have a := inM_iff.1 h1
  have b := inM_iff.1 h2
  have c := eqI_iff.1 h3
  have d := inM_iff.1 h4
  unfold lenI at b c
  exact ⟨a, ⟨by omega, by omega⟩, by omega, d⟩


/-! ### slots -/
def slotM (s : SlotT) : Bool := cond (cond (digitsM s.1) (eqI (lenI s.1) 6) false) (cond (cond (digitsM s.2.1) (eqI (lenI s.2.1) 4) false) (inM (lenI s.2.2.1) 1 200) false) false
def SlotB (s : SlotT) : Prop := s.1.length ≤ big ∧ s.2.1.length ≤ big
theorem slot_s (s : SlotT) (hb : SlotB s) : g144 s = some ((), ((slotM s, ()), ())) := by
  unfold g144 slotM
  rw [digits_s _ hb.1, digits_s _ hb.2]
  dsimp only [Option.bind_some]
  rw [in_s]
  cases cond (digitsM s.1) (eqI (lenI s.1) 6) false <;> cases cond (digitsM s.2.1) (eqI (lenI s.2.1) 4) false <;> rfl
theorem slot_i (s : SlotT) (hb : SlotB s) : g159 s = some ((), ((slotM s, ()), ())) := by
  unfold g159 g167 slotM
  rw [digits_i _ hb.1, digits_i _ hb.2]
  dsimp only [Option.bind_some]
  rw [in_i]
  cases cond (digitsM s.1) (eqI (lenI s.1) 6) false <;> cases cond (digitsM s.2.1) (eqI (lenI s.2.1) 4) false <;> rfl
def sameSlot (a b : SlotT) : Bool := cond (eqS a.1 b.1) (eqS a.2.1 b.2.1) false
/-- The i-th slot: itself in order, and no slot before it is the same. -/
def slotStep (xs : List SlotT) (i : Nat) (x : SlotT) : Bool := cond (slotM x) ((xs.take i).all (fun y => !sameSlot y x)) false
def slotsM (xs : List SlotT) : Bool := cond (allI (slotStep xs) 0 xs) (leI (lenI xs) 6) false
def SlotsB (xs : List SlotT) : Prop := xs.length ≤ 1048576 ∧ ∀ y ∈ xs, SlotB y
theorem sub_take {α : Type} (xs : List α) (i : Nat) : sub xs 0 (i : Int) = xs.take i := by unfold sub; simp
theorem cutB_take {α : Type} {xs : List α} {i : Nat} (h : i ≤ xs.length) : cutB 0 (i : Int) xs = true := by
  unfold cutB cutOk leI
  rw [decide_eq_true (by decide), decide_eq_true (by omega), decide_eq_true (by omega)]; rfl
theorem slots_s (xs : List SlotT) (hb : SlotsB xs) : g109 xs = some ((), ((slotsM xs, ()), ())) := by
  have hbig : big = 140737488355328 := rfl
  have hb1 := hb.1
  unfold g109
  have inner : ∀ (i : Nat) (x : SlotT), i ≤ xs.length → l109_2 xs xs (lenI xs) (i : Int) (xs.take i) (lenI (xs.take i)) 0 x = some (bif (xs.take i).all (fun y => !sameSlot y x) then .inl (xs, xs, lenI xs, (i : Int), xs.take i, lenI (xs.take i), ((xs.take i).length : Int), x, ()) else .inr (false, ())) := fun i x hi => by
    have hti : (xs.take i).length ≤ xs.length := by rw [List.length_take]; exact Nat.min_le_right _ _
    have h := loop_list (step := fun (z : (List SlotT) × (List SlotT) × Int × Int × (List SlotT) × Int × Int × SlotT × Unit) => r109_2 z.1 z.2.1 z.2.2.1 z.2.2.2.1 z.2.2.2.2.1 z.2.2.2.2.2.1 z.2.2.2.2.2.2.1 z.2.2.2.2.2.2.2.1) (xs.take i) (fun j (_ : Unit) => (xs, xs, lenI xs, (i : Int), xs.take i, lenI (xs.take i), ((j : Nat) : Int), x, ())) (fun _ y _ => bif !sameSlot y x then Sum.inl () else .inr (.inr (false, ()))) (fun _ => .inl (xs, xs, lenI xs, (i : Int), xs.take i, lenI (xs.take i), ((xs.take i).length : Int), x, ())) (a0 := ()) (fun j y a hy => by
        have hlt := lt_of_get hy
        show r109_2 xs xs (lenI xs) (i : Int) (xs.take i) (lenI (xs.take i)) (j : Int) x = _
        unfold r109_2 sameSlot
        rw [ltI_in hy, inB_in hy, gt_in _ hy, addW1 (by omega)]
        dsimp only [cond_true]
        cases cond (eqS y.1 x.1) (eqS y.2.1 x.2.1) false <;> rfl) (fun a => by
        show r109_2 xs xs (lenI xs) (i : Int) (xs.take i) (lenI (xs.take i)) ((xs.take i).length : Int) x = _
        unfold r109_2
        rw [ltI_out rfl]; rfl)
    rw [goL_all (fun y => !sameSlot y x)] at h
    exact h
  have h := loop_list (step := fun (x : (List SlotT) × (List SlotT) × Int × Int × Unit) => r109_0 x.1 x.2.1 x.2.2.1 x.2.2.2.1) xs (fun i (_ : Unit) => (xs, xs, lenI xs, ((i : Nat) : Int), ())) (fun i x _ => bif slotStep xs i x then Sum.inl () else .inr (.inr (false, ()))) (fun _ => .inl (xs, xs, lenI xs, (xs.length : Int), ())) (a0 := ()) (fun i x a hx => by
      have hlt := lt_of_get hx
      show r109_0 xs xs (lenI xs) (i : Int) = _
      unfold r109_0 slotStep
      rw [ltI_in hx, inB_in hx, gt_in _ hx]
      dsimp only [cond_true]
      rw [slot_s x (hb.2 x (List.mem_of_getElem? hx)), cutB_take (Nat.le_of_lt hlt), sub_take]
      dsimp only [cond_true, Option.bind_some]
      rw [inner i x (Nat.le_of_lt hlt)]
      cases slotM x with
      | false => rfl
      | true =>
        cases (xs.take i).all (fun y => !sameSlot y x) with
        | false => rfl
        | true =>
          dsimp only [cond_true, cond_false, Bool.not_true, Option.bind_some, Sum.elim_inl]
          rw [addW1 (by omega)]; rfl) (fun a => by
      show r109_0 xs xs (lenI xs) (xs.length : Int) = _
      unfold r109_0
      rw [ltI_out rfl]; rfl)
  rw [goL_allI] at h
  have h' : l109_0 xs xs (lenI xs) 0 = _ := h
  rw [h']
  unfold slotsM
  cases allI (slotStep xs) 0 xs <;> rfl
/-- Where the first element is that passes. -/
def findI {α : Type} (p : α → Bool) : Nat → List α → Int
  | _, [] => -1
  | i, x :: r => bif p x then (i : Int) else findI p (i + 1) r
theorem goL_find {α Y : Type} (p : α → Bool) (y : Int → Y) (z : Y) (out : Y → Int) (hy : ∀ n, out (y n) = n) (hz : out z = -1) : ∀ (xs : List α) (i : Nat), out (goL (fun i x _ => bif p x then Sum.inr (y (i : Int)) else .inl ()) (fun _ => z) i xs ()) = findI p i xs
  | [], _ => hz
  | x :: r, i => by
    rw [goL, findI]
    cases hp : p x with
    | true => exact hy _
    | false => exact goL_find p y z out hy hz r (i + 1)
theorem findI_bd {α : Type} (p : α → Bool) : ∀ (xs : List α) (i : Nat), findI p i xs = -1 ∨ ((i : Int) ≤ findI p i xs ∧ findI p i xs < i + xs.length)
  | [], _ => .inl rfl
  | x :: r, i => by
    rw [findI]
    cases p x with
    | true => right; simp only [cond_true, List.length_cons]; omega
    | false =>
      rcases findI_bd p r (i + 1) with h | h
      · exact .inl h
      · right; simp only [cond_false, List.length_cons]; omega
/-- The first that passes is the i-th: it passes, and none before it. -/
theorem findI_eq {α : Type} (p : α → Bool) : ∀ {xs : List α} {i : Nat} {x : α} (k : Nat), xs[i]? = some x → p x = true → (findI p k xs = ((k + i : Nat) : Int) ↔ (xs.take i).all (fun y => !p y) = true)
  | [], i, x, k, h, _ => by simp at h
  | y :: r, 0, x, k, h, hp => by
    simp only [List.getElem?_cons_zero, Option.some.injEq] at h
    subst h
    rw [findI, hp]; simp
  | y :: r, i + 1, x, k, h, hp => by
    have ih := findI_eq p (xs := r) (i := i) (x := x) (k + 1) (by simpa using h) hp
    rw [findI, List.take_succ_cons, List.all_cons]
    cases hy : p y with
    | true =>
      simp only [cond_true, Bool.not_true, Bool.false_and, Bool.false_eq_true, iff_false]
      omega
    | false =>
      simp only [cond_false, Bool.not_false, Bool.true_and]
      rw [← ih, show k + 1 + i = k + (i + 1) by omega]
theorem slotAt_i (xs : List SlotT) (a b : List UInt8) (hs : xs.length ≤ 1048576) : g160 xs a b = some ((), ((findI (fun y => cond (eqS y.1 a) (eqS y.2.1 b) false) 0 xs, ()), ())) := by
  have hbig : big = 140737488355328 := rfl
  unfold g160 g168
  have h := loop_list (step := fun (z : (List SlotT) × (((List UInt8) × Unit) × ((List UInt8) × Unit) × Unit) × Int × Int × Unit) => r168_0 z.1 z.2.1 z.2.2.1 z.2.2.2.1) xs (fun i (_ : Unit) => (xs, ((a, ()), (b, ()), ()), lenI xs, ((i : Nat) : Int), ())) (fun i y _ => bif cond (eqS y.1 a) (eqS y.2.1 b) false then Sum.inr (.inr ((i : Int), ())) else Sum.inl ()) (fun _ => .inl (xs, ((a, ()), (b, ()), ()), lenI xs, (xs.length : Int), ())) (a0 := ()) (fun i y u hy => by
      have hlt := lt_of_get hy
      show r168_0 xs ((a, ()), (b, ()), ()) (lenI xs) (i : Int) = _
      unfold r168_0 g169
      rw [ltI_in hy, inB_in hy, gt_in _ hy, addW1 (by omega)]
      dsimp only [cond_true, Option.bind_some]
      cases cond (eqS y.1 a) (eqS y.2.1 b) false <;> rfl) (fun u => by
      show r168_0 xs ((a, ()), (b, ()), ()) (lenI xs) (xs.length : Int) = _
      unfold r168_0
      rw [ltI_out rfl]; rfl)
  have h' : l168_0 xs ((a, ()), (b, ()), ()) (lenI xs) 0 = _ := h
  rw [h']
  have hf := goL_find (Y := Sum ((List SlotT) × (((List UInt8) × Unit) × ((List UInt8) × Unit) × Unit) × Int × Int × Unit) (Int × Unit)) (fun (y : SlotT) => cond (eqS y.1 a) (eqS y.2.1 b) false) (fun n => .inr (n, ())) (.inl (xs, ((a, ()), (b, ()), ()), lenI xs, (xs.length : Int), ())) (fun y => match y with | .inl _ => -1 | .inr z => z.1) (fun _ => rfl) rfl xs 0
  rw [← hf]
  dsimp only [Option.bind_some]
  cases goL _ _ 0 xs () <;> rfl
theorem slots_i (xs : List SlotT) (hb : SlotsB xs) : g146 xs = some ((), ((slotsM xs, ()), ())) := by
  have hbig : big = 140737488355328 := rfl
  have hb1 := hb.1
  unfold g146
  have h := loop_list (step := fun (x : (List SlotT) × (List SlotT) × Int × Int × Unit) => r146_0 x.1 x.2.1 x.2.2.1 x.2.2.2.1) xs (fun i (_ : Unit) => (xs, xs, lenI xs, ((i : Nat) : Int), ())) (fun i x _ => bif slotStep xs i x then Sum.inl () else .inr (.inr (false, ()))) (fun _ => .inl (xs, xs, lenI xs, (xs.length : Int), ())) (a0 := ()) (fun i x a hx => by
      have hlt := lt_of_get hx
      show r146_0 xs xs (lenI xs) (i : Int) = _
      unfold r146_0 slotStep
      rw [ltI_in hx, inB_in hx, gt_in _ hx]
      dsimp only [cond_true]
      rw [slot_i x (hb.2 x (List.mem_of_getElem? hx))]
      dsimp only [cond_true, Option.bind_some]
      rw [slotAt_i xs _ _ hb1, addW1 (by omega)]
      have hp : cond (eqS x.1 x.1) (eqS x.2.1 x.2.1) false = true := by rw [eqS_refl, eqS_refl]; rfl
      have hk := findI_eq (fun (y : SlotT) => cond (eqS y.1 x.1) (eqS y.2.1 x.2.1) false) 0 hx hp
      rw [Nat.zero_add, ← eqI_iff] at hk
      have hk' : eqI (findI (fun (y : SlotT) => cond (eqS y.1 x.1) (eqS y.2.1 x.2.1) false) 0 xs) (i : Int) = (xs.take i).all (fun y => !sameSlot y x) := by
        rw [Bool.eq_iff_iff]; exact hk
      cases slotM x with
      | false => rfl
      | true =>
        dsimp only [cond_true, cond_false, Bool.not_true, Option.bind_some]
        rw [hk']
        cases (xs.take i).all (fun y => !sameSlot y x) <;> rfl) (fun a => by
      show r146_0 xs xs (lenI xs) (xs.length : Int) = _
      unfold r146_0
      rw [ltI_out rfl]; rfl)
  rw [goL_allI] at h
  have h' : l146_0 xs xs (lenI xs) 0 = _ := h
  rw [h']
  unfold slotsM
  cases allI (slotStep xs) 0 xs <;> rfl


/-! ### accounts -/
abbrev AcctT := List UInt8 × Int × Int × Int × Int × List HoldT × Int × Int × List (Int × Unit) × List (Int × Unit) × List SlotT × Unit
def rgOf (a : AcctT) : RingT := (a.2.2.2.2.2.2.1, a.2.2.2.2.2.2.2.1, a.2.2.2.2.2.2.2.2.1, a.2.2.2.2.2.2.2.2.2.1, ())
/-- No larger than what the laws look at. -/
def AcctB (a : AcctT) : Prop := a.1.length ≤ 1048576 ∧ (a.2.2.2.2.2.1.length ≤ 1048576 ∧ ∀ y ∈ a.2.2.2.2.2.1, y.1.length ≤ 1048576) ∧ RingB (rgOf a) ∧ a.2.2.2.2.2.2.2.2.2.2.1.length ≤ 1048576 ∧ ∀ y ∈ a.2.2.2.2.2.2.2.2.2.2.1, y.1.length ≤ 1048576 ∧ y.2.1.length ≤ 1048576 ∧ y.2.2.1.length ≤ 1048576
theorem le_big {n : Nat} (h : n ≤ 1048576) : n ≤ big := Nat.le_trans h (by decide)
theorem AcctB.hs {a : AcctT} (h : AcctB a) : HoldsB a.2.2.2.2.2.1 := ⟨le_big h.2.1.1, fun y hy => le_big (h.2.1.2 y hy)⟩
theorem AcctB.ss {a : AcctT} (h : AcctB a) : SlotsB a.2.2.2.2.2.2.2.2.2.2.1 := ⟨h.2.2.2.1, fun y hy => ⟨le_big (h.2.2.2.2 y hy).1, le_big (h.2.2.2.2 y hy).2.1⟩⟩
def acctM (a : AcctT) : Bool := cond (acctIdM a.1) (cond (inM a.2.1 0 9007199254740992) (cond (inM a.2.2.2.1 0 1000) (cond (inM a.2.2.2.2.1 0 9007199254740992) (cond (moneyM a.2.2.1) (cond (holdsM a.2.2.2.2.2.1) (cond (ringM (rgOf a)) (cond (slotsM a.2.2.2.2.2.2.2.2.2.2.1) (leI (satM a.2.2.1 (storedM a.2.2.2.2.2.1)) a.2.1) false) false) false) false) false) false) false) false
theorem acct_s (a : AcctT) (hb : AcctB a) : g51 a = some ((), ((acctM a, ()), ())) := by
  have h1 := acctId_s a.1 (le_big hb.1)
  have h2 := holds_s _ hb.hs
  have h3 : g84 (a.2.2.2.2.2.2.1, a.2.2.2.2.2.2.2.1, a.2.2.2.2.2.2.2.2.1, a.2.2.2.2.2.2.2.2.2.1, ()) = _ := ring_s (rgOf a) hb.2.2.1
  have h4 := slots_s _ hb.ss
  have h5 := stored_s _ hb.hs.1
  unfold g51 acctM
  rw [h1, h2, h3, h4, h5, in_s, in_s, in_s, money_s]
  dsimp only [Option.bind_some]
  rw [sat_s]
  dsimp only [Option.bind_some]
  cases acctIdM a.1 <;> first | rfl | skip
  cases inM a.2.1 0 9007199254740992 <;> first | rfl | skip
  cases inM a.2.2.2.1 0 1000 <;> first | rfl | skip
  cases inM a.2.2.2.2.1 0 9007199254740992 <;> first | rfl | skip
  cases moneyM a.2.2.1 <;> first | rfl | skip
  cases holdsM a.2.2.2.2.2.1 <;> first | rfl | skip
  cases ringM (rgOf a) <;> first | rfl | skip
  cases slotsM a.2.2.2.2.2.2.2.2.2.2.1 <;> rfl
theorem acct_i (a : AcctT) (hb : AcctB a) : g112 a = some ((), ((acctM a, ()), ())) := by
  have h1 := acctId_i a.1 (le_big hb.1)
  have h2 := holds_i _ hb.hs
  have h3 : g94 (a.2.2.2.2.2.2.1, a.2.2.2.2.2.2.2.1, a.2.2.2.2.2.2.2.2.1, a.2.2.2.2.2.2.2.2.2.1, ()) = _ := ring_i (rgOf a) hb.2.2.1
  have h4 := slots_i _ hb.ss
  have h5 := stored_i _ hb.hs.1
  unfold g112 acctM
  rw [h1, h2, h3, h4, h5, in_i, in_i, in_i, money_i]
  dsimp only [Option.bind_some]
  rw [sat_i]
  dsimp only [Option.bind_some]
  cases acctIdM a.1 <;> first | rfl | skip
  cases inM a.2.1 0 9007199254740992 <;> first | rfl | skip
  cases inM a.2.2.2.1 0 1000 <;> first | rfl | skip
  cases inM a.2.2.2.2.1 0 9007199254740992 <;> first | rfl | skip
  cases moneyM a.2.2.1 <;> first | rfl | skip
  cases holdsM a.2.2.2.2.2.1 <;> first | rfl | skip
  cases ringM (rgOf a) <;> first | rfl | skip
  cases slotsM a.2.2.2.2.2.2.2.2.2.2.1 <;> rfl

/-! ### copies -/
theorem fitB_nil {α : Type} {b : Nat} {xs : List α} (h : xs.length * b ≤ big) : fitB b ([] : List α) xs = true := Nat.ble_eq_true_of_le (by simpa using h)
theorem ringCp_s (r : RingT) (hb : RingB r) : g86 r = some ((), (r, ())) := by
  have hbig : big = 140737488355328 := rfl
  obtain ⟨h1, h2⟩ := hb
  unfold g86
  rw [fitB_nil (by omega), fitB_nil (by omega)]; rfl
theorem ringCp_i (r : RingT) (hb : RingB r) : g97 r = some ((), (r, ())) := by
  have hbig : big = 140737488355328 := rfl
  obtain ⟨h1, h2⟩ := hb
  unfold g97 g139
  rw [fitB_nil (by omega), fitB_nil (by omega)]; rfl
theorem slotsCp_s (xs : List SlotT) (hs : xs.length ≤ 1048576) (hb : ∀ y ∈ xs, y.2.2.1.length ≤ 1048576) : g131 xs = some ((), ((xs, ()), ())) := by
  have hbig : big = 140737488355328 := rfl
  unfold g131
  have h := loop_inv (step := fun (z : (List SlotT) × (List SlotT) × Int × Int × Unit) => r131_0 z.1 z.2.1 z.2.2.1 z.2.2.2.1) xs (fun i (a : List SlotT) => (a, xs, lenI xs, ((i : Nat) : Int), ())) (fun _ x a => Sum.inl (a ++ [x])) (fun a => .inl (a, xs, lenI xs, (xs.length : Int), ())) (fun i a => a.length = i) (a0 := []) rfl (fun i x a hx ha => by
      have hlt := lt_of_get hx
      have hm := hb x (List.mem_of_getElem? hx)
      show r131_0 a xs (lenI xs) (i : Int) = _
      unfold r131_0
      have e : ∀ y : SlotT, fitB 56 a [y] = true := fun y => Nat.ble_eq_true_of_le (by simp; omega)
      rw [ltI_in hx, inB_in hx, gt_in _ hx]
      dsimp only [cond_true]
      rw [fitB_nil (by omega), e, addW1 (by omega)]
      rfl) (fun i x a a' hx ha hf => by
      simp only [Sum.inl.injEq] at hf
      rw [← hf, List.length_append, ha]; rfl) (fun a ha => by
      show r131_0 a xs (lenI xs) (xs.length : Int) = _
      unfold r131_0
      rw [ltI_out rfl]; rfl)
  rw [goL_cp] at h
  have h' : l131_0 [] xs (lenI xs) 0 = _ := h
  rw [h']; rfl
theorem slotsCp_i (xs : List SlotT) (hs : xs.length ≤ 1048576) (hb : ∀ y ∈ xs, y.2.2.1.length ≤ 1048576) : g154 xs = some ((), ((xs, ()), ())) := by
  have hbig : big = 140737488355328 := rfl
  unfold g154
  have h := loop_inv (step := fun (z : (List SlotT) × (List SlotT) × Int × Int × Unit) => r154_0 z.1 z.2.1 z.2.2.1 z.2.2.2.1) xs (fun i (a : List SlotT) => (a, xs, lenI xs, ((i : Nat) : Int), ())) (fun _ x a => Sum.inl (a ++ [x])) (fun a => .inl (a, xs, lenI xs, (xs.length : Int), ())) (fun i a => a.length = i) (a0 := []) rfl (fun i x a hx ha => by
      have hlt := lt_of_get hx
      have hm := hb x (List.mem_of_getElem? hx)
      show r154_0 a xs (lenI xs) (i : Int) = _
      unfold r154_0 g164
      have e : ∀ y : SlotT, fitB 56 a [y] = true := fun y => Nat.ble_eq_true_of_le (by simp; omega)
      rw [ltI_in hx, inB_in hx, gt_in _ hx]
      dsimp only [cond_true]
      rw [fitB_nil (by omega), addW1 (by omega)]
      dsimp only [cond_true, Option.bind_some]
      rw [e]
      rfl) (fun i x a a' hx ha hf => by
      simp only [Sum.inl.injEq] at hf
      rw [← hf, List.length_append, ha]; rfl) (fun a ha => by
      show r154_0 a xs (lenI xs) (xs.length : Int) = _
      unfold r154_0
      rw [ltI_out rfl]; rfl)
  rw [goL_cp] at h
  have h' : l154_0 [] xs (lenI xs) 0 = _ := h
  rw [h']; rfl
theorem acctCp_s (a : AcctT) (hb : AcctB a) : g79 a = some ((), (a, ())) := by
  have hbig : big = 140737488355328 := rfl
  have h1 := hb.2.1.1
  have h2 : g86 (a.2.2.2.2.2.2.1, a.2.2.2.2.2.2.2.1, a.2.2.2.2.2.2.2.2.1, a.2.2.2.2.2.2.2.2.2.1, ()) = _ := ringCp_s (rgOf a) hb.2.2.1
  have h3 := slotsCp_s _ hb.2.2.2.1 (fun y hy => (hb.2.2.2.2 y hy).2.2)
  unfold g79
  rw [fitB_nil (by omega), h2, h3]; rfl
theorem acctCp_i (a : AcctT) (hb : AcctB a) : g126 a = some ((), (a, ())) := by
  have hbig : big = 140737488355328 := rfl
  have h1 := hb.2.1.1
  have h2 : g97 (a.2.2.2.2.2.2.1, a.2.2.2.2.2.2.2.1, a.2.2.2.2.2.2.2.2.1, a.2.2.2.2.2.2.2.2.2.1, ()) = _ := ringCp_i (rgOf a) hb.2.2.1
  have h3 := slotsCp_i _ hb.2.2.2.1 (fun y hy => (hb.2.2.2.2 y hy).2.2)
  unfold g126 g120
  rw [fitB_nil (by omega), h2, h3]; rfl

theorem goL_filter {α Y : Type} (p : α → Bool) (z : List α → Y) : ∀ (xs : List α) (i : Nat) (d : List α), goL (fun _ x (a : List α) => Sum.inl (bif p x then a ++ [x] else a)) z i xs d = z (d ++ xs.filter p)
  | [], _, d => by simp [goL]
  | x :: r, i, d => by
    rw [goL]
    simp only
    rw [goL_filter p z r (i + 1)]
    cases hp : p x with
    | true => simp [hp]
    | false => simp [hp]


/-! ### stripes -/
def fnvStep (h : Nat) (c : UInt8) : Nat := ((h ^^^ c.toNat) * 16777619) % 4294967296
def fnvM (s : List UInt8) : Nat := s.foldl fnvStep 2166136261
theorem fnv_lt (h : Nat) (c : UInt8) : fnvStep h c < 4294967296 := Nat.mod_lt _ (by decide)
theorem xor_lt {a c : Nat} (ha : a < 4294967296) (hc : c < 256) : a ^^^ c < 4294967296 := by
  have := Nat.xor_lt_two_pow (x := a) (y := c) (n := 32) (by omega) (by omega)
  omega
theorem ofInt_nat (n a : Nat) : BitVec.ofInt n (a : Int) = BitVec.ofNat n a := by simp
theorem fnv_step_s {a : Nat} (c : UInt8) (ha : a < 4294967296) : andW .i64 (mulW .i64 (xorW .i64 (a : Int) (cvtW .i64 (c.toNat : Int))) 16777619) 4294967295 = ((fnvStep a c : Nat) : Int) := by
  have hc : c.toNat < 256 := c.toNat_lt
  have hx := xor_lt ha hc
  have e1 : cvtW .i64 (c.toNat : Int) = (c.toNat : Int) := IntWalk.i64_in _ (by omega)
  have e2 : xorW .i64 (a : Int) (c.toNat : Int) = ((a ^^^ c.toNat : Nat) : Int) := by
    unfold xorW
    have : (BitVec.ofInt IntKind.i64.bits (a : Int) ^^^ BitVec.ofInt IntKind.i64.bits (c.toNat : Int)).toNat = a ^^^ c.toNat := by
      rw [ofInt_nat, ofInt_nat, BitVec.toNat_xor, BitVec.toNat_ofNat, BitVec.toNat_ofNat]
      have h64 : 2 ^ IntKind.i64.bits = 18446744073709551616 := by decide
      rw [h64, Nat.mod_eq_of_lt (by omega), Nat.mod_eq_of_lt (by omega)]
    rw [this]
    exact IntWalk.i64_in _ (by omega)
  have e3 : mulW .i64 ((a ^^^ c.toNat : Nat) : Int) 16777619 = (((a ^^^ c.toNat) * 16777619 : Nat) : Int) := by
    unfold mulW
    rw [IntWalk.i64_in _ (by omega)]
    omega
  rw [e1, e2, e3]
  unfold andW fnvStep
  have : (BitVec.ofInt IntKind.i64.bits (((a ^^^ c.toNat) * 16777619 : Nat) : Int) &&& BitVec.ofInt IntKind.i64.bits (4294967295 : Int)).toNat = ((a ^^^ c.toNat) * 16777619) % 4294967296 := by
    have h32 : (4294967295 : Int) = ((4294967295 : Nat) : Int) := rfl
    rw [h32, ofInt_nat, ofInt_nat, BitVec.toNat_and, BitVec.toNat_ofNat, BitVec.toNat_ofNat]
    have h64 : 2 ^ IntKind.i64.bits = 18446744073709551616 := by decide
    rw [h64, Nat.mod_eq_of_lt (by omega : (a ^^^ c.toNat) * 16777619 < 18446744073709551616), Nat.mod_eq_of_lt (by omega : 4294967295 < 18446744073709551616)]
    exact Nat.and_two_pow_sub_one_eq_mod _ 32
  rw [this]
  have := Nat.mod_lt ((a ^^^ c.toNat) * 16777619) (show 0 < 4294967296 by decide)
  exact IntWalk.i64_in _ (by omega)
theorem fnv_step_i {a : Nat} (c : UInt8) (ha : a < 4294967296) : mulW .u32 (xorW .u32 (a : Int) (cvtW .u32 (c.toNat : Int))) 16777619 = ((fnvStep a c : Nat) : Int) := by
  have hc : c.toNat < 256 := c.toNat_lt
  have hx := xor_lt ha hc
  have e1 : cvtW .u32 (c.toNat : Int) = (c.toNat : Int) := IntWalk.u32_in _ (by omega)
  have e2 : xorW .u32 (a : Int) (c.toNat : Int) = ((a ^^^ c.toNat : Nat) : Int) := by
    unfold xorW
    have : (BitVec.ofInt IntKind.u32.bits (a : Int) ^^^ BitVec.ofInt IntKind.u32.bits (c.toNat : Int)).toNat = a ^^^ c.toNat := by
      rw [ofInt_nat, ofInt_nat, BitVec.toNat_xor, BitVec.toNat_ofNat, BitVec.toNat_ofNat]
      have h32 : 2 ^ IntKind.u32.bits = 4294967296 := by decide
      rw [h32, Nat.mod_eq_of_lt ha, Nat.mod_eq_of_lt (by omega)]
    rw [this]
    exact IntWalk.u32_in _ (by omega)
  rw [e1, e2]
  unfold mulW fnvStep
  rw [IntKind.wrap_u32]
  omega
theorem fnv_s (s : List UInt8) (hb : s.length ≤ big) : g152 s = some ((), ((((fnvM s : Nat) : Int), ()), ())) := by
  have hbig : big = 140737488355328 := rfl
  unfold g152
  have h := loop_inv (step := fun (z : (List UInt8) × Int × Int × Unit) => r152_0 z.1 z.2.1 z.2.2.1) s (fun i (a : Nat) => (s, ((a : Nat) : Int), ((i : Nat) : Int), ())) (fun _ x a => Sum.inl (fnvStep a x)) (fun a => .inl (s, ((a : Nat) : Int), (s.length : Int), ())) (fun _ a => a < 4294967296) (a0 := 2166136261) (by decide) (fun i x a hx ha => by
      have hlt := lt_of_get hx
      show r152_0 s (a : Int) (i : Int) = _
      unfold r152_0
      rw [ltI_in hx, inB_in hx, bytI_in hx, addW1 (by omega), fnv_step_s x ha]; rfl) (fun i x a a' hx ha hf => by
      simp only [Sum.inl.injEq] at hf
      rw [← hf]; exact fnv_lt a x) (fun a ha => by
      show r152_0 s (a : Int) (s.length : Int) = _
      unfold r152_0
      rw [ltI_out rfl]; rfl)
  rw [goL_fold (fun x a => fnvStep a x)] at h
  have h' : l152_0 s 2166136261 0 = _ := h
  rw [h']; rfl
theorem fnvM_lt (s : List UInt8) : fnvM s < 4294967296 := by
  have : ∀ (s : List UInt8) (a : Nat), a < 4294967296 → s.foldl fnvStep a < 4294967296 := fun s => by
    induction s with
    | nil => exact fun a h => h
    | cons c r ih => exact fun a _ => ih _ (fnv_lt a c)
  exact this s _ (by decide)
theorem fnv_i (s : List UInt8) (hb : s.length ≤ big) : g153 s = some ((), ((((fnvM s : Nat) : Int), ()), ())) := by
  have hbig : big = 140737488355328 := rfl
  unfold g153
  have h := loop_inv (step := fun (z : (List UInt8) × Int × Int × Int × Unit) => r153_0 z.1 z.2.1 z.2.2.1 z.2.2.2.1) s (fun i (a : Nat) => (s, ((a : Nat) : Int), lenI s, ((i : Nat) : Int), ())) (fun _ x a => Sum.inl (fnvStep a x)) (fun a => .inl (s, ((a : Nat) : Int), lenI s, (s.length : Int), ())) (fun _ a => a < 4294967296) (a0 := 2166136261) (by decide) (fun i x a hx ha => by
      have hlt := lt_of_get hx
      show r153_0 s (a : Int) (lenI s) (i : Int) = _
      unfold r153_0
      rw [ltI_in hx, inB_in hx, bytI_in hx, addW1 (by omega), fnv_step_i x ha]; rfl) (fun i x a a' hx ha hf => by
      simp only [Sum.inl.injEq] at hf
      rw [← hf]; exact fnv_lt a x) (fun a ha => by
      show r153_0 s (a : Int) (lenI s) (s.length : Int) = _
      unfold r153_0
      rw [ltI_out rfl]; rfl)
  rw [goL_fold (fun x a => fnvStep a x)] at h
  have h' : l153_0 s 2166136261 (lenI s) 0 = _ := h
  rw [h']
  have := fnvM_lt s
  have e : cvtW .i64 ((fnvM s : Nat) : Int) = ((fnvM s : Nat) : Int) := IntWalk.i64_in _ (by omega)
  show some ((), ((cvtW .i64 ((fnvM s : Nat) : Int), ()), ())) = _
  rw [e]
def stripeM (s : List UInt8) (n : Int) : Int := cond (ltI n 1) 0 (remI ((fnvM s : Nat) : Int) n)
theorem stripe_s (s : List UInt8) (n : Int) (hb : s.length ≤ big) : g123 s n = some ((), ((stripeM s n, ()), ())) := by
  unfold g123 stripeM
  rw [fnv_s s hb]
  by_cases h : n < 1
  · rw [ltI_yes h]; rfl
  · rw [ltI_no h]
    have : eqI n 0 = false := by
      rw [Bool.eq_false_iff]; intro hh; rw [eqI_iff] at hh; omega
    dsimp only [cond_false, Option.bind_some]
    rw [this]; rfl
theorem stripe_i (s : List UInt8) (n : Int) (hb : s.length ≤ big) : g125 s n = some ((), ((stripeM s n, ()), ())) := by
  unfold g125 stripeM
  rw [fnv_i s hb]
  by_cases h : n < 1
  · rw [ltI_yes h]; rfl
  · rw [ltI_no h]
    have : eqI n 0 = false := by
      rw [Bool.eq_false_iff]; intro hh; rw [eqI_iff] at hh; omega
    dsimp only [cond_false, Option.bind_some]
    rw [this]; rfl
theorem stripe_bd (s : List UInt8) {n : Int} (h : 1 ≤ n) : 0 ≤ stripeM s n ∧ stripeM s n < n := by
  unfold stripeM
  rw [ltI_no (by omega)]
  show 0 ≤ ((fnvM s : Nat) : Int).tmod n ∧ ((fnvM s : Nat) : Int).tmod n < n
  rw [Int.tmod_eq_emod_of_nonneg (by omega)]
  exact ⟨Int.emod_nonneg _ (by omega), Int.emod_lt_of_pos _ (by omega)⟩

/-! ### books -/
def bookStep (xs : List AcctT) (i : Nat) (x : AcctT) : Bool := cond (acctM x) (cond (decide (0 < i)) (ltS (gt ([], 0, 0, 0, 0, [], 0, 0, [], [], [], ()) xs ((i : Int) - 1)).1 x.1) true) false
def bookM (b : List AcctT) : Bool := cond (allI (bookStep b) 0 b) (leI (lenI b) 6) false
def BookB (b : List AcctT) : Prop := b.length ≤ 1048576 ∧ ∀ a ∈ b, AcctB a
theorem book_s (b : List AcctT) (hb : BookB b) : g122 (b, ()) = some ((), ((bookM b, ()), ())) := by
  have hbig : big = 140737488355328 := rfl
  have hl := hb.1
  unfold g122
  have h := loop_list (step := fun (x : (List AcctT) × Int × Int × ((List AcctT) × Unit) × Unit) => r122_0 x.1 x.2.1 x.2.2.1 x.2.2.2.1) b (fun i (_ : Unit) => (b, lenI b, ((i : Nat) : Int), (b, ()), ())) (fun i x _ => bif bookStep b i x then Sum.inl () else .inr (.inr (false, ()))) (fun _ => .inl (b, lenI b, (b.length : Int), (b, ()), ())) (a0 := ()) (fun i x a hx => by
      have hlt := lt_of_get hx
      show r122_0 b (lenI b) (i : Int) (b, ()) = _
      unfold r122_0 bookStep
      rw [ltI_in hx, inB_in hx, gt_in _ hx]
      dsimp only [cond_true]
      rw [acct_s x (hb.2 x (List.mem_of_getElem? hx)), addW1 (by omega)]
      dsimp only [Option.bind_some]
      cases acctM x with
      | false => rfl
      | true =>
        by_cases h0 : 0 < i
        · rw [ltI_yes (show (0 : Int) < i by omega), subW_in (by omega) (by omega), prev_get hx h0]
          dsimp only [cond_true, cond_false, Bool.not_true]
          have e : gt d34 b ((i : Int) - 1) = gt ([], 0, 0, 0, 0, [], 0, 0, [], [], [], ()) b ((i : Int) - 1) := rfl
          rw [e, decide_eq_true h0]
          cases ltS (gt ([], 0, 0, 0, 0, [], 0, 0, [], [], [], ()) b ((i : Int) - 1)).1 x.1 <;> rfl
        · rw [ltI_no (show ¬ (0 : Int) < i by omega), decide_eq_false h0]; rfl) (fun a => by
      show r122_0 b (lenI b) (b.length : Int) (b, ()) = _
      unfold r122_0
      rw [ltI_out rfl]; rfl)
  rw [goL_allI] at h
  have h' : l122_0 b (lenI b) 0 (b, ()) = _ := h
  dsimp only
  rw [h']
  unfold bookM
  cases allI (bookStep b) 0 b <;> rfl
theorem book_i (b : List AcctT) (hb : BookB b) : g124 (b, ()) = some ((), ((bookM b, ()), ())) := by
  have hbig : big = 140737488355328 := rfl
  have hl := hb.1
  unfold g124
  have h := loop_list (step := fun (x : (List AcctT) × Int × Int × ((List AcctT) × Unit) × Unit) => r124_0 x.1 x.2.1 x.2.2.1 x.2.2.2.1) b (fun i (_ : Unit) => (b, lenI b, ((i : Nat) : Int), (b, ()), ())) (fun i x _ => bif bookStep b i x then Sum.inl () else .inr (.inr (false, ()))) (fun _ => .inl (b, lenI b, (b.length : Int), (b, ()), ())) (a0 := ()) (fun i x a hx => by
      have hlt := lt_of_get hx
      show r124_0 b (lenI b) (i : Int) (b, ()) = _
      unfold r124_0 bookStep
      rw [ltI_in hx, inB_in hx, gt_in _ hx]
      dsimp only [cond_true]
      rw [acct_i x (hb.2 x (List.mem_of_getElem? hx)), addW1 (by omega)]
      dsimp only [Option.bind_some]
      cases acctM x with
      | false => rfl
      | true =>
        by_cases h0 : 0 < i
        · rw [ltI_yes (show (0 : Int) < i by omega), subW_in (by omega) (by omega), prev_get hx h0]
          dsimp only [cond_true, cond_false, Bool.not_true]
          rw [leS_not]
          have e : gt d34 b ((i : Int) - 1) = gt ([], 0, 0, 0, 0, [], 0, 0, [], [], [], ()) b ((i : Int) - 1) := rfl
          rw [e, decide_eq_true h0]
          cases ltS (gt ([], 0, 0, 0, 0, [], 0, 0, [], [], [], ()) b ((i : Int) - 1)).1 x.1 <;> rfl
        · rw [ltI_no (show ¬ (0 : Int) < i by omega), decide_eq_false h0]; rfl) (fun a => by
      show r124_0 b (lenI b) (b.length : Int) (b, ()) = _
      unfold r124_0
      rw [ltI_out rfl]; rfl)
  rw [goL_allI] at h
  have h' : l124_0 b (lenI b) 0 (b, ()) = _ := h
  dsimp only
  rw [h']
  unfold bookM
  cases allI (bookStep b) 0 b <;> rfl


/-! ### Spread -/
abbrev StripeT := Int × List AcctT × Unit
def sp (n : Nat) (m : Int) (b : List AcctT) : List StripeT := (List.range n).map fun (k : Nat) => ((-1 : Int), b.filter (fun a => eqI (stripeM a.1 m) (k : Int)), ())
def spreadM (b : List AcctT) (n : Int) : List StripeT := cond (bookM b) (cond (inM n 1 5) (sp n.toNat n b) []) []
theorem goL_map {α β Y : Type} (F : α → β) (z : List β → Y) : ∀ (xs : List α) (i : Nat) (d : List β), goL (fun _ x (a : List β) => Sum.inl (a ++ [F x])) z i xs d = z (d ++ xs.map F)
  | [], _, d => by simp [goL]
  | x :: r, i, d => by rw [goL]; simp only; rw [goL_map F z r (i + 1)]; simp
theorem goL_unit {α Y : Type} (z : Unit → Y) : ∀ (xs : List α) (i : Nat), goL (fun _ _ (_ : Unit) => Sum.inl ()) z i xs () = z ()
  | [], _ => rfl
  | x :: r, i => by rw [goL]; exact goL_unit z r (i + 1)
theorem inner_s (b : List AcctT) (n : Int) (out : List StripeT) (k : Int) (hb : BookB b) : l62_2 n out k b (lenI b) 0 (b, ()) ((-1), [], ()) = some (.inl (n, out, k, b, lenI b, (b.length : Int), (b, ()), ((-1), b.filter (fun a => eqI (stripeM a.1 n) k), ()), ())) := by
  have hbig : big = 140737488355328 := rfl
  have hl := hb.1
  have h := loop_inv (step := fun (x : (Int × (List StripeT) × Int × (List AcctT) × Int × Int × ((List AcctT) × Unit) × (Int × (List AcctT) × Unit) × Unit)) => r62_2 x.1 x.2.1 x.2.2.1 x.2.2.2.1 x.2.2.2.2.1 x.2.2.2.2.2.1 x.2.2.2.2.2.2.1 x.2.2.2.2.2.2.2.1) b
    (fun i (a : List AcctT) => (n, out, k, b, lenI b, ((i : Nat) : Int), (b, ()), ((-1), a, ()), ())) (fun _ x a => Sum.inl (bif eqI (stripeM x.1 n) k then a ++ [x] else a)) (fun a => .inl (n, out, k, b, lenI b, (b.length : Int), (b, ()), ((-1), a, ()), ())) (fun i a => a.length ≤ i) (a0 := []) (Nat.le_refl _) (fun i x a hx ha => by
      have hlt := lt_of_get hx
      have hx' := hb.2 x (List.mem_of_getElem? hx)
      show r62_2 n out k b (lenI b) (i : Int) (b, ()) ((-1), a, ()) = _
      unfold r62_2
      have e : ∀ y : AcctT, fitB 160 a [y] = true := fun y => Nat.ble_eq_true_of_le (by simp; omega)
      rw [ltI_in hx, inB_in hx, gt_in _ hx]
      dsimp only [cond_true]
      rw [stripe_s x.1 n (le_big hx'.1), acctCp_s x hx', addW1 (by omega)]
      dsimp only [Option.bind_some]
      rw [e]
      cases eqI (stripeM x.1 n) k <;> rfl) (fun i x a a' hx ha hf => by
      simp only [Sum.inl.injEq] at hf
      rw [← hf]
      cases eqI (stripeM x.1 n) k with
      | true => simp; omega
      | false => simp; omega) (fun a ha => by
      show r62_2 n out k b (lenI b) (b.length : Int) (b, ()) ((-1), a, ()) = _
      unfold r62_2
      rw [ltI_out rfl]; rfl)
  rw [goL_filter] at h
  exact h
theorem range_get {n i x : Nat} (h : (List.range n)[i]? = some x) : x = i ∧ i < n := by
  have := lt_of_get h
  rw [List.length_range] at this
  rw [List.getElem?_range this] at h
  exact ⟨(Option.some.inj h).symm, this⟩
theorem spread_s (b : List AcctT) (n : Int) (hb : BookB b) : g62 (b, ()) n = some ((), ((spreadM b n, ()), ())) := by
  have hbig : big = 140737488355328 := rfl
  unfold g62 spreadM
  rw [book_s b hb, in_s]
  dsimp only [Option.bind_some]
  cases bookM b with
  | false => rfl
  | true =>
  cases hn : inM n 1 5 with
  | false => rfl
  | true =>
  obtain ⟨n1, n2⟩ := inM_iff.1 hn
  obtain ⟨m, rfl⟩ := Int.eq_ofNat_of_zero_le (show 0 ≤ n by omega)
  dsimp only [cond_true, cond_false, Bool.not_true]
  have h := loop_inv (step := fun (x : (Int × (List StripeT) × Int × ((List AcctT) × Unit) × Unit)) => r62_0 x.1 x.2.1 x.2.2.1 x.2.2.2.1) (List.range m)
    (fun i (a : List StripeT) => ((m : Int), a, ((i : Nat) : Int), (b, ()), ())) (fun _ (x : Nat) a => Sum.inl (a ++ [((-1 : Int), b.filter (fun c => eqI (stripeM c.1 (m : Int)) (x : Int)), ())])) (fun a => .inl ((m : Int), a, (m : Int), (b, ()), ())) (fun i a => a.length ≤ i) (a0 := []) (Nat.le_refl _) (fun i x a hx ha => by
      obtain ⟨rfl, hlt⟩ := range_get hx
      show r62_0 (m : Int) a (x : Int) (b, ()) = _
      unfold r62_0
      have e : ∀ y : StripeT, fitB 32 a [y] = true := fun y => Nat.ble_eq_true_of_le (by simp; omega)
      rw [ltI_yes (by omega)]
      dsimp only [cond_true]
      rw [inner_s b _ a _ hb]
      dsimp only [Option.bind_some, Sum.elim_inl]
      rw [e, addW1 (by omega)]
      rfl) (fun i x a a' hx ha hf => by
      simp only [Sum.inl.injEq] at hf
      rw [← hf]; simp; omega) (fun a ha => by
      show r62_0 (m : Int) a ((List.range m).length : Int) (b, ()) = _
      unfold r62_0
      rw [List.length_range, ltI_no (by omega)]; rfl)
  rw [goL_map] at h
  have h' : l62_0 (m : Int) [] 0 (b, ()) = _ := h
  rw [h']
  rfl
theorem sp_len (n : Nat) (m : Int) (b : List AcctT) : (sp n m b).length = n := by simp [sp]
theorem sp_get {n : Nat} {m : Int} {b : List AcctT} {k : Nat} (h : k < n) : (sp n m b)[k]? = some ((-1 : Int), b.filter (fun a => eqI (stripeM a.1 m) (k : Int)), ()) := by
  unfold sp
  rw [List.getElem?_map, List.getElem?_range h]
  rfl
theorem sp_step {n : Nat} {m : Int} {b : List AcctT} {x : AcctT} {k : Nat} (hk : k < n) (hx : stripeM x.1 m = (k : Int)) : (sp n m b).set k ((-1 : Int), b.filter (fun a => eqI (stripeM a.1 m) (k : Int)) ++ [x], ()) = sp n m (b ++ [x]) := by
  apply List.ext_getElem?
  intro j
  rw [List.getElem?_set, sp_len]
  by_cases hj : j < n
  · rw [sp_get hj, sp_get hj, List.filter_append]
    by_cases e : k = j
    · subst e
      rw [if_pos rfl, if_pos hk]
      have : eqI (stripeM x.1 m) (k : Int) = true := by rw [eqI_iff]; exact hx
      simp [this]
    · rw [if_neg e]
      have : eqI (stripeM x.1 m) (j : Int) = false := by
        rw [Bool.eq_false_iff]; intro hh; rw [eqI_iff] at hh; omega
      simp [this]
  · have h1 : (sp n m b)[j]? = none := List.getElem?_eq_none (by rw [sp_len]; omega)
    have h2 : (sp n m (b ++ [x]))[j]? = none := List.getElem?_eq_none (by rw [sp_len]; omega)
    rw [h1, h2, if_neg (by omega)]
theorem fill_i (b : List AcctT) (m : Nat) (h1 : 1 ≤ m) (h2 : m ≤ 5) (hb : BookB b) : l64_2 (m : Int) (sp m m []) b (lenI b) 0 = some (.inl ((m : Int), sp m m b, b, lenI b, (b.length : Int), ())) := by
  have hbig : big = 140737488355328 := rfl
  have hl := hb.1
  have h := loop_inv (step := fun (x : (Int × (List StripeT) × (List AcctT) × Int × Int × Unit)) => r64_2 x.1 x.2.1 x.2.2.1 x.2.2.2.1 x.2.2.2.2.1) b
    (fun i (_ : Unit) => ((m : Int), sp m m (b.take i), b, lenI b, ((i : Nat) : Int), ())) (fun _ _ _ => Sum.inl ()) (fun _ => .inl ((m : Int), sp m m b, b, lenI b, (b.length : Int), ())) (fun _ _ => True) (a0 := ()) trivial (fun i x a hx ha => by
      have hlt := lt_of_get hx
      have hx' := hb.2 x (List.mem_of_getElem? hx)
      obtain ⟨s0, s1⟩ := stripe_bd x.1 (n := (m : Int)) (by omega)
      obtain ⟨k, hk⟩ := Int.eq_ofNat_of_zero_le s0
      have hk' : stripeM x.1 (m : Int) = (k : Int) := hk
      have hkm : k < m := by omega
      have hget := sp_get (m := (m : Int)) (b := b.take i) hkm
      have hin : inB (k : Int) (sp m m (b.take i)) = true := inB_in hget
      have hat : atB (k : Int) (sp m m (b.take i)) (k : Int) = true := by
        unfold atB idxIs
        rw [show idxOk (k : Int) (sp m m (b.take i)).length = true from hin, Nat.beq_refl]
        rfl
      have hf : fitB 160 ((b.take i).filter (fun a => eqI (stripeM a.1 (m : Int)) (k : Int))) [x] = true := by
        refine Nat.ble_eq_true_of_le ?_
        have := List.length_filter_le (fun a => eqI (stripeM a.1 (m : Int)) (k : Int)) (b.take i)
        have h3 : (b.take i).length ≤ b.length := by rw [List.length_take]; omega
        simp only [List.length_singleton]
        omega
      have hs := sp_step (b := b.take i) hkm hk'
      have ht : b.take (i + 1) = b.take i ++ [x] := by
        rw [List.take_add_one, hx]; rfl
      show r64_2 (m : Int) (sp m m (b.take i)) b (lenI b) (i : Int) = _
      unfold r64_2
      rw [ltI_in hx, inB_in hx, gt_in _ hx]
      dsimp only [cond_true]
      rw [stripe_i x.1 _ (le_big hx'.1), acctCp_i x hx', addW1 (by omega)]
      dsimp only [Option.bind_some]
      rw [hk', hin, gt_in _ hget]
      dsimp only [cond_true]
      rw [hf, hat]
      dsimp only [cond_true]
      have e : stI (sp m m (b.take i)) (k : Int) ((-1 : Int), apL ((b.take i).filter (fun a => eqI (stripeM a.1 (m : Int)) (k : Int))) [x], ()) = sp m m (b.take (i + 1)) := by
        rw [ht]; exact hs
      rw [e]) (fun _ _ _ _ _ _ _ => trivial) (fun a ha => by
      show r64_2 (m : Int) (sp m m (b.take b.length)) b (lenI b) (b.length : Int) = _
      unfold r64_2
      rw [ltI_out rfl, List.take_length]; rfl)
  rw [goL_unit] at h
  exact h
theorem zeros_i (b : List AcctT) (m : Nat) (h2 : m ≤ 5) : l64_0 (m : Int) [] (m : Int) 0 (b, ()) = some (.inl ((m : Int), sp m m [], (m : Int), (m : Int), (b, ()), ())) := by
  have hbig : big = 140737488355328 := rfl
  have h := loop_inv (step := fun (x : (Int × (List StripeT) × Int × Int × ((List AcctT) × Unit) × Unit)) => r64_0 x.1 x.2.1 x.2.2.1 x.2.2.2.1 x.2.2.2.2.1) (List.range m)
    (fun i (a : List StripeT) => ((m : Int), a, (m : Int), ((i : Nat) : Int), (b, ()), ())) (fun _ (x : Nat) a => Sum.inl (a ++ [((-1 : Int), [], ())])) (fun a => .inl ((m : Int), a, (m : Int), (m : Int), (b, ()), ())) (fun i a => a.length ≤ i) (a0 := []) (Nat.le_refl _) (fun i x a hx ha => by
      obtain ⟨rfl, hlt⟩ := range_get hx
      show r64_0 (m : Int) a (m : Int) (x : Int) (b, ()) = _
      unfold r64_0
      have e : ∀ y : StripeT, fitB 32 a [y] = true := fun y => Nat.ble_eq_true_of_le (by simp; omega)
      rw [ltI_yes (by omega), e, addW1 (by omega)]
      rfl) (fun i x a a' hx ha hf => by
      simp only [Sum.inl.injEq] at hf
      rw [← hf]; simp; omega) (fun a ha => by
      show r64_0 (m : Int) a (m : Int) ((List.range m).length : Int) (b, ()) = _
      unfold r64_0
      rw [List.length_range, ltI_no (by omega)]; rfl)
  rw [goL_map (fun (_ : Nat) => ((-1 : Int), ([] : List AcctT), ()))] at h
  exact h
theorem spread_i (b : List AcctT) (n : Int) (hb : BookB b) : g64 (b, ()) n = some ((), ((spreadM b n, ()), ())) := by
  unfold g64 spreadM
  rw [book_i b hb, in_i]
  dsimp only [Option.bind_some]
  cases bookM b with
  | false => rfl
  | true =>
  cases hn : inM n 1 5 with
  | false => rfl
  | true =>
  obtain ⟨n1, n2⟩ := inM_iff.1 hn
  obtain ⟨m, rfl⟩ := Int.eq_ofNat_of_zero_le (show 0 ≤ n by omega)
  dsimp only [cond_true, cond_false, Bool.not_true]
  have hz : l64_0 (m : Int) [] (m : Int) 0 (b, ()) = _ := zeros_i b m (by omega)
  have hf : l64_2 (m : Int) (sp m m []) b (lenI b) 0 = _ := fill_i b m (by omega) (by omega) hb
  show Option.bind (l64_0 (m : Int) [] (m : Int) 0 (b, ())) _ = _
  rw [hz]
  dsimp only [Option.bind_some, Sum.elim_inl]
  rw [hf]
  rfl
def worldM (b : List AcctT) (n : Int) : (List StripeT) × Bool := cond (eqI (lenI (spreadM b n)) 0) ([], false) (spreadM b n, true)
theorem world_s (b : List AcctT) (n : Int) (hb : BookB b) : g17 (b, ()) n = some ((), (((worldM b n).1, 0, 0, [], ()), ((worldM b n).2, ()), ())) := by
  unfold g17 worldM
  rw [spread_s b n hb]
  dsimp only [Option.bind_some]
  cases eqI (lenI (spreadM b n)) 0 <;> rfl
theorem world_i (b : List AcctT) (n : Int) (hb : BookB b) : g19 (b, ()) n = some ((), (((worldM b n).1, 0, 0, [], ()), ((worldM b n).2, ()), ())) := by
  unfold g19 worldM
  rw [spread_i b n hb]
  dsimp only [Option.bind_some]
  cases eqI (lenI (spreadM b n)) 0 <;> rfl

end Go.Av

