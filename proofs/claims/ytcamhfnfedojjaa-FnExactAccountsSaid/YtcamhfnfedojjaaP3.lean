/- Part of a proof that the law FnExactAccounts answers true for every input: texts printed for this program and laws about them. No conditions beyond the statement. -/
import Derived.Test.YtcamhfnfedojjaaP1
import Derived.Test.YtcamhfnfedojjaaFw4
set_option maxRecDepth 100000
set_option maxHeartbeats 4000000
namespace Go.Av
abbrev HoldT := List UInt8 × Int × Int × Unit
abbrev SlotT := List UInt8 × List UInt8 × List (Int × Unit) × Unit
abbrev RingT := Int × Int × List (Int × Unit) × List (Int × Unit) × Unit
def RingB (r : RingT) : Prop := r.2.2.1.length ≤ 1048576 ∧ r.2.2.2.1.length ≤ 1048576
theorem eqI_iff {a b : Int} : eqI a b = true ↔ a = b := by simp [eqI]
abbrev AcctT := List UInt8 × Int × Int × Int × Int × List HoldT × Int × Int × List (Int × Unit) × List (Int × Unit) × List SlotT × Unit
def rgOf (a : AcctT) : RingT := (a.2.2.2.2.2.2.1, a.2.2.2.2.2.2.2.1, a.2.2.2.2.2.2.2.2.1, a.2.2.2.2.2.2.2.2.2.1, ())
def AcctB (a : AcctT) : Prop := a.1.length ≤ 1048576 ∧ (a.2.2.2.2.2.1.length ≤ 1048576 ∧ ∀ y ∈ a.2.2.2.2.2.1, y.1.length ≤ 1048576) ∧ RingB (rgOf a) ∧ a.2.2.2.2.2.2.2.2.2.2.1.length ≤ 1048576 ∧ ∀ y ∈ a.2.2.2.2.2.2.2.2.2.2.1, y.1.length ≤ 1048576 ∧ y.2.1.length ≤ 1048576 ∧ y.2.2.1.length ≤ 1048576
theorem le_big {n : Nat} (h : n ≤ 1048576) : n ≤ big := Nat.le_trans h (by decide)
theorem fitB_nil {α : Type} {b : Nat} {xs : List α} (h : xs.length * b ≤ big) : fitB b ([] : List α) xs = true := Nat.ble_eq_true_of_le (by simpa using h)
theorem ringCp_s (r : RingT) (hb : RingB r) : g48 r = some ((), (r, ())) := by
  have hbig : big = 140737488355328 := rfl
  obtain ⟨h1, h2⟩ := hb
  unfold g48
  rw [fitB_nil (by omega), fitB_nil (by omega)]; rfl
theorem ringCp_i (r : RingT) (hb : RingB r) : g65 r = some ((), (r, ())) := by
  have hbig : big = 140737488355328 := rfl
  obtain ⟨h1, h2⟩ := hb
  unfold g65 g77
  rw [fitB_nil (by omega), fitB_nil (by omega)]; rfl
theorem slotsCp_s (xs : List SlotT) (hs : xs.length ≤ 1048576) (hb : ∀ y ∈ xs, y.2.2.1.length ≤ 1048576) : g49 xs = some ((), ((xs, ()), ())) := by
  have hbig : big = 140737488355328 := rfl
  unfold g49
  have h := loop_inv (step := fun (z : (List SlotT) × (List SlotT) × Int × Int × Unit) => r49_0 z.1 z.2.1 z.2.2.1 z.2.2.2.1) xs (fun i (a : List SlotT) => (a, xs, lenI xs, ((i : Nat) : Int), ())) (fun _ x a => Sum.inl (a ++ [x])) (fun a => .inl (a, xs, lenI xs, (xs.length : Int), ())) (fun i a => a.length = i) (a0 := []) rfl (fun i x a hx ha => by
      have hlt := lt_of_get hx
      have hm := hb x (List.mem_of_getElem? hx)
      show r49_0 a xs (lenI xs) (i : Int) = _
      unfold r49_0
      have e : ∀ y : SlotT, fitB 56 a [y] = true := fun y => Nat.ble_eq_true_of_le (by simp; omega)
      rw [ltI_in hx, inB_in hx, gt_in _ hx]
      dsimp only [cond_true]
      rw [fitB_nil (by omega), e, addW1 (by omega)]
      rfl) (fun i x a a' hx ha hf => by
      simp only [Sum.inl.injEq] at hf
      rw [← hf, List.length_append, ha]; rfl) (fun a ha => by
      show r49_0 a xs (lenI xs) (xs.length : Int) = _
      unfold r49_0
      rw [ltI_out rfl]; rfl)
  rw [goL_cp] at h
  have h' : l49_0 [] xs (lenI xs) 0 = _ := h
  rw [h']; rfl
theorem slotsCp_i (xs : List SlotT) (hs : xs.length ≤ 1048576) (hb : ∀ y ∈ xs, y.2.2.1.length ≤ 1048576) : g66 xs = some ((), ((xs, ()), ())) := by
  have hbig : big = 140737488355328 := rfl
  unfold g66
  have h := loop_inv (step := fun (z : (List SlotT) × (List SlotT) × Int × Int × Unit) => r66_0 z.1 z.2.1 z.2.2.1 z.2.2.2.1) xs (fun i (a : List SlotT) => (a, xs, lenI xs, ((i : Nat) : Int), ())) (fun _ x a => Sum.inl (a ++ [x])) (fun a => .inl (a, xs, lenI xs, (xs.length : Int), ())) (fun i a => a.length = i) (a0 := []) rfl (fun i x a hx ha => by
      have hlt := lt_of_get hx
      have hm := hb x (List.mem_of_getElem? hx)
      show r66_0 a xs (lenI xs) (i : Int) = _
      unfold r66_0 g78
      have e : ∀ y : SlotT, fitB 56 a [y] = true := fun y => Nat.ble_eq_true_of_le (by simp; omega)
      rw [ltI_in hx, inB_in hx, gt_in _ hx]
      dsimp only [cond_true]
      rw [fitB_nil (by omega), addW1 (by omega)]
      dsimp only [cond_true, Option.bind_some]
      rw [e]
      rfl) (fun i x a a' hx ha hf => by
      simp only [Sum.inl.injEq] at hf
      rw [← hf, List.length_append, ha]; rfl) (fun a ha => by
      show r66_0 a xs (lenI xs) (xs.length : Int) = _
      unfold r66_0
      rw [ltI_out rfl]; rfl)
  rw [goL_cp] at h
  have h' : l66_0 [] xs (lenI xs) 0 = _ := h
  rw [h']; rfl
theorem acctCp_s (a : AcctT) (hb : AcctB a) : g28 a = some ((), (a, ())) := by
  have hbig : big = 140737488355328 := rfl
  have h1 := hb.2.1.1
  have h2 : g48 (a.2.2.2.2.2.2.1, a.2.2.2.2.2.2.2.1, a.2.2.2.2.2.2.2.2.1, a.2.2.2.2.2.2.2.2.2.1, ()) = _ := ringCp_s (rgOf a) hb.2.2.1
  have h3 := slotsCp_s _ hb.2.2.2.1 (fun y hy => (hb.2.2.2.2 y hy).2.2)
  unfold g28
  rw [fitB_nil (by omega), h2, h3]; rfl
theorem acctCp_i (a : AcctT) (hb : AcctB a) : g54 a = some ((), (a, ())) := by
  have hbig : big = 140737488355328 := rfl
  have h1 := hb.2.1.1
  have h2 : g65 (a.2.2.2.2.2.2.1, a.2.2.2.2.2.2.2.1, a.2.2.2.2.2.2.2.2.1, a.2.2.2.2.2.2.2.2.2.1, ()) = _ := ringCp_i (rgOf a) hb.2.2.1
  have h3 := slotsCp_i _ hb.2.2.2.1 (fun y hy => (hb.2.2.2.2 y hy).2.2)
  unfold g54 g64
  rw [fitB_nil (by omega), h2, h3]; rfl
theorem goL_filter {α Y : Type} (p : α → Bool) (z : List α → Y) : ∀ (xs : List α) (i : Nat) (d : List α), goL (fun _ x (a : List α) => Sum.inl (bif p x then a ++ [x] else a)) z i xs d = z (d ++ xs.filter p)
  | [], _, d => by simp [goL]
  | x :: r, i, d => by
    rw [goL]
    simp only
    rw [goL_filter p z r (i + 1)]
    cases hp : p x with
    | true => simp [hp]
    | false => simp [hp]
theorem bytesLess_tri : ∀ (s t : List UInt8), (Op.bytesLess s t || eqS s t) = !(Op.bytesLess t s)
  | [], [] => rfl
  | [], _ :: _ => rfl
  | _ :: _, [] => rfl
  | a :: s, b :: t => by
    have ih := bytesLess_tri s t
    have e : eqS (a :: s) (b :: t) = (a == b && eqS s t) := rfl
    show ((decide (a < b) || (a == b && Op.bytesLess s t)) || eqS (a :: s) (b :: t)) = !(decide (b < a) || (b == a && Op.bytesLess t s))
    rw [e]
    rcases Nat.lt_trichotomy a.toNat b.toNat with h | h | h
    · have h1 : a < b := UInt8.lt_iff_toNat_lt.2 h
      have h2 : ¬ b < a := fun hh => by have := UInt8.lt_iff_toNat_lt.1 hh; omega
      have h3 : (b == a) = false := by rw [beq_eq_false_iff_ne]; intro hh; subst hh; omega
      simp [h1, h2, h3]
    · have h1 : a = b := UInt8.toNat_inj.1 h
      subst h1
      have h2 : ¬ a < a := fun hh => by have := UInt8.lt_iff_toNat_lt.1 hh; omega
      simpa [h2] using ih
    · have h1 : ¬ a < b := fun hh => by have := UInt8.lt_iff_toNat_lt.1 hh; omega
      have h2 : b < a := UInt8.lt_iff_toNat_lt.2 h
      have h3 : (a == b) = false := by rw [beq_eq_false_iff_ne]; intro hh; subst hh; omega
      simp [h1, h2, h3]
theorem leS_not (s t : List UInt8) : leS s t = !(ltS t s) := bytesLess_tri s t
abbrev ltA (a b : AcctT) : Bool := ltS a.1 b.1
theorem swoA : Swo ltA := swo_key (fun (a : AcctT) => a.1)
abbrev big40 : Nat := 1099511627776
theorem cmpA (a b : AcctT) : ∃ v, g33 a b = some ((), ((v, ()), ())) ∧ ltI v 0 = ltA a b := by
  unfold g33
  cases h : ltS a.1 b.1 with
  | true => exact ⟨_, rfl, by show _ = ltS a.1 b.1; rw [h]; rfl⟩
  | false =>
    cases !(leS a.1 b.1) with
    | true => exact ⟨_, rfl, by show _ = ltS a.1 b.1; rw [h]; rfl⟩
    | false => exact ⟨_, rfl, by show _ = ltS a.1 b.1; rw [h]; rfl⟩
theorem ins_in (P S : List AcctT) (x : AcctT) (b i : Int) : ∀ (n : Nat) (A1 A2 : List AcctT), A1.length = n → (P ++ (A1 ++ x :: A2) ++ S).length ≤ big40 →
    ∃ B1 B2 j', A1 = B1 ++ B2 ∧ (∀ y ∈ B2, ltA x y = true) ∧ (∀ C y, B1 = C ++ [y] → ltA x y = false) ∧
      l67_2 (P ++ (A1 ++ x :: A2) ++ S) (P.length : Int) b () i ((P.length + A1.length : Nat) : Int) = some (.inl (P ++ (B1 ++ x :: (B2 ++ A2)) ++ S, (P.length : Int), b, (), i, j', ())) := by
  intro n
  induction n with
  | zero =>
    intro A1 A2 hn hl
    have : A1 = [] := List.length_eq_zero_iff.1 hn
    subst this
    refine ⟨[], [], ((P.length + 0 : Nat) : Int), rfl, fun y hy => by simp at hy, fun C y h => by simp at h, loopF_end _ ?_⟩
    show r67_2 (P ++ ([] ++ x :: A2) ++ S) (P.length : Int) b () i ((P.length + 0 : Nat) : Int) = _
    unfold r67_2
    rw [ltI_no (by omega)]
    rfl
  | succ n ih =>
    intro A1 A2 hn hl
    obtain ⟨B, y, rfl⟩ := snoc_of (a := A1) (fun h => by subst h; simp at hn)
    have hB : B.length = n := by simpa using hn
    simp only [big40, List.length_append, List.length_cons, List.length_nil] at hl
    have e0 : P ++ (B ++ [y] ++ x :: A2) ++ S = (P ++ B) ++ y :: x :: (A2 ++ S) := by simp
    have e1 : P ++ (B ++ [y] ++ x :: A2) ++ S = (P ++ B ++ [y]) ++ x :: (A2 ++ S) := by simp
    have hj : ((P.length + (B ++ [y]).length : Nat) : Int) = ((P ++ B ++ [y]).length : Int) := by simp <;> omega
    have hj1 : subW .i64 ((P.length + (B ++ [y]).length : Nat) : Int) 1 = ((P ++ B).length : Int) := by
      rw [subW_in (by simp <;> omega) (by simp <;> omega)]; simp <;> omega
    obtain ⟨v, hv1, hv2⟩ := cmpA x y
    have hstep : r67_2 (P ++ (B ++ [y] ++ x :: A2) ++ S) (P.length : Int) b () i ((P.length + (B ++ [y]).length : Nat) : Int) =
        cond (ltA x y) (some (.inl (P ++ (B ++ x :: (y :: A2)) ++ S, (P.length : Int), b, (), i, ((P.length + B.length : Nat) : Int), ()))) (some (.inr (.inl (P ++ (B ++ [y] ++ x :: A2) ++ S, (P.length : Int), b, (), i, ((P.length + (B ++ [y]).length : Nat) : Int), ())))) := by
      unfold r67_2
      have i1 : inB ((P.length + (B ++ [y]).length : Nat) : Int) (P ++ (B ++ [y] ++ x :: A2) ++ S) = true := by rw [e1]; exact inB_app _ _ _ hj
      have i2 : inB ((P ++ B).length : Int) (P ++ (B ++ [y] ++ x :: A2) ++ S) = true := by rw [e0]; exact inB_app _ _ _ rfl
      have a1 : atB ((P.length + (B ++ [y]).length : Nat) : Int) (P ++ (B ++ [y] ++ x :: A2) ++ S) ((P.length + (B ++ [y]).length : Nat) : Int) = true := by rw [e1]; exact atB_app _ _ _ hj
      have a2 : atB ((P ++ B).length : Int) (P ++ (B ++ [y] ++ x :: A2) ++ S) ((P ++ B).length : Int) = true := by rw [e0]; exact atB_app _ _ _ rfl
      have t1 : gt d68 (P ++ (B ++ [y] ++ x :: A2) ++ S) ((P.length + (B ++ [y]).length : Nat) : Int) = x := by rw [e1]; exact gt_app _ _ _ _ hj
      have t2 : gt d68 (P ++ (B ++ [y] ++ x :: A2) ++ S) ((P ++ B).length : Int) = y := by rw [e0]; exact gt_app _ _ _ _ rfl
      rw [ltI_yes (by simp <;> omega)]
      dsimp only [cond_true]
      rw [hj1, i1, i2, t1, t2, a1, a2, hv1]
      dsimp only [cond_true, Option.bind_some]
      rw [hv2]
      cases ltA x y with
      | false => rfl
      | true =>
        have sw : swI d68 (P ++ (B ++ [y] ++ x :: A2) ++ S) ((P.length + (B ++ [y]).length : Nat) : Int) ((P ++ B).length : Int) = P ++ (B ++ x :: (y :: A2)) ++ S := by
          rw [e0]
          unfold swI
          have := swpL_next d68 (P ++ B) y x (A2 ++ S)
          have k1 : ((P.length + (B ++ [y]).length : Nat) : Int).toNat = (P ++ B).length + 1 := by simp <;> omega
          rw [k1, Int.toNat_natCast, this]
          simp
        rw [sw]
        have k2 : ((P ++ B).length : Int) = ((P.length + B.length : Nat) : Int) := by simp
        rw [k2]
    cases hc : ltA x y with
    | false =>
      rw [hc] at hstep
      refine ⟨B ++ [y], [], ((P.length + (B ++ [y]).length : Nat) : Int), by simp, fun y hy => by simp at hy, fun C z h => ?_, loopF_end _ hstep⟩
      have := List.append_inj' h rfl
      have h2 := this.2
      simp only [List.cons.injEq, and_true] at h2
      rw [← h2]; exact hc
    | true =>
      rw [hc] at hstep
      obtain ⟨B1, B2, j', q1, q2, q3, q4⟩ := ih B (y :: A2) hB (by simp [big40]; omega)
      refine ⟨B1, B2 ++ [y], j', by rw [q1]; simp, fun z hz => ?_, q3, loopF_step _ hstep ?_⟩
      · rcases List.mem_append.1 hz with hz | hz
        · exact q2 z hz
        · simp only [List.mem_singleton] at hz; subst hz; exact hc
      · have : B2 ++ [y] ++ A2 = B2 ++ y :: A2 := by simp
        rw [this]
        exact q4
theorem ins_out (P S : List AcctT) (b : Int) : ∀ (n : Nat) (A R : List AcctT), R.length = n → Srt ltA A → b = ((P.length + A.length + R.length : Nat) : Int) → (P ++ (A ++ R) ++ S).length ≤ big40 →
    ∃ M, Srt ltA M ∧ Stb ltA (A ++ R) M ∧ l67_0 (P ++ (A ++ R) ++ S) (P.length : Int) b () ((P.length + A.length : Nat) : Int) = some (.inl (P ++ M ++ S, (P.length : Int), b, (), b, ())) := by
  intro n
  induction n with
  | zero =>
    intro A R hn hA hb hl
    have : R = [] := List.length_eq_zero_iff.1 hn
    subst this
    have hb' : b = ((P.length + A.length : Nat) : Int) := by simpa using hb
    refine ⟨A, hA, by rw [List.append_nil]; exact Stb.refl _, loopF_end _ ?_⟩
    show r67_0 (P ++ (A ++ []) ++ S) (P.length : Int) b () ((P.length + A.length : Nat) : Int) = _
    unfold r67_0
    rw [ltI_no (by omega), List.append_nil, ← hb']
    rfl
  | succ n ih =>
    intro A R hn hA hb hl
    cases R with
    | nil => simp at hn
    | cons x R =>
      have hR : R.length = n := by simpa using hn
      have hl' := hl
      simp only [big40, List.length_append, List.length_cons] at hl'
      have e0 : P ++ (A ++ x :: R) ++ S = P ++ (A ++ x :: []) ++ (R ++ S) := by simp
      obtain ⟨B1, B2, j', q1, q2, q3, q4⟩ := ins_in P (R ++ S) x b ((P.length + A.length : Nat) : Int) A.length A [] rfl (by rw [← e0]; exact hl)
      rw [List.append_nil, ← e0] at q4
      subst q1
      have hs := Srt_append.1 hA
      have hlast : ∀ y ∈ B1, ltA x y = false := fun y hy => by
        obtain ⟨C, z, rfl⟩ := snoc_of (a := B1) (fun h => by subst h; simp at hy)
        have hz := q3 C z rfl
        rcases List.mem_append.1 hy with hy | hy
        · exact swoA.le_trans ((Srt_append.1 hs.1).2.2 y hy z (by simp)) hz
        · simp only [List.mem_singleton] at hy; subst hy; exact hz
      have hsrt : Srt ltA (B1 ++ x :: B2) := by
        refine Srt_append.2 ⟨hs.1, List.pairwise_cons.2 ⟨fun y hy => ?_, hs.2.1⟩, fun y hy z hz => ?_⟩
        · cases h : ltA y x with
          | false => rfl
          | true =>
            have := swoA.trans _ _ _ h (q2 y hy)
            rw [swoA.irr] at this
            simp at this
        · rcases List.mem_cons.1 hz with rfl | hz
          · exact hlast y hy
          · exact hs.2.2 y hy z hz
      have hstb : Stb ltA (B1 ++ B2 ++ x :: R) (B1 ++ x :: B2 ++ R) := by
        have h1 : Stb ltA (B2 ++ [x]) ([x] ++ B2) := Stb.swap swoA fun y hy z hz => by
          simp only [List.mem_singleton] at hz; subst hz; exact q2 y hy
        have h2 := ((Stb.refl B1).append h1).append (Stb.refl R)
        simpa using h2
      obtain ⟨M, m1, m2, m3⟩ := ih (B1 ++ x :: B2) R hR hsrt (by rw [hb]; simp only [List.length_append, List.length_cons]; omega) (by simp only [big40, List.length_append, List.length_cons] at hl' ⊢; omega)
      refine ⟨M, m1, hstb.trans m2, loopF_step _ (x' := (P ++ (B1 ++ x :: B2 ++ R) ++ S, (P.length : Int), b, (), ((P.length + (B1 ++ x :: B2).length : Nat) : Int), ())) ?_ m3⟩
      show r67_0 (P ++ (B1 ++ B2 ++ x :: R) ++ S) (P.length : Int) b () ((P.length + (B1 ++ B2).length : Nat) : Int) = _
      unfold r67_0
      rw [ltI_yes (by rw [hb]; simp only [List.length_append, List.length_cons]; omega), q4]
      dsimp only [cond_true, Option.bind_some, Sum.elim_inl]
      have k1 : addW .i64 ((P.length + (B1 ++ B2).length : Nat) : Int) 1 = ((P.length + (B1 ++ x :: B2).length : Nat) : Int) := by
        rw [addW_in (by omega) (by simp only [List.length_append] at *; omega)]
        simp only [List.length_append, List.length_cons]; omega
      rw [k1]
      simp
theorem ins_g (P L S : List AcctT) (hl : (P ++ L ++ S).length ≤ big40) : ∃ M, Srt ltA M ∧ Stb ltA L M ∧ g67 (P ++ L ++ S) (P.length : Int) ((P.length + L.length : Nat) : Int) = some (((P ++ M ++ S, ()), ()), ()) := by
  have hl' := hl
  simp only [big40, List.length_append] at hl'
  unfold g67
  have k0 : addW .i64 (P.length : Int) 1 = ((P.length + 1 : Nat) : Int) := by rw [addW_in (by omega) (by omega)]; omega
  rw [k0]
  cases L with
  | nil =>
    refine ⟨[], Srt_nil, Stb.refl _, ?_⟩
    have : l67_0 (P ++ [] ++ S) (P.length : Int) ((P.length + 0 : Nat) : Int) () ((P.length + 1 : Nat) : Int) = some (.inl (P ++ [] ++ S, (P.length : Int), ((P.length + 0 : Nat) : Int), (), ((P.length + 1 : Nat) : Int), ())) := loopF_end _ (by
      show r67_0 (P ++ [] ++ S) (P.length : Int) ((P.length + 0 : Nat) : Int) () ((P.length + 1 : Nat) : Int) = _
      unfold r67_0
      rw [ltI_no (by omega)]; rfl)
    show Option.bind (l67_0 (P ++ [] ++ S) (P.length : Int) ((P.length + 0 : Nat) : Int) () ((P.length + 1 : Nat) : Int)) _ = _
    rw [this]
    rfl
  | cons x L =>
    obtain ⟨M, m1, m2, m3⟩ := ins_out P S ((P.length + (x :: L).length : Nat) : Int) L.length [x] L rfl (Srt_one x) (by simp only [List.length_cons, List.length_nil]; omega) (by simpa using hl)
    refine ⟨M, m1, m2, ?_⟩
    have m3' : l67_0 (P ++ x :: L ++ S) (P.length : Int) ((P.length + (x :: L).length : Nat) : Int) () ((P.length + 1 : Nat) : Int) = _ := m3
    rw [m3']
    rfl
theorem swpL_far {α : Type} (d : α) (u : List α) (p : α) (v : List α) (q : α) (w : List α) : swpL d (u ++ p :: (v ++ q :: w)) u.length (u.length + (1 + v.length)) = u ++ q :: (v ++ p :: w) := by
  unfold swpL
  have h1 : (u ++ p :: (v ++ q :: w)).getD u.length d = p := by simp [List.getD]
  have h2 : (u ++ p :: (v ++ q :: w)).getD (u.length + (1 + v.length)) d = q := by
    rw [List.getD, List.getElem?_append_right (by omega), show u.length + (1 + v.length) - u.length = v.length + 1 by omega, List.getElem?_cons_succ, List.getElem?_append_right (by omega), Nat.sub_self]
    rfl
  rw [h1, h2, List.set_append, if_neg (by omega), Nat.sub_self, List.set_append, if_neg (by omega), show u.length + (1 + v.length) - u.length = v.length + 1 by omega]
  show u ++ (q :: (v ++ q :: w)).set (v.length + 1) p = _
  rw [List.set_cons_succ, List.set_append, if_neg (by omega), Nat.sub_self]
  rfl
theorem swr_loop (P Y S : List AcctT) : ∀ (n : Nat) (Z1 X2 X1 Z2 : List AcctT), X2.length = n → Z2.length = n → X1.length = Z1.length → (P ++ (Z1 ++ X2) ++ Y ++ (X1 ++ Z2) ++ S).length ≤ big40 →
    l84_0 (P ++ (Z1 ++ X2) ++ Y ++ (X1 ++ Z2) ++ S) (P.length : Int) ((P.length + (Z1.length + n) + Y.length : Nat) : Int) ((Z1.length + n : Nat) : Int) (Z1.length : Int) =
      some (.inl (P ++ (Z1 ++ Z2) ++ Y ++ (X1 ++ X2) ++ S, (P.length : Int), ((P.length + (Z1.length + n) + Y.length : Nat) : Int), ((Z1.length + n : Nat) : Int), ((Z1.length + n : Nat) : Int), ())) := by
  intro n
  induction n with
  | zero =>
    intro Z1 X2 X1 Z2 h1 h2 h3 hl
    have e1 : X2 = [] := List.length_eq_zero_iff.1 h1
    have e2 : Z2 = [] := List.length_eq_zero_iff.1 h2
    subst e1; subst e2
    refine loopF_end _ ?_
    show r84_0 (P ++ (Z1 ++ []) ++ Y ++ (X1 ++ []) ++ S) (P.length : Int) ((P.length + (Z1.length + 0) + Y.length : Nat) : Int) ((Z1.length + 0 : Nat) : Int) (Z1.length : Int) = _
    unfold r84_0
    rw [ltI_no (by omega)]
    rfl
  | succ n ih =>
    intro Z1 X2 X1 Z2 h1 h2 h3 hl
    cases X2 with
    | nil => simp at h1
    | cons x X2 =>
    cases Z2 with
    | nil => simp at h2
    | cons z Z2 =>
    have hx : X2.length = n := by simpa using h1
    have hz : Z2.length = n := by simpa using h2
    have hl' := hl
    simp only [big40, List.length_append, List.length_cons] at hl'
    have ih' := ih (Z1 ++ [z]) X2 (X1 ++ [x]) Z2 hx hz (by simp [h3]) (by simp only [big40, List.length_append, List.length_cons, List.length_nil]; omega)
    have e1 : ((P.length + ((Z1 ++ [z]).length + n) + Y.length : Nat) : Int) = ((P.length + (Z1.length + (n + 1)) + Y.length : Nat) : Int) := by simp only [List.length_append, List.length_cons, List.length_nil]; omega
    have e2 : (((Z1 ++ [z]).length + n : Nat) : Int) = ((Z1.length + (n + 1) : Nat) : Int) := by simp only [List.length_append, List.length_cons, List.length_nil]; omega
    have e3 : (((Z1 ++ [z]).length : Nat) : Int) = addW .i64 (Z1.length : Int) 1 := by rw [addW_in (by omega) (by omega)]; simp
    rw [e1, e2, e3] at ih'
    have ef : P ++ (Z1 ++ [z] ++ Z2) ++ Y ++ (X1 ++ [x] ++ X2) ++ S = P ++ (Z1 ++ z :: Z2) ++ Y ++ (X1 ++ x :: X2) ++ S := by simp
    rw [ef] at ih'
    refine loopF_step _ ?_ ih'
    show r84_0 (P ++ (Z1 ++ x :: X2) ++ Y ++ (X1 ++ z :: Z2) ++ S) (P.length : Int) ((P.length + (Z1.length + (n + 1)) + Y.length : Nat) : Int) ((Z1.length + (n + 1) : Nat) : Int) (Z1.length : Int) = _
    have d1 : P ++ (Z1 ++ x :: X2) ++ Y ++ (X1 ++ z :: Z2) ++ S = (P ++ Z1) ++ x :: ((X2 ++ Y ++ X1) ++ z :: (Z2 ++ S)) := by simp
    have d2 : P ++ (Z1 ++ x :: X2) ++ Y ++ (X1 ++ z :: Z2) ++ S = (P ++ Z1 ++ x :: (X2 ++ Y ++ X1)) ++ z :: (Z2 ++ S) := by simp
    have k1 : addW .i64 ((P.length + (Z1.length + (n + 1)) + Y.length : Nat) : Int) (Z1.length : Int) = ((P ++ Z1 ++ x :: (X2 ++ Y ++ X1)).length : Int) := by
      rw [addW_in (by omega) (by omega)]
      simp only [List.length_append, List.length_cons]; omega
    have k2 : addW .i64 (P.length : Int) (Z1.length : Int) = ((P ++ Z1).length : Int) := by
      rw [addW_in (by omega) (by omega)]
      simp only [List.length_append]; omega
    unfold r84_0
    rw [ltI_yes (by omega), k1, k2]
    dsimp only [cond_true]
    have i1 : inB ((P ++ Z1 ++ x :: (X2 ++ Y ++ X1)).length : Int) (P ++ (Z1 ++ x :: X2) ++ Y ++ (X1 ++ z :: Z2) ++ S) = true := by rw [d2]; exact inB_app _ _ _ rfl
    have i2 : inB ((P ++ Z1).length : Int) (P ++ (Z1 ++ x :: X2) ++ Y ++ (X1 ++ z :: Z2) ++ S) = true := by rw [d1]; exact inB_app _ _ _ rfl
    have a1 : atB ((P ++ Z1 ++ x :: (X2 ++ Y ++ X1)).length : Int) (P ++ (Z1 ++ x :: X2) ++ Y ++ (X1 ++ z :: Z2) ++ S) ((P ++ Z1 ++ x :: (X2 ++ Y ++ X1)).length : Int) = true := by rw [d2]; exact atB_app _ _ _ rfl
    have a2 : atB ((P ++ Z1).length : Int) (P ++ (Z1 ++ x :: X2) ++ Y ++ (X1 ++ z :: Z2) ++ S) ((P ++ Z1).length : Int) = true := by rw [d1]; exact atB_app _ _ _ rfl
    rw [i1, i2, a1, a2]
    dsimp only [cond_true]
    have sw : swI d68 (P ++ (Z1 ++ x :: X2) ++ Y ++ (X1 ++ z :: Z2) ++ S) ((P ++ Z1).length : Int) ((P ++ Z1 ++ x :: (X2 ++ Y ++ X1)).length : Int) = P ++ (Z1 ++ [z] ++ X2) ++ Y ++ (X1 ++ [x] ++ Z2) ++ S := by
      unfold swI
      rw [Int.toNat_natCast, Int.toNat_natCast, d1]
      have k3 : (P ++ Z1 ++ x :: (X2 ++ Y ++ X1)).length = (P ++ Z1).length + (1 + (X2 ++ Y ++ X1).length) := by simp only [List.length_append, List.length_cons]; omega
      rw [k3, swpL_far]
      simp
    rw [sw]
theorem swr_g (P X Y Z S : List AcctT) (hx : X.length = Z.length) (hl : (P ++ X ++ Y ++ Z ++ S).length ≤ big40) : g84 (P ++ X ++ Y ++ Z ++ S) (P.length : Int) ((P.length + X.length + Y.length : Nat) : Int) (X.length : Int) = some (((P ++ Z ++ Y ++ X ++ S, ()), ()), ()) := by
  unfold g84
  have h := swr_loop P Y S X.length [] X [] Z rfl hx.symm rfl hl
  simp only [List.nil_append, List.length_nil, Nat.zero_add] at h
  have h' : l84_0 (P ++ X ++ Y ++ Z ++ S) (P.length : Int) ((P.length + X.length + Y.length : Nat) : Int) (X.length : Int) 0 = _ := h
  rw [h']
  rfl
theorem rot_loop : ∀ (n : Nat) (P X Y S : List AcctT) (m : Nat), X.length + Y.length = n → 0 < X.length → 0 < Y.length → m = P.length + X.length → (P ++ X ++ Y ++ S).length ≤ big40 →
    ∃ (t : List AcctT) (i : Nat), i ≤ m ∧ i ≤ n ∧ l79_0 (P ++ X ++ Y ++ S) (m : Int) () (X.length : Int) (Y.length : Int) = some (.inl (t, (m : Int), (), (i : Int), (i : Int), ())) ∧
      g84 t ((m - i : Nat) : Int) (m : Int) (i : Int) = some (((P ++ Y ++ X ++ S, ()), ()), ()) := by
  intro n
  induction n using Nat.strongRecOn with
  | _ n ih =>
  intro P X Y S m hn hX hY hm hl
  subst hm
  have hl' := hl
  simp only [big40, List.length_append] at hl'
  rcases Nat.lt_trichotomy X.length Y.length with h | h | h
  · -- the second is longer: its end comes ahead
    obtain ⟨Y1, Y2, rfl, hY2⟩ : ∃ Y1 Y2, Y = Y1 ++ Y2 ∧ Y2.length = X.length := ⟨Y.take (Y.length - X.length), Y.drop (Y.length - X.length), (List.take_append_drop _ _).symm, by rw [List.length_drop]; omega⟩
    simp only [List.length_append] at h hn hl' hY
    obtain ⟨t, i, i1, i2, q1, q2⟩ := ih (Y2.length + Y1.length) (by omega) P Y2 Y1 (X ++ S) (P.length + X.length) rfl (by omega) (by omega) (by omega) (by simp only [big40, List.length_append]; omega)
    refine ⟨t, i, i1, by omega, loopF_step _ ?_ q1, by rw [q2]; simp⟩
    show r79_0 (P ++ X ++ (Y1 ++ Y2) ++ S) ((P.length + X.length : Nat) : Int) () (X.length : Int) ((Y1 ++ Y2).length : Int) = _
    have hs := swr_g P X Y1 Y2 S (by omega) (by simp only [big40, List.length_append]; omega)
    have e0 : P ++ X ++ (Y1 ++ Y2) ++ S = P ++ X ++ Y1 ++ Y2 ++ S := by simp
    have k0 : eqI (X.length : Int) ((Y1 ++ Y2).length : Int) = false := by
      rw [Bool.eq_false_iff]; intro hh; rw [eqI_iff] at hh; simp only [List.length_append] at hh; omega
    have k1 : subW .i64 ((P.length + X.length : Nat) : Int) (X.length : Int) = (P.length : Int) := by rw [subW_in (by omega) (by omega)]; omega
    have k2 : addW .i64 ((P.length + X.length : Nat) : Int) ((Y1 ++ Y2).length : Int) = ((P.length + X.length + (Y1 ++ Y2).length : Nat) : Int) := by rw [addW_in (by omega) (by simp only [List.length_append]; omega)]; omega
    have k3 : subW .i64 ((P.length + X.length + (Y1 ++ Y2).length : Nat) : Int) (X.length : Int) = ((P.length + X.length + Y1.length : Nat) : Int) := by rw [subW_in (by omega) (by simp only [List.length_append]; omega)]; simp only [List.length_append]; omega
    have k4 : subW .i64 ((Y1 ++ Y2).length : Int) (X.length : Int) = (Y1.length : Int) := by rw [subW_in (by omega) (by simp only [List.length_append]; omega)]; simp only [List.length_append]; omega
    unfold r79_0
    rw [k0, ltI_no (by simp only [List.length_append]; omega)]
    dsimp only [cond_true, cond_false, Bool.not_false]
    rw [k1, k2, k3, k4, e0, hs]
    dsimp only [Option.bind_some]
    rw [hY2]
    simp
  · -- alike
    refine ⟨P ++ X ++ Y ++ S, X.length, by omega, by omega, loopF_end _ ?_, ?_⟩
    · show r79_0 (P ++ X ++ Y ++ S) ((P.length + X.length : Nat) : Int) () (X.length : Int) (Y.length : Int) = _
      unfold r79_0
      rw [← h, eqI_refl]
      rfl
    · have hs := swr_g P X [] Y S h (by simp only [big40, List.length_append, List.length_nil]; omega)
      rw [List.append_nil, List.append_nil, List.length_nil, Nat.add_zero] at hs
      rw [show P.length + X.length - X.length = P.length by omega]
      exact hs
  · -- the first is longer: its begin goes behind
    obtain ⟨X1, X2, rfl, hX1⟩ : ∃ X1 X2, X = X1 ++ X2 ∧ X1.length = Y.length := ⟨X.take Y.length, X.drop Y.length, (List.take_append_drop _ _).symm, by rw [List.length_take]; omega⟩
    simp only [List.length_append] at h hn hl' hX
    obtain ⟨t, i, i1, i2, q1, q2⟩ := ih (X2.length + X1.length) (by omega) (P ++ Y) X2 X1 S (P.length + (X1 ++ X2).length) rfl (by omega) (by omega) (by simp only [List.length_append]; omega) (by simp only [big40, List.length_append]; omega)
    refine ⟨t, i, i1, by omega, loopF_step _ ?_ q1, by rw [q2]; simp⟩
    show r79_0 (P ++ (X1 ++ X2) ++ Y ++ S) ((P.length + (X1 ++ X2).length : Nat) : Int) () ((X1 ++ X2).length : Int) (Y.length : Int) = _
    have hs := swr_g P X1 X2 Y S hX1 (by simp only [big40, List.length_append]; omega)
    have e0 : P ++ (X1 ++ X2) ++ Y ++ S = P ++ X1 ++ X2 ++ Y ++ S := by simp
    have k0 : eqI ((X1 ++ X2).length : Int) (Y.length : Int) = false := by
      rw [Bool.eq_false_iff]; intro hh; rw [eqI_iff] at hh; simp only [List.length_append] at hh; omega
    have k1 : subW .i64 ((P.length + (X1 ++ X2).length : Nat) : Int) ((X1 ++ X2).length : Int) = (P.length : Int) := by rw [subW_in (by omega) (by simp only [List.length_append]; omega)]; omega
    have k3 : ((P.length + (X1 ++ X2).length : Nat) : Int) = ((P.length + X1.length + X2.length : Nat) : Int) := by simp only [List.length_append]; omega
    have k4 : subW .i64 ((X1 ++ X2).length : Int) (Y.length : Int) = (X2.length : Int) := by rw [subW_in (by omega) (by simp only [List.length_append]; omega)]; simp only [List.length_append]; omega
    unfold r79_0
    rw [k0, ltI_yes (by simp only [List.length_append]; omega)]
    dsimp only [cond_true, cond_false, Bool.not_false]
    rw [k1, k4, e0, ← hX1]
    have hs' : g84 (P ++ X1 ++ X2 ++ Y ++ S) (P.length : Int) ((P.length + (X1 ++ X2).length : Nat) : Int) (X1.length : Int) = some (((P ++ Y ++ X2 ++ X1 ++ S, ()), ()), ()) := by rw [k3]; exact hs
    rw [hs']
    dsimp only [Option.bind_some]
    simp
theorem rot_g (P X Y S : List AcctT) (hX : 0 < X.length) (hY : 0 < Y.length) (hl : (P ++ X ++ Y ++ S).length ≤ big40) :
    g79 (P ++ X ++ Y ++ S) (P.length : Int) ((P.length + X.length : Nat) : Int) ((P.length + X.length + Y.length : Nat) : Int) = some (((P ++ Y ++ X ++ S, ()), ()), ()) := by
  have hl' := hl
  simp only [big40, List.length_append] at hl'
  obtain ⟨t, i, i1, i2, q1, q2⟩ := rot_loop (X.length + Y.length) P X Y S (P.length + X.length) rfl hX hY rfl hl
  unfold g79
  have k1 : subW .i64 ((P.length + X.length : Nat) : Int) (P.length : Int) = (X.length : Int) := by rw [subW_in (by omega) (by omega)]; omega
  have k2 : subW .i64 ((P.length + X.length + Y.length : Nat) : Int) ((P.length + X.length : Nat) : Int) = (Y.length : Int) := by rw [subW_in (by omega) (by omega)]; omega
  rw [k1, k2, q1]
  dsimp only [Option.bind_some, Sum.elim_inl]
  have k3 : subW .i64 ((P.length + X.length : Nat) : Int) (i : Int) = ((P.length + X.length - i : Nat) : Int) := by rw [subW_in (by omega) (by omega)]; omega
  rw [k3, q2]
  rfl
theorem mvR_loop (P S : List AcctT) (x : AcctT) (i : Nat) : ∀ (n : Nat) (D U : List AcctT), U.length = n → i = P.length + D.length + U.length + 1 → (P ++ (D ++ x :: U) ++ S).length ≤ big40 →
    ∃ k', l68_2 (P ++ (D ++ x :: U) ++ S) (i : Int) ((P.length + D.length : Nat) : Int) = some (.inl (P ++ (D ++ U ++ [x]) ++ S, (i : Int), k', ())) := by
  intro n
  induction n with
  | zero =>
    intro D U hn hi hl
    have : U = [] := List.length_eq_zero_iff.1 hn
    subst this
    simp only [List.length_nil] at hi
    simp only [big40, List.length_append, List.length_cons] at hl
    refine ⟨((P.length + D.length : Nat) : Int), loopF_end _ ?_⟩
    show r68_2 (P ++ (D ++ [x]) ++ S) (i : Int) ((P.length + D.length : Nat) : Int) = _
    unfold r68_2
    have k1 : subW .i64 (i : Int) 1 = ((P.length + D.length : Nat) : Int) := by rw [subW_in (by omega) (by omega)]; omega
    rw [k1, ltI_no (by omega), List.append_nil]
    rfl
  | succ n ih =>
    intro D U hn hi hl
    cases U with
    | nil => simp at hn
    | cons u U =>
      have hU : U.length = n := by simpa using hn
      simp only [List.length_cons] at hi
      have hl' := hl
      simp only [big40, List.length_append, List.length_cons] at hl'
      obtain ⟨k', hk⟩ := ih (D ++ [u]) U hU (by simp only [List.length_append, List.length_cons, List.length_nil]; omega) (by simp only [big40, List.length_append, List.length_cons, List.length_nil]; omega)
      refine ⟨k', ?_⟩
      have ef : P ++ (D ++ [u] ++ U ++ [x]) ++ S = P ++ (D ++ u :: U ++ [x]) ++ S := by simp
      rw [ef] at hk
      refine loopF_step _ ?_ hk
      show r68_2 (P ++ (D ++ x :: u :: U) ++ S) (i : Int) ((P.length + D.length : Nat) : Int) = _
      have d1 : P ++ (D ++ x :: u :: U) ++ S = (P ++ D) ++ x :: u :: (U ++ S) := by simp
      have d2 : P ++ (D ++ x :: u :: U) ++ S = (P ++ D ++ [x]) ++ u :: (U ++ S) := by simp
      have k1 : subW .i64 (i : Int) 1 = ((P.length + D.length + U.length + 1 : Nat) : Int) := by rw [subW_in (by omega) (by omega)]; omega
      have k2 : ((P.length + D.length : Nat) : Int) = ((P ++ D).length : Int) := by simp
      have k3 : addW .i64 ((P ++ D).length : Int) 1 = ((P ++ D ++ [x]).length : Int) := by rw [addW_in (by omega) (by simp only [List.length_append]; omega)]; simp only [List.length_append, List.length_cons, List.length_nil]; omega
      unfold r68_2
      rw [k1, ltI_yes (by omega), k2, k3]
      dsimp only [cond_true]
      have i1 : inB ((P ++ D ++ [x]).length : Int) (P ++ (D ++ x :: u :: U) ++ S) = true := by rw [d2]; exact inB_app _ _ _ rfl
      have i2 : inB ((P ++ D).length : Int) (P ++ (D ++ x :: u :: U) ++ S) = true := by rw [d1]; exact inB_app _ _ _ rfl
      have a1 : atB ((P ++ D ++ [x]).length : Int) (P ++ (D ++ x :: u :: U) ++ S) ((P ++ D ++ [x]).length : Int) = true := by rw [d2]; exact atB_app _ _ _ rfl
      have a2 : atB ((P ++ D).length : Int) (P ++ (D ++ x :: u :: U) ++ S) ((P ++ D).length : Int) = true := by rw [d1]; exact atB_app _ _ _ rfl
      rw [i1, i2, a1, a2]
      dsimp only [cond_true]
      have sw : swI d68 (P ++ (D ++ x :: u :: U) ++ S) ((P ++ D).length : Int) ((P ++ D ++ [x]).length : Int) = P ++ (D ++ [u] ++ x :: U) ++ S := by
        unfold swI
        have e1 : (P ++ D ++ [x]).length = (P ++ D).length + 1 := by simp only [List.length_append, List.length_cons, List.length_nil]
        rw [Int.toNat_natCast, Int.toNat_natCast, e1, d1, swpL_next']
        simp
      rw [sw]
      have k4 : ((P ++ D ++ [x]).length : Int) = ((P.length + (D ++ [u]).length : Nat) : Int) := by simp only [List.length_append, List.length_cons, List.length_nil]; omega
      rw [k4]
theorem mvL_loop (P S : List AcctT) (y : AcctT) : ∀ (n : Nat) (D U : List AcctT), D.length = n → (P ++ (D ++ y :: U) ++ S).length ≤ big40 →
    ∃ k', l68_6 (P ++ (D ++ y :: U) ++ S) (P.length : Int) ((P.length + D.length : Nat) : Int) = some (.inl (P ++ (y :: (D ++ U)) ++ S, (P.length : Int), k', ())) := by
  intro n
  induction n with
  | zero =>
    intro D U hn hl
    have : D = [] := List.length_eq_zero_iff.1 hn
    subst this
    refine ⟨((P.length + 0 : Nat) : Int), loopF_end _ ?_⟩
    show r68_6 (P ++ ([] ++ y :: U) ++ S) (P.length : Int) ((P.length + 0 : Nat) : Int) = _
    unfold r68_6
    rw [ltI_no (by omega)]
    rfl
  | succ n ih =>
    intro D U hn hl
    obtain ⟨B, u, rfl⟩ := snoc_of (a := D) (fun h => by subst h; simp at hn)
    have hB : B.length = n := by simpa using hn
    have hl' := hl
    simp only [big40, List.length_append, List.length_cons, List.length_nil] at hl'
    obtain ⟨k', hk⟩ := ih B (u :: U) hB (by simp only [big40, List.length_append, List.length_cons]; omega)
    refine ⟨k', ?_⟩
    have ef : P ++ (y :: (B ++ u :: U)) ++ S = P ++ (y :: (B ++ [u] ++ U)) ++ S := by simp
    rw [ef] at hk
    refine loopF_step _ ?_ hk
    show r68_6 (P ++ (B ++ [u] ++ y :: U) ++ S) (P.length : Int) ((P.length + (B ++ [u]).length : Nat) : Int) = _
    have d1 : P ++ (B ++ [u] ++ y :: U) ++ S = (P ++ B) ++ u :: y :: (U ++ S) := by simp
    have d2 : P ++ (B ++ [u] ++ y :: U) ++ S = (P ++ B ++ [u]) ++ y :: (U ++ S) := by simp
    have k1 : subW .i64 ((P.length + (B ++ [u]).length : Nat) : Int) 1 = ((P ++ B).length : Int) := by
      rw [subW_in (by simp only [List.length_append, List.length_cons, List.length_nil]; omega) (by simp only [List.length_append, List.length_cons, List.length_nil]; omega)]
      simp only [List.length_append, List.length_cons, List.length_nil]; omega
    have k2 : ((P.length + (B ++ [u]).length : Nat) : Int) = ((P ++ B ++ [u]).length : Int) := by simp only [List.length_append, List.length_cons, List.length_nil]; omega
    unfold r68_6
    rw [k1, ltI_yes (by simp only [List.length_append, List.length_cons, List.length_nil]; omega), k2]
    dsimp only [cond_true]
    have i1 : inB ((P ++ B ++ [u]).length : Int) (P ++ (B ++ [u] ++ y :: U) ++ S) = true := by rw [d2]; exact inB_app _ _ _ rfl
    have i2 : inB ((P ++ B).length : Int) (P ++ (B ++ [u] ++ y :: U) ++ S) = true := by rw [d1]; exact inB_app _ _ _ rfl
    have a1 : atB ((P ++ B ++ [u]).length : Int) (P ++ (B ++ [u] ++ y :: U) ++ S) ((P ++ B ++ [u]).length : Int) = true := by rw [d2]; exact atB_app _ _ _ rfl
    have a2 : atB ((P ++ B).length : Int) (P ++ (B ++ [u] ++ y :: U) ++ S) ((P ++ B).length : Int) = true := by rw [d1]; exact atB_app _ _ _ rfl
    rw [i1, i2, a1, a2]
    dsimp only [cond_true]
    have sw : swI d68 (P ++ (B ++ [u] ++ y :: U) ++ S) ((P ++ B ++ [u]).length : Int) ((P ++ B).length : Int) = P ++ (B ++ y :: u :: U) ++ S := by
      unfold swI
      have e1 : (P ++ B ++ [u]).length = (P ++ B).length + 1 := by simp only [List.length_append, List.length_cons, List.length_nil]
      rw [Int.toNat_natCast, Int.toNat_natCast, e1, d1, swpL_next]
      simp
    rw [sw]
    have k4 : ((P ++ B).length : Int) = ((P.length + B.length : Nat) : Int) := by simp
    rw [k4]
theorem srchA (P S : List AcctT) (x : AcctT) (R : List AcctT) (hR : Srt ltA R) (hl : (P ++ x :: R ++ S).length ≤ big40) : ∃ n, n ≤ R.length ∧ (∀ y ∈ R.take n, ltA y x = true) ∧ (∀ y ∈ R.drop n, ltA y x = false) ∧
    l68_0 (P ++ x :: R ++ S) (P.length : Int) () ((P.length + 1 : Nat) : Int) ((P.length + 1 + R.length : Nat) : Int) = some (.inl (P ++ x :: R ++ S, (P.length : Int), (), ((P.length + 1 + n : Nat) : Int), ((P.length + 1 + n : Nat) : Int), ())) := by
  have hl' := hl
  simp only [big40, List.length_append, List.length_cons] at hl'
  have e0 : P ++ x :: R ++ S = (P ++ [x]) ++ R ++ S := by simp
  have hpl : (P ++ [x]).length = P.length + 1 := by simp
  have hg : ∀ q, q < R.length → (P ++ x :: R ++ S).getD (P.length + 1 + q) d68 = R.getD q d68 := fun q hq => by
    rw [e0, ← hpl]; exact getD_mid _ _ _ _ hq
  have h := bsearch (fun (z : (List AcctT) × Int × Unit × Int × Int × Unit) => r68_0 z.1 z.2.1 z.2.2.1 z.2.2.2.1 z.2.2.2.2.1) (fun lo hi => (P ++ x :: R ++ S, (P.length : Int), (), (lo : Int), (hi : Int), ())) (fun k => .inl (P ++ x :: R ++ S, (P.length : Int), (), (k : Int), (k : Int), ()))
    (fun h => ltA ((P ++ x :: R ++ S).getD h d68) x) (P.length + 1) (P.length + 1 + R.length) (fun h h' h1 h2 h3 hf => by
      obtain ⟨q, rfl⟩ : ∃ q, h = P.length + 1 + q := ⟨h - (P.length + 1), by omega⟩
      obtain ⟨q', rfl⟩ : ∃ q', h' = P.length + 1 + q' := ⟨h' - (P.length + 1), by omega⟩
      rw [hg q (by omega)] at hf
      rw [hg q' (by omega)]
      rcases swoA.neg _ (R.getD q' d68) _ hf with h4 | h4
      · rw [srt_getD swoA _ hR (by omega) (by omega)] at h4; simp at h4
      · exact h4) (fun lo hi h1 h2 h3 => by
      show r68_0 (P ++ x :: R ++ S) (P.length : Int) () (lo : Int) (hi : Int) = _
      unfold r68_0
      obtain ⟨v, hv1, hv2⟩ := cmpA ((P ++ x :: R ++ S).getD ((lo + hi) / 2) d68) x
      have hx : gt d68 (P ++ x :: R ++ S) (P.length : Int) = x := by
        have : P ++ x :: R ++ S = P ++ x :: (R ++ S) := by simp
        rw [this]; exact gt_app _ _ _ _ rfl
      rw [ltI_yes (by omega), half_in (by omega)]
      dsimp only [cond_true]
      rw [inB_nat (by simp only [List.length_append, List.length_cons]; omega), inB_nat (by simp only [List.length_append, List.length_cons]; omega), gt_nat, hx, hv1]
      dsimp only [cond_true, Option.bind_some]
      rw [hv2, addW1 (by have : big = 140737488355328 := rfl; omega)]
      cases ltA ((P ++ x :: R ++ S).getD ((lo + hi) / 2) d68) x <;> rfl) (fun k h1 h2 => by
      show r68_0 (P ++ x :: R ++ S) (P.length : Int) () (k : Int) (k : Int) = _
      unfold r68_0
      rw [ltI_no (by omega)]; rfl)
    _ (P.length + 1) (P.length + 1 + R.length) rfl (Nat.le_refl _) (by omega) (Nat.le_refl _) (fun h h1 h2 => by omega) (fun h h1 h2 => by omega)
  obtain ⟨k, k1, k2, k3, k4, k5⟩ := h
  obtain ⟨n, rfl⟩ : ∃ n, k = P.length + 1 + n := ⟨k - (P.length + 1), by omega⟩
  refine ⟨n, by omega, fun y hy => ?_, fun y hy => ?_, k5⟩
  · obtain ⟨q, q1, q2, rfl⟩ := mem_takeD d68 hy
    rw [← hg q q2]; exact k3 _ (by omega) (by omega)
  · obtain ⟨q, q1, q2, rfl⟩ := mem_dropD d68 hy
    rw [← hg q q2]; exact k4 _ (by omega) (by omega)
theorem srchB (P S : List AcctT) (y : AcctT) (L : List AcctT) (hL : Srt ltA L) (hl : (P ++ L ++ y :: S).length ≤ big40) : ∃ n, n ≤ L.length ∧ (∀ x ∈ L.take n, ltA y x = false) ∧ (∀ x ∈ L.drop n, ltA y x = true) ∧
    l68_4 (P ++ L ++ y :: S) ((P.length + L.length : Nat) : Int) () (P.length : Int) ((P.length + L.length : Nat) : Int) = some (.inl (P ++ L ++ y :: S, ((P.length + L.length : Nat) : Int), (), ((P.length + n : Nat) : Int), ((P.length + n : Nat) : Int), ())) := by
  have hl' := hl
  simp only [big40, List.length_append, List.length_cons] at hl'
  have hg : ∀ q, q < L.length → (P ++ L ++ y :: S).getD (P.length + q) d68 = L.getD q d68 := fun q hq => getD_mid _ _ _ _ hq
  have h := bsearch (fun (z : (List AcctT) × Int × Unit × Int × Int × Unit) => r68_4 z.1 z.2.1 z.2.2.1 z.2.2.2.1 z.2.2.2.2.1) (fun lo hi => (P ++ L ++ y :: S, ((P.length + L.length : Nat) : Int), (), (lo : Int), (hi : Int), ())) (fun k => .inl (P ++ L ++ y :: S, ((P.length + L.length : Nat) : Int), (), (k : Int), (k : Int), ()))
    (fun h => !ltA y ((P ++ L ++ y :: S).getD h d68)) P.length (P.length + L.length) (fun h h' h1 h2 h3 hf => by
      obtain ⟨q, rfl⟩ : ∃ q, h = P.length + q := ⟨h - P.length, by omega⟩
      obtain ⟨q', rfl⟩ : ∃ q', h' = P.length + q' := ⟨h' - P.length, by omega⟩
      rw [hg q (by omega), Bool.not_eq_true'] at hf
      rw [hg q' (by omega), Bool.not_eq_true']
      exact swoA.le_trans (srt_getD swoA _ hL (by omega) (by omega)) hf) (fun lo hi h1 h2 h3 => by
      show r68_4 (P ++ L ++ y :: S) ((P.length + L.length : Nat) : Int) () (lo : Int) (hi : Int) = _
      unfold r68_4
      obtain ⟨v, hv1, hv2⟩ := cmpA y ((P ++ L ++ y :: S).getD ((lo + hi) / 2) d68)
      have hy : gt d68 (P ++ L ++ y :: S) ((P.length + L.length : Nat) : Int) = y := gt_app _ (P ++ L) _ _ (by simp)
      rw [ltI_yes (by omega), half_in (by omega)]
      dsimp only [cond_true]
      rw [inB_nat (by simp only [List.length_append, List.length_cons]; omega), inB_nat (by simp only [List.length_append, List.length_cons]; omega), gt_nat d68 _ ((lo + hi) / 2), hy, hv1]
      dsimp only [cond_true, Option.bind_some]
      rw [hv2, addW1 (by have : big = 140737488355328 := rfl; omega)]
      cases ltA y ((P ++ L ++ y :: S).getD ((lo + hi) / 2) d68) <;> rfl) (fun k h1 h2 => by
      show r68_4 (P ++ L ++ y :: S) ((P.length + L.length : Nat) : Int) () (k : Int) (k : Int) = _
      unfold r68_4
      rw [ltI_no (by omega)]; rfl)
    _ P.length (P.length + L.length) rfl (Nat.le_refl _) (by omega) (Nat.le_refl _) (fun h h1 h2 => by omega) (fun h h1 h2 => by omega)
  obtain ⟨k, k1, k2, k3, k4, k5⟩ := h
  obtain ⟨n, rfl⟩ : ∃ n, k = P.length + n := ⟨k - P.length, by omega⟩
  refine ⟨n, by omega, fun x hx => ?_, fun x hx => ?_, k5⟩
  · obtain ⟨q, q1, q2, rfl⟩ := mem_takeD d68 hx
    have := k3 (P.length + q) (by omega) (by omega)
    rw [hg q q2, Bool.not_eq_true'] at this
    exact this
  · obtain ⟨q, q1, q2, rfl⟩ := mem_dropD d68 hx
    have := k4 (P.length + q) (by omega) (by omega)
    rw [hg q q2, Bool.not_eq_false'] at this
    exact this
theorem srchC (P L R S : List AcctT) (hL : Srt ltA L) (hR : Srt ltA R) (mid lo0 hi0 : Nat) (c1 : P.length ≤ lo0) (c2 : lo0 ≤ hi0) (c3 : hi0 ≤ P.length + L.length) (c4 : hi0 ≤ mid) (c5 : mid ≤ lo0 + R.length) (hm : mid ≤ big40) (b : Int) (hl : (P ++ L ++ R ++ S).length ≤ big40) :
    ∃ k, lo0 ≤ k ∧ k ≤ hi0 ∧ (∀ c, lo0 ≤ c → c < k → ltA (R.getD (mid - 1 - c) d68) (L.getD (c - P.length) d68) = false) ∧ (∀ c, k ≤ c → c < hi0 → ltA (R.getD (mid - 1 - c) d68) (L.getD (c - P.length) d68) = true) ∧
    l68_8 (P ++ L ++ R ++ S) (P.length : Int) ((P.length + L.length : Nat) : Int) b () (mid : Int) ((mid + (P.length + L.length) : Nat) : Int) (lo0 : Int) (hi0 : Int) ((mid + (P.length + L.length) : Nat) - 1 : Int) =
      some (.inl (P ++ L ++ R ++ S, (P.length : Int), ((P.length + L.length : Nat) : Int), b, (), (mid : Int), ((mid + (P.length + L.length) : Nat) : Int), (k : Int), (k : Int), ((mid + (P.length + L.length) : Nat) - 1 : Int), ())) := by
  have hl' := hl
  simp only [big40, List.length_append] at hl' hm
  have hgL : ∀ c, P.length ≤ c → c < P.length + L.length → (P ++ L ++ R ++ S).getD c d68 = L.getD (c - P.length) d68 := fun c h1 h2 => by
    have := getD_mid d68 P L (R ++ S) (q := c - P.length) (by omega)
    rw [show P.length + (c - P.length) = c by omega] at this
    rw [List.append_assoc (P ++ L)]
    exact this
  have hgR : ∀ q, q < R.length → (P ++ L ++ R ++ S).getD (P.length + L.length + q) d68 = R.getD q d68 := fun q hq => by
    have := getD_mid d68 (P ++ L) R S hq
    rw [List.length_append] at this
    exact this
  have h := bsearch (fun (z : (List AcctT) × Int × Int × Int × Unit × Int × Int × Int × Int × Int × Unit) => r68_8 z.1 z.2.1 z.2.2.1 z.2.2.2.1 z.2.2.2.2.1 z.2.2.2.2.2.1 z.2.2.2.2.2.2.1 z.2.2.2.2.2.2.2.1 z.2.2.2.2.2.2.2.2.1 z.2.2.2.2.2.2.2.2.2.1)
    (fun lo hi => (P ++ L ++ R ++ S, (P.length : Int), ((P.length + L.length : Nat) : Int), b, (), (mid : Int), ((mid + (P.length + L.length) : Nat) : Int), (lo : Int), (hi : Int), ((mid + (P.length + L.length) : Nat) - 1 : Int), ())) (fun k => .inl (P ++ L ++ R ++ S, (P.length : Int), ((P.length + L.length : Nat) : Int), b, (), (mid : Int), ((mid + (P.length + L.length) : Nat) : Int), (k : Int), (k : Int), ((mid + (P.length + L.length) : Nat) - 1 : Int), ()))
    (fun c => !ltA (R.getD (mid - 1 - c) d68) (L.getD (c - P.length) d68)) lo0 hi0 (fun h h' h1 h2 h3 hf => by
      rw [Bool.not_eq_true'] at hf ⊢
      refine swoA.le_trans (b := R.getD (mid - 1 - h) d68) (swoA.le_trans (srt_getD swoA _ hL (by omega) (by omega)) hf) (srt_getD swoA _ hR (by omega) (by omega))) (fun lo hi h1 h2 h3 => by
      show r68_8 (P ++ L ++ R ++ S) (P.length : Int) ((P.length + L.length : Nat) : Int) b () (mid : Int) ((mid + (P.length + L.length) : Nat) : Int) (lo : Int) (hi : Int) ((mid + (P.length + L.length) : Nat) - 1 : Int) = _
      unfold r68_8
      have hc1 : lo ≤ (lo + hi) / 2 := by omega
      have hc2 : (lo + hi) / 2 < hi := by omega
      rw [half_in (by omega)]
      generalize (lo + hi) / 2 = c at hc1 hc2
      obtain ⟨v, hv1, hv2⟩ := cmpA (R.getD (mid - 1 - c) d68) (L.getD (c - P.length) d68)
      have k1 : subW .i64 ((mid + (P.length + L.length) : Nat) - 1 : Int) (c : Int) = ((P.length + L.length + (mid - 1 - c) : Nat) : Int) := by rw [subW_in (by omega) (by omega)]; omega
      rw [ltI_yes (by omega)]
      dsimp only [cond_true]
      rw [k1, inB_nat (by simp only [List.length_append]; omega), inB_nat (by simp only [List.length_append]; omega), gt_nat, gt_nat, hgR _ (by omega), hgL _ (by omega) (by omega), hv1]
      dsimp only [cond_true, Option.bind_some]
      rw [hv2, addW1 (by have : big = 140737488355328 := rfl; omega)]
      cases ltA (R.getD (mid - 1 - c) d68) (L.getD (c - P.length) d68) <;> rfl) (fun k h1 h2 => by
      show r68_8 (P ++ L ++ R ++ S) (P.length : Int) ((P.length + L.length : Nat) : Int) b () (mid : Int) ((mid + (P.length + L.length) : Nat) : Int) (k : Int) (k : Int) ((mid + (P.length + L.length) : Nat) - 1 : Int) = _
      unfold r68_8
      rw [ltI_no (by omega)]; rfl)
    _ lo0 hi0 rfl (Nat.le_refl _) c2 (Nat.le_refl _) (fun h h1 h2 => by omega) (fun h h1 h2 => by omega)
  obtain ⟨k, k1, k2, k3, k4, k5⟩ := h
  refine ⟨k, k1, k2, fun c h1 h2 => ?_, fun c h1 h2 => ?_, k5⟩
  · have := k3 c h1 h2
    rwa [Bool.not_eq_true'] at this
  · have := k4 c h1 h2
    rwa [Bool.not_eq_false'] at this
noncomputable def symTail (n : Nat) (t : List AcctT) (a m b mid k e : Int) : Option ((((List AcctT) × Unit) × Unit) × Unit) :=
  Option.bind (cond (cond (ltI k m) (ltI m e) false) (g79 t k m e) (some (((t, ()), ()), ()))) fun y2 =>
  Option.bind (cond (cond (ltI a k) (ltI k mid) false) (g68n n y2.1.1.1 a k mid) (some (((y2.1.1.1, ()), ()), ()))) fun y3 =>
  Option.bind (cond (cond (ltI mid e) (ltI e b) false) (g68n n y3.1.1.1 mid e b) (some (((y3.1.1.1, ()), ()), ()))) fun y4 => some ((y4.1.1, ()), ())
theorem sym_split (n : Nat) (t : List AcctT) (a m b : Int) (h1 : eqI (subW .i64 m a) 1 = false) (h2 : eqI (subW .i64 b m) 1 = false) (mid nn lo hi k : Int) (hmid : cvtW .i64 (shrW .u64 (cvtW .u64 (addW .i64 a b)) 1) = mid) (hnn : addW .i64 mid m = nn) (hlo : lo = cond (ltI mid m) (subW .i64 nn b) a) (hhi : hi = cond (ltI mid m) mid m)
    (hs : l68_8 t a m b () mid nn lo hi (subW .i64 nn 1) = some (.inl (t, a, m, b, (), mid, nn, k, k, subW .i64 nn 1, ()))) :
    g68n (n + 1) t a m b = symTail n t a m b mid k (subW .i64 nn k) := by
  rw [g68n_succ, h1, h2, hmid]
  dsimp only [cond_false]
  rw [hnn]
  unfold symTail
  cases hm : ltI mid m with
  | true =>
    rw [hm] at hlo hhi
    dsimp only [cond_true] at hlo hhi ⊢
    rw [← hlo, ← hhi]
    conv => lhs; rw [show l68_8 t a m b () hi nn lo hi (subW .i64 nn 1) = some (.inl (t, a, m, b, (), hi, nn, k, k, subW .i64 nn 1, ())) by rw [hhi] at hs ⊢; exact hs]
    dsimp only [Option.bind_some, Sum.elim_inl]
    rw [hhi]
    cases (cond (ltI k m) (ltI m (subW .i64 nn k)) false) <;> cases (cond (ltI a k) (ltI k mid) false) <;> cases (cond (ltI mid (subW .i64 nn k)) (ltI (subW .i64 nn k) b) false) <;> rfl
  | false =>
    rw [hm] at hlo hhi
    dsimp only [cond_false] at hlo hhi ⊢
    subst hlo; subst hhi
    rw [hs]
    dsimp only [Option.bind_some, Sum.elim_inl]
    cases (cond (ltI k hi) (ltI hi (subW .i64 nn k)) false) <;> cases (cond (ltI lo k) (ltI k mid) false) <;> cases (cond (ltI mid (subW .i64 nn k)) (ltI (subW .i64 nn k) b) false) <;> rfl
theorem asymA {a b : AcctT} (h : ltA a b = true) : ltA b a = false := by
  cases hb : ltA b a with
  | false => rfl
  | true =>
    have := swoA.trans _ _ _ h hb
    rw [swoA.irr] at this
    simp at this
theorem sym_g : ∀ (n : Nat) (P L R S : List AcctT), L.length + R.length ≤ n → 0 < L.length → 0 < R.length → Srt ltA L → Srt ltA R → (P ++ L ++ R ++ S).length ≤ big40 →
    ∃ M, Srt ltA M ∧ Stb ltA (L ++ R) M ∧ g68n n (P ++ L ++ R ++ S) (P.length : Int) ((P.length + L.length : Nat) : Int) ((P.length + L.length + R.length : Nat) : Int) = some (((P ++ M ++ S, ()), ()), ()) := by
  intro n
  induction n with
  | zero => intro P L R S h1 h2 h3; omega
  | succ n ih =>
  intro P L R S hn hL0 hR0 hL hR hl
  have hl' := hl
  simp only [big40, List.length_append] at hl'
  have km : subW .i64 ((P.length + L.length : Nat) : Int) (P.length : Int) = (L.length : Int) := by rw [subW_in (by omega) (by omega)]; omega
  have kb : subW .i64 ((P.length + L.length + R.length : Nat) : Int) ((P.length + L.length : Nat) : Int) = (R.length : Int) := by rw [subW_in (by omega) (by omega)]; omega
  by_cases hA : L.length = 1
  · obtain ⟨x, rfl⟩ : ∃ x, L = [x] := List.length_eq_one_iff.1 hA
    have e0 : P ++ [x] ++ R ++ S = P ++ x :: R ++ S := by simp
    obtain ⟨k, k1, k2, k3, k4⟩ := srchA P S x R hR (by rw [← e0]; exact hl)
    have hs := hR
    rw [← List.take_append_drop k R] at hs
    have hs := Srt_append.1 hs
    obtain ⟨kk, hk⟩ := mvR_loop P (R.drop k ++ S) x (P.length + 1 + k) (R.take k).length [] (R.take k) rfl (by rw [List.length_take]; simp only [List.length_nil]; omega) (by simp only [big40, List.length_append, List.length_cons, List.length_take, List.length_drop, List.length_nil] at hl' ⊢; omega)
    have e1 : P ++ ([] ++ x :: R.take k) ++ (R.drop k ++ S) = P ++ x :: R ++ S := by
      have : R.take k ++ R.drop k = R := List.take_append_drop k R
      simp only [List.nil_append, List.append_assoc, List.cons_append]
      rw [← List.append_assoc (R.take k), this]
    rw [e1] at hk
    refine ⟨R.take k ++ [x] ++ R.drop k, ?_, ?_, ?_⟩
    · rw [List.append_assoc]
      refine Srt_append.2 ⟨hs.1, List.pairwise_cons.2 ⟨fun y hy => k3 y hy, hs.2.1⟩, fun y hy z hz => ?_⟩
      rcases List.mem_cons.1 hz with rfl | hz
      · exact asymA (k2 y hy)
      · exact hs.2.2 y hy z hz
    · have h1 : Stb ltA ([x] ++ R.take k) (R.take k ++ [x]) := Stb.swap swoA fun z hz y hy => by
        simp only [List.mem_singleton] at hz; subst hz; exact k2 y hy
      have h2 := h1.append (Stb.refl (R.drop k))
      rw [List.append_assoc, List.take_append_drop] at h2
      exact h2
    · rw [g68n_succ, km, hA]
      have : eqI ((1 : Nat) : Int) 1 = true := rfl
      rw [this]
      dsimp only [cond_true]
      rw [e0, k4]
      dsimp only [Option.bind_some, Sum.elim_inl]
      simp only [List.length_nil, Nat.add_zero] at hk
      rw [hk]
      dsimp only [Option.bind_some, Sum.elim_inl]
      simp
  by_cases hB : R.length = 1
  · obtain ⟨y, rfl⟩ : ∃ y, R = [y] := List.length_eq_one_iff.1 hB
    have e0 : P ++ L ++ [y] ++ S = P ++ L ++ y :: S := by simp
    obtain ⟨k, k1, k2, k3, k4⟩ := srchB P S y L hL (by rw [← e0]; exact hl)
    have hs := hL
    rw [← List.take_append_drop k L] at hs
    have hs := Srt_append.1 hs
    obtain ⟨kk, hk⟩ := mvL_loop (P ++ L.take k) S y (L.drop k).length (L.drop k) [] rfl (by simp only [big40, List.length_append, List.length_cons, List.length_take, List.length_drop, List.length_nil] at hl' ⊢; omega)
    have e1 : P ++ L.take k ++ (L.drop k ++ [y]) ++ S = P ++ L ++ y :: S := by
      have : L.take k ++ L.drop k = L := List.take_append_drop k L
      simp only [List.append_assoc, List.cons_append, List.nil_append]
      rw [← List.append_assoc (L.take k), this]
    have e2 : (((P ++ L.take k).length : Nat) : Int) = ((P.length + k : Nat) : Int) := by simp only [List.length_append, List.length_take]; omega
    have e3 : (((P ++ L.take k).length + (L.drop k).length : Nat) : Int) = ((P.length + L.length : Nat) : Int) := by simp only [List.length_append, List.length_take, List.length_drop]; omega
    rw [e1, e2, e3] at hk
    refine ⟨L.take k ++ (y :: L.drop k), ?_, ?_, ?_⟩
    · refine Srt_append.2 ⟨hs.1, List.pairwise_cons.2 ⟨fun x hx => asymA (k3 x hx), hs.2.1⟩, fun x hx z hz => ?_⟩
      rcases List.mem_cons.1 hz with rfl | hz
      · exact k2 x hx
      · exact hs.2.2 x hx z hz
    · have h1 : Stb ltA (L.drop k ++ [y]) ([y] ++ L.drop k) := Stb.swap swoA fun z hz x hx => by
        simp only [List.mem_singleton] at hx; subst hx; exact k3 z hz
      have h2 := (Stb.refl (L.take k)).append h1
      rw [← List.append_assoc, List.take_append_drop] at h2
      exact h2
    · have hA' : eqI (L.length : Int) 1 = false := by
        rw [Bool.eq_false_iff]; intro hh; rw [eqI_iff] at hh; omega
      rw [g68n_succ, km, kb, hA', hB]
      have : eqI ((1 : Nat) : Int) 1 = true := rfl
      rw [this]
      dsimp only [cond_true, cond_false]
      rw [e0, k4]
      dsimp only [Option.bind_some, Sum.elim_inl]
      rw [hk]
      dsimp only [Option.bind_some, Sum.elim_inl]
      simp
  -- the long case
  obtain ⟨mid, hmidN⟩ : ∃ mid, mid = (P.length + (P.length + L.length + R.length)) / 2 := ⟨_, rfl⟩
  obtain ⟨lo0, hlo0⟩ : ∃ lo0, lo0 = if mid < P.length + L.length then mid - R.length else P.length := ⟨_, rfl⟩
  obtain ⟨hi0, hhi0⟩ : ∃ hi0, hi0 = if mid < P.length + L.length then mid else P.length + L.length := ⟨_, rfl⟩
  have c1 : P.length ≤ lo0 := by rw [hlo0]; split <;> omega
  have c2 : lo0 ≤ hi0 := by rw [hlo0, hhi0]; split <;> omega
  have c3 : hi0 ≤ P.length + L.length := by rw [hhi0]; split <;> omega
  have c4 : hi0 ≤ mid := by rw [hhi0]; split <;> omega
  have c5 : mid ≤ lo0 + R.length := by rw [hlo0]; split <;> omega
  obtain ⟨k, k1, k2, k3, k4, k5⟩ := srchC P L R S hL hR mid lo0 hi0 c1 c2 c3 c4 c5 (by show mid ≤ 1099511627776; omega) ((P.length + L.length + R.length : Nat) : Int) hl
  have hmid := half_in (i := P.length) (j := P.length + L.length + R.length) (by omega)
  rw [← hmidN] at hmid
  have hnn : addW .i64 (mid : Int) ((P.length + L.length : Nat) : Int) = ((mid + (P.length + L.length) : Nat) : Int) := by rw [addW_in (by omega) (by omega)]; omega
  have hsub1 : subW .i64 ((mid + (P.length + L.length) : Nat) : Int) 1 = ((mid + (P.length + L.length) : Nat) - 1 : Int) := by rw [subW_in (by omega) (by omega)]
  have hA' : eqI (subW .i64 ((P.length + L.length : Nat) : Int) (P.length : Int)) 1 = false := by
    rw [km, Bool.eq_false_iff]; intro hh; rw [eqI_iff] at hh; omega
  have hB' : eqI (subW .i64 ((P.length + L.length + R.length : Nat) : Int) ((P.length + L.length : Nat) : Int)) 1 = false := by
    rw [kb, Bool.eq_false_iff]; intro hh; rw [eqI_iff] at hh; omega
  have hlo : (lo0 : Int) = cond (ltI (mid : Int) ((P.length + L.length : Nat) : Int)) (subW .i64 ((mid + (P.length + L.length) : Nat) : Int) ((P.length + L.length + R.length : Nat) : Int)) (P.length : Int) := by
    rw [hlo0]
    by_cases hm : mid < P.length + L.length
    · rw [if_pos hm, ltI_yes (by omega), cond_true, subW_in (by omega) (by omega)]; omega
    · rw [if_neg hm, ltI_no (by omega), cond_false]
  have hhi : (hi0 : Int) = cond (ltI (mid : Int) ((P.length + L.length : Nat) : Int)) (mid : Int) ((P.length + L.length : Nat) : Int) := by
    rw [hhi0]
    by_cases hm : mid < P.length + L.length
    · rw [if_pos hm, ltI_yes (by omega), cond_true]
    · rw [if_neg hm, ltI_no (by omega), cond_false]
  have hsp := sym_split n (P ++ L ++ R ++ S) (P.length : Int) ((P.length + L.length : Nat) : Int) ((P.length + L.length + R.length : Nat) : Int) hA' hB' (mid : Int) ((mid + (P.length + L.length) : Nat) : Int) (lo0 : Int) (hi0 : Int) (k : Int) hmid hnn hlo hhi (by rw [hsub1]; exact k5)
  have he : subW .i64 ((mid + (P.length + L.length) : Nat) : Int) (k : Int) = ((P.length + L.length + (mid - k) : Nat) : Int) := by rw [subW_in (by omega) (by omega)]; omega
  rw [he] at hsp
  -- the parts
  obtain ⟨L1, L2, hLe, hL1, hL2⟩ : ∃ L1 L2, L = L1 ++ L2 ∧ L1 = L.take (k - P.length) ∧ L2 = L.drop (k - P.length) := ⟨_, _, (List.take_append_drop _ _).symm, rfl, rfl⟩
  obtain ⟨R1, R2, hRe, hR1, hR2⟩ : ∃ R1 R2, R = R1 ++ R2 ∧ R1 = R.take (mid - k) ∧ R2 = R.drop (mid - k) := ⟨_, _, (List.take_append_drop _ _).symm, rfl, rfl⟩
  have n1 : L1.length = k - P.length := by rw [hL1, List.length_take]; omega
  have n2 : L2.length = P.length + L.length - k := by rw [hL2, List.length_drop]; omega
  have n3 : R1.length = mid - k := by rw [hR1, List.length_take]; omega
  have n4 : R2.length = R.length - (mid - k) := by rw [hR2, List.length_drop]
  have sL := hL
  rw [hLe] at sL
  have sL := Srt_append.1 sL
  have sR := hR
  rw [hRe] at sR
  have sR := Srt_append.1 sR
  have xRL : ∀ x ∈ R1, ∀ y ∈ L2, ltA x y = true := fun x hx y hy => by
    rw [hR1] at hx
    rw [hL2] at hy
    obtain ⟨q, q1, q2, rfl⟩ := mem_takeD d68 hx
    obtain ⟨q', p1, p2, rfl⟩ := mem_dropD d68 hy
    have hk : k < hi0 := by
      rcases Nat.lt_or_ge k hi0 with hh | hh
      · exact hh
      · exfalso
        rw [hhi0] at hh
        split at hh <;> omega
    have h0 := k4 k (Nat.le_refl _) hk
    have h1 := srt_getD swoA d68 hR (q' := q) (q := mid - 1 - k) (by omega) (by omega)
    have h2 := srt_getD swoA d68 hL (q' := k - P.length) (q := q') (by omega) (by omega)
    rcases swoA.neg _ (R.getD q d68) _ h0 with h3 | h3
    · rw [h1] at h3; simp at h3
    · rcases swoA.neg _ (L.getD q' d68) _ h3 with h4 | h4
      · exact h4
      · rw [h2] at h4; simp at h4
  have xLR : ∀ x ∈ L1, ∀ y ∈ R2, ltA y x = false := fun x hx y hy => by
    rw [hL1] at hx
    rw [hR2] at hy
    obtain ⟨q, q1, q2, rfl⟩ := mem_takeD d68 hx
    obtain ⟨q', p1, p2, rfl⟩ := mem_dropD d68 hy
    have hk : lo0 < k := by
      rcases Nat.lt_or_ge lo0 k with hh | hh
      · exact hh
      · exfalso
        rw [hlo0] at hh k1
        split at hh <;> omega
    have h0 := k3 (k - 1) (by omega) (by omega)
    rw [show mid - 1 - (k - 1) = mid - k by omega, show k - 1 - P.length = k - P.length - 1 by omega] at h0
    have h1 := srt_getD swoA d68 hL (q' := q) (q := k - P.length - 1) (by omega) (by omega)
    have h2 := srt_getD swoA d68 hR (q' := mid - k) (q := q') (by omega) (by omega)
    exact swoA.le_trans (swoA.le_trans h1 h0) h2
  -- the rotation
  have st1 : cond (cond (ltI (k : Int) ((P.length + L.length : Nat) : Int)) (ltI ((P.length + L.length : Nat) : Int) ((P.length + L.length + (mid - k) : Nat) : Int)) false) (g79 (P ++ L ++ R ++ S) (k : Int) ((P.length + L.length : Nat) : Int) ((P.length + L.length + (mid - k) : Nat) : Int)) (some (((P ++ L ++ R ++ S, ()), ()), ())) = some (((P ++ L1 ++ R1 ++ (L2 ++ R2 ++ S), ()), ()), ()) := by
    by_cases z1 : k < P.length + L.length
    · by_cases z2 : 0 < mid - k
      · rw [ltI_yes (by omega), ltI_yes (by omega)]
        dsimp only [cond_true]
        have h := rot_g (P ++ L1) L2 R1 (R2 ++ S) (by omega) (by omega) (by simp only [big40, List.length_append]; omega)
        have e1 : P ++ L1 ++ L2 ++ R1 ++ (R2 ++ S) = P ++ L ++ R ++ S := by rw [hLe, hRe]; simp
        have e2 : (((P ++ L1).length : Nat) : Int) = (k : Int) := by simp only [List.length_append]; omega
        have e3 : (((P ++ L1).length + L2.length : Nat) : Int) = ((P.length + L.length : Nat) : Int) := by simp only [List.length_append]; omega
        have e4 : (((P ++ L1).length + L2.length + R1.length : Nat) : Int) = ((P.length + L.length + (mid - k) : Nat) : Int) := by simp only [List.length_append]; omega
        rw [e1, e2, e3, e4] at h
        rw [h]
        simp
      · have hz : R1 = [] := List.length_eq_zero_iff.1 (by omega)
        rw [ltI_yes (by omega), ltI_no (by omega)]
        dsimp only [cond_true, cond_false]
        rw [hLe, hRe, hz]
        simp
    · have hz : L2 = [] := List.length_eq_zero_iff.1 (by omega)
      rw [ltI_no (by omega)]
      dsimp only [cond_false]
      rw [hLe, hRe, hz]
      simp
  -- the left half
  obtain ⟨M1, s1, t1, u1⟩ : ∃ M1, Srt ltA M1 ∧ Stb ltA (L1 ++ R1) M1 ∧ cond (cond (ltI (P.length : Int) (k : Int)) (ltI (k : Int) (mid : Int)) false) (g68n n (P ++ L1 ++ R1 ++ (L2 ++ R2 ++ S)) (P.length : Int) (k : Int) (mid : Int)) (some (((P ++ L1 ++ R1 ++ (L2 ++ R2 ++ S), ()), ()), ())) = some (((P ++ M1 ++ (L2 ++ R2 ++ S), ()), ()), ()) := by
    by_cases z1 : P.length < k
    · by_cases z2 : k < mid
      · obtain ⟨M, m1, m2, m3⟩ := ih P L1 R1 (L2 ++ R2 ++ S) (by omega) (by omega) (by omega) sL.1 sR.1 (by simp only [big40, List.length_append]; omega)
        refine ⟨M, m1, m2, ?_⟩
        rw [ltI_yes (by omega), ltI_yes (by omega)]
        dsimp only [cond_true]
        rw [show ((P.length + L1.length : Nat) : Int) = (k : Int) by omega, show ((P.length + L1.length + R1.length : Nat) : Int) = (mid : Int) by omega] at m3
        exact m3
      · have hz : R1 = [] := List.length_eq_zero_iff.1 (by omega)
        refine ⟨L1, sL.1, by rw [hz, List.append_nil]; exact Stb.refl _, ?_⟩
        rw [ltI_yes (by omega), ltI_no (by omega), hz]
        simp
    · have hz : L1 = [] := List.length_eq_zero_iff.1 (by omega)
      refine ⟨R1, sR.1, by rw [hz]; exact Stb.refl _, ?_⟩
      rw [ltI_no (by omega), hz]
      simp
  have nM1 : M1.length = L1.length + R1.length := by have := t1.1; rw [List.length_append] at this; omega
  -- the right half
  obtain ⟨M2, s2, t2, u2⟩ : ∃ M2, Srt ltA M2 ∧ Stb ltA (L2 ++ R2) M2 ∧ cond (cond (ltI (mid : Int) ((P.length + L.length + (mid - k) : Nat) : Int)) (ltI ((P.length + L.length + (mid - k) : Nat) : Int) ((P.length + L.length + R.length : Nat) : Int)) false) (g68n n (P ++ M1 ++ (L2 ++ R2 ++ S)) (mid : Int) ((P.length + L.length + (mid - k) : Nat) : Int) ((P.length + L.length + R.length : Nat) : Int)) (some (((P ++ M1 ++ (L2 ++ R2 ++ S), ()), ()), ())) = some (((P ++ (M1 ++ M2) ++ S, ()), ()), ()) := by
    by_cases z1 : 0 < L2.length
    · by_cases z2 : 0 < R2.length
      · obtain ⟨M, m1, m2, m3⟩ := ih (P ++ M1) L2 R2 S (by omega) z1 z2 sL.2.1 sR.2.1 (by simp only [big40, List.length_append]; omega)
        refine ⟨M, m1, m2, ?_⟩
        rw [ltI_yes (by omega), ltI_yes (by omega)]
        dsimp only [cond_true]
        rw [show (((P ++ M1).length : Nat) : Int) = (mid : Int) by simp only [List.length_append]; omega, show (((P ++ M1).length + L2.length : Nat) : Int) = ((P.length + L.length + (mid - k) : Nat) : Int) by simp only [List.length_append]; omega, show (((P ++ M1).length + L2.length + R2.length : Nat) : Int) = ((P.length + L.length + R.length : Nat) : Int) by simp only [List.length_append]; omega] at m3
        have e1 : P ++ M1 ++ L2 ++ R2 ++ S = P ++ M1 ++ (L2 ++ R2 ++ S) := by simp
        rw [e1] at m3
        rw [m3]
        simp
      · have hz : R2 = [] := List.length_eq_zero_iff.1 (by omega)
        refine ⟨L2, sL.2.1, by rw [hz, List.append_nil]; exact Stb.refl _, ?_⟩
        rw [ltI_no (a := ((P.length + L.length + (mid - k) : Nat) : Int)) (by omega), hz]
        cases ltI (mid : Int) ((P.length + L.length + (mid - k) : Nat) : Int) <;> simp
    · have hz : L2 = [] := List.length_eq_zero_iff.1 (by omega)
      refine ⟨R2, sR.2.1, by rw [hz]; exact Stb.refl _, ?_⟩
      rw [ltI_no (a := (mid : Int)) (by omega), hz]
      simp
  refine ⟨M1 ++ M2, Srt_append.2 ⟨s1, s2, fun x hx y hy => ?_⟩, ?_, ?_⟩
  · rcases List.mem_append.1 ((t1.mem swoA).2 hx) with hx | hx
    · rcases List.mem_append.1 ((t2.mem swoA).2 hy) with hy | hy
      · exact sL.2.2 x hx y hy
      · exact xLR x hx y hy
    · rcases List.mem_append.1 ((t2.mem swoA).2 hy) with hy | hy
      · exact asymA (xRL x hx y hy)
      · exact sR.2.2 x hx y hy
  · have h1 : Stb ltA (L2 ++ R1) (R1 ++ L2) := Stb.swap swoA fun y hy x hx => xRL x hx y hy
    have h2 := ((Stb.refl L1).append h1).append (Stb.refl R2)
    have h3 := t1.append t2
    have e1 : L ++ R = L1 ++ (L2 ++ R1) ++ R2 := by rw [hLe, hRe]; simp
    have e2 : L1 ++ (R1 ++ L2) ++ R2 = L1 ++ R1 ++ (L2 ++ R2) := by simp
    rw [e1]
    rw [e2] at h2
    exact h2.trans h3
  · rw [hsp]
    unfold symTail
    rw [st1]
    dsimp only [Option.bind_some]
    rw [u1]
    dsimp only [Option.bind_some]
    rw [u2]
    rfl
theorem merge_g (P L R S : List AcctT) (h2 : 0 < L.length) (h3 : 0 < R.length) (hL : Srt ltA L) (hR : Srt ltA R) (hl : (P ++ L ++ R ++ S).length ≤ big40) :
    ∃ M, Srt ltA M ∧ Stb ltA (L ++ R) M ∧ g68 (P ++ L ++ R ++ S) (P.length : Int) ((P.length + L.length : Nat) : Int) ((P.length + L.length + R.length : Nat) : Int) = some (((P ++ M ++ S, ()), ()), ()) := by
  obtain ⟨M, m1, m2, m3⟩ := sym_g (L.length + R.length) P L R S (Nat.le_refl _) h2 h3 hL hR hl
  refine ⟨M, m1, m2, fixG_eq (n := L.length + R.length) fun m hm => ?_⟩
  obtain ⟨M', p1, p2, p3⟩ := sym_g m P L R S hm h2 h3 hL hR hl
  rw [p3, srt_uniq swoA p1 m1 (p2.symm.trans m2)]
def Chk (k : Nat) (cs : List (List AcctT)) : Prop := ∀ c ∈ cs, c.length = k ∧ Srt ltA c
theorem chk_len {k : Nat} : ∀ {cs : List (List AcctT)}, Chk k cs → cs.flatten.length = cs.length * k
  | [], _ => by simp
  | c :: cs, h => by
    have h1 := (h c (List.mem_cons_self ..)).1
    have h2 := chk_len (cs := cs) fun x hx => h x (List.mem_cons_of_mem _ hx)
    rw [List.flatten_cons, List.length_append, h1, h2, List.length_cons, Nat.add_mul, Nat.one_mul, Nat.add_comm]
theorem blk1_loop (N : Nat) : ∀ (n : Nat) (P R : List AcctT), R.length = n → (P ++ R).length = N → N ≤ 4194304 →
    ∃ (cs : List (List AcctT)) (T : List AcctT), Chk 20 cs ∧ T.length < 20 ∧ Stb ltA R (cs.flatten ++ T) ∧
      l55_0 (P ++ R) (N : Int) () 20 (P.length : Int) ((P.length + 20 : Nat) : Int) = some (.inl (P ++ cs.flatten ++ T, (N : Int), (), 20, ((N - T.length : Nat) : Int), ((N - T.length + 20 : Nat) : Int), ())) := by
  intro n
  induction n using Nat.strongRecOn with
  | _ n ih =>
  intro P R hn hN hB
  have hN' := hN
  rw [List.length_append] at hN'
  by_cases h : R.length < 20
  · refine ⟨[], R, fun c hc => by simp at hc, h, Stb.refl _, loopF_end _ ?_⟩
    show r55_0 (P ++ R) (N : Int) () 20 (P.length : Int) ((P.length + 20 : Nat) : Int) = _
    unfold r55_0
    have : leI ((P.length + 20 : Nat) : Int) (N : Int) = false := decide_eq_false (by omega)
    rw [this]
    have e : N - R.length = P.length := by omega
    rw [e]
    simp
  · obtain ⟨L, S, rfl, hL⟩ : ∃ L S, R = L ++ S ∧ L.length = 20 := ⟨R.take 20, R.drop 20, (List.take_append_drop _ _).symm, by rw [List.length_take]; omega⟩
    simp only [List.length_append] at hN' hn h
    obtain ⟨M, m1, m2, m3⟩ := ins_g P L S (by simp only [big40, List.length_append]; omega)
    have hM : M.length = 20 := by rw [← m2.1]; exact hL
    obtain ⟨cs, T, q1, q2, q3, q4⟩ := ih S.length (by omega) (P ++ M) S rfl (by simp only [List.length_append]; omega) hB
    refine ⟨M :: cs, T, fun c hc => ?_, q2, ?_, ?_⟩
    · rcases List.mem_cons.1 hc with rfl | hc
      · exact ⟨hM, m1⟩
      · exact q1 c hc
    · have := m2.append q3
      rw [List.flatten_cons, List.append_assoc]
      exact this
    · have e1 : P ++ M ++ cs.flatten ++ T = P ++ (M :: cs).flatten ++ T := by simp
      rw [e1] at q4
      refine loopF_step _ ?_ q4
      show r55_0 (P ++ (L ++ S)) (N : Int) () 20 (P.length : Int) ((P.length + 20 : Nat) : Int) = _
      unfold r55_0
      have k1 : leI ((P.length + 20 : Nat) : Int) (N : Int) = true := decide_eq_true (by omega)
      have e2 : P ++ (L ++ S) = P ++ L ++ S := by simp
      rw [hL] at m3
      rw [k1, e2, m3]
      dsimp only [cond_true, Option.bind_some]
      have k2 : addW .i64 ((P.length + 20 : Nat) : Int) 20 = (((P ++ M).length + 20 : Nat) : Int) := by rw [addW_in (by omega) (by omega)]; simp only [List.length_append]; omega
      have k3 : ((P.length + 20 : Nat) : Int) = ((P ++ M).length : Int) := by simp only [List.length_append]; omega
      rw [k2, k3]
theorem mul2 {k : Nat} (h : k ≤ 1073741824) : mulW .i64 2 (k : Int) = ((2 * k : Nat) : Int) ∧ mulW .i64 (k : Int) 2 = ((2 * k : Nat) : Int) := by
  unfold mulW
  rw [IntWalk.i64_in _ (by omega), IntWalk.i64_in _ (by omega)]
  omega
theorem blk2_loop (N k : Nat) (hk : 0 < k) (hkB : k ≤ 1073741824) (hB : N ≤ 4194304) (T : List AcctT) (hT : T.length < k) : ∀ (n : Nat) (cs : List (List AcctT)) (P : List AcctT), cs.length = n → Chk k cs → (P ++ cs.flatten ++ T).length = N →
    ∃ (ds c2 : List (List AcctT)) (b' : Int), Chk (2 * k) ds ∧ Chk k c2 ∧ c2.length ≤ 1 ∧ Stb ltA cs.flatten (ds.flatten ++ c2.flatten) ∧
      l55_4 (P ++ cs.flatten ++ T) (N : Int) () (k : Int) (P.length : Int) ((P.length + 2 * k : Nat) : Int) = some (.inl (P ++ ds.flatten ++ c2.flatten ++ T, (N : Int), (), (k : Int), ((P ++ ds.flatten).length : Int), b', ())) := by
  intro n
  induction n using Nat.strongRecOn with
  | _ n ih =>
  intro cs P hn hc hN
  have hN' := hN
  simp only [List.length_append] at hN'
  have stop : cs.length ≤ 1 → ∃ (ds c2 : List (List AcctT)) (b' : Int), Chk (2 * k) ds ∧ Chk k c2 ∧ c2.length ≤ 1 ∧ Stb ltA cs.flatten (ds.flatten ++ c2.flatten) ∧
      l55_4 (P ++ cs.flatten ++ T) (N : Int) () (k : Int) (P.length : Int) ((P.length + 2 * k : Nat) : Int) = some (.inl (P ++ ds.flatten ++ c2.flatten ++ T, (N : Int), (), (k : Int), ((P ++ ds.flatten).length : Int), b', ())) := fun h1 => by
    refine ⟨[], cs, ((P.length + 2 * k : Nat) : Int), fun c hc => by simp at hc, hc, h1, by simpa using Stb.refl _, loopF_end _ ?_⟩
    show r55_4 (P ++ cs.flatten ++ T) (N : Int) () (k : Int) (P.length : Int) ((P.length + 2 * k : Nat) : Int) = _
    unfold r55_4
    have hf := chk_len hc
    have : cs.length * k ≤ k := by
      have := Nat.mul_le_mul_right k h1
      omega
    have : leI ((P.length + 2 * k : Nat) : Int) (N : Int) = false := decide_eq_false (by omega)
    rw [this]
    simp
  cases cs with
  | nil => exact stop (by simp)
  | cons c1 cs =>
  cases cs with
  | nil => exact stop (by simp)
  | cons c2 cs =>
    have h1 := hc c1 (by simp)
    have h2 := hc c2 (by simp)
    have h3 : Chk k cs := fun c h => hc c (by simp [h])
    simp only [List.flatten_cons, List.length_append] at hN'
    obtain ⟨M, m1, m2, m3⟩ := merge_g P c1 c2 (cs.flatten ++ T) (by omega) (by omega) h1.2 h2.2 (by simp only [big40, List.length_append]; omega)
    have hM : M.length = 2 * k := by have := m2.1; rw [List.length_append] at this; omega
    obtain ⟨ds, e2, b', q1, q2, q3, q4, q5⟩ := ih cs.length (by simp only [List.length_cons] at hn; omega) cs (P ++ M) rfl h3 (by simp only [List.length_append]; omega)
    refine ⟨M :: ds, e2, b', fun d hd => ?_, q2, q3, ?_, ?_⟩
    · rcases List.mem_cons.1 hd with rfl | hd
      · exact ⟨hM, m1⟩
      · exact q1 d hd
    · have := m2.append q4
      simpa using this
    · have e3 : P ++ M ++ ds.flatten ++ e2.flatten ++ T = P ++ (M :: ds).flatten ++ e2.flatten ++ T := by simp
      have e4 : P ++ M ++ ds.flatten = P ++ (M :: ds).flatten := by simp
      rw [e3, e4] at q5
      refine loopF_step _ ?_ q5
      show r55_4 (P ++ (c1 :: c2 :: cs).flatten ++ T) (N : Int) () (k : Int) (P.length : Int) ((P.length + 2 * k : Nat) : Int) = _
      unfold r55_4
      have k1 : leI ((P.length + 2 * k : Nat) : Int) (N : Int) = true := decide_eq_true (by omega)
      have e5 : P ++ (c1 :: c2 :: cs).flatten ++ T = P ++ c1 ++ c2 ++ (cs.flatten ++ T) := by simp
      have k2 : addW .i64 (P.length : Int) (k : Int) = ((P.length + c1.length : Nat) : Int) := by rw [addW_in (by omega) (by omega)]; omega
      have k3 : ((P.length + 2 * k : Nat) : Int) = ((P.length + c1.length + c2.length : Nat) : Int) := by omega
      rw [k1, (mul2 hkB).1, k2, k3, e5, m3]
      dsimp only [cond_true, Option.bind_some]
      have k4 : addW .i64 ((P.length + c1.length + c2.length : Nat) : Int) ((2 * k : Nat) : Int) = (((P ++ M).length + 2 * k : Nat) : Int) := by rw [addW_in (by omega) (by omega)]; simp only [List.length_append]; omega
      have k5 : ((P.length + c1.length + c2.length : Nat) : Int) = ((P ++ M).length : Int) := by simp only [List.length_append]; omega
      rw [k4, k5]
      simp
theorem blk3_loop (N : Nat) (hB : N ≤ 4194304) : ∀ (f k : Nat) (cs : List (List AcctT)) (T : List AcctT), N - k ≤ f → 0 < k → k ≤ 8388608 → Chk k cs → T.length < k → Srt ltA T → (cs.flatten ++ T).length = N →
    ∃ (M : List AcctT) (k' : Int), Srt ltA M ∧ Stb ltA (cs.flatten ++ T) M ∧ l55_2 (cs.flatten ++ T) (N : Int) () (k : Int) = some (.inl (M, (N : Int), (), k', ())) := by
  intro f
  induction f using Nat.strongRecOn with
  | _ f ih =>
  intro k cs T hf hk hkB hc hT hTs hN
  have hN' := hN
  rw [List.length_append, chk_len hc] at hN'
  by_cases h : k < N
  · obtain ⟨ds, c2, b', q1, q2, q3, q4, q5⟩ := blk2_loop N k hk (by omega) hB T hT cs.length cs [] rfl hc (by simpa using hN)
    simp only [List.nil_append, List.length_nil, Nat.zero_add] at q5
    have q5' : l55_4 (cs.flatten ++ T) (N : Int) () (k : Int) 0 ((2 * k : Nat) : Int) = _ := q5
    have hlen : ds.flatten.length + c2.flatten.length + T.length = N := by
      have := q4.1
      rw [List.length_append] at this
      rw [List.length_append] at hN
      omega
    -- the rest behind the pairs
    obtain ⟨T', t1, t2, t3, t4⟩ : ∃ T', T'.length < 2 * k ∧ Srt ltA T' ∧ Stb ltA (c2.flatten ++ T) T' ∧
        r55_2 (cs.flatten ++ T) (N : Int) () (k : Int) = some (.inl (ds.flatten ++ T', (N : Int), (), ((2 * k : Nat) : Int), ())) := by
      unfold r55_2
      rw [ltI_yes (by omega), (mul2 (by omega)).1, q5']
      dsimp only [cond_true, Option.bind_some, Sum.elim_inl]
      rw [(mul2 (k := k) (by omega)).2]
      have k2 : addW .i64 ((ds.flatten.length : Nat) : Int) (k : Int) = ((ds.flatten.length + k : Nat) : Int) := by rw [addW_in (by omega) (by omega)]; omega
      rw [k2]
      cases c2 with
      | nil =>
        simp only [List.flatten_nil, List.length_nil, Nat.add_zero] at hlen
        refine ⟨T, by omega, hTs, by simpa using Stb.refl _, ?_⟩
        rw [ltI_no (by omega)]
        simp
      | cons c c2 =>
        have : c2 = [] := List.length_eq_zero_iff.1 (by simp only [List.length_cons] at q3; omega)
        subst this
        have hcc := q2 c (by simp)
        simp only [List.flatten_cons, List.flatten_nil, List.append_nil] at hlen ⊢
        by_cases hz : 0 < T.length
        · obtain ⟨M, m1, m2, m3⟩ := merge_g ds.flatten c T [] (by omega) hz hcc.2 hTs (by simp only [big40, List.length_append, List.length_nil]; omega)
          refine ⟨M, by have := m2.1; rw [List.length_append] at this; omega, m1, m2, ?_⟩
          rw [hcc.1] at m3
          rw [show ((ds.flatten.length + k + T.length : Nat) : Int) = (N : Int) by omega, List.append_nil, List.append_nil] at m3
          rw [ltI_yes (by omega), m3]
          simp
        · have : T = [] := List.length_eq_zero_iff.1 (by omega)
          subst this
          refine ⟨c, by omega, hcc.2, by simpa using Stb.refl _, ?_⟩
          rw [ltI_no (by simp only [List.length_nil] at hlen; omega)]
          simp
    obtain ⟨M, k', m1, m2, m3⟩ := ih (N - 2 * k) (by omega) (2 * k) ds T' (Nat.le_refl _) (by omega) (by omega) q1 t1 t2 (by have := t3.1; rw [List.length_append] at this ⊢; omega)
    refine ⟨M, k', m1, ?_, loopF_step _ t4 m3⟩
    have h1 := q4.append (Stb.refl T)
    have h2 := (Stb.refl ds.flatten).append t3
    rw [List.append_assoc] at h1
    exact (h1.trans h2).trans m2
  · refine ⟨cs.flatten ++ T, (k : Int), ?_, Stb.refl _, loopF_end _ ?_⟩
    · cases cs with
      | nil => simpa using hTs
      | cons c cs =>
        simp only [List.length_cons, Nat.add_mul, Nat.one_mul] at hN'
        have h0 : T = [] := List.length_eq_zero_iff.1 (by omega)
        have h1 : cs = [] := by
          cases cs with
          | nil => rfl
          | cons d cs => simp only [List.length_cons, Nat.add_mul, Nat.one_mul] at hN'; omega
        subst h0; subst h1
        simpa using (hc c (by simp)).2
    · show r55_2 (cs.flatten ++ T) (N : Int) () (k : Int) = _
      unfold r55_2
      rw [ltI_no (by omega)]
      rfl
theorem sort_g (xs : List AcctT) (hB : xs.length ≤ 4194304) : ∃ M, Srt ltA M ∧ Stb ltA xs M ∧ g32 xs = some (((M, ()), ()), ()) := by
  obtain ⟨cs, T, q1, q2, q3, q4⟩ := blk1_loop xs.length xs.length [] xs rfl rfl hB
  simp only [List.nil_append, List.length_nil, Nat.zero_add] at q4
  have hlen : cs.flatten.length + T.length = xs.length := by have := q3.1; rw [List.length_append] at this; omega
  obtain ⟨T', t1, t2, t3⟩ := ins_g cs.flatten T [] (by simp only [big40, List.length_append, List.length_nil]; omega)
  rw [List.append_nil, List.append_nil] at t3
  have hT' : T'.length = T.length := t2.1.symm
  obtain ⟨M, k', m1, m2, m3⟩ := blk3_loop xs.length hB (xs.length) 20 cs T' (by omega) (by decide) (by decide) q1 (by omega) t1 (by rw [List.length_append]; omega)
  refine ⟨M, m1, (q3.trans ((Stb.refl _).append t2)).trans m2, ?_⟩
  have q4' : l55_0 xs (lenI xs) () 20 0 20 = _ := q4
  have e1 : ((cs.flatten.length + T.length : Nat) : Int) = (xs.length : Int) := by omega
  have e2 : ((xs.length - T.length : Nat) : Int) = (cs.flatten.length : Int) := by omega
  rw [e1] at t3
  unfold g32 g55
  rw [q4']
  dsimp only [Option.bind_some, Sum.elim_inl]
  rw [e2, t3]
  dsimp only [Option.bind_some]
  have m3' : l55_2 (cs.flatten ++ T') (xs.length : Int) () 20 = _ := m3
  rw [m3']
  rfl
theorem ins_find (out : List AcctT) (x : AcctT) (hS : Srt ltA out) (hl : out.length ≤ 4194304) (t11 : List (R62)) (t12 t13 : Int) (t18 : List AcctT) (t19 t20 : Int) (b2 : List AcctT × Unit) : ∀ (n : Nat) (A B : List AcctT), out = A ++ B → A.length = n → (∀ y ∈ B, ltA x y = true) →
    ∃ A' B', out = A' ++ B' ∧ (∀ y ∈ B', ltA x y = true) ∧ (∀ y ∈ A', ltA x y = false) ∧ l15_4 out (A.length : Int) t11 t12 t13 t18 t19 t20 b2 x = some (.inl (out, (A'.length : Int), t11, t12, t13, t18, t19, t20, b2, x, ())) := by
  have hbig : big = 140737488355328 := rfl
  intro n
  induction n with
  | zero =>
    intro A B hAB hn hB
    have : A = [] := List.length_eq_zero_iff.1 hn
    subst this
    refine ⟨[], B, hAB, hB, fun y hy => by simp at hy, loopF_end _ ?_⟩
    show r15_4 out 0 t11 t12 t13 t18 t19 t20 b2 x = _
    unfold r15_4
    rfl
  | succ n ih =>
    intro A B hAB hn hB
    obtain ⟨C, y, rfl⟩ := snoc_of (a := A) (fun h => by subst h; simp at hn)
    have hC : C.length = n := by simpa using hn
    have hlen := congrArg List.length hAB
    simp only [List.length_append, List.length_cons, List.length_nil] at hlen
    have k1 : subW .i64 ((C ++ [y]).length : Int) 1 = (C.length : Int) := by rw [subW_in (by simp only [List.length_append, List.length_cons, List.length_nil]; omega) (by simp only [List.length_append, List.length_cons, List.length_nil]; omega)]; simp only [List.length_append, List.length_cons, List.length_nil]; omega
    have e0 : out = C ++ y :: B := by rw [hAB]; simp
    have i1 : inB (C.length : Int) out = true := by rw [e0]; exact inB_app _ _ _ rfl
    have g1 : gt d68 out (C.length : Int) = y := by rw [e0]; exact gt_app _ _ _ _ rfl
    have hstep : r15_4 out ((C ++ [y]).length : Int) t11 t12 t13 t18 t19 t20 b2 x = cond (ltA x y) (some (.inl (out, (C.length : Int), t11, t12, t13, t18, t19, t20, b2, x, ()))) (some (.inr (.inl (out, ((C ++ [y]).length : Int), t11, t12, t13, t18, t19, t20, b2, x, ())))) := by
      unfold r15_4
      rw [ltI_yes (by simp only [List.length_append, List.length_cons, List.length_nil]; omega)]
      dsimp only [cond_true]
      rw [k1, i1, g1, leS_not]
      dsimp only [cond_true]
      rw [Bool.not_not]
    cases hc : ltA x y with
    | true =>
      rw [hc] at hstep
      obtain ⟨A', B', r1, r2, r3, r4⟩ := ih C (y :: B) e0 hC (fun z hz => by
        rcases List.mem_cons.1 hz with rfl | hz
        · exact hc
        · exact hB z hz)
      exact ⟨A', B', r1, r2, r3, loopF_step _ hstep r4⟩
    | false =>
      rw [hc] at hstep
      refine ⟨C ++ [y], B, hAB, hB, fun z hz => ?_, loopF_end _ hstep⟩
      rcases List.mem_append.1 hz with hz | hz
      · rw [hAB] at hS
        have := (Srt_append.1 (Srt_append.1 hS).1).2.2 z hz y (by simp)
        exact swoA.le_trans this hc
      · simp only [List.mem_singleton] at hz; subst hz; exact hc
abbrev StrT := Int × List AcctT × Unit
def allA (l : List StrT) : List AcctT := (l.map fun s => s.2.1).flatten
def GatB (l : List StrT) : Prop := l.length ≤ 1048576 ∧ (allA l).length ≤ 1048576 ∧ ∀ s ∈ l, ∀ a ∈ s.2.1, AcctB a
theorem allA_take {l : List StrT} {i : Nat} {s : StrT} (h : l[i]? = some s) : allA (l.take (i + 1)) = allA (l.take i) ++ s.2.1 := by
  unfold allA
  rw [List.take_add_one, h]
  simp
theorem allA_le (l : List StrT) (i : Nat) : (allA (l.take i)).length ≤ (allA l).length := by
  have : allA l = allA (l.take i) ++ allA (l.drop i) := by
    unfold allA
    rw [← List.flatten_append, ← List.map_append, List.take_append_drop]
  rw [this, List.length_append]
  omega
theorem gat_in (base acc : List AcctT) (hb : ∀ a ∈ acc, AcctB a) (hl : (base ++ acc).length ≤ 1048576) (t11 : List StrT) (t12 t13 : Int) (b2 : List AcctT × Unit) (out : List AcctT) (h1 : Srt ltA out) (h2 : Stb ltA base out) :
    ∃ M, (Srt ltA M ∧ Stb ltA (base ++ acc.take acc.length) M) ∧ l15_2 out t11 t12 t13 acc (lenI acc) 0 b2 = some (.inl (M, t11, t12, t13, acc, lenI acc, (acc.length : Int), b2, ())) := by
  have hbig : big = 140737488355328 := rfl
  rw [List.length_append] at hl
  refine loop_post (step := fun (z : (List AcctT) × (List StrT) × Int × Int × (List AcctT) × Int × Int × ((List AcctT) × Unit) × Unit) => r15_2 z.1 z.2.1 z.2.2.1 z.2.2.2.1 z.2.2.2.2.1 z.2.2.2.2.2.1 z.2.2.2.2.2.2.1 z.2.2.2.2.2.2.2.1) acc (fun i (o : List AcctT) => (o, t11, t12, t13, acc, lenI acc, ((i : Nat) : Int), b2, ())) (fun o => .inl (o, t11, t12, t13, acc, lenI acc, (acc.length : Int), b2, ())) (fun i o => Srt ltA o ∧ Stb ltA (base ++ acc.take i) o) (fun i x o hx ho => ?_) (fun o ho => ?_) acc.length 0 out (by omega) ⟨h1, by simpa using h2⟩
  · have hlt := lt_of_get hx
    have hxB := hb x (List.mem_of_getElem? hx)
    have hol : o.length ≤ 1048576 := by
      have := ho.2.1
      rw [List.length_append, List.length_take] at this
      omega
    obtain ⟨A, B, r1, r2, r3, r4⟩ := ins_find o x ho.1 (by omega) t11 t12 t13 acc (lenI acc) (i : Int) b2 o.length o [] (by simp) rfl (fun y hy => by simp at hy)
    have hAB : o.length = A.length + B.length := by rw [r1, List.length_append]
    refine ⟨A ++ [x] ++ B, ?_, ?_, ?_⟩
    · show r15_2 o t11 t12 t13 acc (lenI acc) (i : Int) b2 = _
      unfold r15_2
      have r4' : l15_4 o (lenI o) t11 t12 t13 acc (lenI acc) (i : Int) b2 x = _ := r4
      have f1 : cutB 0 (A.length : Int) o = true := by
        show (decide ((0 : Int) ≤ 0) && (decide ((0 : Int) ≤ (A.length : Int)) && decide ((A.length : Int) ≤ (o.length : Int)))) = true
        rw [decide_eq_true (by omega), decide_eq_true (by omega), decide_eq_true (by omega)]; rfl
      have f2 : fitN 160 [] o (A.length : Int) = true := Nat.ble_eq_true_of_le (by simp only [List.length_nil, Int.toNat_natCast]; omega)
      have f3 : tkI o (A.length : Int) = A := by unfold tkI; rw [Int.toNat_natCast, r1]; simp
      have f4 : drI o (A.length : Int) = B := by unfold drI; rw [Int.toNat_natCast, r1]; simp
      have f5 : preI (A.length : Int) (A.length : Int) = true := by
        unfold preI preB leI
        rw [decide_eq_true (by omega), Nat.beq_refl]; rfl
      have f6 : fitB 160 (apL [] A) [x] = true := Nat.ble_eq_true_of_le (by show ((([] : List AcctT) ++ A).length + 1) * 160 ≤ big; simp only [List.nil_append]; omega)
      have f7 : fitB 160 (apL (apL [] A) [x]) B = true := Nat.ble_eq_true_of_le (by show ((([] : List AcctT) ++ A ++ [x]).length + B.length) * 160 ≤ big; simp only [List.nil_append, List.length_append, List.length_cons, List.length_nil]; omega)
      rw [ltI_in hx, inB_in hx, gt_in _ hx, r4']
      dsimp only [cond_true, Option.bind_some, Sum.elim_inl]
      rw [f1, f2, f3, f4, f5, acctCp_s x hxB, addW1 (by omega)]
      dsimp only [cond_true, Option.bind_some]
      rw [f6, f7]
      rfl
    · have hs := ho.1
      rw [r1] at hs
      have hs := Srt_append.1 hs
      rw [List.append_assoc]
      refine Srt_append.2 ⟨hs.1, List.pairwise_cons.2 ⟨fun y hy => asymA (r2 y hy), hs.2.1⟩, fun y hy z hz => ?_⟩
      rcases List.mem_cons.1 hz with rfl | hz
      · exact r3 y hy
      · exact hs.2.2 y hy z hz
    · have e1 : base ++ acc.take (i + 1) = base ++ acc.take i ++ [x] := by rw [List.take_add_one, hx]; simp
      rw [e1]
      have q1 := ho.2.append (Stb.refl [x])
      have q2 : Stb ltA (B ++ [x]) ([x] ++ B) := Stb.swap swoA fun y hy z hz => by
        simp only [List.mem_singleton] at hz; subst hz; exact r2 y hy
      have q3 := (Stb.refl A).append q2
      rw [r1] at q1
      rw [List.append_assoc A] at q1
      rw [List.append_assoc A]
      exact q1.trans q3
  · show r15_2 o t11 t12 t13 acc (lenI acc) (acc.length : Int) b2 = _
    unfold r15_2
    rw [ltI_out rfl]; rfl
theorem gather_s (l : List StrT) (hB : GatB l) : ∃ M, (Srt ltA M ∧ Stb ltA (allA l) M) ∧ g15 l = some ((), ((M, ()), ())) := by
  have hbig : big = 140737488355328 := rfl
  have hl := hB.1
  obtain ⟨M, ⟨m1, m2⟩, m3⟩ := loop_post (step := fun (z : (List AcctT) × (List StrT) × Int × Int × ((List AcctT) × Unit) × Unit) => r15_0 z.1 z.2.1 z.2.2.1 z.2.2.2.1 z.2.2.2.2.1) l (fun j (o : List AcctT) => (o, l, lenI l, ((j : Nat) : Int), (([] : List AcctT), ()), ())) (fun o => .inl (o, l, lenI l, (l.length : Int), ([], ()), ())) (fun j o => Srt ltA o ∧ Stb ltA (allA (l.take j)) o) (fun j s o hx ho => by
      have hlt := lt_of_get hx
      have hs := hB.2.2 s (List.mem_of_getElem? hx)
      have e1 := allA_take hx
      have e2 := allA_le l (j + 1)
      have e3 := hB.2.1
      obtain ⟨M, ⟨m1, m2⟩, m3⟩ := gat_in (allA (l.take j)) s.2.1 hs (by rw [← e1]; omega) l (lenI l) (j : Int) ([], ()) o ho.1 ho.2
      rw [List.take_length, ← e1] at m2
      refine ⟨M, ?_, m1, m2⟩
      show r15_0 o l (lenI l) (j : Int) ([], ()) = _
      unfold r15_0
      rw [ltI_in hx, inB_in hx, gt_in _ hx]
      dsimp only [cond_true]
      rw [m3]
      dsimp only [Option.bind_some, Sum.elim_inl]
      rw [addW1 (by omega)]) (fun o ho => by
      show r15_0 o l (lenI l) (l.length : Int) ([], ()) = _
      unfold r15_0
      rw [ltI_out rfl]; rfl) l.length 0 [] (by omega) ⟨Srt_nil, Stb.refl _⟩
  rw [List.take_length] at m2
  refine ⟨M, ⟨m1, m2⟩, ?_⟩
  unfold g15
  have m3' : l15_0 [] l (lenI l) 0 ([], ()) = _ := m3
  rw [m3']
  rfl
theorem copied_i (acc : List AcctT) (hb : ∀ a ∈ acc, AcctB a) (hl : acc.length ≤ 1048576) : g31 (acc, ()) = some ((), ((acc, ()), ())) := by
  have hbig : big = 140737488355328 := rfl
  unfold g31 g53
  have h := loop_inv (step := fun (z : Unit × (List AcctT) × Int × Int × ((List AcctT) × Unit) × ((List AcctT) × Unit) × Unit) => r53_0 z.1 z.2.1 z.2.2.1 z.2.2.2.1 z.2.2.2.2.1 z.2.2.2.2.2.1) acc (fun i (a : List AcctT) => ((), acc, lenI acc, ((i : Nat) : Int), (([] : List AcctT), ()), (a, ()), ())) (fun _ x a => Sum.inl (a ++ [x])) (fun a => .inl ((), acc, lenI acc, (acc.length : Int), ([], ()), (a, ()), ())) (fun i a => a.length = i) (a0 := []) rfl (fun i x a hx ha => by
      have hlt := lt_of_get hx
      show r53_0 () acc (lenI acc) (i : Int) ([], ()) (a, ()) = _
      unfold r53_0
      have e : ∀ y : AcctT, fitB 160 a [y] = true := fun y => Nat.ble_eq_true_of_le (by simp; omega)
      rw [ltI_in hx, inB_in hx, gt_in _ hx, acctCp_i x (hb x (List.mem_of_getElem? hx)), addW1 (by omega)]
      dsimp only [cond_true, Option.bind_some]
      rw [e]
      rfl) (fun i x a a' hx ha hf => by
      simp only [Sum.inl.injEq] at hf
      rw [← hf, List.length_append, ha]; rfl) (fun a ha => by
      show r53_0 () acc (lenI acc) (acc.length : Int) ([], ()) (a, ()) = _
      unfold r53_0
      rw [ltI_out rfl]; rfl)
  rw [goL_cp] at h
  have h' : l53_0 () acc (lenI acc) 0 ([], ()) ([], ()) = _ := h
  dsimp only
  rw [h']
  rfl
theorem gather_i (l : List StrT) (hB : GatB l) : ∃ M, (Srt ltA M ∧ Stb ltA (allA l) M) ∧ g18 l = some ((), ((M, ()), ())) := by
  have hbig : big = 140737488355328 := rfl
  have hl := hB.1
  have hl2 := hB.2.1
  obtain ⟨o, ho, hm⟩ := loop_post (step := fun (z : (List StrT) × Int × Int × ((List AcctT) × Unit) × ((List AcctT) × Unit) × Unit) => r18_0 z.1 z.2.1 z.2.2.1 z.2.2.2.1 z.2.2.2.2.1) l (fun j (o : List AcctT) => (l, lenI l, ((j : Nat) : Int), (([] : List AcctT), ()), (o, ()), ())) (fun o => .inl (l, lenI l, (l.length : Int), ([], ()), (o, ()), ())) (fun j o => o = allA (l.take j)) (fun j s o hx ho => by
      have hlt := lt_of_get hx
      have hs := hB.2.2 s (List.mem_of_getElem? hx)
      have e1 := allA_take hx
      have e2 := allA_le l (j + 1)
      rw [e1, List.length_append] at e2
      refine ⟨o ++ s.2.1, ?_, by rw [ho, e1]⟩
      show r18_0 l (lenI l) (j : Int) ([], ()) (o, ()) = _
      unfold r18_0
      have e : fitB 160 o s.2.1 = true := Nat.ble_eq_true_of_le (by rw [ho]; omega)
      rw [ltI_in hx, inB_in hx, gt_in _ hx]
      dsimp only [cond_true]
      rw [copied_i s.2.1 hs (by omega)]
      dsimp only [cond_true, Option.bind_some]
      rw [e, addW1 (by omega)]
      rfl) (fun o ho => by
      show r18_0 l (lenI l) (l.length : Int) ([], ()) (o, ()) = _
      unfold r18_0
      rw [ltI_out rfl]; rfl) l.length 0 [] (by omega) rfl
  rw [List.take_length] at ho
  subst ho
  obtain ⟨M, m1, m2, m3⟩ := sort_g (allA l) (by omega)
  refine ⟨M, ⟨m1, m2⟩, ?_⟩
  unfold g18
  have hm' : l18_0 l (lenI l) 0 ([], ()) ([], ()) = _ := hm
  rw [hm']
  dsimp only [Option.bind_some, Sum.elim_inl]
  rw [m3]
  rfl
theorem gather_eq (l : List StrT) (hB : GatB l) : ∃ M, M.length = (allA l).length ∧ (∀ x ∈ M, x ∈ allA l) ∧ Stb ltA (allA l) M ∧ g15 l = some ((), ((M, ()), ())) ∧ g18 l = some ((), ((M, ()), ())) := by
  obtain ⟨M, ⟨m1, m2⟩, m3⟩ := gather_s l hB
  obtain ⟨M', ⟨p1, p2⟩, p3⟩ := gather_i l hB
  have e := srt_uniq swoA p1 m1 (p2.symm.trans m2)
  subst e
  exact ⟨M', p2.1.symm, fun x hx => (p2.mem swoA).2 hx, p2, m3, p3⟩
end Go.Av
