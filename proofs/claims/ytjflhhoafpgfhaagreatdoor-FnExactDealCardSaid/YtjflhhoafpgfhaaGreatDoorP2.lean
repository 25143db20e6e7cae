/- Part of a proof that the law FnExactDeal answers true for every input: the printed functions of this program and their plain laws. No conditions beyond the statement. -/
import Derived.Test.YtjflhhoafpgfhaaGreatDoorP1
import Derived.Test.YtjflhhoafpgfhaaGreatDoorFw4
set_option maxRecDepth 100000
set_option maxHeartbeats 4000000
namespace Go.Av
theorem text_loop : ∀ (n : Nat) (t : Int) (s : List UInt8), 0 ≤ t → t < 10 ^ n → n ≤ 18 → s.length + n ≤ 1000 → ∃ t' s', l111_0 t s = some (.inl (t', s', ())) ∧ s'.length ≤ s.length + n := by
 intro n
 have hbig : big = 140737488355328 := rfl
 induction n with
 | zero =>
   intro t s h0 h1 h3 h2
   refine ⟨t, s, ?_, by omega⟩
   have : t = 0 := by simp at h1; omega
   subst this
   exact loopF_end _ (by show r111_0 0 s = _; unfold r111_0; rfl)
 | succ n ih =>
   intro t s h0 h1 h3 h2
   by_cases ht : 0 < t
   · have hp : t < 10 ^ n * 10 := by rw [Int.pow_succ] at h1; exact h1
     have hle : (10 : Int) ^ n ≤ 10 ^ 18 := by
      have hn : n ≤ 18 := by omega
      exact_mod_cast (Nat.pow_le_pow_right (by decide) hn : 10 ^ n ≤ 10 ^ 18)
     have hle' : (10 : Int) ^ n ≤ 1000000000000000000 := hle
     have hq : quoW .i64 t 10 = t / 10 := by
      unfold quoW
      rw [Int.tdiv_eq_ediv_of_nonneg h0]
      exact IntWalk.i64_in _ (by omega)
     have hc : (strOf [((cvtW .u8 (addW .i64 48 (remI t 10))), ())]).length = 1 := rfl
     have hc2 : (apS (strOf [((cvtW .u8 (addW .i64 48 (remI t 10))), ())]) s).length = 1 + s.length := by rw [← hc]; exact List.length_append
     obtain ⟨t', s', e1, e2⟩ := ih (t / 10) (apS (strOf [((cvtW .u8 (addW .i64 48 (remI t 10))), ())]) s) (by omega) (by omega) (by omega) (by omega)
     refine ⟨t', s', loopF_step _ (x' := (t / 10, apS (strOf [((cvtW .u8 (addW .i64 48 (remI t 10))), ())]) s, ())) ?_ e1, by omega⟩
     show r111_0 t s = _
     unfold r111_0
     have hf : fitS (strOf [((cvtW .u8 (addW .i64 48 (remI t 10))), ())]) s = true := Nat.ble_eq_true_of_le (by omega)
     dsimp only
     rw [ltI_yes ht, hq, hf]
     rfl
   · refine ⟨t, s, ?_, by omega⟩
     exact loopF_end _ (by show r111_0 t s = _; unfold r111_0; rw [ltI_no ht]; rfl)
noncomputable def mt (k : Int) : List UInt8 := match g111 k with | some y => y.2.1.1 | none => []
theorem text {k : Int} (h1 : 1 ≤ k) (h2 : k ≤ 99999999999999999) : g111 k = some ((), ((mt k, ()), ())) := by
 have hbig : big = 140737488355328 := rfl
 obtain ⟨t', s', e1, e2⟩ := text_loop 17 k [] (by omega) (by omega) (by decide) (by simp)
 have hr : g111 k = some ((), ((apS [109] s', ()), ())) := by
  unfold g111
  have hf : fitS [109] s' = true := Nat.ble_eq_true_of_le (by simp at e2 ⊢; omega)
  have hle : leI k 0 = false := decide_eq_false (by omega)
  rw [hle, e1]
  dsimp only [cond_false, Option.bind_some, Sum.elim_inl]
  rw [hf]; rfl
 have hm : mt k = apS [109] s' := by unfold mt; rw [hr]
 rw [hm]; exact hr
def wHold (x : ((List UInt8) × Int × Int × Unit)) : Nat := x.1.length
def bgHold (x : ((List UInt8) × Int × Int × Unit)) : Prop := x.1.length ≤ big
theorem szHold (x : ((List UInt8) × Int × Int × Unit)) (left : Int) (h0 : 0 ≤ left) (h1 : left ≤ 1048576) (hb : bgHold x) : g57 x left = some ((), ((szR left (wHold x), ()), ())) := by
 have hw : wHold x = x.1.length := rfl
 unfold g57
 try dsimp only
 by_cases q0 : ((x.1.length : Nat) : Int) ≤ left
 rotate_left
 · rw [szR_len (s := x.1) (left := left) (by omega) (by omega) hb]; rw [ltI_yes (by omega), szR_neg (by omega)]; rfl
 rw [szR_len (s := x.1) (left := left) (by omega) (by omega) hb]; rw [ltI_no (by omega)]; dsimp only [cond_false]
 rw [szR_pos (by omega)]
 have e : (left - ((x.1.length : Nat) : Int)) = left - ((wHold x : Nat) : Int) := by omega
 rw [e]
theorem toHold (x : ((List UInt8) × Int × Int × Unit)) (h : wHold x ≤ 1048576) : g70 x = some ((), (x, ())) := by
 have hw : wHold x = x.1.length := rfl
 unfold g70
 rfl
theorem eqHold (x : ((List UInt8) × Int × Int × Unit)) (h : wHold x ≤ 1099511627776) : g79 x x = some ((), ((true, ()), ())) := by
 have hw : wHold x = x.1.length := rfl
 unfold g79
 simp only [eqI_refl, eqS_refl, Bool.not_true, cond_false, Option.bind_some, beq_self_eq_true]
def cHoldE (x : ((List UInt8) × Int × Int × Unit)) : Nat := 1 + 1 + 1
noncomputable def mkHoldE (x : ((List UInt8) × Int × Int × Unit)) (k : Int) : ((List UInt8) × Int × Int × Unit) := (mt k, (k + 1), ((k + 1) + 1), ())
theorem cHoldE_le (x : ((List UInt8) × Int × Int × Unit)) : cHoldE x ≤ 100 * (wHold x + 1) := by
 have hw : wHold x = x.1.length := rfl
 have hc : cHoldE x = 1 + 1 + 1 := rfl
 try dsimp only at *
 omega
theorem szIntS (x : (List R3)) (left : Int) (h0 : 0 ≤ left) (h1 : left ≤ 1048576) (hb : x.length ≤ big) : g58 x left = some ((), ((szR left x.length, ()), ())) := by
 unfold g58
 dsimp only
 by_cases q : ((x.length : Nat) : Int) ≤ left
 · rw [szR_len (s := x) (left := left) (by omega) (by omega) hb, ltI_no (by omega), szR_pos q]; rfl
 · rw [szR_len (s := x) (left := left) (by omega) (by omega) hb, ltI_yes (by omega), szR_neg q]; rfl
theorem toIntS (xs : List R3) (h : xs.length ≤ 1048576) : g71 xs = some ((), ((xs, ()), ())) := by
 have hb : big = 140737488355328 := rfl
 unfold g71
 dsimp only
 rw [mkB_in (by decide) (by omega), repI_len]
 have h := loop_inv (step := fun (x : (List R3) × (List R3) × Int × Unit) => r71_0 x.1 x.2.1 x.2.2.1) xs (fun i (a : List R3) => (xs, a ++ List.replicate (xs.length - i) d3, ((i : Nat) : Int), ())) (fun _ x (a : List R3) => Sum.inl (a ++ [x]))
  (fun a => .inl (xs, a, (xs.length : Int), ())) (fun i a => a.length = i) (a0 := []) rfl (fun i x a hx ha => by
    have hlt := lt_of_get hx
    show r71_0 xs (a ++ List.replicate (xs.length - i) d3) (i : Int) = _
    unfold r71_0
    obtain ⟨q, hq⟩ : ∃ q, xs.length - i = q + 1 := ⟨xs.length - i - 1, by omega⟩
    have hq' : xs.length - (i + 1) = q := by omega
    rw [hq, List.replicate_succ, ltI_in hx, inB_in hx, inB_mid ha, gt_in _ hx, stI_mid ha, addW1 (by omega), hq']
    dsimp only [cond_true]
    rw [List.append_assoc]; rfl) (fun i x a a' hx ha hf => by
    simp only [Sum.inl.injEq] at hf
    rw [← hf, List.length_append, ha]; rfl) (fun a ha => by
    show r71_0 xs (a ++ List.replicate (xs.length - xs.length) d3) (xs.length : Int) = _
    unfold r71_0
    rw [ltI_out rfl, Nat.sub_self, List.replicate_zero, List.append_nil]; rfl)
 rw [goL_cp] at h
 have h' : l71_0 xs (List.replicate xs.length d3) 0 = _ := h
 rw [h']; rfl
theorem eqIntS (xs : List R3) (h : xs.length ≤ 1099511627776) : g80 xs xs = some ((), ((true, ()), ())) := by
 have hb : big = 140737488355328 := rfl
 unfold g80
 rw [eqI_refl]
 have h := loop_list (step := fun (x : (List R3) × (List R3) × Int × Unit) => r80_0 x.1 x.2.1 x.2.2.1) xs (fun i (_ : Unit) => (xs, xs, ((i : Nat) : Int), ())) (fun _ x _ => Sum.inl ()) (fun _ => .inl (xs, xs, (xs.length : Int), ())) (a0 := ()) (fun i x a hx => by
  have hlt := lt_of_get hx
  show r80_0 xs xs (i : Int) = _
  unfold r80_0
  rw [ltI_in hx, inB_in hx, gt_in _ hx, eqI_refl, addW1 (by omega)]; rfl) (fun a => by
  show r80_0 xs xs (xs.length : Int) = _
  unfold r80_0
  rw [ltI_out rfl]; rfl)
 rw [goL_fold (fun _ a => a)] at h
 have h' : l80_0 xs xs 0 = _ := h
 rw [h']; rfl
def mkInt (x : Int × Unit) (k : Int) : Int × Unit := (k, ())
theorem markIntS (xs : List R3) (k : Int) (h1 : 1 ≤ k) (h2 : k + ((cL (fun _ => 1) xs : Nat) : Int) ≤ 1099511627776) : g113 xs k = some (((mkL mkInt (fun _ => 1) xs k, ()), ()), ((k + ((cL (fun _ => 1) xs : Nat) : Int), ()), ())) := by
 have hb : big = 140737488355328 := rfl
 have hlen : xs.length ≤ 1099511627776 := by rw [cL_one] at h2; omega
 unfold g113
 have h := loop_inv (step := fun (x : (List R3) × Int × Int × Unit) => r113_0 x.1 x.2.1 x.2.2.1) xs (fun i (a : List R3 × Int) => (a.1 ++ xs.drop i, a.2, ((i : Nat) : Int), ())) (fun _ x (a : List R3 × Int) => Sum.inl (a.1 ++ [mkInt x a.2], a.2 + ((1 : Nat) : Int)))
  (fun a => .inl (a.1, a.2, (xs.length : Int), ())) (fun i a => a.1.length = i ∧ 1 ≤ a.2 ∧ a.2 + ((cL (fun _ => 1) (xs.drop i) : Nat) : Int) ≤ 1099511627776) (a0 := ([], k)) ⟨rfl, h1, h2⟩ (fun i x a hx ha => by
    have hlt := lt_of_get hx
    obtain ⟨hd, ha1, ha2⟩ := ha
    rw [cL_drop _ hx] at ha2
    have a1 : addW .i64 a.2 1 = a.2 + 1 := addW_in (by omega) (by omega)
    show r113_0 (a.1 ++ xs.drop i) a.2 (i : Int) = _
    unfold r113_0
    rw [drop_get hx, ltI_mid hd, inB_mid hd, stI_mid hd, addW1 (by omega), a1]
    dsimp only [cond_true]
    rw [List.append_assoc]; rfl) (fun i x a a' hx ha hf => by
    obtain ⟨hd, ha1, ha2⟩ := ha
    rw [cL_drop _ hx] at ha2
    simp only [Sum.inl.injEq] at hf
    subst hf
    refine ⟨by rw [List.length_append, hd]; rfl, ?_, ?_⟩
    · show 1 ≤ a.2 + ((1 : Nat) : Int); omega
    · show a.2 + ((1 : Nat) : Int) + _ ≤ _; omega) (fun a ha => by
    show r113_0 (a.1 ++ xs.drop xs.length) a.2 (xs.length : Int) = _
    unfold r113_0
    rw [List.drop_length, List.append_nil, ltI_out ha.1]; rfl)
 rw [goL_mk mkInt (fun _ => 1)] at h
 have h' : l113_0 xs k 0 = _ := h
 rw [h']; rfl
theorem heldIntS (xs : List R3) (k : Int) (h1 : 1 ≤ k) (h2 : k + ((cL (fun _ => 1) xs : Nat) : Int) ≤ 1099511627776) : g116 (mkL mkInt (fun _ => 1) xs k) k = some ((), ((k + ((cL (fun _ => 1) xs : Nat) : Int), ()), ())) := by
 have hb : big = 140737488355328 := rfl
 have hlen : xs.length ≤ 1099511627776 := by rw [cL_one] at h2; omega
 unfold g116
 have h := loop_inv (step := fun (x : (List R3) × Int × Int × Unit) => r116_0 x.1 x.2.1 x.2.2.1) xs (fun i (a : Int) => (mkL mkInt (fun _ => 1) xs k, a, ((i : Nat) : Int), ())) (fun _ x (a : Int) => Sum.inl (a + ((1 : Nat) : Int)))
  (fun a => .inl (mkL mkInt (fun _ => 1) xs k, a, (xs.length : Int), ())) (fun i a => a = k + ((cL (fun _ => 1) (xs.take i) : Nat) : Int)) (a0 := k) (by simp [cL]) (fun i x a hx ha => by
    have hlt := lt_of_get hx
    have hs := cL_split (fun _ => 1) xs i
    have hy := mkL_getx mkInt (fun _ => 1) xs k i x hx
    rw [cL_drop _ hx] at hs
    rw [← ha] at hy
    have a1 : addW .i64 a 1 = a + 1 := addW_in (by omega) (by omega)
    show r116_0 (mkL mkInt (fun _ => 1) xs k) a (i : Int) = _
    unfold r116_0
    rw [ltI_in hy, inB_in hy, gt_in _ hy, addW1 (by omega), a1]
    simp only [mkInt, eqI_refl, Bool.not_true, cond_true, cond_false]; rfl) (fun i x a a' hx ha hf => by
    simp only [Sum.inl.injEq] at hf
    rw [cL_take _ hx]
    omega) (fun a ha => by
    show r116_0 (mkL mkInt (fun _ => 1) xs k) a (xs.length : Int) = _
    unfold r116_0
    rw [ltI_out (mkL_len _ _ _ _)]; rfl)
 rw [goL_cnt (fun _ => 1)] at h
 have h' : l116_0 (mkL mkInt (fun _ => 1) xs k) k 0 = _ := h
 rw [h']; rfl
def wRing (x : (Int × Int × (List R3) × (List R3) × Unit)) : Nat := x.2.2.1.length + x.2.2.2.1.length
def bgRing (x : (Int × Int × (List R3) × (List R3) × Unit)) : Prop := x.2.2.1.length ≤ big ∧ x.2.2.2.1.length ≤ big
theorem szRing (x : (Int × Int × (List R3) × (List R3) × Unit)) (left : Int) (h0 : 0 ≤ left) (h1 : left ≤ 1048576) (hb : bgRing x) : g20 x left = some ((), ((szR left (wRing x), ()), ())) := by
 have hw : wRing x = x.2.2.1.length + x.2.2.2.1.length := rfl
 unfold g20
 try dsimp only
 by_cases q0 : ((x.2.2.1.length : Nat) : Int) ≤ left
 rotate_left
 · rw [szIntS x.2.2.1 left (by omega) (by omega) (hb.1), szR_neg q0, szR_neg (by omega)]; rfl
 rw [szIntS x.2.2.1 left (by omega) (by omega) (hb.1), szR_pos q0]; dsimp only [Option.bind_some]; rw [ltI_no (by omega)]; dsimp only [cond_false]
 by_cases q1 : ((x.2.2.2.1.length : Nat) : Int) ≤ (left - ((x.2.2.1.length : Nat) : Int))
 rotate_left
 · rw [szIntS x.2.2.2.1 (left - ((x.2.2.1.length : Nat) : Int)) (by omega) (by omega) (hb.2), szR_neg q1, szR_neg (by omega)]; rfl
 rw [szIntS x.2.2.2.1 (left - ((x.2.2.1.length : Nat) : Int)) (by omega) (by omega) (hb.2), szR_pos q1]; dsimp only [Option.bind_some]; rw [ltI_no (by omega)]; dsimp only [cond_false]
 rw [szR_pos (by omega)]
 have e : ((left - ((x.2.2.1.length : Nat) : Int)) - ((x.2.2.2.1.length : Nat) : Int)) = left - ((wRing x : Nat) : Int) := by omega
 rw [e]
theorem toRing (x : (Int × Int × (List R3) × (List R3) × Unit)) (h : wRing x ≤ 1048576) : g27 x = some ((), (x, ())) := by
 have hw : wRing x = x.2.2.1.length + x.2.2.2.1.length := rfl
 unfold g27
 rw [toIntS x.2.2.1 (by omega)]
 rw [toIntS x.2.2.2.1 (by omega)]
 rfl
theorem eqRing (x : (Int × Int × (List R3) × (List R3) × Unit)) (h : wRing x ≤ 1099511627776) : g33 x x = some ((), ((true, ()), ())) := by
 have hw : wRing x = x.2.2.1.length + x.2.2.2.1.length := rfl
 unfold g33
 simp only [eqI_refl, eqS_refl, Bool.not_true, cond_false, Option.bind_some, beq_self_eq_true, eqIntS x.2.2.1 (by omega), eqIntS x.2.2.2.1 (by omega)]
theorem szByteS (x : (List R5)) (left : Int) (h0 : 0 ≤ left) (h1 : left ≤ 1048576) (hb : x.length ≤ big) : g118 x left = some ((), ((szR left x.length, ()), ())) := by
 unfold g118
 dsimp only
 by_cases q : ((x.length : Nat) : Int) ≤ left
 · rw [szR_len (s := x) (left := left) (by omega) (by omega) hb, ltI_no (by omega), szR_pos q]; rfl
 · rw [szR_len (s := x) (left := left) (by omega) (by omega) hb, ltI_yes (by omega), szR_neg q]; rfl
theorem toByteS (xs : List R5) (h : xs.length ≤ 1048576) : g125 xs = some ((), ((xs, ()), ())) := by
 have hb : big = 140737488355328 := rfl
 unfold g125
 dsimp only
 rw [mkB_in (by decide) (by omega), repI_len]
 have h := loop_inv (step := fun (x : (List R5) × (List R5) × Int × Unit) => r125_0 x.1 x.2.1 x.2.2.1) xs (fun i (a : List R5) => (xs, a ++ List.replicate (xs.length - i) d5, ((i : Nat) : Int), ())) (fun _ x (a : List R5) => Sum.inl (a ++ [x]))
  (fun a => .inl (xs, a, (xs.length : Int), ())) (fun i a => a.length = i) (a0 := []) rfl (fun i x a hx ha => by
    have hlt := lt_of_get hx
    show r125_0 xs (a ++ List.replicate (xs.length - i) d5) (i : Int) = _
    unfold r125_0
    obtain ⟨q, hq⟩ : ∃ q, xs.length - i = q + 1 := ⟨xs.length - i - 1, by omega⟩
    have hq' : xs.length - (i + 1) = q := by omega
    rw [hq, List.replicate_succ, ltI_in hx, inB_in hx, inB_mid ha, gt_in _ hx, stI_mid ha, addW1 (by omega), hq']
    dsimp only [cond_true]
    rw [List.append_assoc]; rfl) (fun i x a a' hx ha hf => by
    simp only [Sum.inl.injEq] at hf
    rw [← hf, List.length_append, ha]; rfl) (fun a ha => by
    show r125_0 xs (a ++ List.replicate (xs.length - xs.length) d5) (xs.length : Int) = _
    unfold r125_0
    rw [ltI_out rfl, Nat.sub_self, List.replicate_zero, List.append_nil]; rfl)
 rw [goL_cp] at h
 have h' : l125_0 xs (List.replicate xs.length d5) 0 = _ := h
 rw [h']; rfl
theorem eqByteS (xs : List R5) (h : xs.length ≤ 1099511627776) : g140 xs xs = some ((), ((true, ()), ())) := by
 have hb : big = 140737488355328 := rfl
 unfold g140
 rw [eqI_refl]
 have h := loop_list (step := fun (x : (List R5) × (List R5) × Int × Unit) => r140_0 x.1 x.2.1 x.2.2.1) xs (fun i (_ : Unit) => (xs, xs, ((i : Nat) : Int), ())) (fun _ x _ => Sum.inl ()) (fun _ => .inl (xs, xs, (xs.length : Int), ())) (a0 := ()) (fun i x a hx => by
  have hlt := lt_of_get hx
  show r140_0 xs xs (i : Int) = _
  unfold r140_0
  rw [ltI_in hx, inB_in hx, gt_in _ hx, eqI_refl, addW1 (by omega)]; rfl) (fun a => by
  show r140_0 xs xs (xs.length : Int) = _
  unfold r140_0
  rw [ltI_out rfl]; rfl)
 rw [goL_fold (fun _ a => a)] at h
 have h' : l140_0 xs xs 0 = _ := h
 rw [h']; rfl
def mkByte (x : Int × Unit) (k : Int) : Int × Unit := (cvtW .u8 k, ())
theorem markByteS (xs : List R5) (k : Int) (h1 : 1 ≤ k) (h2 : k + ((cL (fun _ => 1) xs : Nat) : Int) ≤ 1099511627776) : g164 xs k = some (((mkL mkByte (fun _ => 1) xs k, ()), ()), ((k + ((cL (fun _ => 1) xs : Nat) : Int), ()), ())) := by
 have hb : big = 140737488355328 := rfl
 have hlen : xs.length ≤ 1099511627776 := by rw [cL_one] at h2; omega
 unfold g164
 have h := loop_inv (step := fun (x : (List R5) × Int × Int × Unit) => r164_0 x.1 x.2.1 x.2.2.1) xs (fun i (a : List R5 × Int) => (a.1 ++ xs.drop i, a.2, ((i : Nat) : Int), ())) (fun _ x (a : List R5 × Int) => Sum.inl (a.1 ++ [mkByte x a.2], a.2 + ((1 : Nat) : Int)))
  (fun a => .inl (a.1, a.2, (xs.length : Int), ())) (fun i a => a.1.length = i ∧ 1 ≤ a.2 ∧ a.2 + ((cL (fun _ => 1) (xs.drop i) : Nat) : Int) ≤ 1099511627776) (a0 := ([], k)) ⟨rfl, h1, h2⟩ (fun i x a hx ha => by
    have hlt := lt_of_get hx
    obtain ⟨hd, ha1, ha2⟩ := ha
    rw [cL_drop _ hx] at ha2
    have a1 : addW .i64 a.2 1 = a.2 + 1 := addW_in (by omega) (by omega)
    show r164_0 (a.1 ++ xs.drop i) a.2 (i : Int) = _
    unfold r164_0
    rw [drop_get hx, ltI_mid hd, inB_mid hd, stI_mid hd, addW1 (by omega), a1]
    dsimp only [cond_true]
    rw [List.append_assoc]; rfl) (fun i x a a' hx ha hf => by
    obtain ⟨hd, ha1, ha2⟩ := ha
    rw [cL_drop _ hx] at ha2
    simp only [Sum.inl.injEq] at hf
    subst hf
    refine ⟨by rw [List.length_append, hd]; rfl, ?_, ?_⟩
    · show 1 ≤ a.2 + ((1 : Nat) : Int); omega
    · show a.2 + ((1 : Nat) : Int) + _ ≤ _; omega) (fun a ha => by
    show r164_0 (a.1 ++ xs.drop xs.length) a.2 (xs.length : Int) = _
    unfold r164_0
    rw [List.drop_length, List.append_nil, ltI_out ha.1]; rfl)
 rw [goL_mk mkByte (fun _ => 1)] at h
 have h' : l164_0 xs k 0 = _ := h
 rw [h']; rfl
theorem heldByteS (xs : List R5) (k : Int) (h1 : 1 ≤ k) (h2 : k + ((cL (fun _ => 1) xs : Nat) : Int) ≤ 1099511627776) : g165 (mkL mkByte (fun _ => 1) xs k) k = some ((), ((k + ((cL (fun _ => 1) xs : Nat) : Int), ()), ())) := by
 have hb : big = 140737488355328 := rfl
 have hlen : xs.length ≤ 1099511627776 := by rw [cL_one] at h2; omega
 unfold g165
 have h := loop_inv (step := fun (x : (List R5) × Int × Int × Unit) => r165_0 x.1 x.2.1 x.2.2.1) xs (fun i (a : Int) => (mkL mkByte (fun _ => 1) xs k, a, ((i : Nat) : Int), ())) (fun _ x (a : Int) => Sum.inl (a + ((1 : Nat) : Int)))
  (fun a => .inl (mkL mkByte (fun _ => 1) xs k, a, (xs.length : Int), ())) (fun i a => a = k + ((cL (fun _ => 1) (xs.take i) : Nat) : Int)) (a0 := k) (by simp [cL]) (fun i x a hx ha => by
    have hlt := lt_of_get hx
    have hs := cL_split (fun _ => 1) xs i
    have hy := mkL_getx mkByte (fun _ => 1) xs k i x hx
    rw [cL_drop _ hx] at hs
    rw [← ha] at hy
    have a1 : addW .i64 a 1 = a + 1 := addW_in (by omega) (by omega)
    show r165_0 (mkL mkByte (fun _ => 1) xs k) a (i : Int) = _
    unfold r165_0
    rw [ltI_in hy, inB_in hy, gt_in _ hy, addW1 (by omega), a1]
    simp only [mkByte, eqI_refl, Bool.not_true, cond_true, cond_false]; rfl) (fun i x a a' hx ha hf => by
    simp only [Sum.inl.injEq] at hf
    rw [cL_take _ hx]
    omega) (fun a ha => by
    show r165_0 (mkL mkByte (fun _ => 1) xs k) a (xs.length : Int) = _
    unfold r165_0
    rw [ltI_out (mkL_len _ _ _ _)]; rfl)
 rw [goL_cnt (fun _ => 1)] at h
 have h' : l165_0 (mkL mkByte (fun _ => 1) xs k) k 0 = _ := h
 rw [h']; rfl
def wSlot (x : ((List UInt8) × (List UInt8) × (List R5) × Unit)) : Nat := x.1.length + x.2.1.length + x.2.2.1.length
def bgSlot (x : ((List UInt8) × (List UInt8) × (List R5) × Unit)) : Prop := x.1.length ≤ big ∧ x.2.1.length ≤ big ∧ x.2.2.1.length ≤ big
theorem szSlot (x : ((List UInt8) × (List UInt8) × (List R5) × Unit)) (left : Int) (h0 : 0 ≤ left) (h1 : left ≤ 1048576) (hb : bgSlot x) : g59 x left = some ((), ((szR left (wSlot x), ()), ())) := by
 have hw : wSlot x = x.1.length + x.2.1.length + x.2.2.1.length := rfl
 unfold g59
 try dsimp only
 by_cases q0 : ((x.1.length : Nat) : Int) ≤ left
 rotate_left
 · rw [szR_len (s := x.1) (left := left) (by omega) (by omega) hb.1]; rw [ltI_yes (by omega), szR_neg (by omega)]; rfl
 rw [szR_len (s := x.1) (left := left) (by omega) (by omega) hb.1]; rw [ltI_no (by omega)]; dsimp only [cond_false]
 by_cases q1 : ((x.2.1.length : Nat) : Int) ≤ (left - ((x.1.length : Nat) : Int))
 rotate_left
 · rw [szR_len (s := x.2.1) (left := (left - ((x.1.length : Nat) : Int))) (by omega) (by omega) hb.2.1]; rw [ltI_yes (by omega), szR_neg (by omega)]; rfl
 rw [szR_len (s := x.2.1) (left := (left - ((x.1.length : Nat) : Int))) (by omega) (by omega) hb.2.1]; rw [ltI_no (by omega)]; dsimp only [cond_false]
 by_cases q2 : ((x.2.2.1.length : Nat) : Int) ≤ ((left - ((x.1.length : Nat) : Int)) - ((x.2.1.length : Nat) : Int))
 rotate_left
 · rw [szByteS x.2.2.1 ((left - ((x.1.length : Nat) : Int)) - ((x.2.1.length : Nat) : Int)) (by omega) (by omega) (hb.2.2), szR_neg q2, szR_neg (by omega)]; rfl
 rw [szByteS x.2.2.1 ((left - ((x.1.length : Nat) : Int)) - ((x.2.1.length : Nat) : Int)) (by omega) (by omega) (hb.2.2), szR_pos q2]; dsimp only [Option.bind_some]; rw [ltI_no (by omega)]; dsimp only [cond_false]
 rw [szR_pos (by omega)]
 have e : (((left - ((x.1.length : Nat) : Int)) - ((x.2.1.length : Nat) : Int)) - ((x.2.2.1.length : Nat) : Int)) = left - ((wSlot x : Nat) : Int) := by omega
 rw [e]
theorem toSlot (x : ((List UInt8) × (List UInt8) × (List R5) × Unit)) (h : wSlot x ≤ 1048576) : g72 x = some ((), (x, ())) := by
 have hw : wSlot x = x.1.length + x.2.1.length + x.2.2.1.length := rfl
 unfold g72
 rw [toByteS x.2.2.1 (by omega)]
 rfl
theorem eqSlot (x : ((List UInt8) × (List UInt8) × (List R5) × Unit)) (h : wSlot x ≤ 1099511627776) : g81 x x = some ((), ((true, ()), ())) := by
 have hw : wSlot x = x.1.length + x.2.1.length + x.2.2.1.length := rfl
 unfold g81
 simp only [eqI_refl, eqS_refl, Bool.not_true, cond_false, Option.bind_some, beq_self_eq_true, eqByteS x.2.2.1 (by omega)]
def cSlotE (x : ((List UInt8) × (List UInt8) × (List R5) × Unit)) : Nat := 1 + 1 + cL (fun _ => 1) x.2.2.1
noncomputable def mkSlotE (x : ((List UInt8) × (List UInt8) × (List R5) × Unit)) (k : Int) : ((List UInt8) × (List UInt8) × (List R5) × Unit) := (mt k, mt (k + 1), mkL mkByte (fun _ => 1) x.2.2.1 ((k + 1) + 1), ())
theorem cSlotE_le (x : ((List UInt8) × (List UInt8) × (List R5) × Unit)) : cSlotE x ≤ 100 * (wSlot x + 1) := by
 have hw : wSlot x = x.1.length + x.2.1.length + x.2.2.1.length := rfl
 have hc : cSlotE x = 1 + 1 + cL (fun _ => 1) x.2.2.1 := rfl
 have h2 := cL_one x.2.2.1
 try dsimp only at *
 omega
theorem szHoldS_loop (xs : List R93) (hb : xs.length ≤ big ∧ ∀ y ∈ xs, bgHold y) (a : Int) (h0 : 0 ≤ a) (h1 : a ≤ 1048576) : l19_0 xs a 0 = some (if ((cL wHold xs : Nat) : Int) ≤ a then .inl (xs, a - (cL wHold xs : Nat), (xs.length : Int), ()) else .inr (-1, ())) := by
 have h := loop_inv (step := fun (x : (List R93) × Int × Int × Unit) => r19_0 x.1 x.2.1 x.2.2.1) xs (fun i (a : Int) => (xs, a, ((i : Nat) : Int), ())) (fun _ x (a : Int) => bif decide ((wHold x : Int) ≤ a) then Sum.inl (a - wHold x) else .inr (.inr (-1, ())))
  (fun a => .inl (xs, a, (xs.length : Int), ())) (fun _ a => 0 ≤ a ∧ a ≤ 1048576) (a0 := a) ⟨h0, h1⟩ (fun i x a hx ha => by
    have hmem := List.mem_of_getElem? hx
    have hlt := lt_of_get hx
    show r19_0 xs a (i : Int) = _
    unfold r19_0
    rw [ltI_in hx, inB_in hx, gt_in _ hx, szHold x a ha.1 ha.2 (hb.2 x hmem), addW1 (by omega)]
    dsimp only [cond_true, Option.bind_some]
    by_cases q : ((wHold x : Nat) : Int) ≤ a
    · rw [szR_pos q, ltI_no (by omega), decide_eq_true q]; rfl
    · rw [szR_neg q, decide_eq_false q]; rfl) (fun i x a a' hx ha hf => by
    by_cases q : ((wHold x : Nat) : Int) ≤ a
    · rw [decide_eq_true q] at hf
      simp only [cond_true, Sum.inl.injEq] at hf
      omega
    · rw [decide_eq_false q] at hf
      simp at hf) (fun a ha => by
    show r19_0 xs a (xs.length : Int) = _
    unfold r19_0
    rw [ltI_out rfl]; rfl)
 rw [goL_sz _ _ _ _ _ _ h0] at h
 refine Eq.trans h ?_
 split <;> rfl
theorem szHoldS (xs : List R93) (left : Int) (h0 : 0 ≤ left) (h1 : left ≤ 1048576) (hb : xs.length ≤ big ∧ ∀ y ∈ xs, bgHold y) : g19 xs left = some ((), ((szR left (wL wHold xs), ()), ())) := by
 have hw : wL wHold xs = xs.length + cL wHold xs := rfl
 unfold g19
 dsimp only
 rw [szR_len (s := xs) (left := left) (by omega) (by omega) hb.1]
 by_cases q : ((xs.length : Nat) : Int) ≤ left
 · rw [ltI_no (by omega)]
   dsimp only [cond_false]
   rw [szHoldS_loop xs hb _ (by omega) (by omega)]
   by_cases q2 : ((cL wHold xs : Nat) : Int) ≤ left - (xs.length : Int)
   · rw [if_pos q2, szR_pos (by omega)]
     dsimp only [Option.bind_some, Sum.elim_inl]
     have e : left - (xs.length : Int) - (cL wHold xs : Nat) = left - ((wL wHold xs : Nat) : Int) := by omega
     rw [e]
   · rw [if_neg q2, szR_neg (by omega)]; rfl
 · rw [ltI_yes (by omega), szR_neg (by omega)]; rfl
theorem toHoldS (xs : List R93) (h : wL wHold xs ≤ 1048576) : g26 xs = some ((), ((xs, ()), ())) := by
 have hb : big = 140737488355328 := rfl
 have hw : wL wHold xs = xs.length + cL wHold xs := rfl
 unfold g26
 dsimp only
 rw [mkB_in (by decide) (by omega), repI_len]
 have h := loop_inv (step := fun (x : (List R93) × (List R108) × Int × Unit) => r26_0 x.1 x.2.1 x.2.2.1) xs (fun i (a : List R93) => (xs, a ++ List.replicate (xs.length - i) d108, ((i : Nat) : Int), ())) (fun _ x (a : List R93) => Sum.inl (a ++ [x]))
  (fun a => .inl (xs, a, (xs.length : Int), ())) (fun i a => a.length = i) (a0 := []) rfl (fun i x a hx ha => by
    have hlt := lt_of_get hx
    have hcm := cL_mem wHold hx
    show r26_0 xs (a ++ List.replicate (xs.length - i) d108) (i : Int) = _
    unfold r26_0
    obtain ⟨q, hq⟩ : ∃ q, xs.length - i = q + 1 := ⟨xs.length - i - 1, by omega⟩
    have hq' : xs.length - (i + 1) = q := by omega
    rw [hq, List.replicate_succ, ltI_in hx, inB_in hx, gt_in _ hx, toHold x (by omega)]
    dsimp only [cond_true, Option.bind_some]
    simp only [inB_mid ha, gt_mid _ ha, stI_mid ha, addW1 (show i ≤ big by omega), hq', cond_true, List.append_assoc, List.singleton_append]) (fun i x a a' hx ha hf => by
    simp only [Sum.inl.injEq] at hf
    rw [← hf, List.length_append, ha]; rfl) (fun a ha => by
    show r26_0 xs (a ++ List.replicate (xs.length - xs.length) d108) (xs.length : Int) = _
    unfold r26_0
    rw [ltI_out rfl, Nat.sub_self, List.replicate_zero, List.append_nil]; rfl)
 rw [goL_cp] at h
 have h' : l26_0 xs (List.replicate xs.length d108) 0 = _ := h
 rw [h']; rfl
theorem eqHoldS (xs : List R108) (h : wL wHold xs ≤ 1099511627776) : g32 xs xs = some ((), ((true, ()), ())) := by
 have hb : big = 140737488355328 := rfl
 have hw : wL wHold xs = xs.length + cL wHold xs := rfl
 unfold g32
 rw [eqI_refl]
 have h := loop_list (step := fun (x : (List R108) × (List R108) × Int × Unit) => r32_0 x.1 x.2.1 x.2.2.1) xs (fun i (_ : Unit) => (xs, xs, ((i : Nat) : Int), ())) (fun _ x _ => Sum.inl ()) (fun _ => .inl (xs, xs, (xs.length : Int), ())) (a0 := ()) (fun i x a hx => by
  have hlt := lt_of_get hx
  have hcm := cL_mem wHold hx
  show r32_0 xs xs (i : Int) = _
  unfold r32_0
  rw [ltI_in hx, inB_in hx, gt_in _ hx, eqHold x (by omega), addW1 (by omega)]; rfl) (fun a => by
  show r32_0 xs xs (xs.length : Int) = _
  unfold r32_0
  rw [ltI_out rfl]; rfl)
 rw [goL_fold (fun _ a => a)] at h
 have h' : l32_0 xs xs 0 = _ := h
 rw [h']; rfl
theorem markHoldS (xs : List R108) (k : Int) (h1 : 1 ≤ k) (h2 : k + ((cL cHoldE xs : Nat) : Int) ≤ 1099511627776) (h3 : wL wHold xs ≤ 1099511627776) : g112 xs k = some (((mkL mkHoldE cHoldE xs k, ()), ()), ((k + ((cL cHoldE xs : Nat) : Int), ()), ())) := by
 have hb : big = 140737488355328 := rfl
 have hwl : wL wHold xs = xs.length + cL wHold xs := rfl
 unfold g112
 have h := loop_inv (step := fun (x : (List R108) × Int × Int × Unit) => r112_0 x.1 x.2.1 x.2.2.1) xs (fun i (a : List R108 × Int) => (a.1 ++ xs.drop i, a.2, ((i : Nat) : Int), ())) (fun _ x (a : List R108 × Int) => Sum.inl (a.1 ++ [mkHoldE x a.2], a.2 + ((cHoldE x : Nat) : Int)))
  (fun a => .inl (a.1, a.2, (xs.length : Int), ())) (fun i a => a.1.length = i ∧ 1 ≤ a.2 ∧ a.2 + ((cL cHoldE (xs.drop i) : Nat) : Int) ≤ 1099511627776) (a0 := ([], k)) ⟨rfl, h1, h2⟩ (fun i x a hx ha => by
    have hlt := lt_of_get hx
    have hcm := cL_mem wHold hx
    obtain ⟨hd, ha1, ha2⟩ := ha
    rw [cL_drop _ hx] at ha2
    have hc : cHoldE x = 1 + 1 + 1 := rfl
    have hw : wHold x = x.1.length := rfl
    have a0 : addW .i64 a.2 1 = a.2 + 1 := addW_in (by omega) (by omega)
    have a1 : addW .i64 (a.2 + 1) 1 = (a.2 + 1) + 1 := addW_in (by omega) (by omega)
    have a2 : addW .i64 ((a.2 + 1) + 1) 1 = ((a.2 + 1) + 1) + 1 := addW_in (by omega) (by omega)
    show r112_0 (a.1 ++ xs.drop i) a.2 (i : Int) = _
    unfold r112_0
    have e : (((a.2 + 1) + 1) + 1) = a.2 + ((cHoldE x : Nat) : Int) := by omega
    simp only [drop_get hx, ltI_mid hd, inB_mid hd, stI_mid hd, gt_mid _ hd, addW1 (show i ≤ big by omega), cond_true, Option.bind_some, a0, text (k := a.2) (by omega) (by omega), a1, a2]
    rw [e, List.append_assoc]; rfl) (fun i x a a' hx ha hf => by
    obtain ⟨hd, ha1, ha2⟩ := ha
    rw [cL_drop _ hx] at ha2
    simp only [Sum.inl.injEq] at hf
    subst hf
    refine ⟨by rw [List.length_append, hd]; rfl, ?_, ?_⟩
    · show 1 ≤ a.2 + ((cHoldE x : Nat) : Int); omega
    · show a.2 + ((cHoldE x : Nat) : Int) + _ ≤ _; omega) (fun a ha => by
    show r112_0 (a.1 ++ xs.drop xs.length) a.2 (xs.length : Int) = _
    unfold r112_0
    rw [List.drop_length, List.append_nil, ltI_out ha.1]; rfl)
 rw [goL_mk mkHoldE cHoldE] at h
 have h' : l112_0 xs k 0 = _ := h
 rw [h']; rfl
theorem heldHoldS (xs : List R108) (k : Int) (h1 : 1 ≤ k) (h2 : k + ((cL cHoldE xs : Nat) : Int) ≤ 1099511627776) (h3 : wL wHold xs ≤ 1099511627776) : g115 (mkL mkHoldE cHoldE xs k) k = some ((), ((k + ((cL cHoldE xs : Nat) : Int), ()), ())) := by
 have hb : big = 140737488355328 := rfl
 have hwl : wL wHold xs = xs.length + cL wHold xs := rfl
 unfold g115
 have h := loop_inv (step := fun (x : (List R108) × Int × Int × Unit) => r115_0 x.1 x.2.1 x.2.2.1) xs (fun i (a : Int) => (mkL mkHoldE cHoldE xs k, a, ((i : Nat) : Int), ())) (fun _ x (a : Int) => Sum.inl (a + ((cHoldE x : Nat) : Int)))
  (fun a => .inl (mkL mkHoldE cHoldE xs k, a, (xs.length : Int), ())) (fun i a => a = k + ((cL cHoldE (xs.take i) : Nat) : Int)) (a0 := k) (by simp [cL]) (fun i x a hx ha => by
    have hlt := lt_of_get hx
    have hcm := cL_mem wHold hx
    have hs := cL_split cHoldE xs i
    have hy := mkL_getx mkHoldE cHoldE xs k i x hx
    rw [cL_drop _ hx] at hs
    rw [← ha] at hy
    have hc : cHoldE x = 1 + 1 + 1 := rfl
    have hw : wHold x = x.1.length := rfl
    have a0 : addW .i64 a 1 = a + 1 := addW_in (by omega) (by omega)
    have a1 : addW .i64 (a + 1) 1 = (a + 1) + 1 := addW_in (by omega) (by omega)
    have a2 : addW .i64 ((a + 1) + 1) 1 = ((a + 1) + 1) + 1 := addW_in (by omega) (by omega)
    show r115_0 (mkL mkHoldE cHoldE xs k) a (i : Int) = _
    unfold r115_0
    have e : (((a + 1) + 1) + 1) = a + ((cHoldE x : Nat) : Int) := by omega
    simp only [ltI_in hy, inB_in hy, gt_in _ hy, addW1 (show i ≤ big by omega), mkHoldE, cond_true, cond_false, Option.bind_some, eqS_refl, eqI_refl, Bool.not_true, a0, text (k := a) (by omega) (by omega), a1, a2]
    rw [e]) (fun i x a a' hx ha hf => by
    simp only [Sum.inl.injEq] at hf
    rw [cL_take _ hx]
    omega) (fun a ha => by
    show r115_0 (mkL mkHoldE cHoldE xs k) a (xs.length : Int) = _
    unfold r115_0
    rw [ltI_out (mkL_len _ _ _ _)]; rfl)
 rw [goL_cnt cHoldE] at h
 have h' : l115_0 (mkL mkHoldE cHoldE xs k) k 0 = _ := h
 rw [h']; rfl
theorem szSlotS_loop (xs : List R98) (hb : xs.length ≤ big ∧ ∀ y ∈ xs, bgSlot y) (a : Int) (h0 : 0 ≤ a) (h1 : a ≤ 1048576) : l21_0 xs a 0 = some (if ((cL wSlot xs : Nat) : Int) ≤ a then .inl (xs, a - (cL wSlot xs : Nat), (xs.length : Int), ()) else .inr (-1, ())) := by
 have h := loop_inv (step := fun (x : (List R98) × Int × Int × Unit) => r21_0 x.1 x.2.1 x.2.2.1) xs (fun i (a : Int) => (xs, a, ((i : Nat) : Int), ())) (fun _ x (a : Int) => bif decide ((wSlot x : Int) ≤ a) then Sum.inl (a - wSlot x) else .inr (.inr (-1, ())))
  (fun a => .inl (xs, a, (xs.length : Int), ())) (fun _ a => 0 ≤ a ∧ a ≤ 1048576) (a0 := a) ⟨h0, h1⟩ (fun i x a hx ha => by
    have hmem := List.mem_of_getElem? hx
    have hlt := lt_of_get hx
    show r21_0 xs a (i : Int) = _
    unfold r21_0
    rw [ltI_in hx, inB_in hx, gt_in _ hx, szSlot x a ha.1 ha.2 (hb.2 x hmem), addW1 (by omega)]
    dsimp only [cond_true, Option.bind_some]
    by_cases q : ((wSlot x : Nat) : Int) ≤ a
    · rw [szR_pos q, ltI_no (by omega), decide_eq_true q]; rfl
    · rw [szR_neg q, decide_eq_false q]; rfl) (fun i x a a' hx ha hf => by
    by_cases q : ((wSlot x : Nat) : Int) ≤ a
    · rw [decide_eq_true q] at hf
      simp only [cond_true, Sum.inl.injEq] at hf
      omega
    · rw [decide_eq_false q] at hf
      simp at hf) (fun a ha => by
    show r21_0 xs a (xs.length : Int) = _
    unfold r21_0
    rw [ltI_out rfl]; rfl)
 rw [goL_sz _ _ _ _ _ _ h0] at h
 refine Eq.trans h ?_
 split <;> rfl
theorem szSlotS (xs : List R98) (left : Int) (h0 : 0 ≤ left) (h1 : left ≤ 1048576) (hb : xs.length ≤ big ∧ ∀ y ∈ xs, bgSlot y) : g21 xs left = some ((), ((szR left (wL wSlot xs), ()), ())) := by
 have hw : wL wSlot xs = xs.length + cL wSlot xs := rfl
 unfold g21
 dsimp only
 rw [szR_len (s := xs) (left := left) (by omega) (by omega) hb.1]
 by_cases q : ((xs.length : Nat) : Int) ≤ left
 · rw [ltI_no (by omega)]
   dsimp only [cond_false]
   rw [szSlotS_loop xs hb _ (by omega) (by omega)]
   by_cases q2 : ((cL wSlot xs : Nat) : Int) ≤ left - (xs.length : Int)
   · rw [if_pos q2, szR_pos (by omega)]
     dsimp only [Option.bind_some, Sum.elim_inl]
     have e : left - (xs.length : Int) - (cL wSlot xs : Nat) = left - ((wL wSlot xs : Nat) : Int) := by omega
     rw [e]
   · rw [if_neg q2, szR_neg (by omega)]; rfl
 · rw [ltI_yes (by omega), szR_neg (by omega)]; rfl
theorem toSlotS (xs : List R98) (h : wL wSlot xs ≤ 1048576) : g28 xs = some ((), ((xs, ()), ())) := by
 have hb : big = 140737488355328 := rfl
 have hw : wL wSlot xs = xs.length + cL wSlot xs := rfl
 unfold g28
 dsimp only
 rw [mkB_in (by decide) (by omega), repI_len]
 have h := loop_inv (step := fun (x : (List R98) × (List R111) × Int × Unit) => r28_0 x.1 x.2.1 x.2.2.1) xs (fun i (a : List R98) => (xs, a ++ List.replicate (xs.length - i) d111, ((i : Nat) : Int), ())) (fun _ x (a : List R98) => Sum.inl (a ++ [x]))
  (fun a => .inl (xs, a, (xs.length : Int), ())) (fun i a => a.length = i) (a0 := []) rfl (fun i x a hx ha => by
    have hlt := lt_of_get hx
    have hcm := cL_mem wSlot hx
    show r28_0 xs (a ++ List.replicate (xs.length - i) d111) (i : Int) = _
    unfold r28_0
    obtain ⟨q, hq⟩ : ∃ q, xs.length - i = q + 1 := ⟨xs.length - i - 1, by omega⟩
    have hq' : xs.length - (i + 1) = q := by omega
    rw [hq, List.replicate_succ, ltI_in hx, inB_in hx, gt_in _ hx, toSlot x (by omega)]
    dsimp only [cond_true, Option.bind_some]
    simp only [inB_mid ha, gt_mid _ ha, stI_mid ha, addW1 (show i ≤ big by omega), hq', cond_true, List.append_assoc, List.singleton_append]) (fun i x a a' hx ha hf => by
    simp only [Sum.inl.injEq] at hf
    rw [← hf, List.length_append, ha]; rfl) (fun a ha => by
    show r28_0 xs (a ++ List.replicate (xs.length - xs.length) d111) (xs.length : Int) = _
    unfold r28_0
    rw [ltI_out rfl, Nat.sub_self, List.replicate_zero, List.append_nil]; rfl)
 rw [goL_cp] at h
 have h' : l28_0 xs (List.replicate xs.length d111) 0 = _ := h
 rw [h']; rfl
theorem eqSlotS (xs : List R111) (h : wL wSlot xs ≤ 1099511627776) : g34 xs xs = some ((), ((true, ()), ())) := by
 have hb : big = 140737488355328 := rfl
 have hw : wL wSlot xs = xs.length + cL wSlot xs := rfl
 unfold g34
 rw [eqI_refl]
 have h := loop_list (step := fun (x : (List R111) × (List R111) × Int × Unit) => r34_0 x.1 x.2.1 x.2.2.1) xs (fun i (_ : Unit) => (xs, xs, ((i : Nat) : Int), ())) (fun _ x _ => Sum.inl ()) (fun _ => .inl (xs, xs, (xs.length : Int), ())) (a0 := ()) (fun i x a hx => by
  have hlt := lt_of_get hx
  have hcm := cL_mem wSlot hx
  show r34_0 xs xs (i : Int) = _
  unfold r34_0
  rw [ltI_in hx, inB_in hx, gt_in _ hx, eqSlot x (by omega), addW1 (by omega)]; rfl) (fun a => by
  show r34_0 xs xs (xs.length : Int) = _
  unfold r34_0
  rw [ltI_out rfl]; rfl)
 rw [goL_fold (fun _ a => a)] at h
 have h' : l34_0 xs xs 0 = _ := h
 rw [h']; rfl
theorem markSlotS (xs : List R111) (k : Int) (h1 : 1 ≤ k) (h2 : k + ((cL cSlotE xs : Nat) : Int) ≤ 1099511627776) (h3 : wL wSlot xs ≤ 1099511627776) : g114 xs k = some (((mkL mkSlotE cSlotE xs k, ()), ()), ((k + ((cL cSlotE xs : Nat) : Int), ()), ())) := by
 have hb : big = 140737488355328 := rfl
 have hwl : wL wSlot xs = xs.length + cL wSlot xs := rfl
 unfold g114
 have h := loop_inv (step := fun (x : (List R111) × Int × Int × Unit) => r114_0 x.1 x.2.1 x.2.2.1) xs (fun i (a : List R111 × Int) => (a.1 ++ xs.drop i, a.2, ((i : Nat) : Int), ())) (fun _ x (a : List R111 × Int) => Sum.inl (a.1 ++ [mkSlotE x a.2], a.2 + ((cSlotE x : Nat) : Int)))
  (fun a => .inl (a.1, a.2, (xs.length : Int), ())) (fun i a => a.1.length = i ∧ 1 ≤ a.2 ∧ a.2 + ((cL cSlotE (xs.drop i) : Nat) : Int) ≤ 1099511627776) (a0 := ([], k)) ⟨rfl, h1, h2⟩ (fun i x a hx ha => by
    have hlt := lt_of_get hx
    have hcm := cL_mem wSlot hx
    obtain ⟨hd, ha1, ha2⟩ := ha
    rw [cL_drop _ hx] at ha2
    have hc : cSlotE x = 1 + 1 + cL (fun _ => 1) x.2.2.1 := rfl
    have hw : wSlot x = x.1.length + x.2.1.length + x.2.2.1.length := rfl
    have a0 : addW .i64 a.2 1 = a.2 + 1 := addW_in (by omega) (by omega)
    have a1 : addW .i64 (a.2 + 1) 1 = (a.2 + 1) + 1 := addW_in (by omega) (by omega)
    have m2 := markByteS x.2.2.1 ((a.2 + 1) + 1) (by omega) (by omega)
    show r114_0 (a.1 ++ xs.drop i) a.2 (i : Int) = _
    unfold r114_0
    have e : (((a.2 + 1) + 1) + ((cL (fun _ => 1) x.2.2.1 : Nat) : Int)) = a.2 + ((cSlotE x : Nat) : Int) := by omega
    simp only [drop_get hx, ltI_mid hd, inB_mid hd, stI_mid hd, gt_mid _ hd, addW1 (show i ≤ big by omega), cond_true, Option.bind_some, a0, text (k := a.2) (by omega) (by omega), a1, text (k := (a.2 + 1)) (by omega) (by omega), m2]
    rw [e, List.append_assoc]; rfl) (fun i x a a' hx ha hf => by
    obtain ⟨hd, ha1, ha2⟩ := ha
    rw [cL_drop _ hx] at ha2
    simp only [Sum.inl.injEq] at hf
    subst hf
    refine ⟨by rw [List.length_append, hd]; rfl, ?_, ?_⟩
    · show 1 ≤ a.2 + ((cSlotE x : Nat) : Int); omega
    · show a.2 + ((cSlotE x : Nat) : Int) + _ ≤ _; omega) (fun a ha => by
    show r114_0 (a.1 ++ xs.drop xs.length) a.2 (xs.length : Int) = _
    unfold r114_0
    rw [List.drop_length, List.append_nil, ltI_out ha.1]; rfl)
 rw [goL_mk mkSlotE cSlotE] at h
 have h' : l114_0 xs k 0 = _ := h
 rw [h']; rfl
theorem heldSlotS (xs : List R111) (k : Int) (h1 : 1 ≤ k) (h2 : k + ((cL cSlotE xs : Nat) : Int) ≤ 1099511627776) (h3 : wL wSlot xs ≤ 1099511627776) : g117 (mkL mkSlotE cSlotE xs k) k = some ((), ((k + ((cL cSlotE xs : Nat) : Int), ()), ())) := by
 have hb : big = 140737488355328 := rfl
 have hwl : wL wSlot xs = xs.length + cL wSlot xs := rfl
 unfold g117
 have h := loop_inv (step := fun (x : (List R111) × Int × Int × Unit) => r117_0 x.1 x.2.1 x.2.2.1) xs (fun i (a : Int) => (mkL mkSlotE cSlotE xs k, a, ((i : Nat) : Int), ())) (fun _ x (a : Int) => Sum.inl (a + ((cSlotE x : Nat) : Int)))
  (fun a => .inl (mkL mkSlotE cSlotE xs k, a, (xs.length : Int), ())) (fun i a => a = k + ((cL cSlotE (xs.take i) : Nat) : Int)) (a0 := k) (by simp [cL]) (fun i x a hx ha => by
    have hlt := lt_of_get hx
    have hcm := cL_mem wSlot hx
    have hs := cL_split cSlotE xs i
    have hy := mkL_getx mkSlotE cSlotE xs k i x hx
    rw [cL_drop _ hx] at hs
    rw [← ha] at hy
    have hc : cSlotE x = 1 + 1 + cL (fun _ => 1) x.2.2.1 := rfl
    have hw : wSlot x = x.1.length + x.2.1.length + x.2.2.1.length := rfl
    have a0 : addW .i64 a 1 = a + 1 := addW_in (by omega) (by omega)
    have a1 : addW .i64 (a + 1) 1 = (a + 1) + 1 := addW_in (by omega) (by omega)
    have m2 := heldByteS x.2.2.1 ((a + 1) + 1) (by omega) (by omega)
    have n2 : ltI (((a + 1) + 1) + ((cL (fun _ => 1) x.2.2.1 : Nat) : Int)) 0 = false := ltI_no (by omega)
    show r117_0 (mkL mkSlotE cSlotE xs k) a (i : Int) = _
    unfold r117_0
    have e : (((a + 1) + 1) + ((cL (fun _ => 1) x.2.2.1 : Nat) : Int)) = a + ((cSlotE x : Nat) : Int) := by omega
    simp only [ltI_in hy, inB_in hy, gt_in _ hy, addW1 (show i ≤ big by omega), mkSlotE, cond_true, cond_false, Option.bind_some, eqS_refl, eqI_refl, Bool.not_true, a0, text (k := a) (by omega) (by omega), a1, text (k := (a + 1)) (by omega) (by omega), m2, n2]
    rw [e]) (fun i x a a' hx ha hf => by
    simp only [Sum.inl.injEq] at hf
    rw [cL_take _ hx]
    omega) (fun a ha => by
    show r117_0 (mkL mkSlotE cSlotE xs k) a (xs.length : Int) = _
    unfold r117_0
    rw [ltI_out (mkL_len _ _ _ _)]; rfl)
 rw [goL_cnt cSlotE] at h
 have h' : l117_0 (mkL mkSlotE cSlotE xs k) k 0 = _ := h
 rw [h']; rfl
def wAcct (x : ((List UInt8) × Int × Int × Int × Int × (List R93) × Int × Int × (List R3) × (List R3) × (List R98) × Unit)) : Nat := x.1.length + wL wHold x.2.2.2.2.2.1 + wRing (x.2.2.2.2.2.2.1, x.2.2.2.2.2.2.2.1, x.2.2.2.2.2.2.2.2.1, x.2.2.2.2.2.2.2.2.2.1, ()) + wL wSlot x.2.2.2.2.2.2.2.2.2.2.1
def bgAcct (x : ((List UInt8) × Int × Int × Int × Int × (List R93) × Int × Int × (List R3) × (List R3) × (List R98) × Unit)) : Prop := x.1.length ≤ big ∧ (x.2.2.2.2.2.1.length ≤ big ∧ ∀ y ∈ x.2.2.2.2.2.1, bgHold y) ∧ bgRing (x.2.2.2.2.2.2.1, x.2.2.2.2.2.2.2.1, x.2.2.2.2.2.2.2.2.1, x.2.2.2.2.2.2.2.2.2.1, ()) ∧ (x.2.2.2.2.2.2.2.2.2.2.1.length ≤ big ∧ ∀ y ∈ x.2.2.2.2.2.2.2.2.2.2.1, bgSlot y)
theorem szAcct (x : ((List UInt8) × Int × Int × Int × Int × (List R93) × Int × Int × (List R3) × (List R3) × (List R98) × Unit)) (left : Int) (h0 : 0 ≤ left) (h1 : left ≤ 1048576) (hb : bgAcct x) : g5 x left = some ((), ((szR left (wAcct x), ()), ())) := by
 have hw : wAcct x = x.1.length + wL wHold x.2.2.2.2.2.1 + wRing (x.2.2.2.2.2.2.1, x.2.2.2.2.2.2.2.1, x.2.2.2.2.2.2.2.2.1, x.2.2.2.2.2.2.2.2.2.1, ()) + wL wSlot x.2.2.2.2.2.2.2.2.2.2.1 := rfl
 unfold g5
 try dsimp only
 by_cases q0 : ((x.1.length : Nat) : Int) ≤ left
 rotate_left
 · rw [szR_len (s := x.1) (left := left) (by omega) (by omega) hb.1]; rw [ltI_yes (by omega), szR_neg (by omega)]; rfl
 rw [szR_len (s := x.1) (left := left) (by omega) (by omega) hb.1]; rw [ltI_no (by omega)]; dsimp only [cond_false]
 by_cases q1 : ((wL wHold x.2.2.2.2.2.1 : Nat) : Int) ≤ (left - ((x.1.length : Nat) : Int))
 rotate_left
 · rw [szHoldS x.2.2.2.2.2.1 (left - ((x.1.length : Nat) : Int)) (by omega) (by omega) (hb.2.1), szR_neg q1, szR_neg (by omega)]; rfl
 rw [szHoldS x.2.2.2.2.2.1 (left - ((x.1.length : Nat) : Int)) (by omega) (by omega) (hb.2.1), szR_pos q1]; dsimp only [Option.bind_some]; rw [ltI_no (by omega)]; dsimp only [cond_false]
 by_cases q2 : ((wRing (x.2.2.2.2.2.2.1, x.2.2.2.2.2.2.2.1, x.2.2.2.2.2.2.2.2.1, x.2.2.2.2.2.2.2.2.2.1, ()) : Nat) : Int) ≤ ((left - ((x.1.length : Nat) : Int)) - ((wL wHold x.2.2.2.2.2.1 : Nat) : Int))
 rotate_left
 · rw [szRing (x.2.2.2.2.2.2.1, x.2.2.2.2.2.2.2.1, x.2.2.2.2.2.2.2.2.1, x.2.2.2.2.2.2.2.2.2.1, ()) ((left - ((x.1.length : Nat) : Int)) - ((wL wHold x.2.2.2.2.2.1 : Nat) : Int)) (by omega) (by omega) (hb.2.2.1), szR_neg q2, szR_neg (by omega)]; rfl
 rw [szRing (x.2.2.2.2.2.2.1, x.2.2.2.2.2.2.2.1, x.2.2.2.2.2.2.2.2.1, x.2.2.2.2.2.2.2.2.2.1, ()) ((left - ((x.1.length : Nat) : Int)) - ((wL wHold x.2.2.2.2.2.1 : Nat) : Int)) (by omega) (by omega) (hb.2.2.1), szR_pos q2]; dsimp only [Option.bind_some]; rw [ltI_no (by omega)]; dsimp only [cond_false]
 by_cases q3 : ((wL wSlot x.2.2.2.2.2.2.2.2.2.2.1 : Nat) : Int) ≤ (((left - ((x.1.length : Nat) : Int)) - ((wL wHold x.2.2.2.2.2.1 : Nat) : Int)) - ((wRing (x.2.2.2.2.2.2.1, x.2.2.2.2.2.2.2.1, x.2.2.2.2.2.2.2.2.1, x.2.2.2.2.2.2.2.2.2.1, ()) : Nat) : Int))
 rotate_left
 · rw [szSlotS x.2.2.2.2.2.2.2.2.2.2.1 (((left - ((x.1.length : Nat) : Int)) - ((wL wHold x.2.2.2.2.2.1 : Nat) : Int)) - ((wRing (x.2.2.2.2.2.2.1, x.2.2.2.2.2.2.2.1, x.2.2.2.2.2.2.2.2.1, x.2.2.2.2.2.2.2.2.2.1, ()) : Nat) : Int)) (by omega) (by omega) (hb.2.2.2), szR_neg q3, szR_neg (by omega)]; rfl
 rw [szSlotS x.2.2.2.2.2.2.2.2.2.2.1 (((left - ((x.1.length : Nat) : Int)) - ((wL wHold x.2.2.2.2.2.1 : Nat) : Int)) - ((wRing (x.2.2.2.2.2.2.1, x.2.2.2.2.2.2.2.1, x.2.2.2.2.2.2.2.2.1, x.2.2.2.2.2.2.2.2.2.1, ()) : Nat) : Int)) (by omega) (by omega) (hb.2.2.2), szR_pos q3]; dsimp only [Option.bind_some]; rw [ltI_no (by omega)]; dsimp only [cond_false]
 rw [szR_pos (by omega)]
 have e : ((((left - ((x.1.length : Nat) : Int)) - ((wL wHold x.2.2.2.2.2.1 : Nat) : Int)) - ((wRing (x.2.2.2.2.2.2.1, x.2.2.2.2.2.2.2.1, x.2.2.2.2.2.2.2.2.1, x.2.2.2.2.2.2.2.2.2.1, ()) : Nat) : Int)) - ((wL wSlot x.2.2.2.2.2.2.2.2.2.2.1 : Nat) : Int)) = left - ((wAcct x : Nat) : Int) := by omega
 rw [e]
theorem toAcct (x : ((List UInt8) × Int × Int × Int × Int × (List R93) × Int × Int × (List R3) × (List R3) × (List R98) × Unit)) (h : wAcct x ≤ 1048576) : g7 x = some ((), (x, ())) := by
 have hw : wAcct x = x.1.length + wL wHold x.2.2.2.2.2.1 + wRing (x.2.2.2.2.2.2.1, x.2.2.2.2.2.2.2.1, x.2.2.2.2.2.2.2.2.1, x.2.2.2.2.2.2.2.2.2.1, ()) + wL wSlot x.2.2.2.2.2.2.2.2.2.2.1 := rfl
 unfold g7
 rw [toHoldS x.2.2.2.2.2.1 (by omega)]
 rw [toRing (x.2.2.2.2.2.2.1, x.2.2.2.2.2.2.2.1, x.2.2.2.2.2.2.2.2.1, x.2.2.2.2.2.2.2.2.2.1, ()) (by omega)]
 rw [toSlotS x.2.2.2.2.2.2.2.2.2.2.1 (by omega)]
 rfl
theorem eqAcct (x : ((List UInt8) × Int × Int × Int × Int × (List R93) × Int × Int × (List R3) × (List R3) × (List R98) × Unit)) (h : wAcct x ≤ 1099511627776) : g9 x x = some ((), ((true, ()), ())) := by
 have hw : wAcct x = x.1.length + wL wHold x.2.2.2.2.2.1 + wRing (x.2.2.2.2.2.2.1, x.2.2.2.2.2.2.2.1, x.2.2.2.2.2.2.2.2.1, x.2.2.2.2.2.2.2.2.2.1, ()) + wL wSlot x.2.2.2.2.2.2.2.2.2.2.1 := rfl
 unfold g9
 simp only [eqI_refl, eqS_refl, Bool.not_true, cond_false, Option.bind_some, beq_self_eq_true, eqHoldS x.2.2.2.2.2.1 (by omega), eqRing (x.2.2.2.2.2.2.1, x.2.2.2.2.2.2.2.1, x.2.2.2.2.2.2.2.2.1, x.2.2.2.2.2.2.2.2.2.1, ()) (by omega), eqSlotS x.2.2.2.2.2.2.2.2.2.2.1 (by omega)]
def cAcctE (x : ((List UInt8) × Int × Int × Int × Int × (List R93) × Int × Int × (List R3) × (List R3) × (List R98) × Unit)) : Nat := 1 + 1 + 1 + 1 + 1 + cL cHoldE x.2.2.2.2.2.1 + 1 + 1 + cL (fun _ => 1) x.2.2.2.2.2.2.2.2.1 + cL (fun _ => 1) x.2.2.2.2.2.2.2.2.2.1 + cL cSlotE x.2.2.2.2.2.2.2.2.2.2.1
noncomputable def mkAcctE (x : ((List UInt8) × Int × Int × Int × Int × (List R93) × Int × Int × (List R3) × (List R3) × (List R98) × Unit)) (k : Int) : ((List UInt8) × Int × Int × Int × Int × (List R93) × Int × Int × (List R3) × (List R3) × (List R98) × Unit) := (mt k, (k + 1), ((k + 1) + 1), (((k + 1) + 1) + 1), ((((k + 1) + 1) + 1) + 1), mkL mkHoldE cHoldE x.2.2.2.2.2.1 (((((k + 1) + 1) + 1) + 1) + 1), ((((((k + 1) + 1) + 1) + 1) + 1) + ((cL cHoldE x.2.2.2.2.2.1 : Nat) : Int)), (((((((k + 1) + 1) + 1) + 1) + 1) + ((cL cHoldE x.2.2.2.2.2.1 : Nat) : Int)) + 1), mkL mkInt (fun _ => 1) x.2.2.2.2.2.2.2.2.1 ((((((((k + 1) + 1) + 1) + 1) + 1) + ((cL cHoldE x.2.2.2.2.2.1 : Nat) : Int)) + 1) + 1), mkL mkInt (fun _ => 1) x.2.2.2.2.2.2.2.2.2.1 (((((((((k + 1) + 1) + 1) + 1) + 1) + ((cL cHoldE x.2.2.2.2.2.1 : Nat) : Int)) + 1) + 1) + ((cL (fun _ => 1) x.2.2.2.2.2.2.2.2.1 : Nat) : Int)), mkL mkSlotE cSlotE x.2.2.2.2.2.2.2.2.2.2.1 ((((((((((k + 1) + 1) + 1) + 1) + 1) + ((cL cHoldE x.2.2.2.2.2.1 : Nat) : Int)) + 1) + 1) + ((cL (fun _ => 1) x.2.2.2.2.2.2.2.2.1 : Nat) : Int)) + ((cL (fun _ => 1) x.2.2.2.2.2.2.2.2.2.1 : Nat) : Int)), ())
theorem cAcctE_le (x : ((List UInt8) × Int × Int × Int × Int × (List R93) × Int × Int × (List R3) × (List R3) × (List R98) × Unit)) : cAcctE x ≤ 100 * (wAcct x + 1) := by
 have hw : wAcct x = x.1.length + wL wHold x.2.2.2.2.2.1 + wRing (x.2.2.2.2.2.2.1, x.2.2.2.2.2.2.2.1, x.2.2.2.2.2.2.2.2.1, x.2.2.2.2.2.2.2.2.2.1, ()) + wL wSlot x.2.2.2.2.2.2.2.2.2.2.1 := rfl
 have hc : cAcctE x = 1 + 1 + 1 + 1 + 1 + cL cHoldE x.2.2.2.2.2.1 + 1 + 1 + cL (fun _ => 1) x.2.2.2.2.2.2.2.2.1 + cL (fun _ => 1) x.2.2.2.2.2.2.2.2.2.1 + cL cSlotE x.2.2.2.2.2.2.2.2.2.2.1 := rfl
 have hw6 : wRing (x.2.2.2.2.2.2.1, x.2.2.2.2.2.2.2.1, x.2.2.2.2.2.2.2.2.1, x.2.2.2.2.2.2.2.2.2.1, ()) = (x.2.2.2.2.2.2.1, x.2.2.2.2.2.2.2.1, x.2.2.2.2.2.2.2.2.1, x.2.2.2.2.2.2.2.2.2.1, ()).2.2.1.length + (x.2.2.2.2.2.2.1, x.2.2.2.2.2.2.2.1, x.2.2.2.2.2.2.2.2.1, x.2.2.2.2.2.2.2.2.2.1, ()).2.2.2.1.length := rfl
 have h5 := cL_le cHoldE_le x.2.2.2.2.2.1
 have h8 := cL_one x.2.2.2.2.2.2.2.2.1
 have h9 := cL_one x.2.2.2.2.2.2.2.2.2.1
 have h10 := cL_le cSlotE_le x.2.2.2.2.2.2.2.2.2.2.1
 try dsimp only at *
 omega
theorem szAcctS_loop (xs : List R28) (hb : xs.length ≤ big ∧ ∀ y ∈ xs, bgAcct y) (a : Int) (h0 : 0 ≤ a) (h1 : a ≤ 1048576) : l35_0 xs a 0 = some (if ((cL wAcct xs : Nat) : Int) ≤ a then .inl (xs, a - (cL wAcct xs : Nat), (xs.length : Int), ()) else .inr (-1, ())) := by
 have h := loop_inv (step := fun (x : (List R28) × Int × Int × Unit) => r35_0 x.1 x.2.1 x.2.2.1) xs (fun i (a : Int) => (xs, a, ((i : Nat) : Int), ())) (fun _ x (a : Int) => bif decide ((wAcct x : Int) ≤ a) then Sum.inl (a - wAcct x) else .inr (.inr (-1, ())))
  (fun a => .inl (xs, a, (xs.length : Int), ())) (fun _ a => 0 ≤ a ∧ a ≤ 1048576) (a0 := a) ⟨h0, h1⟩ (fun i x a hx ha => by
    have hmem := List.mem_of_getElem? hx
    have hlt := lt_of_get hx
    show r35_0 xs a (i : Int) = _
    unfold r35_0
    rw [ltI_in hx, inB_in hx, gt_in _ hx, szAcct x a ha.1 ha.2 (hb.2 x hmem), addW1 (by omega)]
    dsimp only [cond_true, Option.bind_some]
    by_cases q : ((wAcct x : Nat) : Int) ≤ a
    · rw [szR_pos q, ltI_no (by omega), decide_eq_true q]; rfl
    · rw [szR_neg q, decide_eq_false q]; rfl) (fun i x a a' hx ha hf => by
    by_cases q : ((wAcct x : Nat) : Int) ≤ a
    · rw [decide_eq_true q] at hf
      simp only [cond_true, Sum.inl.injEq] at hf
      omega
    · rw [decide_eq_false q] at hf
      simp at hf) (fun a ha => by
    show r35_0 xs a (xs.length : Int) = _
    unfold r35_0
    rw [ltI_out rfl]; rfl)
 rw [goL_sz _ _ _ _ _ _ h0] at h
 refine Eq.trans h ?_
 split <;> rfl
theorem szAcctS (xs : List R28) (left : Int) (h0 : 0 ≤ left) (h1 : left ≤ 1048576) (hb : xs.length ≤ big ∧ ∀ y ∈ xs, bgAcct y) : g35 xs left = some ((), ((szR left (wL wAcct xs), ()), ())) := by
 have hw : wL wAcct xs = xs.length + cL wAcct xs := rfl
 unfold g35
 dsimp only
 rw [szR_len (s := xs) (left := left) (by omega) (by omega) hb.1]
 by_cases q : ((xs.length : Nat) : Int) ≤ left
 · rw [ltI_no (by omega)]
   dsimp only [cond_false]
   rw [szAcctS_loop xs hb _ (by omega) (by omega)]
   by_cases q2 : ((cL wAcct xs : Nat) : Int) ≤ left - (xs.length : Int)
   · rw [if_pos q2, szR_pos (by omega)]
     dsimp only [Option.bind_some, Sum.elim_inl]
     have e : left - (xs.length : Int) - (cL wAcct xs : Nat) = left - ((wL wAcct xs : Nat) : Int) := by omega
     rw [e]
   · rw [if_neg q2, szR_neg (by omega)]; rfl
 · rw [ltI_yes (by omega), szR_neg (by omega)]; rfl
theorem toAcctS (xs : List R28) (h : wL wAcct xs ≤ 1048576) : g42 xs = some ((), ((xs, ()), ())) := by
 have hb : big = 140737488355328 := rfl
 have hw : wL wAcct xs = xs.length + cL wAcct xs := rfl
 unfold g42
 dsimp only
 rw [mkB_in (by decide) (by omega), repI_len]
 have h := loop_inv (step := fun (x : (List R28) × (List R36) × Int × Unit) => r42_0 x.1 x.2.1 x.2.2.1) xs (fun i (a : List R28) => (xs, a ++ List.replicate (xs.length - i) d36, ((i : Nat) : Int), ())) (fun _ x (a : List R28) => Sum.inl (a ++ [x]))
  (fun a => .inl (xs, a, (xs.length : Int), ())) (fun i a => a.length = i) (a0 := []) rfl (fun i x a hx ha => by
    have hlt := lt_of_get hx
    have hcm := cL_mem wAcct hx
    show r42_0 xs (a ++ List.replicate (xs.length - i) d36) (i : Int) = _
    unfold r42_0
    obtain ⟨q, hq⟩ : ∃ q, xs.length - i = q + 1 := ⟨xs.length - i - 1, by omega⟩
    have hq' : xs.length - (i + 1) = q := by omega
    rw [hq, List.replicate_succ, ltI_in hx, inB_in hx, gt_in _ hx, toAcct x (by omega)]
    dsimp only [cond_true, Option.bind_some]
    simp only [inB_mid ha, gt_mid _ ha, stI_mid ha, addW1 (show i ≤ big by omega), hq', cond_true, List.append_assoc, List.singleton_append]) (fun i x a a' hx ha hf => by
    simp only [Sum.inl.injEq] at hf
    rw [← hf, List.length_append, ha]; rfl) (fun a ha => by
    show r42_0 xs (a ++ List.replicate (xs.length - xs.length) d36) (xs.length : Int) = _
    unfold r42_0
    rw [ltI_out rfl, Nat.sub_self, List.replicate_zero, List.append_nil]; rfl)
 rw [goL_cp] at h
 have h' : l42_0 xs (List.replicate xs.length d36) 0 = _ := h
 rw [h']; rfl
theorem eqAcctS (xs : List R36) (h : wL wAcct xs ≤ 1099511627776) : g54 xs xs = some ((), ((true, ()), ())) := by
 have hb : big = 140737488355328 := rfl
 have hw : wL wAcct xs = xs.length + cL wAcct xs := rfl
 unfold g54
 rw [eqI_refl]
 have h := loop_list (step := fun (x : (List R36) × (List R36) × Int × Unit) => r54_0 x.1 x.2.1 x.2.2.1) xs (fun i (_ : Unit) => (xs, xs, ((i : Nat) : Int), ())) (fun _ x _ => Sum.inl ()) (fun _ => .inl (xs, xs, (xs.length : Int), ())) (a0 := ()) (fun i x a hx => by
  have hlt := lt_of_get hx
  have hcm := cL_mem wAcct hx
  show r54_0 xs xs (i : Int) = _
  unfold r54_0
  rw [ltI_in hx, inB_in hx, gt_in _ hx, eqAcct x (by omega), addW1 (by omega)]; rfl) (fun a => by
  show r54_0 xs xs (xs.length : Int) = _
  unfold r54_0
  rw [ltI_out rfl]; rfl)
 rw [goL_fold (fun _ a => a)] at h
 have h' : l54_0 xs xs 0 = _ := h
 rw [h']; rfl
theorem markAcctS (xs : List R36) (k : Int) (h1 : 1 ≤ k) (h2 : k + ((cL cAcctE xs : Nat) : Int) ≤ 1099511627776) (h3 : wL wAcct xs ≤ 1099511627776) : g55 xs k = some (((mkL mkAcctE cAcctE xs k, ()), ()), ((k + ((cL cAcctE xs : Nat) : Int), ()), ())) := by
 have hb : big = 140737488355328 := rfl
 have hwl : wL wAcct xs = xs.length + cL wAcct xs := rfl
 unfold g55
 have h := loop_inv (step := fun (x : (List R36) × Int × Int × Unit) => r55_0 x.1 x.2.1 x.2.2.1) xs (fun i (a : List R36 × Int) => (a.1 ++ xs.drop i, a.2, ((i : Nat) : Int), ())) (fun _ x (a : List R36 × Int) => Sum.inl (a.1 ++ [mkAcctE x a.2], a.2 + ((cAcctE x : Nat) : Int)))
  (fun a => .inl (a.1, a.2, (xs.length : Int), ())) (fun i a => a.1.length = i ∧ 1 ≤ a.2 ∧ a.2 + ((cL cAcctE (xs.drop i) : Nat) : Int) ≤ 1099511627776) (a0 := ([], k)) ⟨rfl, h1, h2⟩ (fun i x a hx ha => by
    have hlt := lt_of_get hx
    have hcm := cL_mem wAcct hx
    obtain ⟨hd, ha1, ha2⟩ := ha
    rw [cL_drop _ hx] at ha2
    have hc : cAcctE x = 1 + 1 + 1 + 1 + 1 + cL cHoldE x.2.2.2.2.2.1 + 1 + 1 + cL (fun _ => 1) x.2.2.2.2.2.2.2.2.1 + cL (fun _ => 1) x.2.2.2.2.2.2.2.2.2.1 + cL cSlotE x.2.2.2.2.2.2.2.2.2.2.1 := rfl
    have hw : wAcct x = x.1.length + wL wHold x.2.2.2.2.2.1 + wRing (x.2.2.2.2.2.2.1, x.2.2.2.2.2.2.2.1, x.2.2.2.2.2.2.2.2.1, x.2.2.2.2.2.2.2.2.2.1, ()) + wL wSlot x.2.2.2.2.2.2.2.2.2.2.1 := rfl
    have hw6 : wRing (x.2.2.2.2.2.2.1, x.2.2.2.2.2.2.2.1, x.2.2.2.2.2.2.2.2.1, x.2.2.2.2.2.2.2.2.2.1, ()) = (x.2.2.2.2.2.2.1, x.2.2.2.2.2.2.2.1, x.2.2.2.2.2.2.2.2.1, x.2.2.2.2.2.2.2.2.2.1, ()).2.2.1.length + (x.2.2.2.2.2.2.1, x.2.2.2.2.2.2.2.1, x.2.2.2.2.2.2.2.2.1, x.2.2.2.2.2.2.2.2.2.1, ()).2.2.2.1.length := rfl
    have a0 : addW .i64 a.2 1 = a.2 + 1 := addW_in (by omega) (by omega)
    have a1 : addW .i64 (a.2 + 1) 1 = (a.2 + 1) + 1 := addW_in (by omega) (by omega)
    have a2 : addW .i64 ((a.2 + 1) + 1) 1 = ((a.2 + 1) + 1) + 1 := addW_in (by omega) (by omega)
    have a3 : addW .i64 (((a.2 + 1) + 1) + 1) 1 = (((a.2 + 1) + 1) + 1) + 1 := addW_in (by omega) (by omega)
    have a4 : addW .i64 ((((a.2 + 1) + 1) + 1) + 1) 1 = ((((a.2 + 1) + 1) + 1) + 1) + 1 := addW_in (by omega) (by omega)
    have m5 := markHoldS x.2.2.2.2.2.1 (((((a.2 + 1) + 1) + 1) + 1) + 1) (by omega) (by omega) (by omega)
    have a6 : addW .i64 ((((((a.2 + 1) + 1) + 1) + 1) + 1) + ((cL cHoldE x.2.2.2.2.2.1 : Nat) : Int)) 1 = ((((((a.2 + 1) + 1) + 1) + 1) + 1) + ((cL cHoldE x.2.2.2.2.2.1 : Nat) : Int)) + 1 := addW_in (by omega) (by omega)
    have a7 : addW .i64 (((((((a.2 + 1) + 1) + 1) + 1) + 1) + ((cL cHoldE x.2.2.2.2.2.1 : Nat) : Int)) + 1) 1 = (((((((a.2 + 1) + 1) + 1) + 1) + 1) + ((cL cHoldE x.2.2.2.2.2.1 : Nat) : Int)) + 1) + 1 := addW_in (by omega) (by omega)
    have m8 := markIntS x.2.2.2.2.2.2.2.2.1 ((((((((a.2 + 1) + 1) + 1) + 1) + 1) + ((cL cHoldE x.2.2.2.2.2.1 : Nat) : Int)) + 1) + 1) (by omega) (by omega)
    have m9 := markIntS x.2.2.2.2.2.2.2.2.2.1 (((((((((a.2 + 1) + 1) + 1) + 1) + 1) + ((cL cHoldE x.2.2.2.2.2.1 : Nat) : Int)) + 1) + 1) + ((cL (fun _ => 1) x.2.2.2.2.2.2.2.2.1 : Nat) : Int)) (by omega) (by omega)
    have m10 := markSlotS x.2.2.2.2.2.2.2.2.2.2.1 ((((((((((a.2 + 1) + 1) + 1) + 1) + 1) + ((cL cHoldE x.2.2.2.2.2.1 : Nat) : Int)) + 1) + 1) + ((cL (fun _ => 1) x.2.2.2.2.2.2.2.2.1 : Nat) : Int)) + ((cL (fun _ => 1) x.2.2.2.2.2.2.2.2.2.1 : Nat) : Int)) (by omega) (by omega) (by omega)
    show r55_0 (a.1 ++ xs.drop i) a.2 (i : Int) = _
    unfold r55_0
    have e : (((((((((((a.2 + 1) + 1) + 1) + 1) + 1) + ((cL cHoldE x.2.2.2.2.2.1 : Nat) : Int)) + 1) + 1) + ((cL (fun _ => 1) x.2.2.2.2.2.2.2.2.1 : Nat) : Int)) + ((cL (fun _ => 1) x.2.2.2.2.2.2.2.2.2.1 : Nat) : Int)) + ((cL cSlotE x.2.2.2.2.2.2.2.2.2.2.1 : Nat) : Int)) = a.2 + ((cAcctE x : Nat) : Int) := by omega
    simp only [drop_get hx, ltI_mid hd, inB_mid hd, stI_mid hd, gt_mid _ hd, addW1 (show i ≤ big by omega), cond_true, Option.bind_some, a0, text (k := a.2) (by omega) (by omega), a1, a2, a3, a4, m5, a6, a7, m8, m9, m10]
    rw [e, List.append_assoc]; rfl) (fun i x a a' hx ha hf => by
    obtain ⟨hd, ha1, ha2⟩ := ha
    rw [cL_drop _ hx] at ha2
    simp only [Sum.inl.injEq] at hf
    subst hf
    refine ⟨by rw [List.length_append, hd]; rfl, ?_, ?_⟩
    · show 1 ≤ a.2 + ((cAcctE x : Nat) : Int); omega
    · show a.2 + ((cAcctE x : Nat) : Int) + _ ≤ _; omega) (fun a ha => by
    show r55_0 (a.1 ++ xs.drop xs.length) a.2 (xs.length : Int) = _
    unfold r55_0
    rw [List.drop_length, List.append_nil, ltI_out ha.1]; rfl)
 rw [goL_mk mkAcctE cAcctE] at h
 have h' : l55_0 xs k 0 = _ := h
 rw [h']; rfl
theorem heldAcctS (xs : List R36) (k : Int) (h1 : 1 ≤ k) (h2 : k + ((cL cAcctE xs : Nat) : Int) ≤ 1099511627776) (h3 : wL wAcct xs ≤ 1099511627776) : g56 (mkL mkAcctE cAcctE xs k) k = some ((), ((k + ((cL cAcctE xs : Nat) : Int), ()), ())) := by
 have hb : big = 140737488355328 := rfl
 have hwl : wL wAcct xs = xs.length + cL wAcct xs := rfl
 unfold g56
 have h := loop_inv (step := fun (x : (List R36) × Int × Int × Unit) => r56_0 x.1 x.2.1 x.2.2.1) xs (fun i (a : Int) => (mkL mkAcctE cAcctE xs k, a, ((i : Nat) : Int), ())) (fun _ x (a : Int) => Sum.inl (a + ((cAcctE x : Nat) : Int)))
  (fun a => .inl (mkL mkAcctE cAcctE xs k, a, (xs.length : Int), ())) (fun i a => a = k + ((cL cAcctE (xs.take i) : Nat) : Int)) (a0 := k) (by simp [cL]) (fun i x a hx ha => by
    have hlt := lt_of_get hx
    have hcm := cL_mem wAcct hx
    have hs := cL_split cAcctE xs i
    have hy := mkL_getx mkAcctE cAcctE xs k i x hx
    rw [cL_drop _ hx] at hs
    rw [← ha] at hy
    have hc : cAcctE x = 1 + 1 + 1 + 1 + 1 + cL cHoldE x.2.2.2.2.2.1 + 1 + 1 + cL (fun _ => 1) x.2.2.2.2.2.2.2.2.1 + cL (fun _ => 1) x.2.2.2.2.2.2.2.2.2.1 + cL cSlotE x.2.2.2.2.2.2.2.2.2.2.1 := rfl
    have hw : wAcct x = x.1.length + wL wHold x.2.2.2.2.2.1 + wRing (x.2.2.2.2.2.2.1, x.2.2.2.2.2.2.2.1, x.2.2.2.2.2.2.2.2.1, x.2.2.2.2.2.2.2.2.2.1, ()) + wL wSlot x.2.2.2.2.2.2.2.2.2.2.1 := rfl
    have hw6 : wRing (x.2.2.2.2.2.2.1, x.2.2.2.2.2.2.2.1, x.2.2.2.2.2.2.2.2.1, x.2.2.2.2.2.2.2.2.2.1, ()) = (x.2.2.2.2.2.2.1, x.2.2.2.2.2.2.2.1, x.2.2.2.2.2.2.2.2.1, x.2.2.2.2.2.2.2.2.2.1, ()).2.2.1.length + (x.2.2.2.2.2.2.1, x.2.2.2.2.2.2.2.1, x.2.2.2.2.2.2.2.2.1, x.2.2.2.2.2.2.2.2.2.1, ()).2.2.2.1.length := rfl
    have a0 : addW .i64 a 1 = a + 1 := addW_in (by omega) (by omega)
    have a1 : addW .i64 (a + 1) 1 = (a + 1) + 1 := addW_in (by omega) (by omega)
    have a2 : addW .i64 ((a + 1) + 1) 1 = ((a + 1) + 1) + 1 := addW_in (by omega) (by omega)
    have a3 : addW .i64 (((a + 1) + 1) + 1) 1 = (((a + 1) + 1) + 1) + 1 := addW_in (by omega) (by omega)
    have a4 : addW .i64 ((((a + 1) + 1) + 1) + 1) 1 = ((((a + 1) + 1) + 1) + 1) + 1 := addW_in (by omega) (by omega)
    have m5 := heldHoldS x.2.2.2.2.2.1 (((((a + 1) + 1) + 1) + 1) + 1) (by omega) (by omega) (by omega)
    have n5 : ltI ((((((a + 1) + 1) + 1) + 1) + 1) + ((cL cHoldE x.2.2.2.2.2.1 : Nat) : Int)) 0 = false := ltI_no (by omega)
    have a6 : addW .i64 ((((((a + 1) + 1) + 1) + 1) + 1) + ((cL cHoldE x.2.2.2.2.2.1 : Nat) : Int)) 1 = ((((((a + 1) + 1) + 1) + 1) + 1) + ((cL cHoldE x.2.2.2.2.2.1 : Nat) : Int)) + 1 := addW_in (by omega) (by omega)
    have a7 : addW .i64 (((((((a + 1) + 1) + 1) + 1) + 1) + ((cL cHoldE x.2.2.2.2.2.1 : Nat) : Int)) + 1) 1 = (((((((a + 1) + 1) + 1) + 1) + 1) + ((cL cHoldE x.2.2.2.2.2.1 : Nat) : Int)) + 1) + 1 := addW_in (by omega) (by omega)
    have m8 := heldIntS x.2.2.2.2.2.2.2.2.1 ((((((((a + 1) + 1) + 1) + 1) + 1) + ((cL cHoldE x.2.2.2.2.2.1 : Nat) : Int)) + 1) + 1) (by omega) (by omega)
    have n8 : ltI (((((((((a + 1) + 1) + 1) + 1) + 1) + ((cL cHoldE x.2.2.2.2.2.1 : Nat) : Int)) + 1) + 1) + ((cL (fun _ => 1) x.2.2.2.2.2.2.2.2.1 : Nat) : Int)) 0 = false := ltI_no (by omega)
    have m9 := heldIntS x.2.2.2.2.2.2.2.2.2.1 (((((((((a + 1) + 1) + 1) + 1) + 1) + ((cL cHoldE x.2.2.2.2.2.1 : Nat) : Int)) + 1) + 1) + ((cL (fun _ => 1) x.2.2.2.2.2.2.2.2.1 : Nat) : Int)) (by omega) (by omega)
    have n9 : ltI ((((((((((a + 1) + 1) + 1) + 1) + 1) + ((cL cHoldE x.2.2.2.2.2.1 : Nat) : Int)) + 1) + 1) + ((cL (fun _ => 1) x.2.2.2.2.2.2.2.2.1 : Nat) : Int)) + ((cL (fun _ => 1) x.2.2.2.2.2.2.2.2.2.1 : Nat) : Int)) 0 = false := ltI_no (by omega)
    have m10 := heldSlotS x.2.2.2.2.2.2.2.2.2.2.1 ((((((((((a + 1) + 1) + 1) + 1) + 1) + ((cL cHoldE x.2.2.2.2.2.1 : Nat) : Int)) + 1) + 1) + ((cL (fun _ => 1) x.2.2.2.2.2.2.2.2.1 : Nat) : Int)) + ((cL (fun _ => 1) x.2.2.2.2.2.2.2.2.2.1 : Nat) : Int)) (by omega) (by omega) (by omega)
    have n10 : ltI (((((((((((a + 1) + 1) + 1) + 1) + 1) + ((cL cHoldE x.2.2.2.2.2.1 : Nat) : Int)) + 1) + 1) + ((cL (fun _ => 1) x.2.2.2.2.2.2.2.2.1 : Nat) : Int)) + ((cL (fun _ => 1) x.2.2.2.2.2.2.2.2.2.1 : Nat) : Int)) + ((cL cSlotE x.2.2.2.2.2.2.2.2.2.2.1 : Nat) : Int)) 0 = false := ltI_no (by omega)
    show r56_0 (mkL mkAcctE cAcctE xs k) a (i : Int) = _
    unfold r56_0
    have e : (((((((((((a + 1) + 1) + 1) + 1) + 1) + ((cL cHoldE x.2.2.2.2.2.1 : Nat) : Int)) + 1) + 1) + ((cL (fun _ => 1) x.2.2.2.2.2.2.2.2.1 : Nat) : Int)) + ((cL (fun _ => 1) x.2.2.2.2.2.2.2.2.2.1 : Nat) : Int)) + ((cL cSlotE x.2.2.2.2.2.2.2.2.2.2.1 : Nat) : Int)) = a + ((cAcctE x : Nat) : Int) := by omega
    simp only [ltI_in hy, inB_in hy, gt_in _ hy, addW1 (show i ≤ big by omega), mkAcctE, cond_true, cond_false, Option.bind_some, eqS_refl, eqI_refl, Bool.not_true, a0, text (k := a) (by omega) (by omega), a1, a2, a3, a4, m5, n5, a6, a7, m8, n8, m9, n9, m10, n10]
    rw [e]) (fun i x a a' hx ha hf => by
    simp only [Sum.inl.injEq] at hf
    rw [cL_take _ hx]
    omega) (fun a ha => by
    show r56_0 (mkL mkAcctE cAcctE xs k) a (xs.length : Int) = _
    unfold r56_0
    rw [ltI_out (mkL_len _ _ _ _)]; rfl)
 rw [goL_cnt cAcctE] at h
 have h' : l56_0 (mkL mkAcctE cAcctE xs k) k 0 = _ := h
 rw [h']; rfl
def wBook (x : ((List R28) × Unit)) : Nat := wL wAcct x.1
def bgBook (x : ((List R28) × Unit)) : Prop := (x.1.length ≤ big ∧ ∀ y ∈ x.1, bgAcct y)
theorem szBook (x : ((List R28) × Unit)) (left : Int) (h0 : 0 ≤ left) (h1 : left ≤ 1048576) (hb : bgBook x) : g10 x left = some ((), ((szR left (wBook x), ()), ())) := by
 have hw : wBook x = wL wAcct x.1 := rfl
 unfold g10
 try dsimp only
 by_cases q0 : ((wL wAcct x.1 : Nat) : Int) ≤ left
 rotate_left
 · rw [szAcctS x.1 left (by omega) (by omega) (hb), szR_neg q0, szR_neg (by omega)]; rfl
 rw [szAcctS x.1 left (by omega) (by omega) (hb), szR_pos q0]; dsimp only [Option.bind_some]; rw [ltI_no (by omega)]; dsimp only [cond_false]
 rw [szR_pos (by omega)]
 have e : (left - ((wL wAcct x.1 : Nat) : Int)) = left - ((wBook x : Nat) : Int) := by omega
 rw [e]
theorem toBook (x : ((List R28) × Unit)) (h : wBook x ≤ 1048576) : g13 x = some ((), (x, ())) := by
 have hw : wBook x = wL wAcct x.1 := rfl
 unfold g13
 rw [toAcctS x.1 (by omega)]
 rfl
theorem eqBook (x : ((List R28) × Unit)) (h : wBook x ≤ 1099511627776) : g16 x x = some ((), ((true, ()), ())) := by
 have hw : wBook x = wL wAcct x.1 := rfl
 unfold g16
 simp only [eqI_refl, eqS_refl, Bool.not_true, cond_false, Option.bind_some, beq_self_eq_true, eqAcctS x.1 (by omega)]
def cBook (x : ((List R28) × Unit)) : Nat := cL cAcctE x.1
noncomputable def mkBook (x : ((List R28) × Unit)) (k : Int) : ((List R28) × Unit) := (mkL mkAcctE cAcctE x.1 k, ())
theorem cBook_le (x : ((List R28) × Unit)) : cBook x ≤ 100 * wBook x := by
 have hw : wBook x = wL wAcct x.1 := rfl
 have hc : cBook x = cL cAcctE x.1 := rfl
 have h0 := cL_le cAcctE_le x.1
 omega
theorem markBook (x : ((List R28) × Unit)) (k : Int) (h1 : 1 ≤ k) (h2 : k + ((cBook x : Nat) : Int) ≤ 1099511627776) (h3 : wBook x ≤ 1099511627776) : g17 x k = some ((mkBook x k, ()), ((k + ((cBook x : Nat) : Int), ()), ())) := by
 have hb : big = 140737488355328 := rfl
 have hw : wBook x = wL wAcct x.1 := rfl
 have hc : cBook x = cL cAcctE x.1 := rfl
 have m0 := markAcctS x.1 k (by omega) (by omega) (by omega)
 unfold g17
 have e : (k + ((cL cAcctE x.1 : Nat) : Int)) = k + ((cBook x : Nat) : Int) := by omega
 rw [m0]; dsimp only [Option.bind_some, cond_false]
 rw [e]
 try rfl
theorem heldBook (x : ((List R28) × Unit)) (k : Int) (h1 : 1 ≤ k) (h2 : k + ((cBook x : Nat) : Int) ≤ 1099511627776) (h3 : wBook x ≤ 1099511627776) : g18 (mkBook x k) k = some ((), ((k + ((cBook x : Nat) : Int), ()), ())) := by
 have hb : big = 140737488355328 := rfl
 have hw : wBook x = wL wAcct x.1 := rfl
 have hc : cBook x = cL cAcctE x.1 := rfl
 have m0 := heldAcctS x.1 k (by omega) (by omega) (by omega)
 have n0 : ltI (k + ((cL cAcctE x.1 : Nat) : Int)) 0 = false := ltI_no (by omega)
 unfold g18
 have e : (k + ((cL cAcctE x.1 : Nat) : Int)) = k + ((cBook x : Nat) : Int) := by omega
 unfold mkBook
 dsimp only
 rw [m0]; dsimp only [Option.bind_some, cond_false]
 rw [n0]; dsimp only [Option.bind_some, cond_false]
 rw [e]
def wReq (x : (Int × (List UInt8) × (List UInt8) × (List UInt8) × (List UInt8) × (List UInt8) × Int × Int × Unit)) : Nat := x.2.1.length + x.2.2.1.length + x.2.2.2.1.length + x.2.2.2.2.1.length + x.2.2.2.2.2.1.length
def bgReq (x : (Int × (List UInt8) × (List UInt8) × (List UInt8) × (List UInt8) × (List UInt8) × Int × Int × Unit)) : Prop := x.2.1.length ≤ big ∧ x.2.2.1.length ≤ big ∧ x.2.2.2.1.length ≤ big ∧ x.2.2.2.2.1.length ≤ big ∧ x.2.2.2.2.2.1.length ≤ big
theorem szReq (x : (Int × (List UInt8) × (List UInt8) × (List UInt8) × (List UInt8) × (List UInt8) × Int × Int × Unit)) (left : Int) (h0 : 0 ≤ left) (h1 : left ≤ 1048576) (hb : bgReq x) : g11 x left = some ((), ((szR left (wReq x), ()), ())) := by
 have hw : wReq x = x.2.1.length + x.2.2.1.length + x.2.2.2.1.length + x.2.2.2.2.1.length + x.2.2.2.2.2.1.length := rfl
 unfold g11
 try dsimp only
 by_cases q0 : ((x.2.1.length : Nat) : Int) ≤ left
 rotate_left
 · rw [szR_len (s := x.2.1) (left := left) (by omega) (by omega) hb.1]; rw [ltI_yes (by omega), szR_neg (by omega)]; rfl
 rw [szR_len (s := x.2.1) (left := left) (by omega) (by omega) hb.1]; rw [ltI_no (by omega)]; dsimp only [cond_false]
 by_cases q1 : ((x.2.2.1.length : Nat) : Int) ≤ (left - ((x.2.1.length : Nat) : Int))
 rotate_left
 · rw [szR_len (s := x.2.2.1) (left := (left - ((x.2.1.length : Nat) : Int))) (by omega) (by omega) hb.2.1]; rw [ltI_yes (by omega), szR_neg (by omega)]; rfl
 rw [szR_len (s := x.2.2.1) (left := (left - ((x.2.1.length : Nat) : Int))) (by omega) (by omega) hb.2.1]; rw [ltI_no (by omega)]; dsimp only [cond_false]
 by_cases q2 : ((x.2.2.2.1.length : Nat) : Int) ≤ ((left - ((x.2.1.length : Nat) : Int)) - ((x.2.2.1.length : Nat) : Int))
 rotate_left
 · rw [szR_len (s := x.2.2.2.1) (left := ((left - ((x.2.1.length : Nat) : Int)) - ((x.2.2.1.length : Nat) : Int))) (by omega) (by omega) hb.2.2.1]; rw [ltI_yes (by omega), szR_neg (by omega)]; rfl
 rw [szR_len (s := x.2.2.2.1) (left := ((left - ((x.2.1.length : Nat) : Int)) - ((x.2.2.1.length : Nat) : Int))) (by omega) (by omega) hb.2.2.1]; rw [ltI_no (by omega)]; dsimp only [cond_false]
 by_cases q3 : ((x.2.2.2.2.1.length : Nat) : Int) ≤ (((left - ((x.2.1.length : Nat) : Int)) - ((x.2.2.1.length : Nat) : Int)) - ((x.2.2.2.1.length : Nat) : Int))
 rotate_left
 · rw [szR_len (s := x.2.2.2.2.1) (left := (((left - ((x.2.1.length : Nat) : Int)) - ((x.2.2.1.length : Nat) : Int)) - ((x.2.2.2.1.length : Nat) : Int))) (by omega) (by omega) hb.2.2.2.1]; rw [ltI_yes (by omega), szR_neg (by omega)]; rfl
 rw [szR_len (s := x.2.2.2.2.1) (left := (((left - ((x.2.1.length : Nat) : Int)) - ((x.2.2.1.length : Nat) : Int)) - ((x.2.2.2.1.length : Nat) : Int))) (by omega) (by omega) hb.2.2.2.1]; rw [ltI_no (by omega)]; dsimp only [cond_false]
 by_cases q4 : ((x.2.2.2.2.2.1.length : Nat) : Int) ≤ ((((left - ((x.2.1.length : Nat) : Int)) - ((x.2.2.1.length : Nat) : Int)) - ((x.2.2.2.1.length : Nat) : Int)) - ((x.2.2.2.2.1.length : Nat) : Int))
 rotate_left
 · rw [szR_len (s := x.2.2.2.2.2.1) (left := ((((left - ((x.2.1.length : Nat) : Int)) - ((x.2.2.1.length : Nat) : Int)) - ((x.2.2.2.1.length : Nat) : Int)) - ((x.2.2.2.2.1.length : Nat) : Int))) (by omega) (by omega) hb.2.2.2.2]; rw [ltI_yes (by omega), szR_neg (by omega)]; rfl
 rw [szR_len (s := x.2.2.2.2.2.1) (left := ((((left - ((x.2.1.length : Nat) : Int)) - ((x.2.2.1.length : Nat) : Int)) - ((x.2.2.2.1.length : Nat) : Int)) - ((x.2.2.2.2.1.length : Nat) : Int))) (by omega) (by omega) hb.2.2.2.2]; rw [ltI_no (by omega)]; dsimp only [cond_false]
 rw [szR_pos (by omega)]
 have e : (((((left - ((x.2.1.length : Nat) : Int)) - ((x.2.2.1.length : Nat) : Int)) - ((x.2.2.2.1.length : Nat) : Int)) - ((x.2.2.2.2.1.length : Nat) : Int)) - ((x.2.2.2.2.2.1.length : Nat) : Int)) = left - ((wReq x : Nat) : Int) := by omega
 rw [e]
theorem toReq (x : (Int × (List UInt8) × (List UInt8) × (List UInt8) × (List UInt8) × (List UInt8) × Int × Int × Unit)) (h : wReq x ≤ 1048576) : g14 x = some ((), (x, ())) := by
 have hw : wReq x = x.2.1.length + x.2.2.1.length + x.2.2.2.1.length + x.2.2.2.2.1.length + x.2.2.2.2.2.1.length := rfl
 unfold g14
 rfl
end Go.Av
