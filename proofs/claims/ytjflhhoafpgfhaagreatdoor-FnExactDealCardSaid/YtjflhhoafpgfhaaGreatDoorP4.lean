/- Part of a proof that the law FnExactDeal answers true for every input: the printed functions of this program and their plain laws. No conditions beyond the statement. -/
import Derived.Test.YtjflhhoafpgfhaaGreatDoorP2
import Derived.Test.YtjflhhoafpgfhaaGreatDoorP3
set_option maxRecDepth 100000
set_option maxHeartbeats 4000000
namespace Go.Av
theorem acctB_of {a : AcctT} (h : wAcct a ≤ 1048576) : AcctB a := by
 have hw : wAcct a = a.1.length + wL wHold a.2.2.2.2.2.1 + wRing (rgOf a) + wL wSlot a.2.2.2.2.2.2.2.2.2.2.1 := rfl
 have hr : wRing (rgOf a) = a.2.2.2.2.2.2.2.2.1.length + a.2.2.2.2.2.2.2.2.2.1.length := rfl
 have h1 := len_le_wL wHold a.2.2.2.2.2.1
 have h2 := len_le_wL wSlot a.2.2.2.2.2.2.2.2.2.2.1
 refine ⟨by omega, ⟨by omega, fun y hy => ?_⟩, ⟨?_, ?_⟩, by omega, fun y hy => ?_⟩
 · have := mem_le_wL wHold hy
   have e : wHold y = y.1.length := rfl
   omega
 · show a.2.2.2.2.2.2.2.2.1.length ≤ _; omega
 · show a.2.2.2.2.2.2.2.2.2.1.length ≤ _; omega
 · have := mem_le_wL wSlot hy
   have e : wSlot y = y.1.length + y.2.1.length + y.2.2.1.length := rfl
   omega
theorem swept_w (a : AcctT) (now : Int) : wAcct (sweptM a now) ≤ wAcct a := by
 unfold sweptM
 have hw : wAcct a = a.1.length + wL wHold a.2.2.2.2.2.1 + wRing (rgOf a) + wL wSlot a.2.2.2.2.2.2.2.2.2.2.1 := rfl
 cases acctM a with
 | false => exact Nat.le_refl _
 | true =>
   cases timeM now with
   | false => exact Nat.le_refl _
   | true =>
     have := wL_filter wHold (liveM now) a.2.2.2.2.2.1
     show a.1.length + wL wHold (a.2.2.2.2.2.1.filter (liveM now)) + wRing (rgOf a) + wL wSlot a.2.2.2.2.2.2.2.2.2.2.1 ≤ _
     omega
theorem put_w (xs : List HoldT) (h : HoldT) : wL wHold (holdPutM xs h).1 ≤ wL wHold xs + 1 + h.1.length := by
 have h0 : wL wHold ([] : List HoldT) = 0 := rfl
 unfold holdPutM
 cases holdsM xs with
 | false => simp only [cond_false]; omega
 | true =>
   cases holdsM (putM xs h) with
   | false => simp only [cond_true, cond_false]; omega
   | true =>
     simp only [cond_true]
     have e1 : cL wHold (putM xs h) = cL wHold (xs.takeWhile (ltH h)) + (wHold h + cL wHold ((xs.dropWhile (ltH h)).filter (keepM h.1))) := by
      unfold putM cL
      simp only [List.map_append, List.sum_append, List.map_cons, List.sum_cons]
     have e2 := cL_filter wHold (keepM h.1) (xs.dropWhile (ltH h))
     have e3 : cL wHold xs = cL wHold (xs.takeWhile (ltH h)) + cL wHold (xs.dropWhile (ltH h)) := by
      have : xs = xs.takeWhile (ltH h) ++ xs.dropWhile (ltH h) := List.takeWhile_append_dropWhile.symm
      conv => lhs; rw [this]
      simp only [cL, List.map_append, List.sum_append]
     have e4 := put_len xs h
     have e5 : wHold h = h.1.length := rfl
     show (putM xs h).length + cL wHold (putM xs h) ≤ (xs.length + cL wHold xs) + 1 + h.1.length
     omega
theorem auth_w (a : AcctT) (id : List UInt8) (amt ttl now : Int) : wAcct (authM a id amt ttl now).1 ≤ wAcct a + 1 + id.length := by
 have h0 : wAcct acct0 ≤ wAcct a := Nat.le_trans (Nat.le_of_eq rfl) (Nat.zero_le _)
 have hs := swept_w a now
 unfold authM
 generalize sweptM a now = s at hs ⊢
 cases cond (acctM a) (cond (timeM now) (holdIdM id) false) false with
 | false => simp only [cond_false]; omega
 | true =>
 cases inM amt 1 9007199254740992 with
 | false => simp only [cond_true, cond_false]; omega
 | true =>
 cases (cond (!inM ttl 1 9999) true (ltI 1000000000 (addW .i64 now ttl))) with
 | true => simp only [cond_true, cond_false]; omega
 | false =>
 cases leI 0 (holdAtM s.2.2.2.2.2.1 id) with
 | true => simp only [cond_true, cond_false]; omega
 | false =>
 cases eqI (lenI s.2.2.2.2.2.1) 4 with
 | true => simp only [cond_true, cond_false]; omega
 | false =>
 cases eqI (fitsM s amt now) 0 with
 | false => simp only [cond_true, cond_false]; omega
 | true =>
   simp only [cond_true, cond_false]
   have hw : wAcct s = s.1.length + wL wHold s.2.2.2.2.2.1 + wRing (rgOf s) + wL wSlot s.2.2.2.2.2.2.2.2.2.2.1 := rfl
   have hl := ringAdd_len (rgOf s) now amt
   have e1 := put_w s.2.2.2.2.2.1 (id, amt, addW .i64 now ttl, ())
   have e2 : wRing (rgOf s) = (rgOf s).2.2.1.length + (rgOf s).2.2.2.1.length := rfl
   show s.1.length + wL wHold (holdPutM s.2.2.2.2.2.1 (id, amt, addW .i64 now ttl, ())).1 + ((ringAddM (rgOf s) now amt).2.2.1.length + (ringAddM (rgOf s) now amt).2.2.2.1.length) + wL wSlot s.2.2.2.2.2.2.2.2.2.2.1 ≤ _
   simp only at e1
   omega
theorem more_w (a : AcctT) (id : List UInt8) (amt now : Int) : wAcct (moreM a id amt now).1 ≤ wAcct a := by
 have h0 : wAcct acct0 ≤ wAcct a := Nat.le_trans (Nat.le_of_eq rfl) (Nat.zero_le _)
 have hs := swept_w a now
 unfold moreM
 cases cond (acctM a) (cond (timeM now) (holdIdM id) false) false with
 | false => exact h0
 | true =>
   cases inM amt 1 9007199254740992 with
   | false => exact h0
   | true =>
     generalize sweptM a now = s at hs ⊢
     by_cases hat : holdAtM s.2.2.2.2.2.1 id < 0
     · rw [ltI_yes hat]; exact h0
     · rw [ltI_no hat]
       cases eqI (fitsM s amt now) 0 with
       | false => exact h0
       | true =>
         have hw : wAcct s = s.1.length + wL wHold s.2.2.2.2.2.1 + wRing (rgOf s) + wL wSlot s.2.2.2.2.2.2.2.2.2.2.1 := rfl
         have hl := ringAdd_len (rgOf s) now amt
         have e1 := wL_stI wHold (xs := s.2.2.2.2.2.1) (k := holdAtM s.2.2.2.2.2.1 id) (y := ((gt ([], 0, 0, ()) s.2.2.2.2.2.1 (holdAtM s.2.2.2.2.2.1 id)).1, addW .i64 (gt ([], 0, 0, ()) s.2.2.2.2.2.1 (holdAtM s.2.2.2.2.2.1 id)).2.1 amt, (gt ([], 0, 0, ()) s.2.2.2.2.2.1 (holdAtM s.2.2.2.2.2.1 id)).2.2.1, ())) ([], 0, 0, ()) (holdAt_in hat) rfl
         have e2 : wRing (rgOf s) = (rgOf s).2.2.1.length + (rgOf s).2.2.2.1.length := rfl
         show s.1.length + wL wHold (stI s.2.2.2.2.2.1 (holdAtM s.2.2.2.2.2.1 id) _) + ((ringAddM (rgOf s) now amt).2.2.1.length + (ringAddM (rgOf s) now amt).2.2.2.1.length) + wL wSlot s.2.2.2.2.2.2.2.2.2.2.1 ≤ _
         rw [e1]
         omega
theorem wHolds_w (a : AcctT) (l : List HoldT) {n : Nat} (h : wL wHold l ≤ wL wHold a.2.2.2.2.2.1 + n) : wAcct (wHolds a l) ≤ wAcct a + n := by
 have hw : wAcct a = a.1.length + wL wHold a.2.2.2.2.2.1 + wRing (rgOf a) + wL wSlot a.2.2.2.2.2.2.2.2.2.2.1 := rfl
 show a.1.length + wL wHold l + wRing (rgOf a) + wL wSlot a.2.2.2.2.2.2.2.2.2.2.1 ≤ _
 omega
theorem move_w (a b : AcctT) (id : List UInt8) (now : Int) (hb : AcctB a) : wAcct (moveM a b id now).1 ≤ wAcct a ∧ wAcct (moveM a b id now).2.1 ≤ wAcct b + 1 + 1048576 := by
 have h0 : wAcct acct0 = 0 := rfl
 have hs := swept_w a now
 have ht := swept_w b now
 have hsb := swept_b now hb
 unfold moveM
 generalize sweptM a now = s at hs hsb ⊢
 generalize sweptM b now = t at ht ⊢
 cases cond (acctM a) (cond (timeM now) (holdIdM id) false) false with
 | false => simp only [cond_false]; omega
 | true =>
 cases acctM b with
 | false => simp only [cond_true, cond_false]; omega
 | true =>
 cases eqS a.1 b.1 with
 | true => simp only [cond_true, cond_false]; omega
 | false =>
 cases ltI (holdAtM s.2.2.2.2.2.1 id) 0 with
 | true => simp only [cond_true, cond_false]; omega
 | false =>
 cases leI 0 (holdAtM t.2.2.2.2.2.1 id) with
 | true => simp only [cond_true, cond_false]; omega
 | false =>
 cases eqI (lenI t.2.2.2.2.2.1) 4 with
 | true => simp only [cond_true, cond_false]; omega
 | false =>
 cases ltI (roomM t now) (gt hd0 s.2.2.2.2.2.1 (holdAtM s.2.2.2.2.2.1 id)).2.1 with
 | true => simp only [cond_true, cond_false]; omega
 | false =>
   simp only [cond_true, cond_false]
   have hg := gt_hd (k := holdAtM s.2.2.2.2.2.1 id) hsb.2.1.2
   have e1 := put_w t.2.2.2.2.2.1 (gt hd0 s.2.2.2.2.2.1 (holdAtM s.2.2.2.2.2.1 id))
   have w1 := wHolds_w s (s.2.2.2.2.2.1.filter (keepM id)) (n := 0) (wL_filter wHold (keepM id) s.2.2.2.2.2.1)
   have w2 := wHolds_w t (holdPutM t.2.2.2.2.2.1 (gt hd0 s.2.2.2.2.2.1 (holdAtM s.2.2.2.2.2.1 id))).1 (n := 1 + 1048576) (by omega)
   omega
theorem withP_w (a : AcctT) (p : Int) (l : List HoldT) (h : wL wHold l ≤ wL wHold a.2.2.2.2.2.1) : wAcct (withP a p l) ≤ wAcct a := by
 have hw : wAcct a = a.1.length + wL wHold a.2.2.2.2.2.1 + wRing (rgOf a) + wL wSlot a.2.2.2.2.2.2.2.2.2.2.1 := rfl
 show a.1.length + wL wHold l + wRing (rgOf a) + wL wSlot a.2.2.2.2.2.2.2.2.2.2.1 ≤ _
 omega
theorem cap_w (a : AcctT) (id : List UInt8) (amt : Int) (last : Bool) (now : Int) : wAcct (capM a id amt last now).1 ≤ wAcct a := by
 have h0 : wAcct acct0 ≤ wAcct a := Nat.le_trans (Nat.le_of_eq rfl) (Nat.zero_le _)
 have hs := swept_w a now
 unfold capM
 generalize sweptM a now = s at hs ⊢
 have hf := withP_w s (addW .i64 s.2.2.1 amt) _ (wL_filter wHold (keepM id) s.2.2.2.2.2.1)
 cases cond (acctM a) (cond (timeM now) (holdIdM id) false) false <;> first | exact h0 | skip
 cases inM amt 1 9007199254740992 <;> first | exact h0 | skip
 by_cases hat : holdAtM s.2.2.2.2.2.1 id < 0
 · rw [ltI_yes hat]; exact h0
 rw [ltI_no hat]
 have e1 := fun v => wL_stI wHold (xs := s.2.2.2.2.2.1) (k := holdAtM s.2.2.2.2.2.1 id) (y := ((gt hd0 s.2.2.2.2.2.1 (holdAtM s.2.2.2.2.2.1 id)).1, v, (gt hd0 s.2.2.2.2.2.1 (holdAtM s.2.2.2.2.2.1 id)).2.2.1, ())) hd0 (holdAt_in hat) rfl
 cases ltI (gt hd0 s.2.2.2.2.2.1 (holdAtM s.2.2.2.2.2.1 id)).2.1 amt <;> first | exact h0 | skip
 dsimp only [cond_true, cond_false]
 cases (cond last true (eqI amt (gt hd0 s.2.2.2.2.2.1 (holdAtM s.2.2.2.2.2.1 id)).2.1))
 · exact Nat.le_trans (withP_w s _ _ (Nat.le_of_eq (e1 _))) hs
 · exact Nat.le_trans hf hs
theorem free_w (a : AcctT) (id : List UInt8) (now : Int) : wAcct (freeM a id now).1 ≤ wAcct a := by
 have h0 : wAcct acct0 ≤ wAcct a := Nat.le_trans (Nat.le_of_eq rfl) (Nat.zero_le _)
 have hs := swept_w a now
 unfold freeM
 generalize sweptM a now = s at hs ⊢
 have hf := withP_w s s.2.2.1 _ (wL_filter wHold (keepM id) s.2.2.2.2.2.1)
 cases cond (acctM a) (cond (timeM now) (holdIdM id) false) false <;> first | exact h0 | skip
 cases ltI (holdAtM s.2.2.2.2.2.1 id) 0 <;> first | exact h0 | skip
 exact Nat.le_trans hf hs
theorem sweep_w (a : AcctT) (now : Int) : wAcct (sweepM a now).1 ≤ wAcct a := by
 have h0 : wAcct acct0 ≤ wAcct a := Nat.le_trans (Nat.le_of_eq rfl) (Nat.zero_le _)
 have hs := swept_w a now
 unfold sweepM
 cases acctM a <;> first | exact h0 | skip
 cases timeM now <;> first | exact h0 | exact hs
theorem op_w (a b : AcctT) (q : ReqT) (now : Int) (hb : AcctB a) (hi : q.2.2.2.1.length ≤ 1048576) : wAcct (opM a b q now).1 ≤ wAcct a + 1048577 ∧ wAcct (opM a b q now).2.1 ≤ wAcct b + 1048577 := by
 have w1 := auth_w a q.2.2.2.1 q.2.2.2.2.2.2.1 q.2.2.2.2.2.2.2.1 now
 have w2 := more_w a q.2.2.2.1 q.2.2.2.2.2.2.1 now
 have w3 := fun l => cap_w a q.2.2.2.1 q.2.2.2.2.2.2.1 l now
 have w4 := free_w a q.2.2.2.1 now
 have w5 := move_w a b q.2.2.2.1 now hb
 have w6 := sweep_w a now
 unfold opM
 cases eqI q.1 1 with
 | true => simp only [cond_true]; omega
 | false =>
 cases eqI q.1 2 with
 | true => simp only [cond_true, cond_false]; omega
 | false =>
 cases eqI q.1 3 with
 | true => have := w3 (eqI q.1 4); simp only [cond_true, cond_false]; omega
 | false =>
 cases eqI q.1 4 with
 | true => have := w3 true; simp only [cond_true, cond_false]; omega
 | false =>
 cases eqI q.1 5 with
 | true => simp only [cond_true, cond_false]; omega
 | false =>
 cases eqI q.1 6 with
 | true => simp only [cond_true, cond_false]; omega
 | false => cases eqI q.1 7 <;> simp only [cond_true, cond_false] <;> omega
theorem sum_set (w : AcctT → Nat) (y : AcctT) : ∀ (xs : List AcctT) (i : Nat), ((xs.set i y).map w).sum ≤ (xs.map w).sum + w y
 | [], i => by simp
 | x :: r, 0 => by simp only [List.set_cons_zero, List.map_cons, List.sum_cons]; omega
 | x :: r, i + 1 => by
   have := sum_set w y r i
   simp only [List.set_cons_succ, List.map_cons, List.sum_cons]; omega
theorem stI_w (xs : List AcctT) (k : Int) (y : AcctT) : wL wAcct (stI xs k y) ≤ wL wAcct xs + wAcct y := by
 have := sum_set wAcct y xs k.toNat
 show (xs.set k.toNat y).length + ((xs.set k.toNat y).map wAcct).sum ≤ xs.length + (xs.map wAcct).sum + wAcct y
 rw [List.length_set]; omega
theorem gt_w (xs : List AcctT) (k : Int) : wAcct (gt acct0 xs k) ≤ wL wAcct xs := by
 have h0 : wAcct acct0 = 0 := rfl
 show wAcct (xs.getD k.toNat acct0) ≤ _
 cases h : xs[k.toNat]? with
 | none => simp only [List.getD, h, Option.getD_none]; omega
 | some y => simp only [List.getD, h, Option.getD_some]; exact mem_le_wL wAcct (List.mem_of_getElem? h)
theorem gt_b {xs : List AcctT} (hb : BookB xs) (k : Int) : AcctB (gt acct0 xs k) := by
 show AcctB (xs.getD k.toNat acct0)
 cases h : xs[k.toNat]? with
 | none => simp only [List.getD, h, Option.getD_none]; exact acctB0
 | some y => simp only [List.getD, h, Option.getD_some]; exact hb.2 y (List.mem_of_getElem? h)
theorem deal_w (b : List AcctT) (q : ReqT) (now : Int) (hb : BookB b) (hi : q.2.2.2.1.length ≤ 1048576) : wL wAcct (dealM b q now).1 ≤ 3 * wL wAcct b + 2097154 := by
 have h0 : wL wAcct ([] : List AcctT) = 0 := rfl
 unfold dealM
 cases bookM b with
 | false => simp only [cond_false]; omega
 | true =>
 cases reqM q with
 | false => simp only [cond_true, cond_false]; omega
 | true =>
 cases timeM now with
 | false => simp only [cond_true, cond_false]; omega
 | true =>
 simp only [cond_true]
 have g1 := gt_w b (bookAtM b q.2.1)
 have g2 := gt_w b (bookAtM b q.2.2.1)
 cases eqI q.1 6 with
 | true =>
   simp only [cond_true]
   have ho := op_w (gt acct0 b (bookAtM b q.2.1)) (gt acct0 b (bookAtM b q.2.2.1)) q now (gt_b hb _) hi
   generalize opM (gt acct0 b (bookAtM b q.2.1)) (gt acct0 b (bookAtM b q.2.2.1)) q now = r at ho ⊢
   cases (cond (ltI (bookAtM b q.2.1) 0) true (ltI (bookAtM b q.2.2.1) 0)) with
   | true => simp only [cond_true]; omega
   | false =>
   simp only [cond_false]
   cases eqI r.2.2.1 0 with
   | false => simp only [cond_false]; omega
   | true =>
     simp only [cond_true]
     have s1 := stI_w b (bookAtM b q.2.2.1) r.2.1
     have s2 := stI_w (stI b (bookAtM b q.2.2.1) r.2.1) (bookAtM b q.2.1) r.1
     omega
 | false =>
   simp only [cond_false]
   have ho := op_w (gt acct0 b (bookAtM b q.2.1)) (gt acct0 b (bookAtM b q.2.1)) q now (gt_b hb _) hi
   generalize opM (gt acct0 b (bookAtM b q.2.1)) (gt acct0 b (bookAtM b q.2.1)) q now = r at ho ⊢
   cases ltI (bookAtM b q.2.1) 0 with
   | true => simp only [cond_true]; omega
   | false =>
   simp only [cond_false]
   cases eqI r.2.2.1 0 with
   | false => simp only [cond_false]; omega
   | true =>
     simp only [cond_true]
     have s2 := stI_w b (bookAtM b q.2.1) r.1
     omega
theorem deal_law (x : List AcctT × Unit) (q : ReqT) (now : Int) (hb : bgBook x) (hq : bgReq q) : g4 x q now = some ((), ((true, ()), ())) := by
 have hbig : big = 140737488355328 := rfl
 obtain ⟨b, u⟩ := x
 unfold g4
 rw [szBook (b, ()) 1048576 (by decide) (by decide) hb]
 dsimp only [cond_false, Option.bind_some]
 by_cases hw : ((wBook (b, ()) : Nat) : Int) ≤ 1048576
 rotate_left
 · rw [szR_neg hw]; rfl
 have hw' : wBook (b, ()) ≤ 1048576 := by omega
 have hw2 : wL wAcct b ≤ 1048576 := hw'
 rw [szR_pos hw, ltI_no (by omega), szReq q (1048576 - ((wBook (b, ()) : Nat) : Int)) (by omega) (by omega) hq]
 dsimp only [cond_false, Option.bind_some]
 by_cases hv : ((wReq q : Nat) : Int) ≤ 1048576 - ((wBook (b, ()) : Nat) : Int)
 rotate_left
 · rw [szR_neg hv]; rfl
 have hv' : wReq q ≤ 1048576 := by omega
 have hve : wReq q = q.2.1.length + q.2.2.1.length + q.2.2.2.1.length + q.2.2.2.2.1.length + q.2.2.2.2.2.1.length := rfl
 have hqb : ReqB q := ⟨by omega, by omega, by omega, by omega, by omega⟩
 have hl := len_le_wL wAcct b
 have hbb : BookB b := ⟨by omega, fun a ha => acctB_of (Nat.le_trans (mem_le_wL wAcct ha) hw2)⟩
 have hdw := deal_w b q now hbb hqb.2.2.1
 have hs := deal_s b q now hbb hqb
 have hm := deal_i b q now hbb hqb
 generalize (dealM b q now).1 = M at hdw hs hm
 generalize (dealM b q now).2.1 = c at hs hm
 generalize (dealM b q now).2.2 = t at hs hm
 have hMw : wBook (M, ()) ≤ 3 * 1048576 + 2097154 := by
  have e : wBook (M, ()) = wL wAcct M := rfl
  omega
 have c1 := cBook_le (M, ())
 have c2 := cBook_le (b, ())
 have m1 := markBook (b, ()) 1 (by decide) (by omega) (by omega)
 have m2 := markBook (M, ()) 1 (by decide) (by omega) (by omega)
 have m3 := heldBook (M, ()) 1 (by decide) (by omega) (by omega)
 have e1 := eqBook (M, ()) (by omega)
 have e2 := eqBook (b, ()) (by omega)
 have n1 : ltI (1 + ((cBook (b, ()) : Nat) : Int)) 0 = false := ltI_no (by omega)
 have n2 : ltI (1 + ((cBook (M, ()) : Nat) : Int)) 0 = false := ltI_no (by omega)
 rw [szR_pos hv, ltI_no (by omega)]
 simp only [cond_false, cond_true, Option.bind_some, toBook (b, ()) hw', toReq q hv', hs, hm, e1, e2, m1, m2, m3, n1, n2, eqI_refl, eqS_refl, Bool.not_true]
end Go.Av
