/- Part of a proof that the law FnExactWorldNew answers true for every input: the printed functions of this program and their plain laws. No conditions beyond the statement. -/
import Derived.Test.YthppnigdofgojaaGreatFw4
import Derived.WalkKit
import Derived.Lib.Walk
import Derived.Lib.SliceRun
import Derived.Shelf.Spec.SlicesInsert
import Derived.Test.YthppnigdofgojaaGreatProg
set_option maxRecDepth 100000
namespace Go.Av
open Go.Proofs
def kk103 : List K := [.str, .int .i64, .int .i64]
def kk3 : List K := [.int .i64]
def kk5 : List K := [.int .u8]
def kk108 : List K := [.str, .str, .sl 5 kk5]
def kk74 : List K := [.str, .int .i64, .int .i64]
def kk118 : List K := [.str, .str, .sl 5 kk5]
def kk28 : List K := [.str, .int .i64, .int .i64, .int .i64, .int .i64, .sl 103 kk103, .int .i64, .int .i64, .sl 3 kk3, .sl 3 kk3, .sl 108 kk108]
def kk34 : List K := [.str, .int .i64, .int .i64, .int .i64, .int .i64, .sl 74 kk74, .int .i64, .int .i64, .sl 3 kk3, .sl 3 kk3, .sl 118 kk118]
def kk136 : List K := [.int .i64, .sl 34 kk34]
def kk142 : List K := [.sl 5 kk5, .int .i64, .sl 3 kk3, .int .i64, .int .i64, .int .i64, .int .i64, .int .i64, .sl 5 kk5]
def kk23 : List K := [.sl 3 kk3]
abbrev R103 := ((List UInt8) × Int × Int × Unit)
def d103 : R103 := ([], 0, 0, ())
abbrev R3 := (Int × Unit)
def d3 : R3 := (0, ())
abbrev R5 := (Int × Unit)
def d5 : R5 := (0, ())
abbrev R108 := ((List UInt8) × (List UInt8) × (List R5) × Unit)
def d108 : R108 := ([], [], [], ())
abbrev R74 := ((List UInt8) × Int × Int × Unit)
def d74 : R74 := ([], 0, 0, ())
abbrev R118 := ((List UInt8) × (List UInt8) × (List R5) × Unit)
def d118 : R118 := ([], [], [], ())
abbrev R28 := ((List UInt8) × Int × Int × Int × Int × (List R103) × Int × Int × (List R3) × (List R3) × (List R108) × Unit)
def d28 : R28 := ([], 0, 0, 0, 0, [], 0, 0, [], [], [], ())
abbrev R34 := ((List UInt8) × Int × Int × Int × Int × (List R74) × Int × Int × (List R3) × (List R3) × (List R118) × Unit)
def d34 : R34 := ([], 0, 0, 0, 0, [], 0, 0, [], [], [], ())
abbrev R136 := (Int × (List R34) × Unit)
def d136 : R136 := (0, [], ())
abbrev R142 := ((List R5) × Int × (List R3) × Int × Int × Int × Int × Int × (List R5) × Unit)
def d142 : R142 := ([], 0, [], 0, 0, 0, 0, 0, [], ())
abbrev R23 := ((List R3) × Unit)
def d23 : R23 := ([], ())
def tt : List (Nat × TI) := [(2, ⟨false, [.int .i64], 0, 8, []⟩),
  (3, ⟨false, [.int .i64], 0, 8, []⟩),
  (4, ⟨false, [.bool], 0, 1, []⟩),
  (5, ⟨false, [.int .u8], 0, 1, []⟩),
  (6, ⟨false, [.int .u8], 0, 1, []⟩),
  (7, ⟨true, [.int .i64, .int .i64, .bool, .int .u8], 0, 24, [(0, 2), (1, 3), (2, 4), (3, 6)]⟩),
  (8, ⟨true, [.int .i64, .int .i64, .bool, .int .u8], 0, 24, [(0, 2), (1, 3), (2, 4), (3, 6)]⟩),
  (9, ⟨false, [.str], 0, 16, []⟩),
  (10, ⟨false, [.str], 0, 16, []⟩),
  (11, ⟨false, [.str], 0, 16, []⟩),
  (12, ⟨false, [.int .u64], 0, 8, []⟩),
  (13, ⟨true, [.str, .int .u64], 0, 24, [(0, 9), (1, 12)]⟩),
  (14, ⟨true, [.str, .int .u64], 0, 24, [(0, 9), (1, 12)]⟩),
  (21, ⟨false, [.int .i32], 0, 4, []⟩),
  (22, ⟨false, [.sl 103 kk103], 103, 24, []⟩),
  (23, ⟨false, [.sl 3 kk3], 3, 24, []⟩),
  (24, ⟨true, [.int .i64, .int .i64, .sl 3 kk3, .sl 3 kk3], 0, 64, [(0, 3), (1, 3), (2, 23), (3, 23)]⟩),
  (25, ⟨true, [.int .i64, .int .i64, .sl 3 kk3, .sl 3 kk3], 0, 64, [(0, 3), (1, 3), (2, 23), (3, 23)]⟩),
  (26, ⟨false, [.sl 108 kk108], 108, 24, []⟩),
  (27, ⟨true, [.str, .int .i64, .int .i64, .int .i64, .int .i64, .sl 103 kk103, .int .i64, .int .i64, .sl 3 kk3, .sl 3 kk3, .sl 108 kk108], 0, 160, [(0, 9), (1, 3), (2, 3), (3, 3), (4, 3), (5, 22), (6, 25), (10, 26)]⟩),
  (28, ⟨true, [.str, .int .i64, .int .i64, .int .i64, .int .i64, .sl 103 kk103, .int .i64, .int .i64, .sl 3 kk3, .sl 3 kk3, .sl 108 kk108], 0, 160, [(0, 9), (1, 3), (2, 3), (3, 3), (4, 3), (5, 22), (6, 25), (10, 26)]⟩),
  (30, ⟨false, [.sl 74 kk74], 74, 24, []⟩),
  (31, ⟨true, [.int .i64, .int .i64, .sl 3 kk3, .sl 3 kk3], 0, 64, [(0, 3), (1, 3), (2, 23), (3, 23)]⟩),
  (32, ⟨false, [.sl 118 kk118], 118, 24, []⟩),
  (33, ⟨true, [.str, .int .i64, .int .i64, .int .i64, .int .i64, .sl 74 kk74, .int .i64, .int .i64, .sl 3 kk3, .sl 3 kk3, .sl 118 kk118], 0, 160, [(0, 9), (1, 3), (2, 3), (3, 3), (4, 3), (5, 30), (6, 31), (10, 32)]⟩),
  (34, ⟨true, [.str, .int .i64, .int .i64, .int .i64, .int .i64, .sl 74 kk74, .int .i64, .int .i64, .sl 3 kk3, .sl 3 kk3, .sl 118 kk118], 0, 160, [(0, 9), (1, 3), (2, 3), (3, 3), (4, 3), (5, 30), (6, 31), (10, 32)]⟩),
  (44, ⟨false, [.sl 28 kk28], 28, 24, []⟩),
  (45, ⟨true, [.sl 28 kk28], 0, 24, [(0, 44)]⟩),
  (46, ⟨true, [.sl 28 kk28], 0, 24, [(0, 44)]⟩),
  (48, ⟨false, [.sl 136 kk136], 136, 24, []⟩),
  (49, ⟨false, [.sl 142 kk142], 142, 24, []⟩),
  (50, ⟨true, [.sl 136 kk136, .int .i64, .int .i64, .sl 142 kk142], 0, 64, [(0, 48), (1, 3), (2, 3), (3, 49)]⟩),
  (51, ⟨true, [.sl 136 kk136, .int .i64, .int .i64, .sl 142 kk142], 0, 64, [(0, 48), (1, 3), (2, 3), (3, 49)]⟩),
  (54, ⟨false, [.sl 34 kk34], 34, 24, []⟩),
  (55, ⟨true, [.sl 34 kk34], 0, 24, [(0, 54)]⟩),
  (56, ⟨true, [.sl 34 kk34], 0, 24, [(0, 54)]⟩),
  (73, ⟨true, [.str, .int .i64, .int .i64], 0, 32, [(0, 9), (1, 3), (2, 3)]⟩),
  (74, ⟨true, [.str, .int .i64, .int .i64], 0, 32, [(0, 9), (1, 3), (2, 3)]⟩),
  (103, ⟨true, [.str, .int .i64, .int .i64], 0, 32, [(0, 9), (1, 3), (2, 3)]⟩),
  (106, ⟨false, [.sl 5 kk5], 5, 24, []⟩),
  (107, ⟨true, [.str, .str, .sl 5 kk5], 0, 56, [(0, 9), (1, 9), (2, 106)]⟩),
  (108, ⟨true, [.str, .str, .sl 5 kk5], 0, 56, [(0, 9), (1, 9), (2, 106)]⟩),
  (118, ⟨true, [.str, .str, .sl 5 kk5], 0, 56, [(0, 9), (1, 9), (2, 106)]⟩),
  (135, ⟨true, [.int .i64, .sl 34 kk34], 0, 32, [(0, 3), (1, 54)]⟩),
  (136, ⟨true, [.int .i64, .sl 34 kk34], 0, 32, [(0, 3), (1, 54)]⟩),
  (141, ⟨true, [.sl 5 kk5, .int .i64, .sl 3 kk3, .int .i64, .int .i64, .int .i64, .int .i64, .int .i64, .sl 5 kk5], 0, 120, [(0, 106), (1, 3), (2, 23), (3, 3), (4, 3), (5, 3), (6, 3), (7, 3), (8, 106)]⟩),
  (142, ⟨true, [.sl 5 kk5, .int .i64, .sl 3 kk3, .int .i64, .int .i64, .int .i64, .int .i64, .int .i64, .sl 5 kk5], 0, 120, [(0, 106), (1, 3), (2, 23), (3, 3), (4, 3), (5, 3), (6, 3), (7, 3), (8, 106)]⟩),
  (157, ⟨false, [.sl 23 kk23], 23, 24, []⟩),
  (159, ⟨false, [.int .u32], 0, 4, []⟩),
  (170, ⟨false, [.int .u8], 0, 1, []⟩),
  (171, ⟨false, [.int .u8], 0, 1, []⟩),
  (174, ⟨false, [.int .i32], 0, 4, []⟩),
  (175, ⟨false, [.int .i32], 0, 4, []⟩)]
noncomputable def E0 : En := ⟨0, tt, fun _ => [], [], fun _ => none, [], fun _ => none⟩
theorem hT : TTok Tryz.prog E0 := ttok_of (by kernel_rfl)
theorem hmix : Tryz.prog.follows .mixedOrders = true := by kernel_rfl
set_option maxHeartbeats 4000000
/- loop.example/g00735/laws.szHold -/
noncomputable def g74 (p0 : ((List UInt8) × Int × Int × Unit)) (p1 : Int) : Option (Unit × ((Int × Unit) × Unit)) :=
  let u1 := (subW .i64 p1 (lenI p0.1))
  cond (ltI u1 0) (
    some ((), (((-1), ()), ()))
  ) (
    some ((), ((u1, ()), ()))
  )
noncomputable def s74 : Su := ⟨[.c true [.str, .int .i64, .int .i64], .c false [.int .i64]], [(false, [.int .i64])], true, .inl fun x => g74 x.1 x.2.1.1⟩
def rh74 : List SE := []
noncomputable def lo74 : Nat → Option (Lo rh74)
  | _ => none
noncomputable def ga74 : List (Nat × Su) := []
noncomputable def E74 : En := ⟨13, tt, gaOf ga74, rh74, lo74, [], fun _ => none⟩
theorem t74 (x : PT s74.ps) : (fnT E74 (bodyOf Tryz.f74) Tryz.f74.results.toList s74.ps s74.rs true x).run = g74 x.1 x.2.1.1 := by kernel_rfl
theorem hga74 : GAok Tryz.prog E74 := gaok_of (l := ga74) trivial
theorem ok74 : SuOK Tryz.prog 74 s74 :=
  fn_ok (E := E74) (hTT hT) hga74 hmix (fn := Tryz.f74) (c := (bodyOf Tryz.f74)) (by kernel_rfl) (by kernel_rfl) (by kernel_rfl) rfl (loopsOK_all [] (by kernel_rfl) trivial) fun x y h => ⟨y.1, fun _ => rfl, (t74 x).trans h⟩


/- loop.example/g00735/laws.szHoldS -/
noncomputable def r27_0 (t0 : (List R103)) (t1 : Int) (t5 : Int) : Option (Sum ((List R103) × Int × Int × Unit) (Sum ((List R103) × Int × Int × Unit) (Int × Unit))) :=
  cond (ltI t5 (lenI t0)) (
    cond (inB t5 t0) (
    Option.bind (g74 (gt d103 t0 t5) t1) fun y1 =>
    cond (ltI y1.2.1.1 0) (
      some (.inr (.inr ((-1), ())))
    ) (
      some (.inl (t0, y1.2.1.1, (addW .i64 t5 1), ()))
    )
    ) none
  ) (
    some (.inr (.inl (t0, t1, t5, ())))
  )
noncomputable def l27_0 (t0 : (List R103)) (t1 : Int) (t5 : Int) : Option (Sum ((List R103) × Int × Int × Unit) (Int × Unit)) := loopF (fun (x : ((List R103) × Int × Int × Unit)) => r27_0 x.1 x.2.1 x.2.2.1) (t0, t1, t5, ())
noncomputable def g27 (p0 : (List R103)) (p1 : Int) : Option (Unit × ((Int × Unit) × Unit)) :=
  let u1 := (subW .i64 p1 (lenI p0))
  cond (ltI u1 0) (
    some ((), (((-1), ()), ()))
  ) (
    Option.bind (l27_0 p0 u1 0) (Sum.elim (fun y1 =>
      some ((), ((y1.2.1, ()), ()))
    ) (fun y1 =>
      some ((), (y1, ()))
    ))
  )
noncomputable def s27 : Su := ⟨[.c false [.sl 103 kk103], .c false [.int .i64]], [(false, [.int .i64])], true, .inl fun x => g27 x.1.1 x.2.1.1⟩
def sg27_0 : List SE := [.d 0 (.sl 103 kk103), .d 1 (.int .i64), .d 5 (.int .i64)]
def rh27 : List SE := [.d 4 (.int .i64)]
noncomputable def lo27 : Nat → Option (Lo rh27)
  | 0 => some ⟨sg27_0, fun x => l27_0 x.1 x.2.1 x.2.2.1⟩
  | _ => none
noncomputable def ga27 : List (Nat × Su) := [(74, s74)]
noncomputable def E27 : En := ⟨27, tt, gaOf ga27, rh27, lo27, [], fun _ => none⟩
theorem t27_0 (x : SigT sg27_0) : (roundT E27 0 sg27_0 (loopOf 0 (bodyOf Tryz.f27)) x).run = r27_0 x.1 x.2.1 x.2.2.1 := by kernel_rfl
theorem t27 (x : PT s27.ps) : (fnT E27 (bodyOf Tryz.f27) Tryz.f27.results.toList s27.ps s27.rs true x).run = g27 x.1.1 x.2.1.1 := by kernel_rfl
theorem hga27 : GAok Tryz.prog E27 := gaok_of (l := ga27) ⟨ok74, trivial⟩
theorem L27_0 : LoopSem Tryz.prog E27 0 (.loop (loopOf 0 (bodyOf Tryz.f27))) ⟨sg27_0, fun x => l27_0 x.1 x.2.1 x.2.2.1⟩ :=
  sem_of (hTT hT) hga27 hmix (step := fun (x : SigT sg27_0) => r27_0 x.1 x.2.1 x.2.2.1) t27_0 (loopsOK_all [] (by kernel_rfl) trivial)
theorem ok27 : SuOK Tryz.prog 27 s27 :=
  fn_ok (E := E27) (hTT hT) hga27 hmix (fn := Tryz.f27) (c := (bodyOf Tryz.f27)) (by kernel_rfl) (by kernel_rfl) (by kernel_rfl) rfl (loopsOK_all [(0, .loop (loopOf 0 (bodyOf Tryz.f27)))] (by kernel_rfl) ⟨semL rfl L27_0, trivial⟩) fun x y h => ⟨y.1, fun _ => rfl, (t27 x).trans h⟩


/- loop.example/g00735/laws.szIntS -/
noncomputable def g75 (p0 : (List R3)) (p1 : Int) : Option (Unit × ((Int × Unit) × Unit)) :=
  let u1 := (subW .i64 p1 (lenI p0))
  cond (ltI u1 0) (
    some ((), (((-1), ()), ()))
  ) (
    some ((), ((u1, ()), ()))
  )
noncomputable def s75 : Su := ⟨[.c false [.sl 3 kk3], .c false [.int .i64]], [(false, [.int .i64])], true, .inl fun x => g75 x.1.1 x.2.1.1⟩
def rh75 : List SE := []
noncomputable def lo75 : Nat → Option (Lo rh75)
  | _ => none
noncomputable def ga75 : List (Nat × Su) := []
noncomputable def E75 : En := ⟨12, tt, gaOf ga75, rh75, lo75, [], fun _ => none⟩
theorem t75 (x : PT s75.ps) : (fnT E75 (bodyOf Tryz.f75) Tryz.f75.results.toList s75.ps s75.rs true x).run = g75 x.1.1 x.2.1.1 := by kernel_rfl
theorem hga75 : GAok Tryz.prog E75 := gaok_of (l := ga75) trivial
theorem ok75 : SuOK Tryz.prog 75 s75 :=
  fn_ok (E := E75) (hTT hT) hga75 hmix (fn := Tryz.f75) (c := (bodyOf Tryz.f75)) (by kernel_rfl) (by kernel_rfl) (by kernel_rfl) rfl (loopsOK_all [] (by kernel_rfl) trivial) fun x y h => ⟨y.1, fun _ => rfl, (t75 x).trans h⟩


/- loop.example/g00735/laws.szRing -/
noncomputable def g28 (p0 : (Int × Int × (List R3) × (List R3) × Unit)) (p1 : Int) : Option (Unit × ((Int × Unit) × Unit)) :=
  Option.bind (g75 p0.2.2.1 p1) fun y1 =>
  cond (ltI y1.2.1.1 0) (
    some ((), (((-1), ()), ()))
  ) (
    Option.bind (g75 p0.2.2.2.1 y1.2.1.1) fun y2 =>
    cond (ltI y2.2.1.1 0) (
      some ((), (((-1), ()), ()))
    ) (
      some ((), (y2.2.1, ()))
    )
  )
noncomputable def s28 : Su := ⟨[.c true [.int .i64, .int .i64, .sl 3 kk3, .sl 3 kk3], .c false [.int .i64]], [(false, [.int .i64])], true, .inl fun x => g28 x.1 x.2.1.1⟩
def rh28 : List SE := []
noncomputable def lo28 : Nat → Option (Lo rh28)
  | _ => none
noncomputable def ga28 : List (Nat × Su) := [(75, s75)]
noncomputable def E28 : En := ⟨18, tt, gaOf ga28, rh28, lo28, [], fun _ => none⟩
theorem t28 (x : PT s28.ps) : (fnT E28 (bodyOf Tryz.f28) Tryz.f28.results.toList s28.ps s28.rs true x).run = g28 x.1 x.2.1.1 := by kernel_rfl
theorem hga28 : GAok Tryz.prog E28 := gaok_of (l := ga28) ⟨ok75, trivial⟩
theorem ok28 : SuOK Tryz.prog 28 s28 :=
  fn_ok (E := E28) (hTT hT) hga28 hmix (fn := Tryz.f28) (c := (bodyOf Tryz.f28)) (by kernel_rfl) (by kernel_rfl) (by kernel_rfl) rfl (loopsOK_all [] (by kernel_rfl) trivial) fun x y h => ⟨y.1, fun _ => rfl, (t28 x).trans h⟩


/- loop.example/g00735/laws.szByteS -/
noncomputable def g130 (p0 : (List R5)) (p1 : Int) : Option (Unit × ((Int × Unit) × Unit)) :=
  let u1 := (subW .i64 p1 (lenI p0))
  cond (ltI u1 0) (
    some ((), (((-1), ()), ()))
  ) (
    some ((), ((u1, ()), ()))
  )
noncomputable def s130 : Su := ⟨[.c false [.sl 5 kk5], .c false [.int .i64]], [(false, [.int .i64])], true, .inl fun x => g130 x.1.1 x.2.1.1⟩
def rh130 : List SE := []
noncomputable def lo130 : Nat → Option (Lo rh130)
  | _ => none
noncomputable def ga130 : List (Nat × Su) := []
noncomputable def E130 : En := ⟨12, tt, gaOf ga130, rh130, lo130, [], fun _ => none⟩
theorem t130 (x : PT s130.ps) : (fnT E130 (bodyOf Tryz.f130) Tryz.f130.results.toList s130.ps s130.rs true x).run = g130 x.1.1 x.2.1.1 := by kernel_rfl
theorem hga130 : GAok Tryz.prog E130 := gaok_of (l := ga130) trivial
theorem ok130 : SuOK Tryz.prog 130 s130 :=
  fn_ok (E := E130) (hTT hT) hga130 hmix (fn := Tryz.f130) (c := (bodyOf Tryz.f130)) (by kernel_rfl) (by kernel_rfl) (by kernel_rfl) rfl (loopsOK_all [] (by kernel_rfl) trivial) fun x y h => ⟨y.1, fun _ => rfl, (t130 x).trans h⟩


/- loop.example/g00735/laws.szSlot -/
noncomputable def g76 (p0 : ((List UInt8) × (List UInt8) × (List R5) × Unit)) (p1 : Int) : Option (Unit × ((Int × Unit) × Unit)) :=
  let u1 := (subW .i64 p1 (lenI p0.1))
  cond (ltI u1 0) (
    some ((), (((-1), ()), ()))
  ) (
    let u2 := (subW .i64 u1 (lenI p0.2.1))
    cond (ltI u2 0) (
      some ((), (((-1), ()), ()))
    ) (
      Option.bind (g130 p0.2.2.1 u2) fun y1 =>
      cond (ltI y1.2.1.1 0) (
        some ((), (((-1), ()), ()))
      ) (
        some ((), (y1.2.1, ()))
      )
    )
  )
noncomputable def s76 : Su := ⟨[.c true [.str, .str, .sl 5 kk5], .c false [.int .i64]], [(false, [.int .i64])], true, .inl fun x => g76 x.1 x.2.1.1⟩
def rh76 : List SE := []
noncomputable def lo76 : Nat → Option (Lo rh76)
  | _ => none
noncomputable def ga76 : List (Nat × Su) := [(130, s130)]
noncomputable def E76 : En := ⟨26, tt, gaOf ga76, rh76, lo76, [], fun _ => none⟩
theorem t76 (x : PT s76.ps) : (fnT E76 (bodyOf Tryz.f76) Tryz.f76.results.toList s76.ps s76.rs true x).run = g76 x.1 x.2.1.1 := by kernel_rfl
theorem hga76 : GAok Tryz.prog E76 := gaok_of (l := ga76) ⟨ok130, trivial⟩
theorem ok76 : SuOK Tryz.prog 76 s76 :=
  fn_ok (E := E76) (hTT hT) hga76 hmix (fn := Tryz.f76) (c := (bodyOf Tryz.f76)) (by kernel_rfl) (by kernel_rfl) (by kernel_rfl) rfl (loopsOK_all [] (by kernel_rfl) trivial) fun x y h => ⟨y.1, fun _ => rfl, (t76 x).trans h⟩


/- loop.example/g00735/laws.szSlotS -/
noncomputable def r29_0 (t0 : (List R108)) (t1 : Int) (t5 : Int) : Option (Sum ((List R108) × Int × Int × Unit) (Sum ((List R108) × Int × Int × Unit) (Int × Unit))) :=
  cond (ltI t5 (lenI t0)) (
    cond (inB t5 t0) (
    Option.bind (g76 (gt d108 t0 t5) t1) fun y1 =>
    cond (ltI y1.2.1.1 0) (
      some (.inr (.inr ((-1), ())))
    ) (
      some (.inl (t0, y1.2.1.1, (addW .i64 t5 1), ()))
    )
    ) none
  ) (
    some (.inr (.inl (t0, t1, t5, ())))
  )
noncomputable def l29_0 (t0 : (List R108)) (t1 : Int) (t5 : Int) : Option (Sum ((List R108) × Int × Int × Unit) (Int × Unit)) := loopF (fun (x : ((List R108) × Int × Int × Unit)) => r29_0 x.1 x.2.1 x.2.2.1) (t0, t1, t5, ())
noncomputable def g29 (p0 : (List R108)) (p1 : Int) : Option (Unit × ((Int × Unit) × Unit)) :=
  let u1 := (subW .i64 p1 (lenI p0))
  cond (ltI u1 0) (
    some ((), (((-1), ()), ()))
  ) (
    Option.bind (l29_0 p0 u1 0) (Sum.elim (fun y1 =>
      some ((), ((y1.2.1, ()), ()))
    ) (fun y1 =>
      some ((), (y1, ()))
    ))
  )
noncomputable def s29 : Su := ⟨[.c false [.sl 108 kk108], .c false [.int .i64]], [(false, [.int .i64])], true, .inl fun x => g29 x.1.1 x.2.1.1⟩
def sg29_0 : List SE := [.d 0 (.sl 108 kk108), .d 1 (.int .i64), .d 5 (.int .i64)]
def rh29 : List SE := [.d 4 (.int .i64)]
noncomputable def lo29 : Nat → Option (Lo rh29)
  | 0 => some ⟨sg29_0, fun x => l29_0 x.1 x.2.1 x.2.2.1⟩
  | _ => none
noncomputable def ga29 : List (Nat × Su) := [(76, s76)]
noncomputable def E29 : En := ⟨27, tt, gaOf ga29, rh29, lo29, [], fun _ => none⟩
theorem t29_0 (x : SigT sg29_0) : (roundT E29 0 sg29_0 (loopOf 0 (bodyOf Tryz.f29)) x).run = r29_0 x.1 x.2.1 x.2.2.1 := by kernel_rfl
theorem t29 (x : PT s29.ps) : (fnT E29 (bodyOf Tryz.f29) Tryz.f29.results.toList s29.ps s29.rs true x).run = g29 x.1.1 x.2.1.1 := by kernel_rfl
theorem hga29 : GAok Tryz.prog E29 := gaok_of (l := ga29) ⟨ok76, trivial⟩
theorem L29_0 : LoopSem Tryz.prog E29 0 (.loop (loopOf 0 (bodyOf Tryz.f29))) ⟨sg29_0, fun x => l29_0 x.1 x.2.1 x.2.2.1⟩ :=
  sem_of (hTT hT) hga29 hmix (step := fun (x : SigT sg29_0) => r29_0 x.1 x.2.1 x.2.2.1) t29_0 (loopsOK_all [] (by kernel_rfl) trivial)
theorem ok29 : SuOK Tryz.prog 29 s29 :=
  fn_ok (E := E29) (hTT hT) hga29 hmix (fn := Tryz.f29) (c := (bodyOf Tryz.f29)) (by kernel_rfl) (by kernel_rfl) (by kernel_rfl) rfl (loopsOK_all [(0, .loop (loopOf 0 (bodyOf Tryz.f29)))] (by kernel_rfl) ⟨semL rfl L29_0, trivial⟩) fun x y h => ⟨y.1, fun _ => rfl, (t29 x).trans h⟩


/- loop.example/g00735/laws.szAcct -/
noncomputable def g7 (p0 : ((List UInt8) × Int × Int × Int × Int × (List R103) × Int × Int × (List R3) × (List R3) × (List R108) × Unit)) (p1 : Int) : Option (Unit × ((Int × Unit) × Unit)) :=
  let u1 := (subW .i64 p1 (lenI p0.1))
  cond (ltI u1 0) (
    some ((), (((-1), ()), ()))
  ) (
    Option.bind (g27 p0.2.2.2.2.2.1 u1) fun y1 =>
    cond (ltI y1.2.1.1 0) (
      some ((), (((-1), ()), ()))
    ) (
      Option.bind (g28 (p0.2.2.2.2.2.2.1, p0.2.2.2.2.2.2.2.1, p0.2.2.2.2.2.2.2.2.1, p0.2.2.2.2.2.2.2.2.2.1, ()) y1.2.1.1) fun y2 =>
      cond (ltI y2.2.1.1 0) (
        some ((), (((-1), ()), ()))
      ) (
        Option.bind (g29 p0.2.2.2.2.2.2.2.2.2.2.1 y2.2.1.1) fun y3 =>
        cond (ltI y3.2.1.1 0) (
          some ((), (((-1), ()), ()))
        ) (
          some ((), (y3.2.1, ()))
        )
      )
    )
  )
noncomputable def s7 : Su := ⟨[.c true [.str, .int .i64, .int .i64, .int .i64, .int .i64, .sl 103 kk103, .int .i64, .int .i64, .sl 3 kk3, .sl 3 kk3, .sl 108 kk108], .c false [.int .i64]], [(false, [.int .i64])], true, .inl fun x => g7 x.1 x.2.1.1⟩
def rh7 : List SE := []
noncomputable def lo7 : Nat → Option (Lo rh7)
  | _ => none
noncomputable def ga7 : List (Nat × Su) := [(27, s27), (28, s28), (29, s29)]
noncomputable def E7 : En := ⟨31, tt, gaOf ga7, rh7, lo7, [], fun _ => none⟩
theorem t7 (x : PT s7.ps) : (fnT E7 (bodyOf Tryz.f7) Tryz.f7.results.toList s7.ps s7.rs true x).run = g7 x.1 x.2.1.1 := by kernel_rfl
theorem hga7 : GAok Tryz.prog E7 := gaok_of (l := ga7) ⟨ok27, ok28, ok29, trivial⟩
theorem ok7 : SuOK Tryz.prog 7 s7 :=
  fn_ok (E := E7) (hTT hT) hga7 hmix (fn := Tryz.f7) (c := (bodyOf Tryz.f7)) (by kernel_rfl) (by kernel_rfl) (by kernel_rfl) rfl (loopsOK_all [] (by kernel_rfl) trivial) fun x y h => ⟨y.1, fun _ => rfl, (t7 x).trans h⟩


/- loop.example/g00735/laws.szAcctS -/
noncomputable def r61_0 (t0 : (List R28)) (t1 : Int) (t5 : Int) : Option (Sum ((List R28) × Int × Int × Unit) (Sum ((List R28) × Int × Int × Unit) (Int × Unit))) :=
  cond (ltI t5 (lenI t0)) (
    cond (inB t5 t0) (
    Option.bind (g7 (gt d28 t0 t5) t1) fun y1 =>
    cond (ltI y1.2.1.1 0) (
      some (.inr (.inr ((-1), ())))
    ) (
      some (.inl (t0, y1.2.1.1, (addW .i64 t5 1), ()))
    )
    ) none
  ) (
    some (.inr (.inl (t0, t1, t5, ())))
  )
noncomputable def l61_0 (t0 : (List R28)) (t1 : Int) (t5 : Int) : Option (Sum ((List R28) × Int × Int × Unit) (Int × Unit)) := loopF (fun (x : ((List R28) × Int × Int × Unit)) => r61_0 x.1 x.2.1 x.2.2.1) (t0, t1, t5, ())
noncomputable def g61 (p0 : (List R28)) (p1 : Int) : Option (Unit × ((Int × Unit) × Unit)) :=
  let u1 := (subW .i64 p1 (lenI p0))
  cond (ltI u1 0) (
    some ((), (((-1), ()), ()))
  ) (
    Option.bind (l61_0 p0 u1 0) (Sum.elim (fun y1 =>
      some ((), ((y1.2.1, ()), ()))
    ) (fun y1 =>
      some ((), (y1, ()))
    ))
  )
noncomputable def s61 : Su := ⟨[.c false [.sl 28 kk28], .c false [.int .i64]], [(false, [.int .i64])], true, .inl fun x => g61 x.1.1 x.2.1.1⟩
def sg61_0 : List SE := [.d 0 (.sl 28 kk28), .d 1 (.int .i64), .d 5 (.int .i64)]
def rh61 : List SE := [.d 4 (.int .i64)]
noncomputable def lo61 : Nat → Option (Lo rh61)
  | 0 => some ⟨sg61_0, fun x => l61_0 x.1 x.2.1 x.2.2.1⟩
  | _ => none
noncomputable def ga61 : List (Nat × Su) := [(7, s7)]
noncomputable def E61 : En := ⟨27, tt, gaOf ga61, rh61, lo61, [], fun _ => none⟩
theorem t61_0 (x : SigT sg61_0) : (roundT E61 0 sg61_0 (loopOf 0 (bodyOf Tryz.f61)) x).run = r61_0 x.1 x.2.1 x.2.2.1 := by kernel_rfl
theorem t61 (x : PT s61.ps) : (fnT E61 (bodyOf Tryz.f61) Tryz.f61.results.toList s61.ps s61.rs true x).run = g61 x.1.1 x.2.1.1 := by kernel_rfl
theorem hga61 : GAok Tryz.prog E61 := gaok_of (l := ga61) ⟨ok7, trivial⟩
theorem L61_0 : LoopSem Tryz.prog E61 0 (.loop (loopOf 0 (bodyOf Tryz.f61))) ⟨sg61_0, fun x => l61_0 x.1 x.2.1 x.2.2.1⟩ :=
  sem_of (hTT hT) hga61 hmix (step := fun (x : SigT sg61_0) => r61_0 x.1 x.2.1 x.2.2.1) t61_0 (loopsOK_all [] (by kernel_rfl) trivial)
theorem ok61 : SuOK Tryz.prog 61 s61 :=
  fn_ok (E := E61) (hTT hT) hga61 hmix (fn := Tryz.f61) (c := (bodyOf Tryz.f61)) (by kernel_rfl) (by kernel_rfl) (by kernel_rfl) rfl (loopsOK_all [(0, .loop (loopOf 0 (bodyOf Tryz.f61)))] (by kernel_rfl) ⟨semL rfl L61_0, trivial⟩) fun x y h => ⟨y.1, fun _ => rfl, (t61 x).trans h⟩


/- loop.example/g00735/laws.szBook -/
noncomputable def g16 (p0 : ((List R28) × Unit)) (p1 : Int) : Option (Unit × ((Int × Unit) × Unit)) :=
  Option.bind (g61 p0.1 p1) fun y1 =>
  cond (ltI y1.2.1.1 0) (
    some ((), (((-1), ()), ()))
  ) (
    some ((), (y1.2.1, ()))
  )
noncomputable def s16 : Su := ⟨[.c true [.sl 28 kk28], .c false [.int .i64]], [(false, [.int .i64])], true, .inl fun x => g16 x.1 x.2.1.1⟩
def rh16 : List SE := []
noncomputable def lo16 : Nat → Option (Lo rh16)
  | _ => none
noncomputable def ga16 : List (Nat × Su) := [(61, s61)]
noncomputable def E16 : En := ⟨12, tt, gaOf ga16, rh16, lo16, [], fun _ => none⟩
theorem t16 (x : PT s16.ps) : (fnT E16 (bodyOf Tryz.f16) Tryz.f16.results.toList s16.ps s16.rs true x).run = g16 x.1 x.2.1.1 := by kernel_rfl
theorem hga16 : GAok Tryz.prog E16 := gaok_of (l := ga16) ⟨ok61, trivial⟩
theorem ok16 : SuOK Tryz.prog 16 s16 :=
  fn_ok (E := E16) (hTT hT) hga16 hmix (fn := Tryz.f16) (c := (bodyOf Tryz.f16)) (by kernel_rfl) (by kernel_rfl) (by kernel_rfl) rfl (loopsOK_all [] (by kernel_rfl) trivial) fun x y h => ⟨y.1, fun _ => rfl, (t16 x).trans h⟩


/- loop.example/g00735/laws.toHold -/
noncomputable def g88 (p0 : ((List UInt8) × Int × Int × Unit)) : Option (Unit × (((List UInt8) × Int × Int × Unit) × Unit)) :=
  some ((), (p0, ()))
noncomputable def s88 : Su := ⟨[.c true [.str, .int .i64, .int .i64]], [(true, [.str, .int .i64, .int .i64])], true, .inl fun x => g88 x.1⟩
def rh88 : List SE := []
noncomputable def lo88 : Nat → Option (Lo rh88)
  | _ => none
noncomputable def ga88 : List (Nat × Su) := []
noncomputable def E88 : En := ⟨14, tt, gaOf ga88, rh88, lo88, [], fun _ => none⟩
theorem t88 (x : PT s88.ps) : (fnT E88 (bodyOf Tryz.f88) Tryz.f88.results.toList s88.ps s88.rs true x).run = g88 x.1 := by kernel_rfl
theorem hga88 : GAok Tryz.prog E88 := gaok_of (l := ga88) trivial
theorem ok88 : SuOK Tryz.prog 88 s88 :=
  fn_ok (E := E88) (hTT hT) hga88 hmix (fn := Tryz.f88) (c := (bodyOf Tryz.f88)) (by kernel_rfl) (by kernel_rfl) (by kernel_rfl) rfl (loopsOK_all [] (by kernel_rfl) trivial) fun x y h => ⟨y.1, fun _ => rfl, (t88 x).trans h⟩


/- loop.example/g00735/laws.toHoldS -/
noncomputable def r36_0 (t0 : (List R103)) (t3 : (List R74)) (t4 : Int) : Option (Sum ((List R103) × (List R74) × Int × Unit) (Sum ((List R103) × (List R74) × Int × Unit) Unit)) :=
  cond (ltI t4 (lenI t0)) (
    cond (inB t4 t0) (
    Option.bind (g88 (gt d103 t0 t4)) fun y1 =>
    cond (inB t4 t3) (
    let u1 := (gt d74 t3 t4)
    let u2 := (stI t3 t4 (y1.2.1.1, u1.2.1, u1.2.2.1, ()))
    let u3 := (gt d74 u2 t4)
    let u4 := (stI u2 t4 (u3.1, y1.2.1.2.1, u3.2.2.1, ()))
    let u5 := (gt d74 u4 t4)
    some (.inl (t0, (stI u4 t4 (u5.1, u5.2.1, y1.2.1.2.2.1, ())), (addW .i64 t4 1), ()))
    ) none
    ) none
  ) (
    some (.inr (.inl (t0, t3, t4, ())))
  )
noncomputable def l36_0 (t0 : (List R103)) (t3 : (List R74)) (t4 : Int) : Option (Sum ((List R103) × (List R74) × Int × Unit) Unit) := loopF (fun (x : ((List R103) × (List R74) × Int × Unit)) => r36_0 x.1 x.2.1 x.2.2.1) (t0, t3, t4, ())
noncomputable def g36 (p0 : (List R103)) : Option (Unit × (((List R74) × Unit) × Unit)) :=
  let u1 := (lenI p0)
  cond (mkB 32 u1) (
  Option.bind (l36_0 p0 (repI d74 u1) 0) (Sum.elim (fun y1 =>
    some ((), ((y1.2.1, ()), ()))
  ) (fun y1 =>
    none
  ))
  ) none
noncomputable def s36 : Su := ⟨[.c false [.sl 103 kk103]], [(false, [.sl 74 kk74])], true, .inl fun x => g36 x.1.1⟩
def sg36_0 : List SE := [.d 0 (.sl 103 kk103), .own 3 (.sl 74 kk74), .d 4 (.int .i64)]
def rh36 : List SE := []
noncomputable def lo36 : Nat → Option (Lo rh36)
  | 0 => some ⟨sg36_0, fun x => l36_0 x.1 x.2.1 x.2.2.1⟩
  | _ => none
noncomputable def ga36 : List (Nat × Su) := [(88, s88)]
noncomputable def E36 : En := ⟨23, tt, gaOf ga36, rh36, lo36, [], fun _ => none⟩
theorem t36_0 (x : SigT sg36_0) : (roundT E36 0 sg36_0 (loopOf 0 (bodyOf Tryz.f36)) x).run = r36_0 x.1 x.2.1 x.2.2.1 := by kernel_rfl
theorem t36 (x : PT s36.ps) : (fnT E36 (bodyOf Tryz.f36) Tryz.f36.results.toList s36.ps s36.rs true x).run = g36 x.1.1 := by kernel_rfl
theorem hga36 : GAok Tryz.prog E36 := gaok_of (l := ga36) ⟨ok88, trivial⟩
theorem L36_0 : LoopSem Tryz.prog E36 0 (.loop (loopOf 0 (bodyOf Tryz.f36))) ⟨sg36_0, fun x => l36_0 x.1 x.2.1 x.2.2.1⟩ :=
  sem_of (hTT hT) hga36 hmix (step := fun (x : SigT sg36_0) => r36_0 x.1 x.2.1 x.2.2.1) t36_0 (loopsOK_all [] (by kernel_rfl) trivial)
theorem ok36 : SuOK Tryz.prog 36 s36 :=
  fn_ok (E := E36) (hTT hT) hga36 hmix (fn := Tryz.f36) (c := (bodyOf Tryz.f36)) (by kernel_rfl) (by kernel_rfl) (by kernel_rfl) rfl (loopsOK_all [(0, .loop (loopOf 0 (bodyOf Tryz.f36)))] (by kernel_rfl) ⟨semL rfl L36_0, trivial⟩) fun x y h => ⟨y.1, fun _ => rfl, (t36 x).trans h⟩


/- loop.example/g00735/laws.toIntS -/
noncomputable def r89_0 (t0 : (List R3)) (t3 : (List R3)) (t4 : Int) : Option (Sum ((List R3) × (List R3) × Int × Unit) (Sum ((List R3) × (List R3) × Int × Unit) Unit)) :=
  cond (ltI t4 (lenI t0)) (
    cond (inB t4 t0) (
    cond (inB t4 t3) (
    some (.inl (t0, (stI t3 t4 (gt d3 t0 t4)), (addW .i64 t4 1), ()))
    ) none
    ) none
  ) (
    some (.inr (.inl (t0, t3, t4, ())))
  )
noncomputable def l89_0 (t0 : (List R3)) (t3 : (List R3)) (t4 : Int) : Option (Sum ((List R3) × (List R3) × Int × Unit) Unit) := loopF (fun (x : ((List R3) × (List R3) × Int × Unit)) => r89_0 x.1 x.2.1 x.2.2.1) (t0, t3, t4, ())
noncomputable def g89 (p0 : (List R3)) : Option (Unit × (((List R3) × Unit) × Unit)) :=
  let u1 := (lenI p0)
  cond (mkB 8 u1) (
  Option.bind (l89_0 p0 (repI d3 u1) 0) (Sum.elim (fun y1 =>
    some ((), ((y1.2.1, ()), ()))
  ) (fun y1 =>
    none
  ))
  ) none
noncomputable def s89 : Su := ⟨[.c false [.sl 3 kk3]], [(false, [.sl 3 kk3])], true, .inl fun x => g89 x.1.1⟩
def sg89_0 : List SE := [.d 0 (.sl 3 kk3), .own 3 (.sl 3 kk3), .d 4 (.int .i64)]
def rh89 : List SE := []
noncomputable def lo89 : Nat → Option (Lo rh89)
  | 0 => some ⟨sg89_0, fun x => l89_0 x.1 x.2.1 x.2.2.1⟩
  | _ => none
noncomputable def ga89 : List (Nat × Su) := []
noncomputable def E89 : En := ⟨22, tt, gaOf ga89, rh89, lo89, [], fun _ => none⟩
theorem t89_0 (x : SigT sg89_0) : (roundT E89 0 sg89_0 (loopOf 0 (bodyOf Tryz.f89)) x).run = r89_0 x.1 x.2.1 x.2.2.1 := by kernel_rfl
theorem t89 (x : PT s89.ps) : (fnT E89 (bodyOf Tryz.f89) Tryz.f89.results.toList s89.ps s89.rs true x).run = g89 x.1.1 := by kernel_rfl
theorem hga89 : GAok Tryz.prog E89 := gaok_of (l := ga89) trivial
theorem L89_0 : LoopSem Tryz.prog E89 0 (.loop (loopOf 0 (bodyOf Tryz.f89))) ⟨sg89_0, fun x => l89_0 x.1 x.2.1 x.2.2.1⟩ :=
  sem_of (hTT hT) hga89 hmix (step := fun (x : SigT sg89_0) => r89_0 x.1 x.2.1 x.2.2.1) t89_0 (loopsOK_all [] (by kernel_rfl) trivial)
theorem ok89 : SuOK Tryz.prog 89 s89 :=
  fn_ok (E := E89) (hTT hT) hga89 hmix (fn := Tryz.f89) (c := (bodyOf Tryz.f89)) (by kernel_rfl) (by kernel_rfl) (by kernel_rfl) rfl (loopsOK_all [(0, .loop (loopOf 0 (bodyOf Tryz.f89)))] (by kernel_rfl) ⟨semL rfl L89_0, trivial⟩) fun x y h => ⟨y.1, fun _ => rfl, (t89 x).trans h⟩


/- loop.example/g00735/laws.toRing -/
noncomputable def g37 (p0 : (Int × Int × (List R3) × (List R3) × Unit)) : Option (Unit × ((Int × Int × (List R3) × (List R3) × Unit) × Unit)) :=
  Option.bind (g89 p0.2.2.1) fun y1 =>
  Option.bind (g89 p0.2.2.2.1) fun y2 =>
  some ((), ((p0.1, p0.2.1, y1.2.1.1, y2.2.1.1, ()), ()))
noncomputable def s37 : Su := ⟨[.c true [.int .i64, .int .i64, .sl 3 kk3, .sl 3 kk3]], [(true, [.int .i64, .int .i64, .sl 3 kk3, .sl 3 kk3])], true, .inl fun x => g37 x.1⟩
def rh37 : List SE := []
noncomputable def lo37 : Nat → Option (Lo rh37)
  | _ => none
noncomputable def ga37 : List (Nat × Su) := [(89, s89)]
noncomputable def E37 : En := ⟨19, tt, gaOf ga37, rh37, lo37, [], fun _ => none⟩
theorem t37 (x : PT s37.ps) : (fnT E37 (bodyOf Tryz.f37) Tryz.f37.results.toList s37.ps s37.rs true x).run = g37 x.1 := by kernel_rfl
theorem hga37 : GAok Tryz.prog E37 := gaok_of (l := ga37) ⟨ok89, trivial⟩
theorem ok37 : SuOK Tryz.prog 37 s37 :=
  fn_ok (E := E37) (hTT hT) hga37 hmix (fn := Tryz.f37) (c := (bodyOf Tryz.f37)) (by kernel_rfl) (by kernel_rfl) (by kernel_rfl) rfl (loopsOK_all [] (by kernel_rfl) trivial) fun x y h => ⟨y.1, fun _ => rfl, (t37 x).trans h⟩


/- loop.example/g00735/laws.toByteS -/
noncomputable def r136_0 (t0 : (List R5)) (t3 : (List R5)) (t4 : Int) : Option (Sum ((List R5) × (List R5) × Int × Unit) (Sum ((List R5) × (List R5) × Int × Unit) Unit)) :=
  cond (ltI t4 (lenI t0)) (
    cond (inB t4 t0) (
    cond (inB t4 t3) (
    some (.inl (t0, (stI t3 t4 (gt d5 t0 t4)), (addW .i64 t4 1), ()))
    ) none
    ) none
  ) (
    some (.inr (.inl (t0, t3, t4, ())))
  )
noncomputable def l136_0 (t0 : (List R5)) (t3 : (List R5)) (t4 : Int) : Option (Sum ((List R5) × (List R5) × Int × Unit) Unit) := loopF (fun (x : ((List R5) × (List R5) × Int × Unit)) => r136_0 x.1 x.2.1 x.2.2.1) (t0, t3, t4, ())
noncomputable def g136 (p0 : (List R5)) : Option (Unit × (((List R5) × Unit) × Unit)) :=
  let u1 := (lenI p0)
  cond (mkB 1 u1) (
  Option.bind (l136_0 p0 (repI d5 u1) 0) (Sum.elim (fun y1 =>
    some ((), ((y1.2.1, ()), ()))
  ) (fun y1 =>
    none
  ))
  ) none
noncomputable def s136 : Su := ⟨[.c false [.sl 5 kk5]], [(false, [.sl 5 kk5])], true, .inl fun x => g136 x.1.1⟩
def sg136_0 : List SE := [.d 0 (.sl 5 kk5), .own 3 (.sl 5 kk5), .d 4 (.int .i64)]
def rh136 : List SE := []
noncomputable def lo136 : Nat → Option (Lo rh136)
  | 0 => some ⟨sg136_0, fun x => l136_0 x.1 x.2.1 x.2.2.1⟩
  | _ => none
noncomputable def ga136 : List (Nat × Su) := []
noncomputable def E136 : En := ⟨22, tt, gaOf ga136, rh136, lo136, [], fun _ => none⟩
theorem t136_0 (x : SigT sg136_0) : (roundT E136 0 sg136_0 (loopOf 0 (bodyOf Tryz.f136)) x).run = r136_0 x.1 x.2.1 x.2.2.1 := by kernel_rfl
theorem t136 (x : PT s136.ps) : (fnT E136 (bodyOf Tryz.f136) Tryz.f136.results.toList s136.ps s136.rs true x).run = g136 x.1.1 := by kernel_rfl
theorem hga136 : GAok Tryz.prog E136 := gaok_of (l := ga136) trivial
theorem L136_0 : LoopSem Tryz.prog E136 0 (.loop (loopOf 0 (bodyOf Tryz.f136))) ⟨sg136_0, fun x => l136_0 x.1 x.2.1 x.2.2.1⟩ :=
  sem_of (hTT hT) hga136 hmix (step := fun (x : SigT sg136_0) => r136_0 x.1 x.2.1 x.2.2.1) t136_0 (loopsOK_all [] (by kernel_rfl) trivial)
theorem ok136 : SuOK Tryz.prog 136 s136 :=
  fn_ok (E := E136) (hTT hT) hga136 hmix (fn := Tryz.f136) (c := (bodyOf Tryz.f136)) (by kernel_rfl) (by kernel_rfl) (by kernel_rfl) rfl (loopsOK_all [(0, .loop (loopOf 0 (bodyOf Tryz.f136)))] (by kernel_rfl) ⟨semL rfl L136_0, trivial⟩) fun x y h => ⟨y.1, fun _ => rfl, (t136 x).trans h⟩


/- loop.example/g00735/laws.toSlot -/
noncomputable def g90 (p0 : ((List UInt8) × (List UInt8) × (List R5) × Unit)) : Option (Unit × (((List UInt8) × (List UInt8) × (List R5) × Unit) × Unit)) :=
  Option.bind (g136 p0.2.2.1) fun y1 =>
  some ((), ((p0.1, p0.2.1, y1.2.1.1, ()), ()))
noncomputable def s90 : Su := ⟨[.c true [.str, .str, .sl 5 kk5]], [(true, [.str, .str, .sl 5 kk5])], true, .inl fun x => g90 x.1⟩
def rh90 : List SE := []
noncomputable def lo90 : Nat → Option (Lo rh90)
  | _ => none
noncomputable def ga90 : List (Nat × Su) := [(136, s136)]
noncomputable def E90 : En := ⟨15, tt, gaOf ga90, rh90, lo90, [], fun _ => none⟩
theorem t90 (x : PT s90.ps) : (fnT E90 (bodyOf Tryz.f90) Tryz.f90.results.toList s90.ps s90.rs true x).run = g90 x.1 := by kernel_rfl
theorem hga90 : GAok Tryz.prog E90 := gaok_of (l := ga90) ⟨ok136, trivial⟩
theorem ok90 : SuOK Tryz.prog 90 s90 :=
  fn_ok (E := E90) (hTT hT) hga90 hmix (fn := Tryz.f90) (c := (bodyOf Tryz.f90)) (by kernel_rfl) (by kernel_rfl) (by kernel_rfl) rfl (loopsOK_all [] (by kernel_rfl) trivial) fun x y h => ⟨y.1, fun _ => rfl, (t90 x).trans h⟩


/- loop.example/g00735/laws.toSlotS -/
noncomputable def r38_0 (t0 : (List R108)) (t3 : (List R118)) (t4 : Int) : Option (Sum ((List R108) × (List R118) × Int × Unit) (Sum ((List R108) × (List R118) × Int × Unit) Unit)) :=
  cond (ltI t4 (lenI t0)) (
    cond (inB t4 t0) (
    Option.bind (g90 (gt d108 t0 t4)) fun y1 =>
    cond (inB t4 t3) (
    let u1 := (gt d118 t3 t4)
    let u2 := (stI t3 t4 (y1.2.1.1, u1.2.1, u1.2.2.1, ()))
    let u3 := (gt d118 u2 t4)
    let u4 := (stI u2 t4 (u3.1, y1.2.1.2.1, u3.2.2.1, ()))
    let u5 := (gt d118 u4 t4)
    some (.inl (t0, (stI u4 t4 (u5.1, u5.2.1, y1.2.1.2.2.1, ())), (addW .i64 t4 1), ()))
    ) none
    ) none
  ) (
    some (.inr (.inl (t0, t3, t4, ())))
  )
noncomputable def l38_0 (t0 : (List R108)) (t3 : (List R118)) (t4 : Int) : Option (Sum ((List R108) × (List R118) × Int × Unit) Unit) := loopF (fun (x : ((List R108) × (List R118) × Int × Unit)) => r38_0 x.1 x.2.1 x.2.2.1) (t0, t3, t4, ())
noncomputable def g38 (p0 : (List R108)) : Option (Unit × (((List R118) × Unit) × Unit)) :=
  let u1 := (lenI p0)
  cond (mkB 56 u1) (
  Option.bind (l38_0 p0 (repI d118 u1) 0) (Sum.elim (fun y1 =>
    some ((), ((y1.2.1, ()), ()))
  ) (fun y1 =>
    none
  ))
  ) none
noncomputable def s38 : Su := ⟨[.c false [.sl 108 kk108]], [(false, [.sl 118 kk118])], true, .inl fun x => g38 x.1.1⟩
def sg38_0 : List SE := [.d 0 (.sl 108 kk108), .own 3 (.sl 118 kk118), .d 4 (.int .i64)]
def rh38 : List SE := []
noncomputable def lo38 : Nat → Option (Lo rh38)
  | 0 => some ⟨sg38_0, fun x => l38_0 x.1 x.2.1 x.2.2.1⟩
  | _ => none
noncomputable def ga38 : List (Nat × Su) := [(90, s90)]
noncomputable def E38 : En := ⟨23, tt, gaOf ga38, rh38, lo38, [], fun _ => none⟩
theorem t38_0 (x : SigT sg38_0) : (roundT E38 0 sg38_0 (loopOf 0 (bodyOf Tryz.f38)) x).run = r38_0 x.1 x.2.1 x.2.2.1 := by kernel_rfl
theorem t38 (x : PT s38.ps) : (fnT E38 (bodyOf Tryz.f38) Tryz.f38.results.toList s38.ps s38.rs true x).run = g38 x.1.1 := by kernel_rfl
theorem hga38 : GAok Tryz.prog E38 := gaok_of (l := ga38) ⟨ok90, trivial⟩
theorem L38_0 : LoopSem Tryz.prog E38 0 (.loop (loopOf 0 (bodyOf Tryz.f38))) ⟨sg38_0, fun x => l38_0 x.1 x.2.1 x.2.2.1⟩ :=
  sem_of (hTT hT) hga38 hmix (step := fun (x : SigT sg38_0) => r38_0 x.1 x.2.1 x.2.2.1) t38_0 (loopsOK_all [] (by kernel_rfl) trivial)
theorem ok38 : SuOK Tryz.prog 38 s38 :=
  fn_ok (E := E38) (hTT hT) hga38 hmix (fn := Tryz.f38) (c := (bodyOf Tryz.f38)) (by kernel_rfl) (by kernel_rfl) (by kernel_rfl) rfl (loopsOK_all [(0, .loop (loopOf 0 (bodyOf Tryz.f38)))] (by kernel_rfl) ⟨semL rfl L38_0, trivial⟩) fun x y h => ⟨y.1, fun _ => rfl, (t38 x).trans h⟩


/- loop.example/g00735/laws.toAcct -/
noncomputable def g9 (p0 : ((List UInt8) × Int × Int × Int × Int × (List R103) × Int × Int × (List R3) × (List R3) × (List R108) × Unit)) : Option (Unit × (((List UInt8) × Int × Int × Int × Int × (List R74) × Int × Int × (List R3) × (List R3) × (List R118) × Unit) × Unit)) :=
  Option.bind (g36 p0.2.2.2.2.2.1) fun y1 =>
  Option.bind (g37 (p0.2.2.2.2.2.2.1, p0.2.2.2.2.2.2.2.1, p0.2.2.2.2.2.2.2.2.1, p0.2.2.2.2.2.2.2.2.2.1, ())) fun y2 =>
  Option.bind (g38 p0.2.2.2.2.2.2.2.2.2.2.1) fun y3 =>
  some ((), ((p0.1, p0.2.1, p0.2.2.1, p0.2.2.2.1, p0.2.2.2.2.1, y1.2.1.1, y2.2.1.1, y2.2.1.2.1, y2.2.1.2.2.1, y2.2.1.2.2.2.1, y3.2.1.1, ()), ()))
noncomputable def s9 : Su := ⟨[.c true [.str, .int .i64, .int .i64, .int .i64, .int .i64, .sl 103 kk103, .int .i64, .int .i64, .sl 3 kk3, .sl 3 kk3, .sl 108 kk108]], [(true, [.str, .int .i64, .int .i64, .int .i64, .int .i64, .sl 74 kk74, .int .i64, .int .i64, .sl 3 kk3, .sl 3 kk3, .sl 118 kk118])], true, .inl fun x => g9 x.1⟩
def rh9 : List SE := []
noncomputable def lo9 : Nat → Option (Lo rh9)
  | _ => none
noncomputable def ga9 : List (Nat × Su) := [(36, s36), (37, s37), (38, s38)]
noncomputable def E9 : En := ⟨32, tt, gaOf ga9, rh9, lo9, [], fun _ => none⟩
theorem t9 (x : PT s9.ps) : (fnT E9 (bodyOf Tryz.f9) Tryz.f9.results.toList s9.ps s9.rs true x).run = g9 x.1 := by kernel_rfl
theorem hga9 : GAok Tryz.prog E9 := gaok_of (l := ga9) ⟨ok36, ok37, ok38, trivial⟩
theorem ok9 : SuOK Tryz.prog 9 s9 :=
  fn_ok (E := E9) (hTT hT) hga9 hmix (fn := Tryz.f9) (c := (bodyOf Tryz.f9)) (by kernel_rfl) (by kernel_rfl) (by kernel_rfl) rfl (loopsOK_all [] (by kernel_rfl) trivial) fun x y h => ⟨y.1, fun _ => rfl, (t9 x).trans h⟩


/- loop.example/g00735/laws.toAcctS -/
noncomputable def r63_0 (t0 : (List R28)) (t3 : (List R34)) (t4 : Int) : Option (Sum ((List R28) × (List R34) × Int × Unit) (Sum ((List R28) × (List R34) × Int × Unit) Unit)) :=
  cond (ltI t4 (lenI t0)) (
    cond (inB t4 t0) (
    Option.bind (g9 (gt d28 t0 t4)) fun y1 =>
    cond (inB t4 t3) (
    let u1 := (gt d34 t3 t4)
    let u2 := (stI t3 t4 (y1.2.1.1, u1.2.1, u1.2.2.1, u1.2.2.2.1, u1.2.2.2.2.1, u1.2.2.2.2.2.1, u1.2.2.2.2.2.2.1, u1.2.2.2.2.2.2.2.1, u1.2.2.2.2.2.2.2.2.1, u1.2.2.2.2.2.2.2.2.2.1, u1.2.2.2.2.2.2.2.2.2.2.1, ()))
    let u3 := (gt d34 u2 t4)
    let u4 := (stI u2 t4 (u3.1, y1.2.1.2.1, u3.2.2.1, u3.2.2.2.1, u3.2.2.2.2.1, u3.2.2.2.2.2.1, u3.2.2.2.2.2.2.1, u3.2.2.2.2.2.2.2.1, u3.2.2.2.2.2.2.2.2.1, u3.2.2.2.2.2.2.2.2.2.1, u3.2.2.2.2.2.2.2.2.2.2.1, ()))
    let u5 := (gt d34 u4 t4)
    let u6 := (stI u4 t4 (u5.1, u5.2.1, y1.2.1.2.2.1, u5.2.2.2.1, u5.2.2.2.2.1, u5.2.2.2.2.2.1, u5.2.2.2.2.2.2.1, u5.2.2.2.2.2.2.2.1, u5.2.2.2.2.2.2.2.2.1, u5.2.2.2.2.2.2.2.2.2.1, u5.2.2.2.2.2.2.2.2.2.2.1, ()))
    let u7 := (gt d34 u6 t4)
    let u8 := (stI u6 t4 (u7.1, u7.2.1, u7.2.2.1, y1.2.1.2.2.2.1, u7.2.2.2.2.1, u7.2.2.2.2.2.1, u7.2.2.2.2.2.2.1, u7.2.2.2.2.2.2.2.1, u7.2.2.2.2.2.2.2.2.1, u7.2.2.2.2.2.2.2.2.2.1, u7.2.2.2.2.2.2.2.2.2.2.1, ()))
    let u9 := (gt d34 u8 t4)
    let u10 := (stI u8 t4 (u9.1, u9.2.1, u9.2.2.1, u9.2.2.2.1, y1.2.1.2.2.2.2.1, u9.2.2.2.2.2.1, u9.2.2.2.2.2.2.1, u9.2.2.2.2.2.2.2.1, u9.2.2.2.2.2.2.2.2.1, u9.2.2.2.2.2.2.2.2.2.1, u9.2.2.2.2.2.2.2.2.2.2.1, ()))
    let u11 := (gt d34 u10 t4)
    let u12 := (stI u10 t4 (u11.1, u11.2.1, u11.2.2.1, u11.2.2.2.1, u11.2.2.2.2.1, y1.2.1.2.2.2.2.2.1, u11.2.2.2.2.2.2.1, u11.2.2.2.2.2.2.2.1, u11.2.2.2.2.2.2.2.2.1, u11.2.2.2.2.2.2.2.2.2.1, u11.2.2.2.2.2.2.2.2.2.2.1, ()))
    let u13 := (gt d34 u12 t4)
    let u14 := (stI u12 t4 (u13.1, u13.2.1, u13.2.2.1, u13.2.2.2.1, u13.2.2.2.2.1, u13.2.2.2.2.2.1, y1.2.1.2.2.2.2.2.2.1, u13.2.2.2.2.2.2.2.1, u13.2.2.2.2.2.2.2.2.1, u13.2.2.2.2.2.2.2.2.2.1, u13.2.2.2.2.2.2.2.2.2.2.1, ()))
    let u15 := (gt d34 u14 t4)
    let u16 := (stI u14 t4 (u15.1, u15.2.1, u15.2.2.1, u15.2.2.2.1, u15.2.2.2.2.1, u15.2.2.2.2.2.1, u15.2.2.2.2.2.2.1, y1.2.1.2.2.2.2.2.2.2.1, u15.2.2.2.2.2.2.2.2.1, u15.2.2.2.2.2.2.2.2.2.1, u15.2.2.2.2.2.2.2.2.2.2.1, ()))
    let u17 := (gt d34 u16 t4)
    let u18 := (stI u16 t4 (u17.1, u17.2.1, u17.2.2.1, u17.2.2.2.1, u17.2.2.2.2.1, u17.2.2.2.2.2.1, u17.2.2.2.2.2.2.1, u17.2.2.2.2.2.2.2.1, y1.2.1.2.2.2.2.2.2.2.2.1, u17.2.2.2.2.2.2.2.2.2.1, u17.2.2.2.2.2.2.2.2.2.2.1, ()))
    let u19 := (gt d34 u18 t4)
    let u20 := (stI u18 t4 (u19.1, u19.2.1, u19.2.2.1, u19.2.2.2.1, u19.2.2.2.2.1, u19.2.2.2.2.2.1, u19.2.2.2.2.2.2.1, u19.2.2.2.2.2.2.2.1, u19.2.2.2.2.2.2.2.2.1, y1.2.1.2.2.2.2.2.2.2.2.2.1, u19.2.2.2.2.2.2.2.2.2.2.1, ()))
    let u21 := (gt d34 u20 t4)
    some (.inl (t0, (stI u20 t4 (u21.1, u21.2.1, u21.2.2.1, u21.2.2.2.1, u21.2.2.2.2.1, u21.2.2.2.2.2.1, u21.2.2.2.2.2.2.1, u21.2.2.2.2.2.2.2.1, u21.2.2.2.2.2.2.2.2.1, u21.2.2.2.2.2.2.2.2.2.1, y1.2.1.2.2.2.2.2.2.2.2.2.2.1, ())), (addW .i64 t4 1), ()))
    ) none
    ) none
  ) (
    some (.inr (.inl (t0, t3, t4, ())))
  )
noncomputable def l63_0 (t0 : (List R28)) (t3 : (List R34)) (t4 : Int) : Option (Sum ((List R28) × (List R34) × Int × Unit) Unit) := loopF (fun (x : ((List R28) × (List R34) × Int × Unit)) => r63_0 x.1 x.2.1 x.2.2.1) (t0, t3, t4, ())
noncomputable def g63 (p0 : (List R28)) : Option (Unit × (((List R34) × Unit) × Unit)) :=
  let u1 := (lenI p0)
  cond (mkB 160 u1) (
  Option.bind (l63_0 p0 (repI d34 u1) 0) (Sum.elim (fun y1 =>
    some ((), ((y1.2.1, ()), ()))
  ) (fun y1 =>
    none
  ))
  ) none
noncomputable def s63 : Su := ⟨[.c false [.sl 28 kk28]], [(false, [.sl 34 kk34])], true, .inl fun x => g63 x.1.1⟩
def sg63_0 : List SE := [.d 0 (.sl 28 kk28), .own 3 (.sl 34 kk34), .d 4 (.int .i64)]
def rh63 : List SE := []
noncomputable def lo63 : Nat → Option (Lo rh63)
  | 0 => some ⟨sg63_0, fun x => l63_0 x.1 x.2.1 x.2.2.1⟩
  | _ => none
noncomputable def ga63 : List (Nat × Su) := [(9, s9)]
noncomputable def E63 : En := ⟨23, tt, gaOf ga63, rh63, lo63, [], fun _ => none⟩
theorem t63_0 (x : SigT sg63_0) : (roundT E63 0 sg63_0 (loopOf 0 (bodyOf Tryz.f63)) x).run = r63_0 x.1 x.2.1 x.2.2.1 := by kernel_rfl
theorem t63 (x : PT s63.ps) : (fnT E63 (bodyOf Tryz.f63) Tryz.f63.results.toList s63.ps s63.rs true x).run = g63 x.1.1 := by kernel_rfl
theorem hga63 : GAok Tryz.prog E63 := gaok_of (l := ga63) ⟨ok9, trivial⟩
theorem L63_0 : LoopSem Tryz.prog E63 0 (.loop (loopOf 0 (bodyOf Tryz.f63))) ⟨sg63_0, fun x => l63_0 x.1 x.2.1 x.2.2.1⟩ :=
  sem_of (hTT hT) hga63 hmix (step := fun (x : SigT sg63_0) => r63_0 x.1 x.2.1 x.2.2.1) t63_0 (loopsOK_all [] (by kernel_rfl) trivial)
theorem ok63 : SuOK Tryz.prog 63 s63 :=
  fn_ok (E := E63) (hTT hT) hga63 hmix (fn := Tryz.f63) (c := (bodyOf Tryz.f63)) (by kernel_rfl) (by kernel_rfl) (by kernel_rfl) rfl (loopsOK_all [(0, .loop (loopOf 0 (bodyOf Tryz.f63)))] (by kernel_rfl) ⟨semL rfl L63_0, trivial⟩) fun x y h => ⟨y.1, fun _ => rfl, (t63 x).trans h⟩


/- loop.example/g00735/laws.toBook -/
noncomputable def g18 (p0 : ((List R28) × Unit)) : Option (Unit × (((List R34) × Unit) × Unit)) :=
  Option.bind (g63 p0.1) fun y1 =>
  some ((), (y1.2.1, ()))
noncomputable def s18 : Su := ⟨[.c true [.sl 28 kk28]], [(true, [.sl 34 kk34])], true, .inl fun x => g18 x.1⟩
def rh18 : List SE := []
noncomputable def lo18 : Nat → Option (Lo rh18)
  | _ => none
noncomputable def ga18 : List (Nat × Su) := [(63, s63)]
noncomputable def E18 : En := ⟨9, tt, gaOf ga18, rh18, lo18, [], fun _ => none⟩
theorem t18 (x : PT s18.ps) : (fnT E18 (bodyOf Tryz.f18) Tryz.f18.results.toList s18.ps s18.rs true x).run = g18 x.1 := by kernel_rfl
theorem hga18 : GAok Tryz.prog E18 := gaok_of (l := ga18) ⟨ok63, trivial⟩
theorem ok18 : SuOK Tryz.prog 18 s18 :=
  fn_ok (E := E18) (hTT hT) hga18 hmix (fn := Tryz.f18) (c := (bodyOf Tryz.f18)) (by kernel_rfl) (by kernel_rfl) (by kernel_rfl) rfl (loopsOK_all [] (by kernel_rfl) trivial) fun x y h => ⟨y.1, fun _ => rfl, (t18 x).trans h⟩


/- loop.example/g00735/spec.Digits -/
noncomputable def r156_0 (t0 : (List UInt8)) (t3 : Int) : Option (Sum ((List UInt8) × Int × Unit) (Sum ((List UInt8) × Int × Unit) (Bool × Unit))) :=
  cond (ltI t3 (lenI t0)) (
    cond (inB t3 t0) (
    let u1 := (bytI t0 t3)
    cond (ltI u1 48) (
      some (.inr (.inr (false, ())))
    ) (
      cond (inB t3 t0) (
      cond (ltI 57 u1) (
        some (.inr (.inr (false, ())))
      ) (
        some (.inl (t0, (addW .i64 t3 1), ()))
      )
      ) none
    )
    ) none
  ) (
    some (.inr (.inl (t0, t3, ())))
  )
noncomputable def l156_0 (t0 : (List UInt8)) (t3 : Int) : Option (Sum ((List UInt8) × Int × Unit) (Bool × Unit)) := loopF (fun (x : ((List UInt8) × Int × Unit)) => r156_0 x.1 x.2.1) (t0, t3, ())
noncomputable def g156 (p0 : (List UInt8)) : Option (Unit × ((Bool × Unit) × Unit)) :=
  Option.bind (l156_0 p0 0) (Sum.elim (fun y1 =>
    some ((), (((ltI 0 (lenI y1.1)), ()), ()))
  ) (fun y1 =>
    some ((), (y1, ()))
  ))
noncomputable def s156 : Su := ⟨[.c false [.str]], [(false, [.bool])], true, .inl fun x => g156 x.1.1⟩
def sg156_0 : List SE := [.d 0 (.str), .d 3 (.int .i64)]
def rh156 : List SE := [.d 2 (.bool)]
noncomputable def lo156 : Nat → Option (Lo rh156)
  | 0 => some ⟨sg156_0, fun x => l156_0 x.1 x.2.1⟩
  | _ => none
noncomputable def ga156 : List (Nat × Su) := []
noncomputable def E156 : En := ⟨23, tt, gaOf ga156, rh156, lo156, [], fun _ => none⟩
theorem t156_0 (x : SigT sg156_0) : (roundT E156 0 sg156_0 (loopOf 0 (bodyOf Tryz.f156)) x).run = r156_0 x.1 x.2.1 := by kernel_rfl
theorem t156 (x : PT s156.ps) : (fnT E156 (bodyOf Tryz.f156) Tryz.f156.results.toList s156.ps s156.rs true x).run = g156 x.1.1 := by kernel_rfl
theorem hga156 : GAok Tryz.prog E156 := gaok_of (l := ga156) trivial
theorem L156_0 : LoopSem Tryz.prog E156 0 (.loop (loopOf 0 (bodyOf Tryz.f156))) ⟨sg156_0, fun x => l156_0 x.1 x.2.1⟩ :=
  sem_of (hTT hT) hga156 hmix (step := fun (x : SigT sg156_0) => r156_0 x.1 x.2.1) t156_0 (loopsOK_all [] (by kernel_rfl) trivial)
theorem ok156 : SuOK Tryz.prog 156 s156 :=
  fn_ok (E := E156) (hTT hT) hga156 hmix (fn := Tryz.f156) (c := (bodyOf Tryz.f156)) (by kernel_rfl) (by kernel_rfl) (by kernel_rfl) rfl (loopsOK_all [(0, .loop (loopOf 0 (bodyOf Tryz.f156)))] (by kernel_rfl) ⟨semL rfl L156_0, trivial⟩) fun x y h => ⟨y.1, fun _ => rfl, (t156 x).trans h⟩


/- loop.example/g00735/spec.Luhn -/
noncomputable def r157_0 (t0 : (List UInt8)) (t3 : Int) (t4 : Bool) (t5 : Int) : Option (Sum ((List UInt8) × Int × Bool × Int × Unit) (Sum ((List UInt8) × Int × Bool × Int × Unit) Unit)) :=
  cond (leI 0 t5) (
    cond (inB t5 t0) (
    cond t4 (
      let u1 := (subW .i64 (cvtW .i64 (bytI t0 t5)) 48)
      let u2 := (mulW .i64 2 u1)
      cond (ltI 9 u2) (
        let u3 := (subW .i64 t5 1)
        some (.inl (t0, (remI (addW .i64 t3 (subW .i64 u2 9)) 10), (!t4), u3, ()))
      ) (
        let u3 := (subW .i64 t5 1)
        some (.inl (t0, (remI (addW .i64 t3 u2) 10), (!t4), u3, ()))
      )
    ) (
      let u1 := (subW .i64 (cvtW .i64 (bytI t0 t5)) 48)
      let u2 := (subW .i64 t5 1)
      some (.inl (t0, (remI (addW .i64 t3 u1) 10), (!t4), u2, ()))
    )
    ) none
  ) (
    some (.inr (.inl (t0, t3, t4, t5, ())))
  )
noncomputable def l157_0 (t0 : (List UInt8)) (t3 : Int) (t4 : Bool) (t5 : Int) : Option (Sum ((List UInt8) × Int × Bool × Int × Unit) Unit) := loopF (fun (x : ((List UInt8) × Int × Bool × Int × Unit)) => r157_0 x.1 x.2.1 x.2.2.1 x.2.2.2.1) (t0, t3, t4, t5, ())
noncomputable def g157 (p0 : (List UInt8)) : Option (Unit × ((Int × Unit) × Unit)) :=
  Option.bind (g156 p0) fun y1 =>
  cond (!y1.2.1.1) (
    some ((), (((-1), ()), ()))
  ) (
    Option.bind (l157_0 p0 0 true (subW .i64 (lenI p0) 1)) (Sum.elim (fun y2 =>
      some ((), (((remI (subW .i64 10 y2.2.1) 10), ()), ()))
    ) (fun y2 =>
      none
    ))
  )
noncomputable def s157 : Su := ⟨[.c false [.str]], [(false, [.int .i64])], true, .inl fun x => g157 x.1.1⟩
def sg157_0 : List SE := [.d 0 (.str), .d 3 (.int .i64), .d 4 (.bool), .d 5 (.int .i64)]
def rh157 : List SE := []
noncomputable def lo157 : Nat → Option (Lo rh157)
  | 0 => some ⟨sg157_0, fun x => l157_0 x.1 x.2.1 x.2.2.1 x.2.2.2.1⟩
  | _ => none
noncomputable def ga157 : List (Nat × Su) := [(156, s156)]
noncomputable def E157 : En := ⟨38, tt, gaOf ga157, rh157, lo157, [], fun _ => none⟩
theorem t157_0 (x : SigT sg157_0) : (roundT E157 0 sg157_0 (loopOf 0 (bodyOf Tryz.f157)) x).run = r157_0 x.1 x.2.1 x.2.2.1 x.2.2.2.1 := by kernel_rfl
theorem t157 (x : PT s157.ps) : (fnT E157 (bodyOf Tryz.f157) Tryz.f157.results.toList s157.ps s157.rs true x).run = g157 x.1.1 := by kernel_rfl
theorem hga157 : GAok Tryz.prog E157 := gaok_of (l := ga157) ⟨ok156, trivial⟩
theorem L157_0 : LoopSem Tryz.prog E157 0 (.loop (loopOf 0 (bodyOf Tryz.f157))) ⟨sg157_0, fun x => l157_0 x.1 x.2.1 x.2.2.1 x.2.2.2.1⟩ :=
  sem_of (hTT hT) hga157 hmix (step := fun (x : SigT sg157_0) => r157_0 x.1 x.2.1 x.2.2.1 x.2.2.2.1) t157_0 (loopsOK_all [] (by kernel_rfl) trivial)
theorem ok157 : SuOK Tryz.prog 157 s157 :=
  fn_ok (E := E157) (hTT hT) hga157 hmix (fn := Tryz.f157) (c := (bodyOf Tryz.f157)) (by kernel_rfl) (by kernel_rfl) (by kernel_rfl) rfl (loopsOK_all [(0, .loop (loopOf 0 (bodyOf Tryz.f157)))] (by kernel_rfl) ⟨semL rfl L157_0, trivial⟩) fun x y h => ⟨y.1, fun _ => rfl, (t157 x).trans h⟩


/- loop.example/g00735/spec.LuhnOk -/
noncomputable def g142 (p0 : (List UInt8)) : Option (Unit × ((Bool × Unit) × Unit)) :=
  Option.bind (g156 p0) fun y1 =>
  let u1 := (lenI p0)
  cond (cond (!y1.2.1.1) true (ltI u1 2)) (
    some ((), ((false, ()), ()))
  ) (
    let u2 := (subW .i64 u1 1)
    cond (cutB 0 u2 p0) (
    Option.bind (g157 (sub p0 0 u2)) fun y2 =>
    cond (inB u2 p0) (
    some ((), (((eqI y2.2.1.1 (subW .i64 (cvtW .i64 (bytI p0 u2)) 48)), ()), ()))
    ) none
    ) none
  )
noncomputable def s142 : Su := ⟨[.c false [.str]], [(false, [.bool])], true, .inl fun x => g142 x.1.1⟩
def rh142 : List SE := []
noncomputable def lo142 : Nat → Option (Lo rh142)
  | _ => none
noncomputable def ga142 : List (Nat × Su) := [(156, s156), (157, s157)]
noncomputable def E142 : En := ⟨25, tt, gaOf ga142, rh142, lo142, [], fun _ => none⟩
theorem t142 (x : PT s142.ps) : (fnT E142 (bodyOf Tryz.f142) Tryz.f142.results.toList s142.ps s142.rs true x).run = g142 x.1.1 := by kernel_rfl
theorem hga142 : GAok Tryz.prog E142 := gaok_of (l := ga142) ⟨ok156, ok157, trivial⟩
theorem ok142 : SuOK Tryz.prog 142 s142 :=
  fn_ok (E := E142) (hTT hT) hga142 hmix (fn := Tryz.f142) (c := (bodyOf Tryz.f142)) (by kernel_rfl) (by kernel_rfl) (by kernel_rfl) rfl (loopsOK_all [] (by kernel_rfl) trivial) fun x y h => ⟨y.1, fun _ => rfl, (t142 x).trans h⟩


/- loop.example/g00735/spec.AcctIdOk -/
noncomputable def g107 (p0 : (List UInt8)) : Option (Unit × ((Bool × Unit) × Unit)) :=
  cond (leI (lenI p0) 19) (
    Option.bind (g142 p0) fun y1 =>
    some ((), (y1.2.1, ()))
  ) (
    some ((), ((false, ()), ()))
  )
noncomputable def s107 : Su := ⟨[.c false [.str]], [(false, [.bool])], true, .inl fun x => g107 x.1.1⟩
def rh107 : List SE := []
noncomputable def lo107 : Nat → Option (Lo rh107)
  | _ => none
noncomputable def ga107 : List (Nat × Su) := [(142, s142)]
noncomputable def E107 : En := ⟨10, tt, gaOf ga107, rh107, lo107, [], fun _ => none⟩
theorem t107 (x : PT s107.ps) : (fnT E107 (bodyOf Tryz.f107) Tryz.f107.results.toList s107.ps s107.rs true x).run = g107 x.1.1 := by kernel_rfl
theorem hga107 : GAok Tryz.prog E107 := gaok_of (l := ga107) ⟨ok142, trivial⟩
theorem ok107 : SuOK Tryz.prog 107 s107 :=
  fn_ok (E := E107) (hTT hT) hga107 hmix (fn := Tryz.f107) (c := (bodyOf Tryz.f107)) (by kernel_rfl) (by kernel_rfl) (by kernel_rfl) rfl (loopsOK_all [] (by kernel_rfl) trivial) fun x y h => ⟨y.1, fun _ => rfl, (t107 x).trans h⟩


/- loop.example/g00735/spec.l01In -/
noncomputable def g31 (p0 : Int) (p1 : Int) (p2 : Int) : Option (Unit × ((Bool × Unit) × Unit)) :=
  some ((), (((cond (leI p1 p0) (leI p0 p2) false), ()), ()))
noncomputable def s31 : Su := ⟨[.c false [.int .i64], .c false [.int .i64], .c false [.int .i64]], [(false, [.bool])], true, .inl fun x => g31 x.1.1 x.2.1.1 x.2.2.1.1⟩
def rh31 : List SE := []
noncomputable def lo31 : Nat → Option (Lo rh31)
  | _ => none
noncomputable def ga31 : List (Nat × Su) := []
noncomputable def E31 : En := ⟨15, tt, gaOf ga31, rh31, lo31, [], fun _ => none⟩
theorem t31 (x : PT s31.ps) : (fnT E31 (bodyOf Tryz.f31) Tryz.f31.results.toList s31.ps s31.rs true x).run = g31 x.1.1 x.2.1.1 x.2.2.1.1 := by kernel_rfl
theorem hga31 : GAok Tryz.prog E31 := gaok_of (l := ga31) trivial
theorem ok31 : SuOK Tryz.prog 31 s31 :=
  fn_ok (E := E31) (hTT hT) hga31 hmix (fn := Tryz.f31) (c := (bodyOf Tryz.f31)) (by kernel_rfl) (by kernel_rfl) (by kernel_rfl) rfl (loopsOK_all [] (by kernel_rfl) trivial) fun x y h => ⟨y.1, fun _ => rfl, (t31 x).trans h⟩


/- loop.example/g00735/spec.l01Money -/
noncomputable def g85 (p0 : Int) : Option (Unit × ((Bool × Unit) × Unit)) :=
  some ((), (((cond (leI 0 p0) (leI p0 4611686018427387904) false), ()), ()))
noncomputable def s85 : Su := ⟨[.c false [.int .i64]], [(false, [.bool])], true, .inl fun x => g85 x.1.1⟩
def rh85 : List SE := []
noncomputable def lo85 : Nat → Option (Lo rh85)
  | _ => none
noncomputable def ga85 : List (Nat × Su) := []
noncomputable def E85 : En := ⟨9, tt, gaOf ga85, rh85, lo85, [], fun _ => none⟩
theorem t85 (x : PT s85.ps) : (fnT E85 (bodyOf Tryz.f85) Tryz.f85.results.toList s85.ps s85.rs true x).run = g85 x.1.1 := by kernel_rfl
theorem hga85 : GAok Tryz.prog E85 := gaok_of (l := ga85) trivial
theorem ok85 : SuOK Tryz.prog 85 s85 :=
  fn_ok (E := E85) (hTT hT) hga85 hmix (fn := Tryz.f85) (c := (bodyOf Tryz.f85)) (by kernel_rfl) (by kernel_rfl) (by kernel_rfl) rfl (loopsOK_all [] (by kernel_rfl) trivial) fun x y h => ⟨y.1, fun _ => rfl, (t85 x).trans h⟩


/- loop.example/g00735/spec.HoldIdOk -/
noncomputable def r78_0 (t0 : (List UInt8)) (t3 : Int) : Option (Sum ((List UInt8) × Int × Unit) (Sum ((List UInt8) × Int × Unit) (Bool × Unit))) :=
  cond (ltI t3 (lenI t0)) (
    cond (inB t3 t0) (
    let u1 := (bytI t0 t3)
    cond (ltI u1 48) (
      cond (inB t3 t0) (
      cond (ltI u1 97) (
        some (.inr (.inr (false, ())))
      ) (
        cond (inB t3 t0) (
        cond (ltI 122 u1) (
          some (.inr (.inr (false, ())))
        ) (
          some (.inl (t0, (addW .i64 t3 1), ()))
        )
        ) none
      )
      ) none
    ) (
      cond (inB t3 t0) (
      cond (ltI 57 u1) (
        cond (inB t3 t0) (
        cond (ltI u1 97) (
          some (.inr (.inr (false, ())))
        ) (
          cond (inB t3 t0) (
          cond (ltI 122 u1) (
            some (.inr (.inr (false, ())))
          ) (
            some (.inl (t0, (addW .i64 t3 1), ()))
          )
          ) none
        )
        ) none
      ) (
        some (.inl (t0, (addW .i64 t3 1), ()))
      )
      ) none
    )
    ) none
  ) (
    some (.inr (.inl (t0, t3, ())))
  )
noncomputable def l78_0 (t0 : (List UInt8)) (t3 : Int) : Option (Sum ((List UInt8) × Int × Unit) (Bool × Unit)) := loopF (fun (x : ((List UInt8) × Int × Unit)) => r78_0 x.1 x.2.1) (t0, t3, ())
noncomputable def g78 (p0 : (List UInt8)) : Option (Unit × ((Bool × Unit) × Unit)) :=
  Option.bind (l78_0 p0 0) (Sum.elim (fun y1 =>
    Option.bind (g31 (lenI y1.1) 1 6) fun y2 =>
    some ((), (y2.2.1, ()))
  ) (fun y1 =>
    some ((), (y1, ()))
  ))
noncomputable def s78 : Su := ⟨[.c false [.str]], [(false, [.bool])], true, .inl fun x => g78 x.1.1⟩
def sg78_0 : List SE := [.d 0 (.str), .d 3 (.int .i64)]
def rh78 : List SE := [.d 2 (.bool)]
noncomputable def lo78 : Nat → Option (Lo rh78)
  | 0 => some ⟨sg78_0, fun x => l78_0 x.1 x.2.1⟩
  | _ => none
noncomputable def ga78 : List (Nat × Su) := [(31, s31)]
noncomputable def E78 : En := ⟨35, tt, gaOf ga78, rh78, lo78, [], fun _ => none⟩
theorem t78_0 (x : SigT sg78_0) : (roundT E78 0 sg78_0 (loopOf 0 (bodyOf Tryz.f78)) x).run = r78_0 x.1 x.2.1 := by kernel_rfl
theorem t78 (x : PT s78.ps) : (fnT E78 (bodyOf Tryz.f78) Tryz.f78.results.toList s78.ps s78.rs true x).run = g78 x.1.1 := by kernel_rfl
theorem hga78 : GAok Tryz.prog E78 := gaok_of (l := ga78) ⟨ok31, trivial⟩
theorem L78_0 : LoopSem Tryz.prog E78 0 (.loop (loopOf 0 (bodyOf Tryz.f78))) ⟨sg78_0, fun x => l78_0 x.1 x.2.1⟩ :=
  sem_of (hTT hT) hga78 hmix (step := fun (x : SigT sg78_0) => r78_0 x.1 x.2.1) t78_0 (loopsOK_all [] (by kernel_rfl) trivial)
theorem ok78 : SuOK Tryz.prog 78 s78 :=
  fn_ok (E := E78) (hTT hT) hga78 hmix (fn := Tryz.f78) (c := (bodyOf Tryz.f78)) (by kernel_rfl) (by kernel_rfl) (by kernel_rfl) rfl (loopsOK_all [(0, .loop (loopOf 0 (bodyOf Tryz.f78)))] (by kernel_rfl) ⟨semL rfl L78_0, trivial⟩) fun x y h => ⟨y.1, fun _ => rfl, (t78 x).trans h⟩


/- loop.example/g00735/spec.l06Time -/
noncomputable def g77 (p0 : Int) : Option (Unit × ((Bool × Unit) × Unit)) :=
  Option.bind (g31 p0 0 1000000000) fun y1 =>
  some ((), (y1.2.1, ()))
noncomputable def s77 : Su := ⟨[.c false [.int .i64]], [(false, [.bool])], true, .inl fun x => g77 x.1.1⟩
def rh77 : List SE := []
noncomputable def lo77 : Nat → Option (Lo rh77)
  | _ => none
noncomputable def ga77 : List (Nat × Su) := [(31, s31)]
noncomputable def E77 : En := ⟨5, tt, gaOf ga77, rh77, lo77, [], fun _ => none⟩
theorem t77 (x : PT s77.ps) : (fnT E77 (bodyOf Tryz.f77) Tryz.f77.results.toList s77.ps s77.rs true x).run = g77 x.1.1 := by kernel_rfl
theorem hga77 : GAok Tryz.prog E77 := gaok_of (l := ga77) ⟨ok31, trivial⟩
theorem ok77 : SuOK Tryz.prog 77 s77 :=
  fn_ok (E := E77) (hTT hT) hga77 hmix (fn := Tryz.f77) (c := (bodyOf Tryz.f77)) (by kernel_rfl) (by kernel_rfl) (by kernel_rfl) rfl (loopsOK_all [] (by kernel_rfl) trivial) fun x y h => ⟨y.1, fun _ => rfl, (t77 x).trans h⟩


/- loop.example/g00735/spec.HoldOk -/
noncomputable def g143 (p0 : ((List UInt8) × Int × Int × Unit)) : Option (Unit × ((Bool × Unit) × Unit)) :=
  Option.bind (g78 p0.1) fun y1 =>
  cond y1.2.1.1 (
    Option.bind (g31 p0.2.1 1 9007199254740992) fun y2 =>
    cond y2.2.1.1 (
      Option.bind (g77 p0.2.2.1) fun y3 =>
      some ((), (y3.2.1, ()))
    ) (
      some ((), ((false, ()), ()))
    )
  ) (
    some ((), ((false, ()), ()))
  )
noncomputable def s143 : Su := ⟨[.c true [.str, .int .i64, .int .i64]], [(false, [.bool])], true, .inl fun x => g143 x.1⟩
def rh143 : List SE := []
noncomputable def lo143 : Nat → Option (Lo rh143)
  | _ => none
noncomputable def ga143 : List (Nat × Su) := [(31, s31), (78, s78), (77, s77)]
noncomputable def E143 : En := ⟨16, tt, gaOf ga143, rh143, lo143, [], fun _ => none⟩
theorem t143 (x : PT s143.ps) : (fnT E143 (bodyOf Tryz.f143) Tryz.f143.results.toList s143.ps s143.rs true x).run = g143 x.1 := by kernel_rfl
theorem hga143 : GAok Tryz.prog E143 := gaok_of (l := ga143) ⟨ok31, ok78, ok77, trivial⟩
theorem ok143 : SuOK Tryz.prog 143 s143 :=
  fn_ok (E := E143) (hTT hT) hga143 hmix (fn := Tryz.f143) (c := (bodyOf Tryz.f143)) (by kernel_rfl) (by kernel_rfl) (by kernel_rfl) rfl (loopsOK_all [] (by kernel_rfl) trivial) fun x y h => ⟨y.1, fun _ => rfl, (t143 x).trans h⟩


/- loop.example/g00735/spec.HoldsOk -/
noncomputable def r108_0 (t0 : (List R74)) (t5 : (List R74)) (t6 : Int) (t7 : Int) : Option (Sum ((List R74) × (List R74) × Int × Int × Unit) (Sum ((List R74) × (List R74) × Int × Int × Unit) (Bool × Unit))) :=
  cond (ltI t7 t6) (
    cond (inB t7 t5) (
    let u1 := (gt d74 t5 t7)
    Option.bind (g143 u1) fun y1 =>
    cond (!y1.2.1.1) (
      some (.inr (.inr (false, ())))
    ) (
      cond (ltI 0 t7) (
        let u2 := (subW .i64 t7 1)
        cond (inB u2 t0) (
        cond (!(ltS (gt d74 t0 u2).1 u1.1)) (
          some (.inr (.inr (false, ())))
        ) (
          some (.inl (t0, t5, t6, (addW .i64 t7 1), ()))
        )
        ) none
      ) (
        some (.inl (t0, t5, t6, (addW .i64 t7 1), ()))
      )
    )
    ) none
  ) (
    some (.inr (.inl (t0, t5, t6, t7, ())))
  )
noncomputable def l108_0 (t0 : (List R74)) (t5 : (List R74)) (t6 : Int) (t7 : Int) : Option (Sum ((List R74) × (List R74) × Int × Int × Unit) (Bool × Unit)) := loopF (fun (x : ((List R74) × (List R74) × Int × Int × Unit)) => r108_0 x.1 x.2.1 x.2.2.1 x.2.2.2.1) (t0, t5, t6, t7, ())
noncomputable def g108 (p0 : (List R74)) : Option (Unit × ((Bool × Unit) × Unit)) :=
  Option.bind (l108_0 p0 p0 (lenI p0) 0) (Sum.elim (fun y1 =>
    some ((), (((leI (lenI y1.1) 4), ()), ()))
  ) (fun y1 =>
    some ((), (y1, ()))
  ))
noncomputable def s108 : Su := ⟨[.c false [.sl 74 kk74]], [(false, [.bool])], true, .inl fun x => g108 x.1.1⟩
def sg108_0 : List SE := [.d 0 (.sl 74 kk74), .d 5 (.sl 74 kk74), .d 6 (.int .i64), .d 7 (.int .i64)]
def rh108 : List SE := [.d 2 (.bool)]
noncomputable def lo108 : Nat → Option (Lo rh108)
  | 0 => some ⟨sg108_0, fun x => l108_0 x.1 x.2.1 x.2.2.1 x.2.2.2.1⟩
  | _ => none
noncomputable def ga108 : List (Nat × Su) := [(143, s143)]
noncomputable def E108 : En := ⟨34, tt, gaOf ga108, rh108, lo108, [], fun _ => none⟩
theorem t108_0 (x : SigT sg108_0) : (roundT E108 0 sg108_0 (loopOf 0 (bodyOf Tryz.f108)) x).run = r108_0 x.1 x.2.1 x.2.2.1 x.2.2.2.1 := by kernel_rfl
theorem t108 (x : PT s108.ps) : (fnT E108 (bodyOf Tryz.f108) Tryz.f108.results.toList s108.ps s108.rs true x).run = g108 x.1.1 := by kernel_rfl
theorem hga108 : GAok Tryz.prog E108 := gaok_of (l := ga108) ⟨ok143, trivial⟩
theorem L108_0 : LoopSem Tryz.prog E108 0 (.loop (loopOf 0 (bodyOf Tryz.f108))) ⟨sg108_0, fun x => l108_0 x.1 x.2.1 x.2.2.1 x.2.2.2.1⟩ :=
  sem_of (hTT hT) hga108 hmix (step := fun (x : SigT sg108_0) => r108_0 x.1 x.2.1 x.2.2.1 x.2.2.2.1) t108_0 (loopsOK_all [] (by kernel_rfl) trivial)
theorem ok108 : SuOK Tryz.prog 108 s108 :=
  fn_ok (E := E108) (hTT hT) hga108 hmix (fn := Tryz.f108) (c := (bodyOf Tryz.f108)) (by kernel_rfl) (by kernel_rfl) (by kernel_rfl) rfl (loopsOK_all [(0, .loop (loopOf 0 (bodyOf Tryz.f108)))] (by kernel_rfl) ⟨semL rfl L108_0, trivial⟩) fun x y h => ⟨y.1, fun _ => rfl, (t108 x).trans h⟩


/- loop.example/g00735/spec.RingOk -/
noncomputable def r84_0 (t32 : Int) (t33 : Int) (b1 : (Int × Int × (List R3) × (List R3) × Unit)) : Option (Sum (Int × Int × (Int × Int × (List R3) × (List R3) × Unit) × Unit) (Sum (Int × Int × (Int × Int × (List R3) × (List R3) × Unit) × Unit) (Bool × Unit))) :=
  cond (ltI t33 t32) (
    cond (inB t33 b1.2.2.1) (
    Option.bind (g85 (gt d3 b1.2.2.1 t33).1) fun y1 =>
    cond (!y1.2.1.1) (
      some (.inr (.inr (false, ())))
    ) (
      cond (inB t33 b1.2.2.2.1) (
      Option.bind (g85 (gt d3 b1.2.2.2.1 t33).1) fun y2 =>
      cond (!y2.2.1.1) (
        some (.inr (.inr (false, ())))
      ) (
        some (.inl (t32, (addW .i64 t33 1), b1, ()))
      )
      ) none
    )
    ) none
  ) (
    some (.inr (.inl (t32, t33, b1, ())))
  )
noncomputable def l84_0 (t32 : Int) (t33 : Int) (b1 : (Int × Int × (List R3) × (List R3) × Unit)) : Option (Sum (Int × Int × (Int × Int × (List R3) × (List R3) × Unit) × Unit) (Bool × Unit)) := loopF (fun (x : (Int × Int × (Int × Int × (List R3) × (List R3) × Unit) × Unit)) => r84_0 x.1 x.2.1 x.2.2.1) (t32, t33, b1, ())
noncomputable def g84 (p0 : (Int × Int × (List R3) × (List R3) × Unit)) : Option (Unit × ((Bool × Unit) × Unit)) :=
  Option.bind (g31 p0.1 1 1000) fun y1 =>
  cond (!y1.2.1.1) (
    some ((), ((false, ()), ()))
  ) (
    let u1 := (lenI p0.2.2.1)
    Option.bind (g31 u1 1 8) fun y2 =>
    cond (cond (!y2.2.1.1) true (!(eqI (lenI p0.2.2.2.1) u1))) (
      some ((), ((false, ()), ()))
    ) (
      Option.bind (g77 p0.2.1) fun y3 =>
      cond (!y3.2.1.1) (
        some ((), ((false, ()), ()))
      ) (
        Option.bind (l84_0 u1 0 p0) (Sum.elim (fun y4 =>
          some ((), ((true, ()), ()))
        ) (fun y4 =>
          some ((), (y4, ()))
        ))
      )
    )
  )
noncomputable def s84 : Su := ⟨[.c true [.int .i64, .int .i64, .sl 3 kk3, .sl 3 kk3]], [(false, [.bool])], true, .inl fun x => g84 x.1⟩
def sg84_0 : List SE := [.d 32 (.int .i64), .d 33 (.int .i64), .box 1 [(false, .int .i64), (false, .int .i64), (false, .sl 3 kk3), (false, .sl 3 kk3)]]
def rh84 : List SE := [.d 2 (.bool)]
noncomputable def lo84 : Nat → Option (Lo rh84)
  | 0 => some ⟨sg84_0, fun x => l84_0 x.1 x.2.1 x.2.2.1⟩
  | _ => none
noncomputable def ga84 : List (Nat × Su) := [(31, s31), (85, s85), (77, s77)]
noncomputable def E84 : En := ⟨53, tt, gaOf ga84, rh84, lo84, [], fun _ => none⟩
theorem t84_0 (x : SigT sg84_0) : (roundT E84 0 sg84_0 (loopOf 0 (bodyOf Tryz.f84)) x).run = r84_0 x.1 x.2.1 x.2.2.1 := by kernel_rfl
theorem t84 (x : PT s84.ps) : (fnT E84 (bodyOf Tryz.f84) Tryz.f84.results.toList s84.ps s84.rs true x).run = g84 x.1 := by kernel_rfl
theorem hga84 : GAok Tryz.prog E84 := gaok_of (l := ga84) ⟨ok31, ok85, ok77, trivial⟩
theorem L84_0 : LoopSem Tryz.prog E84 0 (.loop (loopOf 0 (bodyOf Tryz.f84))) ⟨sg84_0, fun x => l84_0 x.1 x.2.1 x.2.2.1⟩ :=
  sem_of (hTT hT) hga84 hmix (step := fun (x : SigT sg84_0) => r84_0 x.1 x.2.1 x.2.2.1) t84_0 (loopsOK_all [] (by kernel_rfl) trivial)
theorem ok84 : SuOK Tryz.prog 84 s84 :=
  fn_ok (E := E84) (hTT hT) hga84 hmix (fn := Tryz.f84) (c := (bodyOf Tryz.f84)) (by kernel_rfl) (by kernel_rfl) (by kernel_rfl) rfl (loopsOK_all [(0, .loop (loopOf 0 (bodyOf Tryz.f84)))] (by kernel_rfl) ⟨semL rfl L84_0, trivial⟩) fun x y h => ⟨y.1, fun _ => rfl, (t84 x).trans h⟩


/- loop.example/g00735/spec.SlotOk -/
noncomputable def g144 (p0 : ((List UInt8) × (List UInt8) × (List R5) × Unit)) : Option (Unit × ((Bool × Unit) × Unit)) :=
  Option.bind (g156 p0.1) fun y1 =>
  cond (cond y1.2.1.1 (eqI (lenI p0.1) 6) false) (
    Option.bind (g156 p0.2.1) fun y2 =>
    cond (cond y2.2.1.1 (eqI (lenI p0.2.1) 4) false) (
      Option.bind (g31 (lenI p0.2.2.1) 1 200) fun y3 =>
      some ((), (y3.2.1, ()))
    ) (
      some ((), ((false, ()), ()))
    )
  ) (
    some ((), ((false, ()), ()))
  )
noncomputable def s144 : Su := ⟨[.c true [.str, .str, .sl 5 kk5]], [(false, [.bool])], true, .inl fun x => g144 x.1⟩
def rh144 : List SE := []
noncomputable def lo144 : Nat → Option (Lo rh144)
  | _ => none
noncomputable def ga144 : List (Nat × Su) := [(156, s156), (31, s31)]
noncomputable def E144 : En := ⟨29, tt, gaOf ga144, rh144, lo144, [], fun _ => none⟩
theorem t144 (x : PT s144.ps) : (fnT E144 (bodyOf Tryz.f144) Tryz.f144.results.toList s144.ps s144.rs true x).run = g144 x.1 := by kernel_rfl
theorem hga144 : GAok Tryz.prog E144 := gaok_of (l := ga144) ⟨ok156, ok31, trivial⟩
theorem ok144 : SuOK Tryz.prog 144 s144 :=
  fn_ok (E := E144) (hTT hT) hga144 hmix (fn := Tryz.f144) (c := (bodyOf Tryz.f144)) (by kernel_rfl) (by kernel_rfl) (by kernel_rfl) rfl (loopsOK_all [] (by kernel_rfl) trivial) fun x y h => ⟨y.1, fun _ => rfl, (t144 x).trans h⟩


/- loop.example/g00735/spec.SlotsOk -/
noncomputable def r109_2 (t0 : (List R118)) (t7 : (List R118)) (t8 : Int) (t9 : Int) (t19 : (List R118)) (t20 : Int) (t21 : Int) (b4 : ((List UInt8) × (List UInt8) × (List R5) × Unit)) : Option (Sum ((List R118) × (List R118) × Int × Int × (List R118) × Int × Int × ((List UInt8) × (List UInt8) × (List R5) × Unit) × Unit) (Sum ((List R118) × (List R118) × Int × Int × (List R118) × Int × Int × ((List UInt8) × (List UInt8) × (List R5) × Unit) × Unit) (Bool × Unit))) :=
  cond (ltI t21 t20) (
    cond (inB t21 t19) (
    let u1 := (gt d118 t19 t21)
    cond (cond (eqS u1.1 b4.1) (eqS u1.2.1 b4.2.1) false) (
      some (.inr (.inr (false, ())))
    ) (
      some (.inl (t0, t7, t8, t9, t19, t20, (addW .i64 t21 1), b4, ()))
    )
    ) none
  ) (
    some (.inr (.inl (t0, t7, t8, t9, t19, t20, t21, b4, ())))
  )
noncomputable def l109_2 (t0 : (List R118)) (t7 : (List R118)) (t8 : Int) (t9 : Int) (t19 : (List R118)) (t20 : Int) (t21 : Int) (b4 : ((List UInt8) × (List UInt8) × (List R5) × Unit)) : Option (Sum ((List R118) × (List R118) × Int × Int × (List R118) × Int × Int × ((List UInt8) × (List UInt8) × (List R5) × Unit) × Unit) (Bool × Unit)) := loopF (fun (x : ((List R118) × (List R118) × Int × Int × (List R118) × Int × Int × ((List UInt8) × (List UInt8) × (List R5) × Unit) × Unit)) => r109_2 x.1 x.2.1 x.2.2.1 x.2.2.2.1 x.2.2.2.2.1 x.2.2.2.2.2.1 x.2.2.2.2.2.2.1 x.2.2.2.2.2.2.2.1) (t0, t7, t8, t9, t19, t20, t21, b4, ())
noncomputable def r109_0 (t0 : (List R118)) (t7 : (List R118)) (t8 : Int) (t9 : Int) : Option (Sum ((List R118) × (List R118) × Int × Int × Unit) (Sum ((List R118) × (List R118) × Int × Int × Unit) (Bool × Unit))) :=
  cond (ltI t9 t8) (
    cond (inB t9 t7) (
    let u1 := (gt d118 t7 t9)
    Option.bind (g144 u1) fun y1 =>
    cond (!y1.2.1.1) (
      some (.inr (.inr (false, ())))
    ) (
      cond (cutB 0 t9 t0) (
      let u2 := (sub t0 0 t9)
      Option.bind (l109_2 t0 t7 t8 t9 u2 (lenI u2) 0 u1) (Sum.elim (fun y2 =>
        some (.inl (y2.1, y2.2.1, y2.2.2.1, (addW .i64 y2.2.2.2.1 1), ()))
      ) (fun y2 =>
        some (.inr (.inr (y2.1, ())))
      ))
      ) none
    )
    ) none
  ) (
    some (.inr (.inl (t0, t7, t8, t9, ())))
  )
noncomputable def l109_0 (t0 : (List R118)) (t7 : (List R118)) (t8 : Int) (t9 : Int) : Option (Sum ((List R118) × (List R118) × Int × Int × Unit) (Bool × Unit)) := loopF (fun (x : ((List R118) × (List R118) × Int × Int × Unit)) => r109_0 x.1 x.2.1 x.2.2.1 x.2.2.2.1) (t0, t7, t8, t9, ())
noncomputable def g109 (p0 : (List R118)) : Option (Unit × ((Bool × Unit) × Unit)) :=
  Option.bind (l109_0 p0 p0 (lenI p0) 0) (Sum.elim (fun y1 =>
    some ((), (((leI (lenI y1.1) 6), ()), ()))
  ) (fun y1 =>
    some ((), (y1, ()))
  ))
noncomputable def s109 : Su := ⟨[.c false [.sl 118 kk118]], [(false, [.bool])], true, .inl fun x => g109 x.1.1⟩
def sg109_2 : List SE := [.d 0 (.sl 118 kk118), .d 7 (.sl 118 kk118), .d 8 (.int .i64), .d 9 (.int .i64), .d 19 (.sl 118 kk118), .d 20 (.int .i64), .d 21 (.int .i64), .box 4 [(false, .str), (false, .str), (false, .sl 5 kk5)]]
def sg109_0 : List SE := [.d 0 (.sl 118 kk118), .d 7 (.sl 118 kk118), .d 8 (.int .i64), .d 9 (.int .i64)]
def rh109 : List SE := [.d 2 (.bool)]
noncomputable def lo109 : Nat → Option (Lo rh109)
  | 2 => some ⟨sg109_2, fun x => l109_2 x.1 x.2.1 x.2.2.1 x.2.2.2.1 x.2.2.2.2.1 x.2.2.2.2.2.1 x.2.2.2.2.2.2.1 x.2.2.2.2.2.2.2.1⟩
  | 0 => some ⟨sg109_0, fun x => l109_0 x.1 x.2.1 x.2.2.1 x.2.2.2.1⟩
  | _ => none
noncomputable def ga109 : List (Nat × Su) := [(144, s144)]
noncomputable def E109 : En := ⟨42, tt, gaOf ga109, rh109, lo109, [], fun _ => none⟩
theorem t109_2 (x : SigT sg109_2) : (roundT E109 2 sg109_2 (loopOf 2 (bodyOf Tryz.f109)) x).run = r109_2 x.1 x.2.1 x.2.2.1 x.2.2.2.1 x.2.2.2.2.1 x.2.2.2.2.2.1 x.2.2.2.2.2.2.1 x.2.2.2.2.2.2.2.1 := by kernel_rfl
theorem t109_0 (x : SigT sg109_0) : (roundT E109 0 sg109_0 (loopOf 0 (bodyOf Tryz.f109)) x).run = r109_0 x.1 x.2.1 x.2.2.1 x.2.2.2.1 := by kernel_rfl
theorem t109 (x : PT s109.ps) : (fnT E109 (bodyOf Tryz.f109) Tryz.f109.results.toList s109.ps s109.rs true x).run = g109 x.1.1 := by kernel_rfl
theorem hga109 : GAok Tryz.prog E109 := gaok_of (l := ga109) ⟨ok144, trivial⟩
theorem L109_2 : LoopSem Tryz.prog E109 2 (.loop (loopOf 2 (bodyOf Tryz.f109))) ⟨sg109_2, fun x => l109_2 x.1 x.2.1 x.2.2.1 x.2.2.2.1 x.2.2.2.2.1 x.2.2.2.2.2.1 x.2.2.2.2.2.2.1 x.2.2.2.2.2.2.2.1⟩ :=
  sem_of (hTT hT) hga109 hmix (step := fun (x : SigT sg109_2) => r109_2 x.1 x.2.1 x.2.2.1 x.2.2.2.1 x.2.2.2.2.1 x.2.2.2.2.2.1 x.2.2.2.2.2.2.1 x.2.2.2.2.2.2.2.1) t109_2 (loopsOK_all [] (by kernel_rfl) trivial)
theorem L109_0 : LoopSem Tryz.prog E109 0 (.loop (loopOf 0 (bodyOf Tryz.f109))) ⟨sg109_0, fun x => l109_0 x.1 x.2.1 x.2.2.1 x.2.2.2.1⟩ :=
  sem_of (hTT hT) hga109 hmix (step := fun (x : SigT sg109_0) => r109_0 x.1 x.2.1 x.2.2.1 x.2.2.2.1) t109_0 (loopsOK_all [(2, .loop (loopOf 2 (bodyOf Tryz.f109)))] (by kernel_rfl) ⟨semL rfl L109_2, trivial⟩)
theorem ok109 : SuOK Tryz.prog 109 s109 :=
  fn_ok (E := E109) (hTT hT) hga109 hmix (fn := Tryz.f109) (c := (bodyOf Tryz.f109)) (by kernel_rfl) (by kernel_rfl) (by kernel_rfl) rfl (loopsOK_all [(0, .loop (loopOf 0 (bodyOf Tryz.f109)))] (by kernel_rfl) ⟨semL rfl L109_0, trivial⟩) fun x y h => ⟨y.1, fun _ => rfl, (t109 x).trans h⟩


/- loop.example/g00735/spec.l01Clamp -/
noncomputable def g134 (p0 : Int) (p1 : Int) (p2 : Int) : Option (Unit × ((Int × Unit) × Unit)) :=
  cond (ltI p0 p1) (
    some ((), ((p1, ()), ()))
  ) (
    cond (ltI p2 p0) (
      some ((), ((p2, ()), ()))
    ) (
      some ((), ((p0, ()), ()))
    )
  )
noncomputable def s134 : Su := ⟨[.c false [.int .i64], .c false [.int .i64], .c false [.int .i64]], [(false, [.int .i64])], true, .inl fun x => g134 x.1.1 x.2.1.1 x.2.2.1.1⟩
def rh134 : List SE := []
noncomputable def lo134 : Nat → Option (Lo rh134)
  | _ => none
noncomputable def ga134 : List (Nat × Su) := []
noncomputable def E134 : En := ⟨16, tt, gaOf ga134, rh134, lo134, [], fun _ => none⟩
theorem t134 (x : PT s134.ps) : (fnT E134 (bodyOf Tryz.f134) Tryz.f134.results.toList s134.ps s134.rs true x).run = g134 x.1.1 x.2.1.1 x.2.2.1.1 := by kernel_rfl
theorem hga134 : GAok Tryz.prog E134 := gaok_of (l := ga134) trivial
theorem ok134 : SuOK Tryz.prog 134 s134 :=
  fn_ok (E := E134) (hTT hT) hga134 hmix (fn := Tryz.f134) (c := (bodyOf Tryz.f134)) (by kernel_rfl) (by kernel_rfl) (by kernel_rfl) rfl (loopsOK_all [] (by kernel_rfl) trivial) fun x y h => ⟨y.1, fun _ => rfl, (t134 x).trans h⟩


/- loop.example/g00735/spec.AddMoney -/
noncomputable def g133 (p0 : Int) (p1 : Int) : Option (Unit × ((Int × Unit) × (Bool × Unit) × Unit)) :=
  Option.bind (g85 p0) fun y1 =>
  cond (!y1.2.1.1) (
    some ((), ((0, ()), (false, ()), ()))
  ) (
    Option.bind (g85 p1) fun y2 =>
    cond (cond (!y2.2.1.1) true (ltI (subW .i64 4611686018427387904 p1) p0)) (
      some ((), ((0, ()), (false, ()), ()))
    ) (
      some ((), (((addW .i64 p0 p1), ()), (true, ()), ()))
    )
  )
noncomputable def s133 : Su := ⟨[.c false [.int .i64], .c false [.int .i64]], [(false, [.int .i64]), (false, [.bool])], true, .inl fun x => g133 x.1.1 x.2.1.1⟩
def rh133 : List SE := []
noncomputable def lo133 : Nat → Option (Lo rh133)
  | _ => none
noncomputable def ga133 : List (Nat × Su) := [(85, s85)]
noncomputable def E133 : En := ⟨23, tt, gaOf ga133, rh133, lo133, [], fun _ => none⟩
theorem t133 (x : PT s133.ps) : (fnT E133 (bodyOf Tryz.f133) Tryz.f133.results.toList s133.ps s133.rs true x).run = g133 x.1.1 x.2.1.1 := by kernel_rfl
theorem hga133 : GAok Tryz.prog E133 := gaok_of (l := ga133) ⟨ok85, trivial⟩
theorem ok133 : SuOK Tryz.prog 133 s133 :=
  fn_ok (E := E133) (hTT hT) hga133 hmix (fn := Tryz.f133) (c := (bodyOf Tryz.f133)) (by kernel_rfl) (by kernel_rfl) (by kernel_rfl) rfl (loopsOK_all [] (by kernel_rfl) trivial) fun x y h => ⟨y.1, fun _ => rfl, (t133 x).trans h⟩


/- loop.example/g00735/spec.AddSat -/
noncomputable def g81 (p0 : Int) (p1 : Int) : Option (Unit × ((Int × Unit) × Unit)) :=
  Option.bind (g134 p0 0 4611686018427387904) fun y1 =>
  Option.bind (g134 p1 0 4611686018427387904) fun y2 =>
  Option.bind (g133 y1.2.1.1 y2.2.1.1) fun y3 =>
  cond (!y3.2.2.1.1) (
    some ((), ((4611686018427387904, ()), ()))
  ) (
    some ((), (y3.2.1, ()))
  )
noncomputable def s81 : Su := ⟨[.c false [.int .i64], .c false [.int .i64]], [(false, [.int .i64])], true, .inl fun x => g81 x.1.1 x.2.1.1⟩
def rh81 : List SE := []
noncomputable def lo81 : Nat → Option (Lo rh81)
  | _ => none
noncomputable def ga81 : List (Nat × Su) := [(134, s134), (133, s133)]
noncomputable def E81 : En := ⟨18, tt, gaOf ga81, rh81, lo81, [], fun _ => none⟩
theorem t81 (x : PT s81.ps) : (fnT E81 (bodyOf Tryz.f81) Tryz.f81.results.toList s81.ps s81.rs true x).run = g81 x.1.1 x.2.1.1 := by kernel_rfl
theorem hga81 : GAok Tryz.prog E81 := gaok_of (l := ga81) ⟨ok134, ok133, trivial⟩
theorem ok81 : SuOK Tryz.prog 81 s81 :=
  fn_ok (E := E81) (hTT hT) hga81 hmix (fn := Tryz.f81) (c := (bodyOf Tryz.f81)) (by kernel_rfl) (by kernel_rfl) (by kernel_rfl) rfl (loopsOK_all [] (by kernel_rfl) trivial) fun x y h => ⟨y.1, fun _ => rfl, (t81 x).trans h⟩


/- loop.example/g00735/spec.Stored -/
noncomputable def r110_0 (t3 : Int) (t6 : (List R74)) (t7 : Int) (t8 : Int) : Option (Sum (Int × (List R74) × Int × Int × Unit) (Sum (Int × (List R74) × Int × Int × Unit) Unit)) :=
  cond (ltI t8 t7) (
    cond (inB t8 t6) (
    Option.bind (g81 t3 (gt d74 t6 t8).2.1) fun y1 =>
    some (.inl (y1.2.1.1, t6, t7, (addW .i64 t8 1), ()))
    ) none
  ) (
    some (.inr (.inl (t3, t6, t7, t8, ())))
  )
noncomputable def l110_0 (t3 : Int) (t6 : (List R74)) (t7 : Int) (t8 : Int) : Option (Sum (Int × (List R74) × Int × Int × Unit) Unit) := loopF (fun (x : (Int × (List R74) × Int × Int × Unit)) => r110_0 x.1 x.2.1 x.2.2.1 x.2.2.2.1) (t3, t6, t7, t8, ())
noncomputable def g110 (p0 : (List R74)) : Option (Unit × ((Int × Unit) × Unit)) :=
  Option.bind (l110_0 0 p0 (lenI p0) 0) (Sum.elim (fun y1 =>
    some ((), ((y1.1, ()), ()))
  ) (fun y1 =>
    none
  ))
noncomputable def s110 : Su := ⟨[.c false [.sl 74 kk74]], [(false, [.int .i64])], true, .inl fun x => g110 x.1.1⟩
def sg110_0 : List SE := [.d 3 (.int .i64), .d 6 (.sl 74 kk74), .d 7 (.int .i64), .d 8 (.int .i64)]
def rh110 : List SE := []
noncomputable def lo110 : Nat → Option (Lo rh110)
  | 0 => some ⟨sg110_0, fun x => l110_0 x.1 x.2.1 x.2.2.1 x.2.2.2.1⟩
  | _ => none
noncomputable def ga110 : List (Nat × Su) := [(81, s81)]
noncomputable def E110 : En := ⟨18, tt, gaOf ga110, rh110, lo110, [], fun _ => none⟩
theorem t110_0 (x : SigT sg110_0) : (roundT E110 0 sg110_0 (loopOf 0 (bodyOf Tryz.f110)) x).run = r110_0 x.1 x.2.1 x.2.2.1 x.2.2.2.1 := by kernel_rfl
theorem t110 (x : PT s110.ps) : (fnT E110 (bodyOf Tryz.f110) Tryz.f110.results.toList s110.ps s110.rs true x).run = g110 x.1.1 := by kernel_rfl
theorem hga110 : GAok Tryz.prog E110 := gaok_of (l := ga110) ⟨ok81, trivial⟩
theorem L110_0 : LoopSem Tryz.prog E110 0 (.loop (loopOf 0 (bodyOf Tryz.f110))) ⟨sg110_0, fun x => l110_0 x.1 x.2.1 x.2.2.1 x.2.2.2.1⟩ :=
  sem_of (hTT hT) hga110 hmix (step := fun (x : SigT sg110_0) => r110_0 x.1 x.2.1 x.2.2.1 x.2.2.2.1) t110_0 (loopsOK_all [] (by kernel_rfl) trivial)
theorem ok110 : SuOK Tryz.prog 110 s110 :=
  fn_ok (E := E110) (hTT hT) hga110 hmix (fn := Tryz.f110) (c := (bodyOf Tryz.f110)) (by kernel_rfl) (by kernel_rfl) (by kernel_rfl) rfl (loopsOK_all [(0, .loop (loopOf 0 (bodyOf Tryz.f110)))] (by kernel_rfl) ⟨semL rfl L110_0, trivial⟩) fun x y h => ⟨y.1, fun _ => rfl, (t110 x).trans h⟩


/- loop.example/g00735/spec.AcctOk -/
noncomputable def g51 (p0 : ((List UInt8) × Int × Int × Int × Int × (List R74) × Int × Int × (List R3) × (List R3) × (List R118) × Unit)) : Option (Unit × ((Bool × Unit) × Unit)) :=
  Option.bind (g107 p0.1) fun y1 =>
  cond (!y1.2.1.1) (
    some ((), ((false, ()), ()))
  ) (
    Option.bind (g31 p0.2.1 0 9007199254740992) fun y2 =>
    cond (!y2.2.1.1) (
      some ((), ((false, ()), ()))
    ) (
      Option.bind (g31 p0.2.2.2.1 0 1000) fun y3 =>
      cond (!y3.2.1.1) (
        some ((), ((false, ()), ()))
      ) (
        Option.bind (g31 p0.2.2.2.2.1 0 9007199254740992) fun y4 =>
        cond (!y4.2.1.1) (
          some ((), ((false, ()), ()))
        ) (
          Option.bind (g85 p0.2.2.1) fun y5 =>
          cond (!y5.2.1.1) (
            some ((), ((false, ()), ()))
          ) (
            Option.bind (g108 p0.2.2.2.2.2.1) fun y6 =>
            cond y6.2.1.1 (
              Option.bind (g84 (p0.2.2.2.2.2.2.1, p0.2.2.2.2.2.2.2.1, p0.2.2.2.2.2.2.2.2.1, p0.2.2.2.2.2.2.2.2.2.1, ())) fun y7 =>
              cond y7.2.1.1 (
                Option.bind (g109 p0.2.2.2.2.2.2.2.2.2.2.1) fun y8 =>
                cond y8.2.1.1 (
                  Option.bind (g110 p0.2.2.2.2.2.1) fun y9 =>
                  Option.bind (g81 p0.2.2.1 y9.2.1.1) fun y10 =>
                  some ((), (((leI y10.2.1.1 p0.2.1), ()), ()))
                ) (
                  some ((), ((false, ()), ()))
                )
              ) (
                some ((), ((false, ()), ()))
              )
            ) (
              some ((), ((false, ()), ()))
            )
          )
        )
      )
    )
  )
noncomputable def s51 : Su := ⟨[.c true [.str, .int .i64, .int .i64, .int .i64, .int .i64, .sl 74 kk74, .int .i64, .int .i64, .sl 3 kk3, .sl 3 kk3, .sl 118 kk118]], [(false, [.bool])], true, .inl fun x => g51 x.1⟩
def rh51 : List SE := []
noncomputable def lo51 : Nat → Option (Lo rh51)
  | _ => none
noncomputable def ga51 : List (Nat × Su) := [(107, s107), (31, s31), (85, s85), (108, s108), (84, s84), (109, s109), (81, s81), (110, s110)]
noncomputable def E51 : En := ⟨55, tt, gaOf ga51, rh51, lo51, [], fun _ => none⟩
theorem t51 (x : PT s51.ps) : (fnT E51 (bodyOf Tryz.f51) Tryz.f51.results.toList s51.ps s51.rs true x).run = g51 x.1 := by kernel_rfl
theorem hga51 : GAok Tryz.prog E51 := gaok_of (l := ga51) ⟨ok107, ok31, ok85, ok108, ok84, ok109, ok81, ok110, trivial⟩
theorem ok51 : SuOK Tryz.prog 51 s51 :=
  fn_ok (E := E51) (hTT hT) hga51 hmix (fn := Tryz.f51) (c := (bodyOf Tryz.f51)) (by kernel_rfl) (by kernel_rfl) (by kernel_rfl) rfl (loopsOK_all [] (by kernel_rfl) trivial) fun x y h => ⟨y.1, fun _ => rfl, (t51 x).trans h⟩


/- loop.example/g00735/spec.BookOk -/
noncomputable def r122_0 (t6 : (List R34)) (t7 : Int) (t8 : Int) (b1 : ((List R34) × Unit)) : Option (Sum ((List R34) × Int × Int × ((List R34) × Unit) × Unit) (Sum ((List R34) × Int × Int × ((List R34) × Unit) × Unit) (Bool × Unit))) :=
  cond (ltI t8 t7) (
    cond (inB t8 t6) (
    let u1 := (gt d34 t6 t8)
    Option.bind (g51 u1) fun y1 =>
    cond (!y1.2.1.1) (
      some (.inr (.inr (false, ())))
    ) (
      cond (ltI 0 t8) (
        let u2 := (subW .i64 t8 1)
        cond (inB u2 b1.1) (
        cond (!(ltS (gt d34 b1.1 u2).1 u1.1)) (
          some (.inr (.inr (false, ())))
        ) (
          some (.inl (t6, t7, (addW .i64 t8 1), b1, ()))
        )
        ) none
      ) (
        some (.inl (t6, t7, (addW .i64 t8 1), b1, ()))
      )
    )
    ) none
  ) (
    some (.inr (.inl (t6, t7, t8, b1, ())))
  )
noncomputable def l122_0 (t6 : (List R34)) (t7 : Int) (t8 : Int) (b1 : ((List R34) × Unit)) : Option (Sum ((List R34) × Int × Int × ((List R34) × Unit) × Unit) (Bool × Unit)) := loopF (fun (x : ((List R34) × Int × Int × ((List R34) × Unit) × Unit)) => r122_0 x.1 x.2.1 x.2.2.1 x.2.2.2.1) (t6, t7, t8, b1, ())
noncomputable def g122 (p0 : ((List R34) × Unit)) : Option (Unit × ((Bool × Unit) × Unit)) :=
  Option.bind (l122_0 p0.1 (lenI p0.1) 0 p0) (Sum.elim (fun y1 =>
    some ((), (((leI (lenI y1.2.2.2.1.1) 6), ()), ()))
  ) (fun y1 =>
    some ((), (y1, ()))
  ))
noncomputable def s122 : Su := ⟨[.c true [.sl 34 kk34]], [(false, [.bool])], true, .inl fun x => g122 x.1⟩
def sg122_0 : List SE := [.d 6 (.sl 34 kk34), .d 7 (.int .i64), .d 8 (.int .i64), .box 1 [(false, .sl 34 kk34)]]
def rh122 : List SE := [.d 2 (.bool)]
noncomputable def lo122 : Nat → Option (Lo rh122)
  | 0 => some ⟨sg122_0, fun x => l122_0 x.1 x.2.1 x.2.2.1 x.2.2.2.1⟩
  | _ => none
noncomputable def ga122 : List (Nat × Su) := [(51, s51)]
noncomputable def E122 : En := ⟨37, tt, gaOf ga122, rh122, lo122, [], fun _ => none⟩
theorem t122_0 (x : SigT sg122_0) : (roundT E122 0 sg122_0 (loopOf 0 (bodyOf Tryz.f122)) x).run = r122_0 x.1 x.2.1 x.2.2.1 x.2.2.2.1 := by kernel_rfl
theorem t122 (x : PT s122.ps) : (fnT E122 (bodyOf Tryz.f122) Tryz.f122.results.toList s122.ps s122.rs true x).run = g122 x.1 := by kernel_rfl
theorem hga122 : GAok Tryz.prog E122 := gaok_of (l := ga122) ⟨ok51, trivial⟩
theorem L122_0 : LoopSem Tryz.prog E122 0 (.loop (loopOf 0 (bodyOf Tryz.f122))) ⟨sg122_0, fun x => l122_0 x.1 x.2.1 x.2.2.1 x.2.2.2.1⟩ :=
  sem_of (hTT hT) hga122 hmix (step := fun (x : SigT sg122_0) => r122_0 x.1 x.2.1 x.2.2.1 x.2.2.2.1) t122_0 (loopsOK_all [] (by kernel_rfl) trivial)
theorem ok122 : SuOK Tryz.prog 122 s122 :=
  fn_ok (E := E122) (hTT hT) hga122 hmix (fn := Tryz.f122) (c := (bodyOf Tryz.f122)) (by kernel_rfl) (by kernel_rfl) (by kernel_rfl) rfl (loopsOK_all [(0, .loop (loopOf 0 (bodyOf Tryz.f122)))] (by kernel_rfl) ⟨semL rfl L122_0, trivial⟩) fun x y h => ⟨y.1, fun _ => rfl, (t122 x).trans h⟩


/- loop.example/g00735/spec.Fnv -/
noncomputable def r152_0 (t0 : (List UInt8)) (t3 : Int) (t4 : Int) : Option (Sum ((List UInt8) × Int × Int × Unit) (Sum ((List UInt8) × Int × Int × Unit) Unit)) :=
  cond (ltI t4 (lenI t0)) (
    cond (inB t4 t0) (
    some (.inl (t0, (andW .i64 (mulW .i64 (xorW .i64 t3 (cvtW .i64 (bytI t0 t4))) 16777619) 4294967295), (addW .i64 t4 1), ()))
    ) none
  ) (
    some (.inr (.inl (t0, t3, t4, ())))
  )
noncomputable def l152_0 (t0 : (List UInt8)) (t3 : Int) (t4 : Int) : Option (Sum ((List UInt8) × Int × Int × Unit) Unit) := loopF (fun (x : ((List UInt8) × Int × Int × Unit)) => r152_0 x.1 x.2.1 x.2.2.1) (t0, t3, t4, ())
noncomputable def g152 (p0 : (List UInt8)) : Option (Unit × ((Int × Unit) × Unit)) :=
  Option.bind (l152_0 p0 2166136261 0) (Sum.elim (fun y1 =>
    some ((), ((y1.2.1, ()), ()))
  ) (fun y1 =>
    none
  ))
noncomputable def s152 : Su := ⟨[.c false [.str]], [(false, [.int .i64])], true, .inl fun x => g152 x.1.1⟩
def sg152_0 : List SE := [.d 0 (.str), .d 3 (.int .i64), .d 4 (.int .i64)]
def rh152 : List SE := []
noncomputable def lo152 : Nat → Option (Lo rh152)
  | 0 => some ⟨sg152_0, fun x => l152_0 x.1 x.2.1 x.2.2.1⟩
  | _ => none
noncomputable def ga152 : List (Nat × Su) := []
noncomputable def E152 : En := ⟨20, tt, gaOf ga152, rh152, lo152, [], fun _ => none⟩
theorem t152_0 (x : SigT sg152_0) : (roundT E152 0 sg152_0 (loopOf 0 (bodyOf Tryz.f152)) x).run = r152_0 x.1 x.2.1 x.2.2.1 := by kernel_rfl
theorem t152 (x : PT s152.ps) : (fnT E152 (bodyOf Tryz.f152) Tryz.f152.results.toList s152.ps s152.rs true x).run = g152 x.1.1 := by kernel_rfl
theorem hga152 : GAok Tryz.prog E152 := gaok_of (l := ga152) trivial
theorem L152_0 : LoopSem Tryz.prog E152 0 (.loop (loopOf 0 (bodyOf Tryz.f152))) ⟨sg152_0, fun x => l152_0 x.1 x.2.1 x.2.2.1⟩ :=
  sem_of (hTT hT) hga152 hmix (step := fun (x : SigT sg152_0) => r152_0 x.1 x.2.1 x.2.2.1) t152_0 (loopsOK_all [] (by kernel_rfl) trivial)
theorem ok152 : SuOK Tryz.prog 152 s152 :=
  fn_ok (E := E152) (hTT hT) hga152 hmix (fn := Tryz.f152) (c := (bodyOf Tryz.f152)) (by kernel_rfl) (by kernel_rfl) (by kernel_rfl) rfl (loopsOK_all [(0, .loop (loopOf 0 (bodyOf Tryz.f152)))] (by kernel_rfl) ⟨semL rfl L152_0, trivial⟩) fun x y h => ⟨y.1, fun _ => rfl, (t152 x).trans h⟩


/- loop.example/g00735/spec.StripeNo -/
noncomputable def g123 (p0 : (List UInt8)) (p1 : Int) : Option (Unit × ((Int × Unit) × Unit)) :=
  cond (ltI p1 1) (
    some ((), ((0, ()), ()))
  ) (
    Option.bind (g152 p0) fun y1 =>
    cond (!(eqI p1 0)) (
    some ((), (((remI y1.2.1.1 p1), ()), ()))
    ) none
  )
noncomputable def s123 : Su := ⟨[.c false [.str], .c false [.int .i64]], [(false, [.int .i64])], true, .inl fun x => g123 x.1.1 x.2.1.1⟩
def rh123 : List SE := []
noncomputable def lo123 : Nat → Option (Lo rh123)
  | _ => none
noncomputable def ga123 : List (Nat × Su) := [(152, s152)]
noncomputable def E123 : En := ⟨11, tt, gaOf ga123, rh123, lo123, [], fun _ => none⟩
theorem t123 (x : PT s123.ps) : (fnT E123 (bodyOf Tryz.f123) Tryz.f123.results.toList s123.ps s123.rs true x).run = g123 x.1.1 x.2.1.1 := by kernel_rfl
theorem hga123 : GAok Tryz.prog E123 := gaok_of (l := ga123) ⟨ok152, trivial⟩
theorem ok123 : SuOK Tryz.prog 123 s123 :=
  fn_ok (E := E123) (hTT hT) hga123 hmix (fn := Tryz.f123) (c := (bodyOf Tryz.f123)) (by kernel_rfl) (by kernel_rfl) (by kernel_rfl) rfl (loopsOK_all [] (by kernel_rfl) trivial) fun x y h => ⟨y.1, fun _ => rfl, (t123 x).trans h⟩


/- loop.example/g00735/spec.l06Copy -/
noncomputable def g86 (p0 : (Int × Int × (List R3) × (List R3) × Unit)) : Option (Unit × ((Int × Int × (List R3) × (List R3) × Unit) × Unit)) :=
  cond (fitB 8 [] p0.2.2.1) (
  cond (fitB 8 [] p0.2.2.2.1) (
  some ((), ((p0.1, p0.2.1, (apL [] p0.2.2.1), (apL [] p0.2.2.2.1), ()), ()))
  ) none
  ) none
noncomputable def s86 : Su := ⟨[.c true [.int .i64, .int .i64, .sl 3 kk3, .sl 3 kk3]], [(true, [.int .i64, .int .i64, .sl 3 kk3, .sl 3 kk3])], true, .inl fun x => g86 x.1⟩
def rh86 : List SE := []
noncomputable def lo86 : Nat → Option (Lo rh86)
  | _ => none
noncomputable def ga86 : List (Nat × Su) := []
noncomputable def E86 : En := ⟨14, tt, gaOf ga86, rh86, lo86, [], fun _ => none⟩
theorem t86 (x : PT s86.ps) : (fnT E86 (bodyOf Tryz.f86) Tryz.f86.results.toList s86.ps s86.rs true x).run = g86 x.1 := by kernel_rfl
theorem hga86 : GAok Tryz.prog E86 := gaok_of (l := ga86) trivial
theorem ok86 : SuOK Tryz.prog 86 s86 :=
  fn_ok (E := E86) (hTT hT) hga86 hmix (fn := Tryz.f86) (c := (bodyOf Tryz.f86)) (by kernel_rfl) (by kernel_rfl) (by kernel_rfl) rfl (loopsOK_all [] (by kernel_rfl) trivial) fun x y h => ⟨y.1, fun _ => rfl, (t86 x).trans h⟩


/- loop.example/g00735/spec.l08Copy -/
noncomputable def r131_0 (t3 : (List R118)) (t7 : (List R118)) (t8 : Int) (t9 : Int) : Option (Sum ((List R118) × (List R118) × Int × Int × Unit) (Sum ((List R118) × (List R118) × Int × Int × Unit) Unit)) :=
  cond (ltI t9 t8) (
    cond (inB t9 t7) (
    let u1 := (gt d118 t7 t9)
    cond (fitB 1 [] u1.2.2.1) (
    cond (fitB 56 t3 [(u1.1, u1.2.1, (apL [] u1.2.2.1), ())]) (
    some (.inl ((apL t3 [(u1.1, u1.2.1, (apL [] u1.2.2.1), ())]), t7, t8, (addW .i64 t9 1), ()))
    ) none
    ) none
    ) none
  ) (
    some (.inr (.inl (t3, t7, t8, t9, ())))
  )
noncomputable def l131_0 (t3 : (List R118)) (t7 : (List R118)) (t8 : Int) (t9 : Int) : Option (Sum ((List R118) × (List R118) × Int × Int × Unit) Unit) := loopF (fun (x : ((List R118) × (List R118) × Int × Int × Unit)) => r131_0 x.1 x.2.1 x.2.2.1 x.2.2.2.1) (t3, t7, t8, t9, ())
noncomputable def g131 (p0 : (List R118)) : Option (Unit × (((List R118) × Unit) × Unit)) :=
  Option.bind (l131_0 [] p0 (lenI p0) 0) (Sum.elim (fun y1 =>
    some ((), ((y1.1, ()), ()))
  ) (fun y1 =>
    none
  ))
noncomputable def s131 : Su := ⟨[.c false [.sl 118 kk118]], [(false, [.sl 118 kk118])], true, .inl fun x => g131 x.1.1⟩
def sg131_0 : List SE := [.own 3 (.sl 118 kk118), .d 7 (.sl 118 kk118), .d 8 (.int .i64), .d 9 (.int .i64)]
def rh131 : List SE := []
noncomputable def lo131 : Nat → Option (Lo rh131)
  | 0 => some ⟨sg131_0, fun x => l131_0 x.1 x.2.1 x.2.2.1 x.2.2.2.1⟩
  | _ => none
noncomputable def ga131 : List (Nat × Su) := []
noncomputable def E131 : En := ⟨24, tt, gaOf ga131, rh131, lo131, [], fun _ => none⟩
theorem t131_0 (x : SigT sg131_0) : (roundT E131 0 sg131_0 (loopOf 0 (bodyOf Tryz.f131)) x).run = r131_0 x.1 x.2.1 x.2.2.1 x.2.2.2.1 := by kernel_rfl
theorem t131 (x : PT s131.ps) : (fnT E131 (bodyOf Tryz.f131) Tryz.f131.results.toList s131.ps s131.rs true x).run = g131 x.1.1 := by kernel_rfl
theorem hga131 : GAok Tryz.prog E131 := gaok_of (l := ga131) trivial
theorem L131_0 : LoopSem Tryz.prog E131 0 (.loop (loopOf 0 (bodyOf Tryz.f131))) ⟨sg131_0, fun x => l131_0 x.1 x.2.1 x.2.2.1 x.2.2.2.1⟩ :=
  sem_of (hTT hT) hga131 hmix (step := fun (x : SigT sg131_0) => r131_0 x.1 x.2.1 x.2.2.1 x.2.2.2.1) t131_0 (loopsOK_all [] (by kernel_rfl) trivial)
theorem ok131 : SuOK Tryz.prog 131 s131 :=
  fn_ok (E := E131) (hTT hT) hga131 hmix (fn := Tryz.f131) (c := (bodyOf Tryz.f131)) (by kernel_rfl) (by kernel_rfl) (by kernel_rfl) rfl (loopsOK_all [(0, .loop (loopOf 0 (bodyOf Tryz.f131)))] (by kernel_rfl) ⟨semL rfl L131_0, trivial⟩) fun x y h => ⟨y.1, fun _ => rfl, (t131 x).trans h⟩


/- loop.example/g00735/spec.l09Copy -/
noncomputable def g79 (p0 : ((List UInt8) × Int × Int × Int × Int × (List R74) × Int × Int × (List R3) × (List R3) × (List R118) × Unit)) : Option (Unit × (((List UInt8) × Int × Int × Int × Int × (List R74) × Int × Int × (List R3) × (List R3) × (List R118) × Unit) × Unit)) :=
  cond (fitB 32 [] p0.2.2.2.2.2.1) (
  Option.bind (g86 (p0.2.2.2.2.2.2.1, p0.2.2.2.2.2.2.2.1, p0.2.2.2.2.2.2.2.2.1, p0.2.2.2.2.2.2.2.2.2.1, ())) fun y1 =>
  Option.bind (g131 p0.2.2.2.2.2.2.2.2.2.2.1) fun y2 =>
  some ((), ((p0.1, p0.2.1, p0.2.2.1, p0.2.2.2.1, p0.2.2.2.2.1, (apL [] p0.2.2.2.2.2.1), y1.2.1.1, y1.2.1.2.1, y1.2.1.2.2.1, y1.2.1.2.2.2.1, y2.2.1.1, ()), ()))
  ) none
noncomputable def s79 : Su := ⟨[.c true [.str, .int .i64, .int .i64, .int .i64, .int .i64, .sl 74 kk74, .int .i64, .int .i64, .sl 3 kk3, .sl 3 kk3, .sl 118 kk118]], [(true, [.str, .int .i64, .int .i64, .int .i64, .int .i64, .sl 74 kk74, .int .i64, .int .i64, .sl 3 kk3, .sl 3 kk3, .sl 118 kk118])], true, .inl fun x => g79 x.1⟩
def rh79 : List SE := []
noncomputable def lo79 : Nat → Option (Lo rh79)
  | _ => none
noncomputable def ga79 : List (Nat × Su) := [(86, s86), (131, s131)]
noncomputable def E79 : En := ⟨17, tt, gaOf ga79, rh79, lo79, [], fun _ => none⟩
theorem t79 (x : PT s79.ps) : (fnT E79 (bodyOf Tryz.f79) Tryz.f79.results.toList s79.ps s79.rs true x).run = g79 x.1 := by kernel_rfl
theorem hga79 : GAok Tryz.prog E79 := gaok_of (l := ga79) ⟨ok86, ok131, trivial⟩
theorem ok79 : SuOK Tryz.prog 79 s79 :=
  fn_ok (E := E79) (hTT hT) hga79 hmix (fn := Tryz.f79) (c := (bodyOf Tryz.f79)) (by kernel_rfl) (by kernel_rfl) (by kernel_rfl) rfl (loopsOK_all [] (by kernel_rfl) trivial) fun x y h => ⟨y.1, fun _ => rfl, (t79 x).trans h⟩


/- loop.example/g00735/spec.Spread -/
noncomputable def r62_2 (t1 : Int) (t5 : (List R136)) (t6 : Int) (t27 : (List R34)) (t28 : Int) (t29 : Int) (b2 : ((List R34) × Unit)) (b7 : (Int × (List R34) × Unit)) : Option (Sum (Int × (List R136) × Int × (List R34) × Int × Int × ((List R34) × Unit) × (Int × (List R34) × Unit) × Unit) (Sum (Int × (List R136) × Int × (List R34) × Int × Int × ((List R34) × Unit) × (Int × (List R34) × Unit) × Unit) Unit)) :=
  cond (ltI t29 t28) (
    cond (inB t29 t27) (
    let u1 := (gt d34 t27 t29)
    Option.bind (g123 u1.1 t1) fun y1 =>
    cond (eqI y1.2.1.1 t6) (
      Option.bind (g79 u1) fun y2 =>
      cond (fitB 160 b7.2.1 [y2.2.1]) (
      let u2 := (addW .i64 t29 1)
      some (.inl (t1, t5, t6, t27, t28, u2, b2, (b7.1, (apL b7.2.1 [y2.2.1]), ()), ()))
      ) none
    ) (
      let u2 := (addW .i64 t29 1)
      some (.inl (t1, t5, t6, t27, t28, u2, b2, b7, ()))
    )
    ) none
  ) (
    some (.inr (.inl (t1, t5, t6, t27, t28, t29, b2, b7, ())))
  )
noncomputable def l62_2 (t1 : Int) (t5 : (List R136)) (t6 : Int) (t27 : (List R34)) (t28 : Int) (t29 : Int) (b2 : ((List R34) × Unit)) (b7 : (Int × (List R34) × Unit)) : Option (Sum (Int × (List R136) × Int × (List R34) × Int × Int × ((List R34) × Unit) × (Int × (List R34) × Unit) × Unit) Unit) := loopF (fun (x : (Int × (List R136) × Int × (List R34) × Int × Int × ((List R34) × Unit) × (Int × (List R34) × Unit) × Unit)) => r62_2 x.1 x.2.1 x.2.2.1 x.2.2.2.1 x.2.2.2.2.1 x.2.2.2.2.2.1 x.2.2.2.2.2.2.1 x.2.2.2.2.2.2.2.1) (t1, t5, t6, t27, t28, t29, b2, b7, ())
noncomputable def r62_0 (t1 : Int) (t5 : (List R136)) (t6 : Int) (b2 : ((List R34) × Unit)) : Option (Sum (Int × (List R136) × Int × ((List R34) × Unit) × Unit) (Sum (Int × (List R136) × Int × ((List R34) × Unit) × Unit) Unit)) :=
  cond (ltI t6 t1) (
    Option.bind (l62_2 t1 t5 t6 b2.1 (lenI b2.1) 0 b2 ((-1), [], ())) (Sum.elim (fun y1 =>
      cond (fitB 32 y1.2.1 [y1.2.2.2.2.2.2.2.1]) (
      some (.inl (y1.1, (apL y1.2.1 [y1.2.2.2.2.2.2.2.1]), (addW .i64 y1.2.2.1 1), y1.2.2.2.2.2.2.1, ()))
      ) none
    ) (fun y1 =>
      some (.inr (.inr ()))
    ))
  ) (
    some (.inr (.inl (t1, t5, t6, b2, ())))
  )
noncomputable def l62_0 (t1 : Int) (t5 : (List R136)) (t6 : Int) (b2 : ((List R34) × Unit)) : Option (Sum (Int × (List R136) × Int × ((List R34) × Unit) × Unit) Unit) := loopF (fun (x : (Int × (List R136) × Int × ((List R34) × Unit) × Unit)) => r62_0 x.1 x.2.1 x.2.2.1 x.2.2.2.1) (t1, t5, t6, b2, ())
noncomputable def g62 (p0 : ((List R34) × Unit)) (p1 : Int) : Option (Unit × (((List R136) × Unit) × Unit)) :=
  Option.bind (g122 p0) fun y1 =>
  cond (!y1.2.1.1) (
    some ((), (([], ()), ()))
  ) (
    Option.bind (g31 p1 1 5) fun y2 =>
    cond (!y2.2.1.1) (
      some ((), (([], ()), ()))
    ) (
      Option.bind (l62_0 p1 [] 0 p0) (Sum.elim (fun y3 =>
        some ((), ((y3.2.1, ()), ()))
      ) (fun y3 =>
        none
      ))
    )
  )
noncomputable def s62 : Su := ⟨[.c true [.sl 34 kk34], .c false [.int .i64]], [(false, [.sl 136 kk136])], true, .inl fun x => g62 x.1 x.2.1.1⟩
def sg62_2 : List SE := [.d 1 (.int .i64), .own 5 (.sl 136 kk136), .d 6 (.int .i64), .d 27 (.sl 34 kk34), .d 28 (.int .i64), .d 29 (.int .i64), .box 2 [(false, .sl 34 kk34)], .box 7 [(false, .int .i64), (true, .sl 34 kk34)]]
def sg62_0 : List SE := [.d 1 (.int .i64), .own 5 (.sl 136 kk136), .d 6 (.int .i64), .box 2 [(false, .sl 34 kk34)]]
def rh62 : List SE := []
noncomputable def lo62 : Nat → Option (Lo rh62)
  | 2 => some ⟨sg62_2, fun x => l62_2 x.1 x.2.1 x.2.2.1 x.2.2.2.1 x.2.2.2.2.1 x.2.2.2.2.2.1 x.2.2.2.2.2.2.1 x.2.2.2.2.2.2.2.1⟩
  | 0 => some ⟨sg62_0, fun x => l62_0 x.1 x.2.1 x.2.2.1 x.2.2.2.1⟩
  | _ => none
noncomputable def ga62 : List (Nat × Su) := [(31, s31), (122, s122), (123, s123), (79, s79)]
noncomputable def E62 : En := ⟨52, tt, gaOf ga62, rh62, lo62, [], fun _ => none⟩
theorem t62_2 (x : SigT sg62_2) : (roundT E62 2 sg62_2 (loopOf 2 (bodyOf Tryz.f62)) x).run = r62_2 x.1 x.2.1 x.2.2.1 x.2.2.2.1 x.2.2.2.2.1 x.2.2.2.2.2.1 x.2.2.2.2.2.2.1 x.2.2.2.2.2.2.2.1 := by kernel_rfl
theorem t62_0 (x : SigT sg62_0) : (roundT E62 0 sg62_0 (loopOf 0 (bodyOf Tryz.f62)) x).run = r62_0 x.1 x.2.1 x.2.2.1 x.2.2.2.1 := by kernel_rfl
theorem t62 (x : PT s62.ps) : (fnT E62 (bodyOf Tryz.f62) Tryz.f62.results.toList s62.ps s62.rs true x).run = g62 x.1 x.2.1.1 := by kernel_rfl
theorem hga62 : GAok Tryz.prog E62 := gaok_of (l := ga62) ⟨ok31, ok122, ok123, ok79, trivial⟩
theorem L62_2 : LoopSem Tryz.prog E62 2 (.loop (loopOf 2 (bodyOf Tryz.f62))) ⟨sg62_2, fun x => l62_2 x.1 x.2.1 x.2.2.1 x.2.2.2.1 x.2.2.2.2.1 x.2.2.2.2.2.1 x.2.2.2.2.2.2.1 x.2.2.2.2.2.2.2.1⟩ :=
  sem_of (hTT hT) hga62 hmix (step := fun (x : SigT sg62_2) => r62_2 x.1 x.2.1 x.2.2.1 x.2.2.2.1 x.2.2.2.2.1 x.2.2.2.2.2.1 x.2.2.2.2.2.2.1 x.2.2.2.2.2.2.2.1) t62_2 (loopsOK_all [] (by kernel_rfl) trivial)
theorem L62_0 : LoopSem Tryz.prog E62 0 (.loop (loopOf 0 (bodyOf Tryz.f62))) ⟨sg62_0, fun x => l62_0 x.1 x.2.1 x.2.2.1 x.2.2.2.1⟩ :=
  sem_of (hTT hT) hga62 hmix (step := fun (x : SigT sg62_0) => r62_0 x.1 x.2.1 x.2.2.1 x.2.2.2.1) t62_0 (loopsOK_all [(2, .loop (loopOf 2 (bodyOf Tryz.f62)))] (by kernel_rfl) ⟨semL rfl L62_2, trivial⟩)
theorem ok62 : SuOK Tryz.prog 62 s62 :=
  fn_ok (E := E62) (hTT hT) hga62 hmix (fn := Tryz.f62) (c := (bodyOf Tryz.f62)) (by kernel_rfl) (by kernel_rfl) (by kernel_rfl) rfl (loopsOK_all [(0, .loop (loopOf 0 (bodyOf Tryz.f62)))] (by kernel_rfl) ⟨semL rfl L62_0, trivial⟩) fun x y h => ⟨y.1, fun _ => rfl, (t62 x).trans h⟩


/- loop.example/g00735/spec.WorldNew -/
noncomputable def g17 (p0 : ((List R34) × Unit)) (p1 : Int) : Option (Unit × (((List R136) × Int × Int × (List R142) × Unit) × (Bool × Unit) × Unit)) :=
  Option.bind (g62 p0 p1) fun y1 =>
  cond (eqI (lenI y1.2.1.1) 0) (
    some ((), (([], 0, 0, [], ()), (false, ()), ()))
  ) (
    some ((), ((y1.2.1.1, 0, 0, [], ()), (true, ()), ()))
  )
noncomputable def s17 : Su := ⟨[.c true [.sl 34 kk34], .c false [.int .i64]], [(true, [.sl 136 kk136, .int .i64, .int .i64, .sl 142 kk142]), (false, [.bool])], true, .inl fun x => g17 x.1 x.2.1.1⟩
def rh17 : List SE := []
noncomputable def lo17 : Nat → Option (Lo rh17)
  | _ => none
noncomputable def ga17 : List (Nat × Su) := [(62, s62)]
noncomputable def E17 : En := ⟨16, tt, gaOf ga17, rh17, lo17, [], fun _ => none⟩
theorem t17 (x : PT s17.ps) : (fnT E17 (bodyOf Tryz.f17) Tryz.f17.results.toList s17.ps s17.rs true x).run = g17 x.1 x.2.1.1 := by kernel_rfl
theorem hga17 : GAok Tryz.prog E17 := gaok_of (l := ga17) ⟨ok62, trivial⟩
theorem ok17 : SuOK Tryz.prog 17 s17 :=
  fn_ok (E := E17) (hTT hT) hga17 hmix (fn := Tryz.f17) (c := (bodyOf Tryz.f17)) (by kernel_rfl) (by kernel_rfl) (by kernel_rfl) rfl (loopsOK_all [] (by kernel_rfl) trivial) fun x y h => ⟨y.1, fun _ => rfl, (t17 x).trans h⟩


/- loop.example/g00735/impl.Digits -/
noncomputable def r165_0 (t0 : (List UInt8)) (t5 : Int) (t6 : Int) : Option (Sum ((List UInt8) × Int × Int × Unit) (Sum ((List UInt8) × Int × Int × Unit) (Bool × Unit))) :=
  cond (ltI t6 t5) (
    cond (inB t6 t0) (
    let u1 := (bytI t0 t6)
    cond (ltI u1 48) (
      some (.inr (.inr (false, ())))
    ) (
      cond (inB t6 t0) (
      cond (ltI 57 u1) (
        some (.inr (.inr (false, ())))
      ) (
        some (.inl (t0, t5, (addW .i64 t6 1), ()))
      )
      ) none
    )
    ) none
  ) (
    some (.inr (.inl (t0, t5, t6, ())))
  )
noncomputable def l165_0 (t0 : (List UInt8)) (t5 : Int) (t6 : Int) : Option (Sum ((List UInt8) × Int × Int × Unit) (Bool × Unit)) := loopF (fun (x : ((List UInt8) × Int × Int × Unit)) => r165_0 x.1 x.2.1 x.2.2.1) (t0, t5, t6, ())
noncomputable def g165 (p0 : (List UInt8)) : Option (Unit × ((Bool × Unit) × Unit)) :=
  Option.bind (l165_0 p0 (lenI p0) 0) (Sum.elim (fun y1 =>
    some ((), (((!(eqS y1.1 [])), ()), ()))
  ) (fun y1 =>
    some ((), (y1, ()))
  ))
noncomputable def s165 : Su := ⟨[.c false [.str]], [(false, [.bool])], true, .inl fun x => g165 x.1.1⟩
def sg165_0 : List SE := [.d 0 (.str), .d 5 (.int .i64), .d 6 (.int .i64)]
def rh165 : List SE := [.d 2 (.bool)]
noncomputable def lo165 : Nat → Option (Lo rh165)
  | 0 => some ⟨sg165_0, fun x => l165_0 x.1 x.2.1 x.2.2.1⟩
  | _ => none
noncomputable def ga165 : List (Nat × Su) := []
noncomputable def E165 : En := ⟨22, tt, gaOf ga165, rh165, lo165, [], fun _ => none⟩
theorem t165_0 (x : SigT sg165_0) : (roundT E165 0 sg165_0 (loopOf 0 (bodyOf Tryz.f165)) x).run = r165_0 x.1 x.2.1 x.2.2.1 := by kernel_rfl
theorem t165 (x : PT s165.ps) : (fnT E165 (bodyOf Tryz.f165) Tryz.f165.results.toList s165.ps s165.rs true x).run = g165 x.1.1 := by kernel_rfl
theorem hga165 : GAok Tryz.prog E165 := gaok_of (l := ga165) trivial
theorem L165_0 : LoopSem Tryz.prog E165 0 (.loop (loopOf 0 (bodyOf Tryz.f165))) ⟨sg165_0, fun x => l165_0 x.1 x.2.1 x.2.2.1⟩ :=
  sem_of (hTT hT) hga165 hmix (step := fun (x : SigT sg165_0) => r165_0 x.1 x.2.1 x.2.2.1) t165_0 (loopsOK_all [] (by kernel_rfl) trivial)
theorem ok165 : SuOK Tryz.prog 165 s165 :=
  fn_ok (E := E165) (hTT hT) hga165 hmix (fn := Tryz.f165) (c := (bodyOf Tryz.f165)) (by kernel_rfl) (by kernel_rfl) (by kernel_rfl) rfl (loopsOK_all [(0, .loop (loopOf 0 (bodyOf Tryz.f165)))] (by kernel_rfl) ⟨semL rfl L165_0, trivial⟩) fun x y h => ⟨y.1, fun _ => rfl, (t165 x).trans h⟩


/- loop.example/g00735/impl.Luhn -/
noncomputable def r166_0 (t0 : (List UInt8)) (t3 : Int) (t4 : Bool) (t5 : Int) : Option (Sum ((List UInt8) × Int × Bool × Int × Unit) (Sum ((List UInt8) × Int × Bool × Int × Unit) Unit)) :=
  cond (leI 0 t5) (
    cond (inB t5 t0) (
    cond t4 (
      let u1 := (cvtW .i64 (subW .u8 (bytI t0 t5) 48))
      let u2 := (mulW .i64 u1 2)
      cond (ltI 9 u2) (
        let u3 := (subW .i64 t5 1)
        some (.inl (t0, (addW .i64 t3 (subW .i64 u2 9)), (!t4), u3, ()))
      ) (
        let u3 := (subW .i64 t5 1)
        some (.inl (t0, (addW .i64 t3 u2), (!t4), u3, ()))
      )
    ) (
      let u1 := (cvtW .i64 (subW .u8 (bytI t0 t5) 48))
      let u2 := (subW .i64 t5 1)
      some (.inl (t0, (addW .i64 t3 u1), (!t4), u2, ()))
    )
    ) none
  ) (
    some (.inr (.inl (t0, t3, t4, t5, ())))
  )
noncomputable def l166_0 (t0 : (List UInt8)) (t3 : Int) (t4 : Bool) (t5 : Int) : Option (Sum ((List UInt8) × Int × Bool × Int × Unit) Unit) := loopF (fun (x : ((List UInt8) × Int × Bool × Int × Unit)) => r166_0 x.1 x.2.1 x.2.2.1 x.2.2.2.1) (t0, t3, t4, t5, ())
noncomputable def g166 (p0 : (List UInt8)) : Option (Unit × ((Int × Unit) × Unit)) :=
  Option.bind (g165 p0) fun y1 =>
  cond (!y1.2.1.1) (
    some ((), (((-1), ()), ()))
  ) (
    Option.bind (l166_0 p0 0 true (subW .i64 (lenI p0) 1)) (Sum.elim (fun y2 =>
      some ((), (((remI (subW .i64 10 (remI y2.2.1 10)) 10), ()), ()))
    ) (fun y2 =>
      none
    ))
  )
noncomputable def s166 : Su := ⟨[.c false [.str]], [(false, [.int .i64])], true, .inl fun x => g166 x.1.1⟩
def sg166_0 : List SE := [.d 0 (.str), .d 3 (.int .i64), .d 4 (.bool), .d 5 (.int .i64)]
def rh166 : List SE := []
noncomputable def lo166 : Nat → Option (Lo rh166)
  | 0 => some ⟨sg166_0, fun x => l166_0 x.1 x.2.1 x.2.2.1 x.2.2.2.1⟩
  | _ => none
noncomputable def ga166 : List (Nat × Su) := [(165, s165)]
noncomputable def E166 : En := ⟨38, tt, gaOf ga166, rh166, lo166, [], fun _ => none⟩
theorem t166_0 (x : SigT sg166_0) : (roundT E166 0 sg166_0 (loopOf 0 (bodyOf Tryz.f166)) x).run = r166_0 x.1 x.2.1 x.2.2.1 x.2.2.2.1 := by kernel_rfl
theorem t166 (x : PT s166.ps) : (fnT E166 (bodyOf Tryz.f166) Tryz.f166.results.toList s166.ps s166.rs true x).run = g166 x.1.1 := by kernel_rfl
theorem hga166 : GAok Tryz.prog E166 := gaok_of (l := ga166) ⟨ok165, trivial⟩
theorem L166_0 : LoopSem Tryz.prog E166 0 (.loop (loopOf 0 (bodyOf Tryz.f166))) ⟨sg166_0, fun x => l166_0 x.1 x.2.1 x.2.2.1 x.2.2.2.1⟩ :=
  sem_of (hTT hT) hga166 hmix (step := fun (x : SigT sg166_0) => r166_0 x.1 x.2.1 x.2.2.1 x.2.2.2.1) t166_0 (loopsOK_all [] (by kernel_rfl) trivial)
theorem ok166 : SuOK Tryz.prog 166 s166 :=
  fn_ok (E := E166) (hTT hT) hga166 hmix (fn := Tryz.f166) (c := (bodyOf Tryz.f166)) (by kernel_rfl) (by kernel_rfl) (by kernel_rfl) rfl (loopsOK_all [(0, .loop (loopOf 0 (bodyOf Tryz.f166)))] (by kernel_rfl) ⟨semL rfl L166_0, trivial⟩) fun x y h => ⟨y.1, fun _ => rfl, (t166 x).trans h⟩


/- loop.example/g00735/impl.LuhnOk -/
noncomputable def g158 (p0 : (List UInt8)) : Option (Unit × ((Bool × Unit) × Unit)) :=
  let u1 := (subW .i64 (lenI p0) 1)
  cond (leI 1 u1) (
    Option.bind (g165 p0) fun y1 =>
    cond y1.2.1.1 (
      cond (cutB 0 u1 p0) (
      Option.bind (g166 (sub p0 0 u1)) fun y2 =>
      cond (inB u1 p0) (
      some ((), (((eqI y2.2.1.1 (cvtW .i64 (subW .u8 (bytI p0 u1) 48))), ()), ()))
      ) none
      ) none
    ) (
      some ((), ((false, ()), ()))
    )
  ) (
    some ((), ((false, ()), ()))
  )
noncomputable def s158 : Su := ⟨[.c false [.str]], [(false, [.bool])], true, .inl fun x => g158 x.1.1⟩
def rh158 : List SE := []
noncomputable def lo158 : Nat → Option (Lo rh158)
  | _ => none
noncomputable def ga158 : List (Nat × Su) := [(165, s165), (166, s166)]
noncomputable def E158 : En := ⟨25, tt, gaOf ga158, rh158, lo158, [], fun _ => none⟩
theorem t158 (x : PT s158.ps) : (fnT E158 (bodyOf Tryz.f158) Tryz.f158.results.toList s158.ps s158.rs true x).run = g158 x.1.1 := by kernel_rfl
theorem hga158 : GAok Tryz.prog E158 := gaok_of (l := ga158) ⟨ok165, ok166, trivial⟩
theorem ok158 : SuOK Tryz.prog 158 s158 :=
  fn_ok (E := E158) (hTT hT) hga158 hmix (fn := Tryz.f158) (c := (bodyOf Tryz.f158)) (by kernel_rfl) (by kernel_rfl) (by kernel_rfl) rfl (loopsOK_all [] (by kernel_rfl) trivial) fun x y h => ⟨y.1, fun _ => rfl, (t158 x).trans h⟩


/- loop.example/g00735/impl.AcctIdOk -/
noncomputable def g145 (p0 : (List UInt8)) : Option (Unit × ((Bool × Unit) × Unit)) :=
  cond (leI (lenI p0) 19) (
    Option.bind (g158 p0) fun y1 =>
    some ((), (y1.2.1, ()))
  ) (
    some ((), ((false, ()), ()))
  )
noncomputable def s145 : Su := ⟨[.c false [.str]], [(false, [.bool])], true, .inl fun x => g145 x.1.1⟩
def rh145 : List SE := []
noncomputable def lo145 : Nat → Option (Lo rh145)
  | _ => none
noncomputable def ga145 : List (Nat × Su) := [(158, s158)]
noncomputable def E145 : En := ⟨10, tt, gaOf ga145, rh145, lo145, [], fun _ => none⟩
theorem t145 (x : PT s145.ps) : (fnT E145 (bodyOf Tryz.f145) Tryz.f145.results.toList s145.ps s145.rs true x).run = g145 x.1.1 := by kernel_rfl
theorem hga145 : GAok Tryz.prog E145 := gaok_of (l := ga145) ⟨ok158, trivial⟩
theorem ok145 : SuOK Tryz.prog 145 s145 :=
  fn_ok (E := E145) (hTT hT) hga145 hmix (fn := Tryz.f145) (c := (bodyOf Tryz.f145)) (by kernel_rfl) (by kernel_rfl) (by kernel_rfl) rfl (loopsOK_all [] (by kernel_rfl) trivial) fun x y h => ⟨y.1, fun _ => rfl, (t145 x).trans h⟩


/- loop.example/g00735/impl.within -/
noncomputable def g73 (p0 : Int) (p1 : Int) (p2 : Int) : Option (Unit × ((Bool × Unit) × Unit)) :=
  some ((), (((cond (leI p1 p0) (leI p0 p2) false), ()), ()))
noncomputable def s73 : Su := ⟨[.c false [.int .i64], .c false [.int .i64], .c false [.int .i64]], [(false, [.bool])], true, .inl fun x => g73 x.1.1 x.2.1.1 x.2.2.1.1⟩
def rh73 : List SE := []
noncomputable def lo73 : Nat → Option (Lo rh73)
  | _ => none
noncomputable def ga73 : List (Nat × Su) := []
noncomputable def E73 : En := ⟨15, tt, gaOf ga73, rh73, lo73, [], fun _ => none⟩
theorem t73 (x : PT s73.ps) : (fnT E73 (bodyOf Tryz.f73) Tryz.f73.results.toList s73.ps s73.rs true x).run = g73 x.1.1 x.2.1.1 x.2.2.1.1 := by kernel_rfl
theorem hga73 : GAok Tryz.prog E73 := gaok_of (l := ga73) trivial
theorem ok73 : SuOK Tryz.prog 73 s73 :=
  fn_ok (E := E73) (hTT hT) hga73 hmix (fn := Tryz.f73) (c := (bodyOf Tryz.f73)) (by kernel_rfl) (by kernel_rfl) (by kernel_rfl) rfl (loopsOK_all [] (by kernel_rfl) trivial) fun x y h => ⟨y.1, fun _ => rfl, (t73 x).trans h⟩


/- loop.example/g00735/impl.isMoney -/
noncomputable def g96 (p0 : Int) : Option (Unit × ((Bool × Unit) × Unit)) :=
  Option.bind (g73 p0 0 4611686018427387904) fun y1 =>
  some ((), (y1.2.1, ()))
noncomputable def s96 : Su := ⟨[.c false [.int .i64]], [(false, [.bool])], true, .inl fun x => g96 x.1.1⟩
def rh96 : List SE := []
noncomputable def lo96 : Nat → Option (Lo rh96)
  | _ => none
noncomputable def ga96 : List (Nat × Su) := [(73, s73)]
noncomputable def E96 : En := ⟨5, tt, gaOf ga96, rh96, lo96, [], fun _ => none⟩
theorem t96 (x : PT s96.ps) : (fnT E96 (bodyOf Tryz.f96) Tryz.f96.results.toList s96.ps s96.rs true x).run = g96 x.1.1 := by kernel_rfl
theorem hga96 : GAok Tryz.prog E96 := gaok_of (l := ga96) ⟨ok73, trivial⟩
theorem ok96 : SuOK Tryz.prog 96 s96 :=
  fn_ok (E := E96) (hTT hT) hga96 hmix (fn := Tryz.f96) (c := (bodyOf Tryz.f96)) (by kernel_rfl) (by kernel_rfl) (by kernel_rfl) rfl (loopsOK_all [] (by kernel_rfl) trivial) fun x y h => ⟨y.1, fun _ => rfl, (t96 x).trans h⟩


/- loop.example/g00735/impl.HoldIdOk -/
noncomputable def r57_0 (t0 : (List UInt8)) (t5 : Int) (t6 : Int) : Option (Sum ((List UInt8) × Int × Int × Unit) (Sum ((List UInt8) × Int × Int × Unit) (Bool × Unit))) :=
  cond (ltI t6 t5) (
    cond (inB t6 t0) (
    let u1 := (bytI t0 t6)
    cond (ltI u1 48) (
      cond (inB t6 t0) (
      cond (ltI u1 97) (
        some (.inr (.inr (false, ())))
      ) (
        cond (inB t6 t0) (
        cond (ltI 122 u1) (
          some (.inr (.inr (false, ())))
        ) (
          some (.inl (t0, t5, (addW .i64 t6 1), ()))
        )
        ) none
      )
      ) none
    ) (
      cond (inB t6 t0) (
      cond (ltI 57 u1) (
        cond (inB t6 t0) (
        cond (ltI u1 97) (
          some (.inr (.inr (false, ())))
        ) (
          cond (inB t6 t0) (
          cond (ltI 122 u1) (
            some (.inr (.inr (false, ())))
          ) (
            some (.inl (t0, t5, (addW .i64 t6 1), ()))
          )
          ) none
        )
        ) none
      ) (
        some (.inl (t0, t5, (addW .i64 t6 1), ()))
      )
      ) none
    )
    ) none
  ) (
    some (.inr (.inl (t0, t5, t6, ())))
  )
noncomputable def l57_0 (t0 : (List UInt8)) (t5 : Int) (t6 : Int) : Option (Sum ((List UInt8) × Int × Int × Unit) (Bool × Unit)) := loopF (fun (x : ((List UInt8) × Int × Int × Unit)) => r57_0 x.1 x.2.1 x.2.2.1) (t0, t5, t6, ())
noncomputable def g57 (p0 : (List UInt8)) : Option (Unit × ((Bool × Unit) × Unit)) :=
  Option.bind (l57_0 p0 (lenI p0) 0) (Sum.elim (fun y1 =>
    Option.bind (g73 (lenI y1.1) 1 6) fun y2 =>
    some ((), (y2.2.1, ()))
  ) (fun y1 =>
    some ((), (y1, ()))
  ))
noncomputable def s57 : Su := ⟨[.c false [.str]], [(false, [.bool])], true, .inl fun x => g57 x.1.1⟩
def sg57_0 : List SE := [.d 0 (.str), .d 5 (.int .i64), .d 6 (.int .i64)]
def rh57 : List SE := [.d 2 (.bool)]
noncomputable def lo57 : Nat → Option (Lo rh57)
  | 0 => some ⟨sg57_0, fun x => l57_0 x.1 x.2.1 x.2.2.1⟩
  | _ => none
noncomputable def ga57 : List (Nat × Su) := [(73, s73)]
noncomputable def E57 : En := ⟨35, tt, gaOf ga57, rh57, lo57, [], fun _ => none⟩
theorem t57_0 (x : SigT sg57_0) : (roundT E57 0 sg57_0 (loopOf 0 (bodyOf Tryz.f57)) x).run = r57_0 x.1 x.2.1 x.2.2.1 := by kernel_rfl
theorem t57 (x : PT s57.ps) : (fnT E57 (bodyOf Tryz.f57) Tryz.f57.results.toList s57.ps s57.rs true x).run = g57 x.1.1 := by kernel_rfl
theorem hga57 : GAok Tryz.prog E57 := gaok_of (l := ga57) ⟨ok73, trivial⟩
theorem L57_0 : LoopSem Tryz.prog E57 0 (.loop (loopOf 0 (bodyOf Tryz.f57))) ⟨sg57_0, fun x => l57_0 x.1 x.2.1 x.2.2.1⟩ :=
  sem_of (hTT hT) hga57 hmix (step := fun (x : SigT sg57_0) => r57_0 x.1 x.2.1 x.2.2.1) t57_0 (loopsOK_all [] (by kernel_rfl) trivial)
theorem ok57 : SuOK Tryz.prog 57 s57 :=
  fn_ok (E := E57) (hTT hT) hga57 hmix (fn := Tryz.f57) (c := (bodyOf Tryz.f57)) (by kernel_rfl) (by kernel_rfl) (by kernel_rfl) rfl (loopsOK_all [(0, .loop (loopOf 0 (bodyOf Tryz.f57)))] (by kernel_rfl) ⟨semL rfl L57_0, trivial⟩) fun x y h => ⟨y.1, fun _ => rfl, (t57 x).trans h⟩


/- loop.example/g00735/impl.isTime -/
noncomputable def g95 (p0 : Int) : Option (Unit × ((Bool × Unit) × Unit)) :=
  Option.bind (g73 p0 0 1000000000) fun y1 =>
  some ((), (y1.2.1, ()))
noncomputable def s95 : Su := ⟨[.c false [.int .i64]], [(false, [.bool])], true, .inl fun x => g95 x.1.1⟩
def rh95 : List SE := []
noncomputable def lo95 : Nat → Option (Lo rh95)
  | _ => none
noncomputable def ga95 : List (Nat × Su) := [(73, s73)]
noncomputable def E95 : En := ⟨5, tt, gaOf ga95, rh95, lo95, [], fun _ => none⟩
theorem t95 (x : PT s95.ps) : (fnT E95 (bodyOf Tryz.f95) Tryz.f95.results.toList s95.ps s95.rs true x).run = g95 x.1.1 := by kernel_rfl
theorem hga95 : GAok Tryz.prog E95 := gaok_of (l := ga95) ⟨ok73, trivial⟩
theorem ok95 : SuOK Tryz.prog 95 s95 :=
  fn_ok (E := E95) (hTT hT) hga95 hmix (fn := Tryz.f95) (c := (bodyOf Tryz.f95)) (by kernel_rfl) (by kernel_rfl) (by kernel_rfl) rfl (loopsOK_all [] (by kernel_rfl) trivial) fun x y h => ⟨y.1, fun _ => rfl, (t95 x).trans h⟩


/- loop.example/g00735/impl.HoldOk -/
noncomputable def g149 (p0 : ((List UInt8) × Int × Int × Unit)) : Option (Unit × ((Bool × Unit) × Unit)) :=
  Option.bind (g57 p0.1) fun y1 =>
  cond y1.2.1.1 (
    Option.bind (g73 p0.2.1 1 9007199254740992) fun y2 =>
    cond y2.2.1.1 (
      Option.bind (g95 p0.2.2.1) fun y3 =>
      some ((), (y3.2.1, ()))
    ) (
      some ((), ((false, ()), ()))
    )
  ) (
    some ((), ((false, ()), ()))
  )
noncomputable def s149 : Su := ⟨[.c true [.str, .int .i64, .int .i64]], [(false, [.bool])], true, .inl fun x => g149 x.1⟩
def rh149 : List SE := []
noncomputable def lo149 : Nat → Option (Lo rh149)
  | _ => none
noncomputable def ga149 : List (Nat × Su) := [(73, s73), (57, s57), (95, s95)]
noncomputable def E149 : En := ⟨16, tt, gaOf ga149, rh149, lo149, [], fun _ => none⟩
theorem t149 (x : PT s149.ps) : (fnT E149 (bodyOf Tryz.f149) Tryz.f149.results.toList s149.ps s149.rs true x).run = g149 x.1 := by kernel_rfl
theorem hga149 : GAok Tryz.prog E149 := gaok_of (l := ga149) ⟨ok73, ok57, ok95, trivial⟩
theorem ok149 : SuOK Tryz.prog 149 s149 :=
  fn_ok (E := E149) (hTT hT) hga149 hmix (fn := Tryz.f149) (c := (bodyOf Tryz.f149)) (by kernel_rfl) (by kernel_rfl) (by kernel_rfl) rfl (loopsOK_all [] (by kernel_rfl) trivial) fun x y h => ⟨y.1, fun _ => rfl, (t149 x).trans h⟩


/- loop.example/g00735/impl.HoldsOk -/
noncomputable def r117_0 (t0 : (List R74)) (t5 : (List R74)) (t6 : Int) (t7 : Int) : Option (Sum ((List R74) × (List R74) × Int × Int × Unit) (Sum ((List R74) × (List R74) × Int × Int × Unit) (Bool × Unit))) :=
  cond (ltI t7 t6) (
    cond (inB t7 t5) (
    let u1 := (gt d74 t5 t7)
    Option.bind (g149 u1) fun y1 =>
    cond (!y1.2.1.1) (
      some (.inr (.inr (false, ())))
    ) (
      cond (ltI 0 t7) (
        let u2 := (subW .i64 t7 1)
        cond (inB u2 t0) (
        cond (leS u1.1 (gt d74 t0 u2).1) (
          some (.inr (.inr (false, ())))
        ) (
          some (.inl (t0, t5, t6, (addW .i64 t7 1), ()))
        )
        ) none
      ) (
        some (.inl (t0, t5, t6, (addW .i64 t7 1), ()))
      )
    )
    ) none
  ) (
    some (.inr (.inl (t0, t5, t6, t7, ())))
  )
noncomputable def l117_0 (t0 : (List R74)) (t5 : (List R74)) (t6 : Int) (t7 : Int) : Option (Sum ((List R74) × (List R74) × Int × Int × Unit) (Bool × Unit)) := loopF (fun (x : ((List R74) × (List R74) × Int × Int × Unit)) => r117_0 x.1 x.2.1 x.2.2.1 x.2.2.2.1) (t0, t5, t6, t7, ())
noncomputable def g117 (p0 : (List R74)) : Option (Unit × ((Bool × Unit) × Unit)) :=
  Option.bind (l117_0 p0 p0 (lenI p0) 0) (Sum.elim (fun y1 =>
    some ((), (((leI (lenI y1.1) 4), ()), ()))
  ) (fun y1 =>
    some ((), (y1, ()))
  ))
noncomputable def s117 : Su := ⟨[.c false [.sl 74 kk74]], [(false, [.bool])], true, .inl fun x => g117 x.1.1⟩
def sg117_0 : List SE := [.d 0 (.sl 74 kk74), .d 5 (.sl 74 kk74), .d 6 (.int .i64), .d 7 (.int .i64)]
def rh117 : List SE := [.d 2 (.bool)]
noncomputable def lo117 : Nat → Option (Lo rh117)
  | 0 => some ⟨sg117_0, fun x => l117_0 x.1 x.2.1 x.2.2.1 x.2.2.2.1⟩
  | _ => none
noncomputable def ga117 : List (Nat × Su) := [(149, s149)]
noncomputable def E117 : En := ⟨34, tt, gaOf ga117, rh117, lo117, [], fun _ => none⟩
theorem t117_0 (x : SigT sg117_0) : (roundT E117 0 sg117_0 (loopOf 0 (bodyOf Tryz.f117)) x).run = r117_0 x.1 x.2.1 x.2.2.1 x.2.2.2.1 := by kernel_rfl
theorem t117 (x : PT s117.ps) : (fnT E117 (bodyOf Tryz.f117) Tryz.f117.results.toList s117.ps s117.rs true x).run = g117 x.1.1 := by kernel_rfl
theorem hga117 : GAok Tryz.prog E117 := gaok_of (l := ga117) ⟨ok149, trivial⟩
theorem L117_0 : LoopSem Tryz.prog E117 0 (.loop (loopOf 0 (bodyOf Tryz.f117))) ⟨sg117_0, fun x => l117_0 x.1 x.2.1 x.2.2.1 x.2.2.2.1⟩ :=
  sem_of (hTT hT) hga117 hmix (step := fun (x : SigT sg117_0) => r117_0 x.1 x.2.1 x.2.2.1 x.2.2.2.1) t117_0 (loopsOK_all [] (by kernel_rfl) trivial)
theorem ok117 : SuOK Tryz.prog 117 s117 :=
  fn_ok (E := E117) (hTT hT) hga117 hmix (fn := Tryz.f117) (c := (bodyOf Tryz.f117)) (by kernel_rfl) (by kernel_rfl) (by kernel_rfl) rfl (loopsOK_all [(0, .loop (loopOf 0 (bodyOf Tryz.f117)))] (by kernel_rfl) ⟨semL rfl L117_0, trivial⟩) fun x y h => ⟨y.1, fun _ => rfl, (t117 x).trans h⟩


/- slices.Grow[[]int,int] -/
noncomputable def g155 (p1 : Int) : Option (Unit × (((List R3) × Unit) × Unit)) :=
  cond (ltI p1 0) (
    none
  ) (
    let u1 := (subW .i64 p1 (subW .i64 0 0))
    cond (ltI 0 u1) (
      cond (cutB0 0 0) (
      cond (mzB 8 u1) (
      let u2 := (repI d3 u1)
      cond (cutB 0 0 u2) (
      some ((), (((tkI u2 0), ()), ()))
      ) none
      ) none
      ) none
    ) (
      some ((), (([], ()), ()))
    )
  )
noncomputable def s155 : Su := ⟨[.nil, .c false [.int .i64]], [(false, [.sl 3 kk3])], true, .inl fun x => g155 x.1.1⟩
def rh155 : List SE := []
noncomputable def lo155 : Nat → Option (Lo rh155)
  | _ => none
noncomputable def ga155 : List (Nat × Su) := []
noncomputable def E155 : En := ⟨27, tt, gaOf ga155, rh155, lo155, [], fun _ => none⟩
theorem t155 (x : PT s155.ps) : (fnT E155 (bodyOf Tryz.f155) Tryz.f155.results.toList s155.ps s155.rs true x).run = g155 x.1.1 := by kernel_rfl
theorem hga155 : GAok Tryz.prog E155 := gaok_of (l := ga155) trivial
theorem ok155 : SuOK Tryz.prog 155 s155 :=
  fn_ok (E := E155) (hTT hT) hga155 hmix (fn := Tryz.f155) (c := (bodyOf Tryz.f155)) (by kernel_rfl) (by kernel_rfl) (by kernel_rfl) rfl (loopsOK_all [] (by kernel_rfl) trivial) fun x y h => ⟨y.1, fun _ => rfl, (t155 x).trans h⟩


/- slices.Concat[[]int,int] -/
noncomputable def r138_0 (t0 : (List R23)) (t3 : Int) (t9 : (List R23)) (t10 : Int) (t11 : Int) : Option (Sum ((List R23) × Int × (List R23) × Int × Int × Unit) (Sum ((List R23) × Int × (List R23) × Int × Int × Unit) Unit)) :=
  cond (ltI t11 t10) (
    cond (inB t11 t9) (
    let u1 := (addW .i64 t3 (lenI (gt d23 t9 t11).1))
    cond (ltI u1 0) (
      none
    ) (
      some (.inl (t0, u1, t9, t10, (addW .i64 t11 1), ()))
    )
    ) none
  ) (
    some (.inr (.inl (t0, t3, t9, t10, t11, ())))
  )
noncomputable def l138_0 (t0 : (List R23)) (t3 : Int) (t9 : (List R23)) (t10 : Int) (t11 : Int) : Option (Sum ((List R23) × Int × (List R23) × Int × Int × Unit) Unit) := loopF (fun (x : ((List R23) × Int × (List R23) × Int × Int × Unit)) => r138_0 x.1 x.2.1 x.2.2.1 x.2.2.2.1 x.2.2.2.2.1) (t0, t3, t9, t10, t11, ())
noncomputable def r138_2 (t6 : (List R3)) (t25 : (List R23)) (t26 : Int) (t27 : Int) : Option (Sum ((List R3) × (List R23) × Int × Int × Unit) (Sum ((List R3) × (List R23) × Int × Int × Unit) Unit)) :=
  cond (ltI t27 t26) (
    cond (inB t27 t25) (
    cond (fitB 8 t6 (gt d23 t25 t27).1) (
    some (.inl ((apL t6 (gt d23 t25 t27).1), t25, t26, (addW .i64 t27 1), ()))
    ) none
    ) none
  ) (
    some (.inr (.inl (t6, t25, t26, t27, ())))
  )
noncomputable def l138_2 (t6 : (List R3)) (t25 : (List R23)) (t26 : Int) (t27 : Int) : Option (Sum ((List R3) × (List R23) × Int × Int × Unit) Unit) := loopF (fun (x : ((List R3) × (List R23) × Int × Int × Unit)) => r138_2 x.1 x.2.1 x.2.2.1 x.2.2.2.1) (t6, t25, t26, t27, ())
noncomputable def g138 (p0 : (List R23)) : Option (Unit × (((List R3) × Unit) × Unit)) :=
  Option.bind (l138_0 p0 0 p0 (lenI p0) 0) (Sum.elim (fun y1 =>
    Option.bind (g155 y1.2.1) fun y2 =>
    Option.bind (l138_2 y2.2.1.1 y1.1 (lenI y1.1) 0) (Sum.elim (fun y3 =>
      some ((), ((y3.1, ()), ()))
    ) (fun y3 =>
      none
    ))
  ) (fun y1 =>
    none
  ))
noncomputable def s138 : Su := ⟨[.c false [.sl 23 kk23]], [(false, [.sl 3 kk3])], true, .inl fun x => g138 x.1.1⟩
def sg138_0 : List SE := [.d 0 (.sl 23 kk23), .d 3 (.int .i64), .d 9 (.sl 23 kk23), .d 10 (.int .i64), .d 11 (.int .i64)]
def sg138_2 : List SE := [.own 6 (.sl 3 kk3), .d 25 (.sl 23 kk23), .d 26 (.int .i64), .d 27 (.int .i64)]
def rh138 : List SE := []
noncomputable def lo138 : Nat → Option (Lo rh138)
  | 0 => some ⟨sg138_0, fun x => l138_0 x.1 x.2.1 x.2.2.1 x.2.2.2.1 x.2.2.2.2.1⟩
  | 2 => some ⟨sg138_2, fun x => l138_2 x.1 x.2.1 x.2.2.1 x.2.2.2.1⟩
  | _ => none
noncomputable def ga138 : List (Nat × Su) := [(155, s155)]
noncomputable def E138 : En := ⟨36, tt, gaOf ga138, rh138, lo138, [], fun _ => none⟩
theorem t138_0 (x : SigT sg138_0) : (roundT E138 0 sg138_0 (loopOf 0 (bodyOf Tryz.f138)) x).run = r138_0 x.1 x.2.1 x.2.2.1 x.2.2.2.1 x.2.2.2.2.1 := by kernel_rfl
theorem t138_2 (x : SigT sg138_2) : (roundT E138 2 sg138_2 (loopOf 2 (bodyOf Tryz.f138)) x).run = r138_2 x.1 x.2.1 x.2.2.1 x.2.2.2.1 := by kernel_rfl
theorem t138 (x : PT s138.ps) : (fnT E138 (bodyOf Tryz.f138) Tryz.f138.results.toList s138.ps s138.rs true x).run = g138 x.1.1 := by kernel_rfl
theorem hga138 : GAok Tryz.prog E138 := gaok_of (l := ga138) ⟨ok155, trivial⟩
theorem L138_0 : LoopSem Tryz.prog E138 0 (.loop (loopOf 0 (bodyOf Tryz.f138))) ⟨sg138_0, fun x => l138_0 x.1 x.2.1 x.2.2.1 x.2.2.2.1 x.2.2.2.2.1⟩ :=
  sem_of (hTT hT) hga138 hmix (step := fun (x : SigT sg138_0) => r138_0 x.1 x.2.1 x.2.2.1 x.2.2.2.1 x.2.2.2.2.1) t138_0 (loopsOK_all [] (by kernel_rfl) trivial)
theorem L138_2 : LoopSem Tryz.prog E138 2 (.loop (loopOf 2 (bodyOf Tryz.f138))) ⟨sg138_2, fun x => l138_2 x.1 x.2.1 x.2.2.1 x.2.2.2.1⟩ :=
  sem_of (hTT hT) hga138 hmix (step := fun (x : SigT sg138_2) => r138_2 x.1 x.2.1 x.2.2.1 x.2.2.2.1) t138_2 (loopsOK_all [] (by kernel_rfl) trivial)
theorem ok138 : SuOK Tryz.prog 138 s138 :=
  fn_ok (E := E138) (hTT hT) hga138 hmix (fn := Tryz.f138) (c := (bodyOf Tryz.f138)) (by kernel_rfl) (by kernel_rfl) (by kernel_rfl) rfl (loopsOK_all [(0, .loop (loopOf 0 (bodyOf Tryz.f138))), (2, .loop (loopOf 2 (bodyOf Tryz.f138)))] (by kernel_rfl) ⟨semL rfl L138_0, semL rfl L138_2, trivial⟩) fun x y h => ⟨y.1, fun _ => rfl, (t138 x).trans h⟩


/- loop.example/g00735/impl.RingOk -/
noncomputable def r94_0 (t3 : Int) (t14 : (List R3)) (t15 : Int) (t16 : Int) (b1 : (Int × Int × (List R3) × (List R3) × Unit)) : Option (Sum (Int × (List R3) × Int × Int × (Int × Int × (List R3) × (List R3) × Unit) × Unit) (Sum (Int × (List R3) × Int × Int × (Int × Int × (List R3) × (List R3) × Unit) × Unit) (Bool × Unit))) :=
  cond (ltI t16 t15) (
    cond (inB t16 t14) (
    Option.bind (g96 (gt d3 t14 t16).1) fun y1 =>
    cond (!y1.2.1.1) (
      some (.inr (.inr (false, ())))
    ) (
      some (.inl (t3, t14, t15, (addW .i64 t16 1), b1, ()))
    )
    ) none
  ) (
    some (.inr (.inl (t3, t14, t15, t16, b1, ())))
  )
noncomputable def l94_0 (t3 : Int) (t14 : (List R3)) (t15 : Int) (t16 : Int) (b1 : (Int × Int × (List R3) × (List R3) × Unit)) : Option (Sum (Int × (List R3) × Int × Int × (Int × Int × (List R3) × (List R3) × Unit) × Unit) (Bool × Unit)) := loopF (fun (x : (Int × (List R3) × Int × Int × (Int × Int × (List R3) × (List R3) × Unit) × Unit)) => r94_0 x.1 x.2.1 x.2.2.1 x.2.2.2.1 x.2.2.2.2.1) (t3, t14, t15, t16, b1, ())
noncomputable def g94 (p0 : (Int × Int × (List R3) × (List R3) × Unit)) : Option (Unit × ((Bool × Unit) × Unit)) :=
  Option.bind (g138 [(p0.2.2.1, ()), (p0.2.2.2.1, ())]) fun y1 =>
  Option.bind (l94_0 (lenI p0.2.2.1) y1.2.1.1 (lenI y1.2.1.1) 0 p0) (Sum.elim (fun y2 =>
    Option.bind (g73 y2.2.2.2.2.1.1 1 1000) fun y3 =>
    cond y3.2.1.1 (
      Option.bind (g73 y2.1 1 8) fun y4 =>
      cond (cond y4.2.1.1 (eqI (lenI y2.2.2.2.2.1.2.2.2.1) y2.1) false) (
        Option.bind (g95 y2.2.2.2.2.1.2.1) fun y5 =>
        some ((), (y5.2.1, ()))
      ) (
        some ((), ((false, ()), ()))
      )
    ) (
      some ((), ((false, ()), ()))
    )
  ) (fun y2 =>
    some ((), (y2, ()))
  ))
noncomputable def s94 : Su := ⟨[.c true [.int .i64, .int .i64, .sl 3 kk3, .sl 3 kk3]], [(false, [.bool])], true, .inl fun x => g94 x.1⟩
def sg94_0 : List SE := [.d 3 (.int .i64), .own 14 (.sl 3 kk3), .d 15 (.int .i64), .d 16 (.int .i64), .box 1 [(false, .int .i64), (false, .int .i64), (false, .sl 3 kk3), (false, .sl 3 kk3)]]
def rh94 : List SE := [.d 2 (.bool)]
noncomputable def lo94 : Nat → Option (Lo rh94)
  | 0 => some ⟨sg94_0, fun x => l94_0 x.1 x.2.1 x.2.2.1 x.2.2.2.1 x.2.2.2.2.1⟩
  | _ => none
noncomputable def ga94 : List (Nat × Su) := [(73, s73), (96, s96), (95, s95), (138, s138)]
noncomputable def E94 : En := ⟨43, tt, gaOf ga94, rh94, lo94, [], fun _ => none⟩
theorem t94_0 (x : SigT sg94_0) : (roundT E94 0 sg94_0 (loopOf 0 (bodyOf Tryz.f94)) x).run = r94_0 x.1 x.2.1 x.2.2.1 x.2.2.2.1 x.2.2.2.2.1 := by kernel_rfl
theorem t94 (x : PT s94.ps) : (fnT E94 (bodyOf Tryz.f94) Tryz.f94.results.toList s94.ps s94.rs true x).run = g94 x.1 := by kernel_rfl
theorem hga94 : GAok Tryz.prog E94 := gaok_of (l := ga94) ⟨ok73, ok96, ok95, ok138, trivial⟩
theorem L94_0 : LoopSem Tryz.prog E94 0 (.loop (loopOf 0 (bodyOf Tryz.f94))) ⟨sg94_0, fun x => l94_0 x.1 x.2.1 x.2.2.1 x.2.2.2.1 x.2.2.2.2.1⟩ :=
  sem_of (hTT hT) hga94 hmix (step := fun (x : SigT sg94_0) => r94_0 x.1 x.2.1 x.2.2.1 x.2.2.2.1 x.2.2.2.2.1) t94_0 (loopsOK_all [] (by kernel_rfl) trivial)
theorem ok94 : SuOK Tryz.prog 94 s94 :=
  fn_ok (E := E94) (hTT hT) hga94 hmix (fn := Tryz.f94) (c := (bodyOf Tryz.f94)) (by kernel_rfl) (by kernel_rfl) (by kernel_rfl) rfl (loopsOK_all [(0, .loop (loopOf 0 (bodyOf Tryz.f94)))] (by kernel_rfl) ⟨semL rfl L94_0, trivial⟩) fun x y h => ⟨y.1, fun _ => rfl, (t94 x).trans h⟩


/- loop.example/g00735/impl.isWide -/
noncomputable def g167 (p0 : (List UInt8)) (p1 : Int) : Option (Unit × ((Bool × Unit) × Unit)) :=
  Option.bind (g165 p0) fun y1 =>
  some ((), (((cond y1.2.1.1 (eqI (lenI p0) p1) false), ()), ()))
noncomputable def s167 : Su := ⟨[.c false [.str], .c false [.int .i64]], [(false, [.bool])], true, .inl fun x => g167 x.1.1 x.2.1.1⟩
def rh167 : List SE := []
noncomputable def lo167 : Nat → Option (Lo rh167)
  | _ => none
noncomputable def ga167 : List (Nat × Su) := [(165, s165)]
noncomputable def E167 : En := ⟨13, tt, gaOf ga167, rh167, lo167, [], fun _ => none⟩
theorem t167 (x : PT s167.ps) : (fnT E167 (bodyOf Tryz.f167) Tryz.f167.results.toList s167.ps s167.rs true x).run = g167 x.1.1 x.2.1.1 := by kernel_rfl
theorem hga167 : GAok Tryz.prog E167 := gaok_of (l := ga167) ⟨ok165, trivial⟩
theorem ok167 : SuOK Tryz.prog 167 s167 :=
  fn_ok (E := E167) (hTT hT) hga167 hmix (fn := Tryz.f167) (c := (bodyOf Tryz.f167)) (by kernel_rfl) (by kernel_rfl) (by kernel_rfl) rfl (loopsOK_all [] (by kernel_rfl) trivial) fun x y h => ⟨y.1, fun _ => rfl, (t167 x).trans h⟩


/- loop.example/g00735/impl.SlotOk -/
noncomputable def g159 (p0 : ((List UInt8) × (List UInt8) × (List R5) × Unit)) : Option (Unit × ((Bool × Unit) × Unit)) :=
  Option.bind (g167 p0.1 6) fun y1 =>
  cond y1.2.1.1 (
    Option.bind (g167 p0.2.1 4) fun y2 =>
    cond y2.2.1.1 (
      Option.bind (g73 (lenI p0.2.2.1) 1 200) fun y3 =>
      some ((), (y3.2.1, ()))
    ) (
      some ((), ((false, ()), ()))
    )
  ) (
    some ((), ((false, ()), ()))
  )
noncomputable def s159 : Su := ⟨[.c true [.str, .str, .sl 5 kk5]], [(false, [.bool])], true, .inl fun x => g159 x.1⟩
def rh159 : List SE := []
noncomputable def lo159 : Nat → Option (Lo rh159)
  | _ => none
noncomputable def ga159 : List (Nat × Su) := [(73, s73), (167, s167)]
noncomputable def E159 : En := ⟨17, tt, gaOf ga159, rh159, lo159, [], fun _ => none⟩
theorem t159 (x : PT s159.ps) : (fnT E159 (bodyOf Tryz.f159) Tryz.f159.results.toList s159.ps s159.rs true x).run = g159 x.1 := by kernel_rfl
theorem hga159 : GAok Tryz.prog E159 := gaok_of (l := ga159) ⟨ok73, ok167, trivial⟩
theorem ok159 : SuOK Tryz.prog 159 s159 :=
  fn_ok (E := E159) (hTT hT) hga159 hmix (fn := Tryz.f159) (c := (bodyOf Tryz.f159)) (by kernel_rfl) (by kernel_rfl) (by kernel_rfl) rfl (loopsOK_all [] (by kernel_rfl) trivial) fun x y h => ⟨y.1, fun _ => rfl, (t159 x).trans h⟩


/- loop.example/g00735/impl.slotAt$1 -/
noncomputable def g169 (p0 : ((List UInt8) × (List UInt8) × (List R5) × Unit)) (p1 : ((List UInt8) × Unit)) (p2 : ((List UInt8) × Unit)) : Option (Unit × ((Bool × Unit) × Unit)) :=
  some ((), (((cond (eqS p0.1 p1.1) (eqS p0.2.1 p2.1) false), ()), ()))
noncomputable def s169 : Su := ⟨[.c true [.str, .str, .sl 5 kk5], .pt [.str], .pt [.str]], [(false, [.bool])], true, .inl fun x => g169 x.1 x.2.1 x.2.2.1⟩
def rh169 : List SE := []
noncomputable def lo169 : Nat → Option (Lo rh169)
  | _ => none
noncomputable def ga169 : List (Nat × Su) := []
noncomputable def E169 : En := ⟨15, tt, gaOf ga169, rh169, lo169, [], fun _ => none⟩
theorem t169 (x : PT s169.ps) : (fnT E169 (bodyOf Tryz.f169) Tryz.f169.results.toList s169.ps s169.rs true x).run = g169 x.1 x.2.1 x.2.2.1 := by kernel_rfl
theorem hga169 : GAok Tryz.prog E169 := gaok_of (l := ga169) trivial
theorem ok169 : SuOK Tryz.prog 169 s169 :=
  fn_ok (E := E169) (hTT hT) hga169 hmix (fn := Tryz.f169) (c := (bodyOf Tryz.f169)) (by kernel_rfl) (by kernel_rfl) (by kernel_rfl) rfl (loopsOK_all [] (by kernel_rfl) trivial) fun x y h => ⟨y.1, fun _ => rfl, (t169 x).trans h⟩


/- slices.IndexFunc[[]loop.example/g00735/impl.Slot,loop.example/g00735/impl.Slot] -/
noncomputable def r168_0 (t0 : (List R118)) (f1 : (((List UInt8) × Unit) × ((List UInt8) × Unit) × Unit)) (t7 : Int) (t8 : Int) : Option (Sum ((List R118) × (((List UInt8) × Unit) × ((List UInt8) × Unit) × Unit) × Int × Int × Unit) (Sum ((List R118) × (((List UInt8) × Unit) × ((List UInt8) × Unit) × Unit) × Int × Int × Unit) (Int × Unit))) :=
  cond (ltI t8 t7) (
    cond (inB t8 t0) (
    Option.bind (g169 (gt d118 t0 t8) f1.1 f1.2.1) fun y1 =>
    cond y1.2.1.1 (
      some (.inr (.inr (t8, ())))
    ) (
      some (.inl (t0, f1, t7, (addW .i64 t8 1), ()))
    )
    ) none
  ) (
    some (.inr (.inl (t0, f1, t7, t8, ())))
  )
noncomputable def l168_0 (t0 : (List R118)) (f1 : (((List UInt8) × Unit) × ((List UInt8) × Unit) × Unit)) (t7 : Int) (t8 : Int) : Option (Sum ((List R118) × (((List UInt8) × Unit) × ((List UInt8) × Unit) × Unit) × Int × Int × Unit) (Int × Unit)) := loopF (fun (x : ((List R118) × (((List UInt8) × Unit) × ((List UInt8) × Unit) × Unit) × Int × Int × Unit)) => r168_0 x.1 x.2.1 x.2.2.1 x.2.2.2.1) (t0, f1, t7, t8, ())
noncomputable def g168 (p0 : (List R118)) (c1_0 : ((List UInt8) × Unit)) (c1_1 : ((List UInt8) × Unit)) : Option (Unit × ((Int × Unit) × Unit)) :=
  Option.bind (l168_0 p0 (c1_0, c1_1, ()) (lenI p0) 0) (Sum.elim (fun y1 =>
    some ((), (((-1), ()), ()))
  ) (fun y1 =>
    some ((), (y1, ()))
  ))
noncomputable def s168 : Su := ⟨[.c false [.sl 118 kk118], .fn 169 [.p [.str], .p [.str]]], [(false, [.int .i64])], true, .inl fun x => g168 x.1.1 x.2.1.1 x.2.1.2.1⟩
def sg168_0 : List SE := [.d 0 (.sl 118 kk118), .fn 1 169 [.p [.str], .p [.str]], .d 7 (.int .i64), .d 8 (.int .i64)]
def rh168 : List SE := [.d 4 (.int .i64)]
noncomputable def lo168 : Nat → Option (Lo rh168)
  | 0 => some ⟨sg168_0, fun x => l168_0 x.1 x.2.1 x.2.2.1 x.2.2.2.1⟩
  | _ => none
noncomputable def ga168 : List (Nat × Su) := [(169, s169)]
noncomputable def E168 : En := ⟨19, tt, gaOf ga168, rh168, lo168, [], fun _ => none⟩
theorem t168_0 (x : SigT sg168_0) : (roundT E168 0 sg168_0 (loopOf 0 (bodyOf Tryz.f168)) x).run = r168_0 x.1 x.2.1 x.2.2.1 x.2.2.2.1 := by kernel_rfl
theorem t168 (x : PT s168.ps) : (fnT E168 (bodyOf Tryz.f168) Tryz.f168.results.toList s168.ps s168.rs true x).run = g168 x.1.1 x.2.1.1 x.2.1.2.1 := by kernel_rfl
theorem hga168 : GAok Tryz.prog E168 := gaok_of (l := ga168) ⟨ok169, trivial⟩
theorem L168_0 : LoopSem Tryz.prog E168 0 (.loop (loopOf 0 (bodyOf Tryz.f168))) ⟨sg168_0, fun x => l168_0 x.1 x.2.1 x.2.2.1 x.2.2.2.1⟩ :=
  sem_of (hTT hT) hga168 hmix (step := fun (x : SigT sg168_0) => r168_0 x.1 x.2.1 x.2.2.1 x.2.2.2.1) t168_0 (loopsOK_all [] (by kernel_rfl) trivial)
theorem ok168 : SuOK Tryz.prog 168 s168 :=
  fn_ok (E := E168) (hTT hT) hga168 hmix (fn := Tryz.f168) (c := (bodyOf Tryz.f168)) (by kernel_rfl) (by kernel_rfl) (by kernel_rfl) rfl (loopsOK_all [(0, .loop (loopOf 0 (bodyOf Tryz.f168)))] (by kernel_rfl) ⟨semL rfl L168_0, trivial⟩) fun x y h => ⟨y.1, fun _ => rfl, (t168 x).trans h⟩


/- loop.example/g00735/impl.slotAt -/
noncomputable def g160 (p0 : (List R118)) (p1 : (List UInt8)) (p2 : (List UInt8)) : Option (Unit × ((Int × Unit) × Unit)) :=
  Option.bind (g168 p0 (p1, ()) (p2, ())) fun y1 =>
  some ((), (y1.2.1, ()))
noncomputable def s160 : Su := ⟨[.c false [.sl 118 kk118], .c false [.str], .c false [.str]], [(false, [.int .i64])], true, .inl fun x => g160 x.1.1 x.2.1.1 x.2.2.1.1⟩
def rh160 : List SE := []
noncomputable def lo160 : Nat → Option (Lo rh160)
  | _ => none
noncomputable def ga160 : List (Nat × Su) := [(168, s168)]
noncomputable def E160 : En := ⟨10, tt, gaOf ga160, rh160, lo160, [], fun _ => none⟩
theorem t160 (x : PT s160.ps) : (fnT E160 (bodyOf Tryz.f160) Tryz.f160.results.toList s160.ps s160.rs true x).run = g160 x.1.1 x.2.1.1 x.2.2.1.1 := by kernel_rfl
theorem hga160 : GAok Tryz.prog E160 := gaok_of (l := ga160) ⟨ok168, trivial⟩
theorem ok160 : SuOK Tryz.prog 160 s160 :=
  fn_ok (E := E160) (hTT hT) hga160 hmix (fn := Tryz.f160) (c := (bodyOf Tryz.f160)) (by kernel_rfl) (by kernel_rfl) (by kernel_rfl) rfl (loopsOK_all [] (by kernel_rfl) trivial) fun x y h => ⟨y.1, fun _ => rfl, (t160 x).trans h⟩


/- loop.example/g00735/impl.SlotsOk -/
noncomputable def r146_0 (t0 : (List R118)) (t5 : (List R118)) (t6 : Int) (t7 : Int) : Option (Sum ((List R118) × (List R118) × Int × Int × Unit) (Sum ((List R118) × (List R118) × Int × Int × Unit) (Bool × Unit))) :=
  cond (ltI t7 t6) (
    cond (inB t7 t5) (
    let u1 := (gt d118 t5 t7)
    Option.bind (g159 u1) fun y1 =>
    cond (!y1.2.1.1) (
      some (.inr (.inr (false, ())))
    ) (
      Option.bind (g160 t0 u1.1 u1.2.1) fun y2 =>
      cond (!(eqI y2.2.1.1 t7)) (
        some (.inr (.inr (false, ())))
      ) (
        some (.inl (t0, t5, t6, (addW .i64 t7 1), ()))
      )
    )
    ) none
  ) (
    some (.inr (.inl (t0, t5, t6, t7, ())))
  )
noncomputable def l146_0 (t0 : (List R118)) (t5 : (List R118)) (t6 : Int) (t7 : Int) : Option (Sum ((List R118) × (List R118) × Int × Int × Unit) (Bool × Unit)) := loopF (fun (x : ((List R118) × (List R118) × Int × Int × Unit)) => r146_0 x.1 x.2.1 x.2.2.1 x.2.2.2.1) (t0, t5, t6, t7, ())
noncomputable def g146 (p0 : (List R118)) : Option (Unit × ((Bool × Unit) × Unit)) :=
  Option.bind (l146_0 p0 p0 (lenI p0) 0) (Sum.elim (fun y1 =>
    some ((), (((leI (lenI y1.1) 6), ()), ()))
  ) (fun y1 =>
    some ((), (y1, ()))
  ))
noncomputable def s146 : Su := ⟨[.c false [.sl 118 kk118]], [(false, [.bool])], true, .inl fun x => g146 x.1.1⟩
def sg146_0 : List SE := [.d 0 (.sl 118 kk118), .d 5 (.sl 118 kk118), .d 6 (.int .i64), .d 7 (.int .i64)]
def rh146 : List SE := [.d 2 (.bool)]
noncomputable def lo146 : Nat → Option (Lo rh146)
  | 0 => some ⟨sg146_0, fun x => l146_0 x.1 x.2.1 x.2.2.1 x.2.2.2.1⟩
  | _ => none
noncomputable def ga146 : List (Nat × Su) := [(159, s159), (160, s160)]
noncomputable def E146 : En := ⟨29, tt, gaOf ga146, rh146, lo146, [], fun _ => none⟩
theorem t146_0 (x : SigT sg146_0) : (roundT E146 0 sg146_0 (loopOf 0 (bodyOf Tryz.f146)) x).run = r146_0 x.1 x.2.1 x.2.2.1 x.2.2.2.1 := by kernel_rfl
theorem t146 (x : PT s146.ps) : (fnT E146 (bodyOf Tryz.f146) Tryz.f146.results.toList s146.ps s146.rs true x).run = g146 x.1.1 := by kernel_rfl
theorem hga146 : GAok Tryz.prog E146 := gaok_of (l := ga146) ⟨ok159, ok160, trivial⟩
theorem L146_0 : LoopSem Tryz.prog E146 0 (.loop (loopOf 0 (bodyOf Tryz.f146))) ⟨sg146_0, fun x => l146_0 x.1 x.2.1 x.2.2.1 x.2.2.2.1⟩ :=
  sem_of (hTT hT) hga146 hmix (step := fun (x : SigT sg146_0) => r146_0 x.1 x.2.1 x.2.2.1 x.2.2.2.1) t146_0 (loopsOK_all [] (by kernel_rfl) trivial)
theorem ok146 : SuOK Tryz.prog 146 s146 :=
  fn_ok (E := E146) (hTT hT) hga146 hmix (fn := Tryz.f146) (c := (bodyOf Tryz.f146)) (by kernel_rfl) (by kernel_rfl) (by kernel_rfl) rfl (loopsOK_all [(0, .loop (loopOf 0 (bodyOf Tryz.f146)))] (by kernel_rfl) ⟨semL rfl L146_0, trivial⟩) fun x y h => ⟨y.1, fun _ => rfl, (t146 x).trans h⟩


/- loop.example/g00735/impl.AddSat -/
noncomputable def g91 (p0 : Int) (p1 : Int) : Option (Unit × ((Int × Unit) × Unit)) :=
  let u1 := (mxI 0 (mnI p1 4611686018427387904))
  let u2 := (mxI 0 (mnI p0 4611686018427387904))
  cond (ltI (subW .i64 4611686018427387904 u1) u2) (
    some ((), ((4611686018427387904, ()), ()))
  ) (
    some ((), (((addW .i64 u2 u1), ()), ()))
  )
noncomputable def s91 : Su := ⟨[.c false [.int .i64], .c false [.int .i64]], [(false, [.int .i64])], true, .inl fun x => g91 x.1.1 x.2.1.1⟩
def rh91 : List SE := []
noncomputable def lo91 : Nat → Option (Lo rh91)
  | _ => none
noncomputable def ga91 : List (Nat × Su) := []
noncomputable def E91 : En := ⟨18, tt, gaOf ga91, rh91, lo91, [], fun _ => none⟩
theorem t91 (x : PT s91.ps) : (fnT E91 (bodyOf Tryz.f91) Tryz.f91.results.toList s91.ps s91.rs true x).run = g91 x.1.1 x.2.1.1 := by kernel_rfl
theorem hga91 : GAok Tryz.prog E91 := gaok_of (l := ga91) trivial
theorem ok91 : SuOK Tryz.prog 91 s91 :=
  fn_ok (E := E91) (hTT hT) hga91 hmix (fn := Tryz.f91) (c := (bodyOf Tryz.f91)) (by kernel_rfl) (by kernel_rfl) (by kernel_rfl) rfl (loopsOK_all [] (by kernel_rfl) trivial) fun x y h => ⟨y.1, fun _ => rfl, (t91 x).trans h⟩


/- loop.example/g00735/impl.Stored -/
noncomputable def r147_0 (t3 : Int) (t6 : (List R74)) (t7 : Int) (t8 : Int) : Option (Sum (Int × (List R74) × Int × Int × Unit) (Sum (Int × (List R74) × Int × Int × Unit) Unit)) :=
  cond (ltI t8 t7) (
    cond (inB t8 t6) (
    Option.bind (g91 t3 (gt d74 t6 t8).2.1) fun y1 =>
    some (.inl (y1.2.1.1, t6, t7, (addW .i64 t8 1), ()))
    ) none
  ) (
    some (.inr (.inl (t3, t6, t7, t8, ())))
  )
noncomputable def l147_0 (t3 : Int) (t6 : (List R74)) (t7 : Int) (t8 : Int) : Option (Sum (Int × (List R74) × Int × Int × Unit) Unit) := loopF (fun (x : (Int × (List R74) × Int × Int × Unit)) => r147_0 x.1 x.2.1 x.2.2.1 x.2.2.2.1) (t3, t6, t7, t8, ())
noncomputable def g147 (p0 : (List R74)) : Option (Unit × ((Int × Unit) × Unit)) :=
  Option.bind (l147_0 0 p0 (lenI p0) 0) (Sum.elim (fun y1 =>
    some ((), ((y1.1, ()), ()))
  ) (fun y1 =>
    none
  ))
noncomputable def s147 : Su := ⟨[.c false [.sl 74 kk74]], [(false, [.int .i64])], true, .inl fun x => g147 x.1.1⟩
def sg147_0 : List SE := [.d 3 (.int .i64), .d 6 (.sl 74 kk74), .d 7 (.int .i64), .d 8 (.int .i64)]
def rh147 : List SE := []
noncomputable def lo147 : Nat → Option (Lo rh147)
  | 0 => some ⟨sg147_0, fun x => l147_0 x.1 x.2.1 x.2.2.1 x.2.2.2.1⟩
  | _ => none
noncomputable def ga147 : List (Nat × Su) := [(91, s91)]
noncomputable def E147 : En := ⟨18, tt, gaOf ga147, rh147, lo147, [], fun _ => none⟩
theorem t147_0 (x : SigT sg147_0) : (roundT E147 0 sg147_0 (loopOf 0 (bodyOf Tryz.f147)) x).run = r147_0 x.1 x.2.1 x.2.2.1 x.2.2.2.1 := by kernel_rfl
theorem t147 (x : PT s147.ps) : (fnT E147 (bodyOf Tryz.f147) Tryz.f147.results.toList s147.ps s147.rs true x).run = g147 x.1.1 := by kernel_rfl
theorem hga147 : GAok Tryz.prog E147 := gaok_of (l := ga147) ⟨ok91, trivial⟩
theorem L147_0 : LoopSem Tryz.prog E147 0 (.loop (loopOf 0 (bodyOf Tryz.f147))) ⟨sg147_0, fun x => l147_0 x.1 x.2.1 x.2.2.1 x.2.2.2.1⟩ :=
  sem_of (hTT hT) hga147 hmix (step := fun (x : SigT sg147_0) => r147_0 x.1 x.2.1 x.2.2.1 x.2.2.2.1) t147_0 (loopsOK_all [] (by kernel_rfl) trivial)
theorem ok147 : SuOK Tryz.prog 147 s147 :=
  fn_ok (E := E147) (hTT hT) hga147 hmix (fn := Tryz.f147) (c := (bodyOf Tryz.f147)) (by kernel_rfl) (by kernel_rfl) (by kernel_rfl) rfl (loopsOK_all [(0, .loop (loopOf 0 (bodyOf Tryz.f147)))] (by kernel_rfl) ⟨semL rfl L147_0, trivial⟩) fun x y h => ⟨y.1, fun _ => rfl, (t147 x).trans h⟩


/- loop.example/g00735/impl.AcctOk -/
noncomputable def g112 (p0 : ((List UInt8) × Int × Int × Int × Int × (List R74) × Int × Int × (List R3) × (List R3) × (List R118) × Unit)) : Option (Unit × ((Bool × Unit) × Unit)) :=
  Option.bind (g145 p0.1) fun y1 =>
  cond y1.2.1.1 (
    Option.bind (g73 p0.2.1 0 9007199254740992) fun y2 =>
    cond y2.2.1.1 (
      Option.bind (g73 p0.2.2.2.1 0 1000) fun y3 =>
      cond y3.2.1.1 (
        Option.bind (g73 p0.2.2.2.2.1 0 9007199254740992) fun y4 =>
        cond y4.2.1.1 (
          Option.bind (g96 p0.2.2.1) fun y5 =>
          cond y5.2.1.1 (
            Option.bind (g117 p0.2.2.2.2.2.1) fun y6 =>
            cond y6.2.1.1 (
              Option.bind (g94 (p0.2.2.2.2.2.2.1, p0.2.2.2.2.2.2.2.1, p0.2.2.2.2.2.2.2.2.1, p0.2.2.2.2.2.2.2.2.2.1, ())) fun y7 =>
              cond y7.2.1.1 (
                Option.bind (g146 p0.2.2.2.2.2.2.2.2.2.2.1) fun y8 =>
                cond y8.2.1.1 (
                  Option.bind (g147 p0.2.2.2.2.2.1) fun y9 =>
                  Option.bind (g91 p0.2.2.1 y9.2.1.1) fun y10 =>
                  some ((), (((leI y10.2.1.1 p0.2.1), ()), ()))
                ) (
                  some ((), ((false, ()), ()))
                )
              ) (
                some ((), ((false, ()), ()))
              )
            ) (
              some ((), ((false, ()), ()))
            )
          ) (
            some ((), ((false, ()), ()))
          )
        ) (
          some ((), ((false, ()), ()))
        )
      ) (
        some ((), ((false, ()), ()))
      )
    ) (
      some ((), ((false, ()), ()))
    )
  ) (
    some ((), ((false, ()), ()))
  )
noncomputable def s112 : Su := ⟨[.c true [.str, .int .i64, .int .i64, .int .i64, .int .i64, .sl 74 kk74, .int .i64, .int .i64, .sl 3 kk3, .sl 3 kk3, .sl 118 kk118]], [(false, [.bool])], true, .inl fun x => g112 x.1⟩
def rh112 : List SE := []
noncomputable def lo112 : Nat → Option (Lo rh112)
  | _ => none
noncomputable def ga112 : List (Nat × Su) := [(145, s145), (73, s73), (96, s96), (117, s117), (94, s94), (146, s146), (91, s91), (147, s147)]
noncomputable def E112 : En := ⟨52, tt, gaOf ga112, rh112, lo112, [], fun _ => none⟩
theorem t112 (x : PT s112.ps) : (fnT E112 (bodyOf Tryz.f112) Tryz.f112.results.toList s112.ps s112.rs true x).run = g112 x.1 := by kernel_rfl
theorem hga112 : GAok Tryz.prog E112 := gaok_of (l := ga112) ⟨ok145, ok73, ok96, ok117, ok94, ok146, ok91, ok147, trivial⟩
theorem ok112 : SuOK Tryz.prog 112 s112 :=
  fn_ok (E := E112) (hTT hT) hga112 hmix (fn := Tryz.f112) (c := (bodyOf Tryz.f112)) (by kernel_rfl) (by kernel_rfl) (by kernel_rfl) rfl (loopsOK_all [] (by kernel_rfl) trivial) fun x y h => ⟨y.1, fun _ => rfl, (t112 x).trans h⟩


/- loop.example/g00735/impl.BookOk -/
noncomputable def r124_0 (t6 : (List R34)) (t7 : Int) (t8 : Int) (b1 : ((List R34) × Unit)) : Option (Sum ((List R34) × Int × Int × ((List R34) × Unit) × Unit) (Sum ((List R34) × Int × Int × ((List R34) × Unit) × Unit) (Bool × Unit))) :=
  cond (ltI t8 t7) (
    cond (inB t8 t6) (
    let u1 := (gt d34 t6 t8)
    Option.bind (g112 u1) fun y1 =>
    cond (!y1.2.1.1) (
      some (.inr (.inr (false, ())))
    ) (
      cond (ltI 0 t8) (
        let u2 := (subW .i64 t8 1)
        cond (inB u2 b1.1) (
        cond (leS u1.1 (gt d34 b1.1 u2).1) (
          some (.inr (.inr (false, ())))
        ) (
          some (.inl (t6, t7, (addW .i64 t8 1), b1, ()))
        )
        ) none
      ) (
        some (.inl (t6, t7, (addW .i64 t8 1), b1, ()))
      )
    )
    ) none
  ) (
    some (.inr (.inl (t6, t7, t8, b1, ())))
  )
noncomputable def l124_0 (t6 : (List R34)) (t7 : Int) (t8 : Int) (b1 : ((List R34) × Unit)) : Option (Sum ((List R34) × Int × Int × ((List R34) × Unit) × Unit) (Bool × Unit)) := loopF (fun (x : ((List R34) × Int × Int × ((List R34) × Unit) × Unit)) => r124_0 x.1 x.2.1 x.2.2.1 x.2.2.2.1) (t6, t7, t8, b1, ())
noncomputable def g124 (p0 : ((List R34) × Unit)) : Option (Unit × ((Bool × Unit) × Unit)) :=
  Option.bind (l124_0 p0.1 (lenI p0.1) 0 p0) (Sum.elim (fun y1 =>
    some ((), (((leI (lenI y1.2.2.2.1.1) 6), ()), ()))
  ) (fun y1 =>
    some ((), (y1, ()))
  ))
noncomputable def s124 : Su := ⟨[.c true [.sl 34 kk34]], [(false, [.bool])], true, .inl fun x => g124 x.1⟩
def sg124_0 : List SE := [.d 6 (.sl 34 kk34), .d 7 (.int .i64), .d 8 (.int .i64), .box 1 [(false, .sl 34 kk34)]]
def rh124 : List SE := [.d 2 (.bool)]
noncomputable def lo124 : Nat → Option (Lo rh124)
  | 0 => some ⟨sg124_0, fun x => l124_0 x.1 x.2.1 x.2.2.1 x.2.2.2.1⟩
  | _ => none
noncomputable def ga124 : List (Nat × Su) := [(112, s112)]
noncomputable def E124 : En := ⟨37, tt, gaOf ga124, rh124, lo124, [], fun _ => none⟩
theorem t124_0 (x : SigT sg124_0) : (roundT E124 0 sg124_0 (loopOf 0 (bodyOf Tryz.f124)) x).run = r124_0 x.1 x.2.1 x.2.2.1 x.2.2.2.1 := by kernel_rfl
theorem t124 (x : PT s124.ps) : (fnT E124 (bodyOf Tryz.f124) Tryz.f124.results.toList s124.ps s124.rs true x).run = g124 x.1 := by kernel_rfl
theorem hga124 : GAok Tryz.prog E124 := gaok_of (l := ga124) ⟨ok112, trivial⟩
theorem L124_0 : LoopSem Tryz.prog E124 0 (.loop (loopOf 0 (bodyOf Tryz.f124))) ⟨sg124_0, fun x => l124_0 x.1 x.2.1 x.2.2.1 x.2.2.2.1⟩ :=
  sem_of (hTT hT) hga124 hmix (step := fun (x : SigT sg124_0) => r124_0 x.1 x.2.1 x.2.2.1 x.2.2.2.1) t124_0 (loopsOK_all [] (by kernel_rfl) trivial)
theorem ok124 : SuOK Tryz.prog 124 s124 :=
  fn_ok (E := E124) (hTT hT) hga124 hmix (fn := Tryz.f124) (c := (bodyOf Tryz.f124)) (by kernel_rfl) (by kernel_rfl) (by kernel_rfl) rfl (loopsOK_all [(0, .loop (loopOf 0 (bodyOf Tryz.f124)))] (by kernel_rfl) ⟨semL rfl L124_0, trivial⟩) fun x y h => ⟨y.1, fun _ => rfl, (t124 x).trans h⟩


/- loop.example/g00735/impl.Fnv -/
noncomputable def r153_0 (t0 : (List UInt8)) (t3 : Int) (t6 : Int) (t7 : Int) : Option (Sum ((List UInt8) × Int × Int × Int × Unit) (Sum ((List UInt8) × Int × Int × Int × Unit) Unit)) :=
  cond (ltI t7 t6) (
    cond (inB t7 t0) (
    some (.inl (t0, (mulW .u32 (xorW .u32 t3 (cvtW .u32 (bytI t0 t7))) 16777619), t6, (addW .i64 t7 1), ()))
    ) none
  ) (
    some (.inr (.inl (t0, t3, t6, t7, ())))
  )
noncomputable def l153_0 (t0 : (List UInt8)) (t3 : Int) (t6 : Int) (t7 : Int) : Option (Sum ((List UInt8) × Int × Int × Int × Unit) Unit) := loopF (fun (x : ((List UInt8) × Int × Int × Int × Unit)) => r153_0 x.1 x.2.1 x.2.2.1 x.2.2.2.1) (t0, t3, t6, t7, ())
noncomputable def g153 (p0 : (List UInt8)) : Option (Unit × ((Int × Unit) × Unit)) :=
  Option.bind (l153_0 p0 2166136261 (lenI p0) 0) (Sum.elim (fun y1 =>
    some ((), (((cvtW .i64 y1.2.1), ()), ()))
  ) (fun y1 =>
    none
  ))
noncomputable def s153 : Su := ⟨[.c false [.str]], [(false, [.int .i64])], true, .inl fun x => g153 x.1.1⟩
def sg153_0 : List SE := [.d 0 (.str), .d 3 (.int .u32), .d 6 (.int .i64), .d 7 (.int .i64)]
def rh153 : List SE := []
noncomputable def lo153 : Nat → Option (Lo rh153)
  | 0 => some ⟨sg153_0, fun x => l153_0 x.1 x.2.1 x.2.2.1 x.2.2.2.1⟩
  | _ => none
noncomputable def ga153 : List (Nat × Su) := []
noncomputable def E153 : En := ⟨20, tt, gaOf ga153, rh153, lo153, [], fun _ => none⟩
theorem t153_0 (x : SigT sg153_0) : (roundT E153 0 sg153_0 (loopOf 0 (bodyOf Tryz.f153)) x).run = r153_0 x.1 x.2.1 x.2.2.1 x.2.2.2.1 := by kernel_rfl
theorem t153 (x : PT s153.ps) : (fnT E153 (bodyOf Tryz.f153) Tryz.f153.results.toList s153.ps s153.rs true x).run = g153 x.1.1 := by kernel_rfl
theorem hga153 : GAok Tryz.prog E153 := gaok_of (l := ga153) trivial
theorem L153_0 : LoopSem Tryz.prog E153 0 (.loop (loopOf 0 (bodyOf Tryz.f153))) ⟨sg153_0, fun x => l153_0 x.1 x.2.1 x.2.2.1 x.2.2.2.1⟩ :=
  sem_of (hTT hT) hga153 hmix (step := fun (x : SigT sg153_0) => r153_0 x.1 x.2.1 x.2.2.1 x.2.2.2.1) t153_0 (loopsOK_all [] (by kernel_rfl) trivial)
theorem ok153 : SuOK Tryz.prog 153 s153 :=
  fn_ok (E := E153) (hTT hT) hga153 hmix (fn := Tryz.f153) (c := (bodyOf Tryz.f153)) (by kernel_rfl) (by kernel_rfl) (by kernel_rfl) rfl (loopsOK_all [(0, .loop (loopOf 0 (bodyOf Tryz.f153)))] (by kernel_rfl) ⟨semL rfl L153_0, trivial⟩) fun x y h => ⟨y.1, fun _ => rfl, (t153 x).trans h⟩


/- loop.example/g00735/impl.StripeNo -/
noncomputable def g125 (p0 : (List UInt8)) (p1 : Int) : Option (Unit × ((Int × Unit) × Unit)) :=
  cond (ltI p1 1) (
    some ((), ((0, ()), ()))
  ) (
    Option.bind (g153 p0) fun y1 =>
    cond (!(eqI p1 0)) (
    some ((), (((remI y1.2.1.1 p1), ()), ()))
    ) none
  )
noncomputable def s125 : Su := ⟨[.c false [.str], .c false [.int .i64]], [(false, [.int .i64])], true, .inl fun x => g125 x.1.1 x.2.1.1⟩
def rh125 : List SE := []
noncomputable def lo125 : Nat → Option (Lo rh125)
  | _ => none
noncomputable def ga125 : List (Nat × Su) := [(153, s153)]
noncomputable def E125 : En := ⟨11, tt, gaOf ga125, rh125, lo125, [], fun _ => none⟩
theorem t125 (x : PT s125.ps) : (fnT E125 (bodyOf Tryz.f125) Tryz.f125.results.toList s125.ps s125.rs true x).run = g125 x.1.1 x.2.1.1 := by kernel_rfl
theorem hga125 : GAok Tryz.prog E125 := gaok_of (l := ga125) ⟨ok153, trivial⟩
theorem ok125 : SuOK Tryz.prog 125 s125 :=
  fn_ok (E := E125) (hTT hT) hga125 hmix (fn := Tryz.f125) (c := (bodyOf Tryz.f125)) (by kernel_rfl) (by kernel_rfl) (by kernel_rfl) rfl (loopsOK_all [] (by kernel_rfl) trivial) fun x y h => ⟨y.1, fun _ => rfl, (t125 x).trans h⟩


/- slices.Clone[[]loop.example/g00735/impl.Hold,loop.example/g00735/impl.Hold] -/
noncomputable def g120 (p0 : List R74) : Option (Unit × ((List R74) × Unit) × Unit) := cond (fitB 32 ([] : List R74) p0) (some ((), ((p0, ()), ()))) none
noncomputable def s120 : Su := ⟨[.c false [.sl 74 kk74]], [(false, [.sl 74 kk74])], true, .inl fun x => g120 x.1.1⟩
noncomputable def E120 : En := ⟨8, tt, gaOf [], [], fun _ => none, [], fun _ => none⟩
noncomputable def st120 (x : PT s120.ps) : St := ⟨[(2, .v .nil), (0, .v (.d (.sl 74 kk74) x.1.1))], []⟩
theorem t120 (x : PT s120.ps) (b : Bool) : ((codeT E120 (.seq (codeR (codeL (codeR (bodyOf Tryz.f120)))) (codeR (codeR (bodyOf Tryz.f120)))) (((st120 x).bindT 3 (.v (.d (.sl 74 kk74) x.1.1), none)).bindT 4 (.v (.d .bool b), none))).bind (finT E120 Tryz.f120.results.toList s120.ps s120.rs s120.fresh)).run =
    cond b (some ((), (([], ()), ()))) (g120 x.1.1) := by kernel_rfl
theorem ok120 : SuOK Tryz.prog 120 s120 :=
  fn_nil (E := E120) (hTT hT) (gaok_of (l := []) trivial) hmix (fn := Tryz.f120) (c0 := codeL (bodyOf Tryz.f120)) (cc := codeR (codeL (codeR (bodyOf Tryz.f120)))) (c3 := codeR (codeR (bodyOf Tryz.f120))) (id := regId (codeL (codeL (codeR (bodyOf Tryz.f120)))))
    (o1 := opAt (codeL (codeL (codeR (bodyOf Tryz.f120)))) 0) (o2 := opAt (codeL (codeL (codeR (bodyOf Tryz.f120)))) 1) (by kernel_rfl) (by kernel_rfl) (by kernel_rfl) rfl
    (loopsOK_free (fun _ => rfl) _ (by kernel_rfl)) (loopsOK_free (fun _ => rfl) _ (by kernel_rfl)) (loopsOK_free (fun _ => rfl) _ (by kernel_rfl)) (t0 := 0) (t3 := 3) (t4 := 4) (ty := 30) (ty' := 30) (e := 74) (e' := 74) (by' := 24) (fl := []) (ks := kk74) (by kernel_rfl) (by kernel_rfl) (by kernel_rfl) (by kernel_rfl) (by kernel_rfl) (by kernel_rfl) (by kernel_rfl) (by kernel_rfl) (by kernel_rfl)
    st120 (fun x => x.1.1) (fun x => by kernel_rfl) (fun x => by kernel_rfl) fun x y hy b hb => by
      refine ⟨y.1, fun _ => rfl, ?_⟩
      rw [t120]
      have hy : g120 x.1.1 = some y := hy
      cases b with
      | false => exact hy
      | true =>
        have he : x.1.1 = ([] : List R74) := hb rfl
        rw [he] at hy
        exact hy

/- slices.Clone[[]int,int] -/
noncomputable def g139 (p0 : List R3) : Option (Unit × ((List R3) × Unit) × Unit) := cond (fitB 8 ([] : List R3) p0) (some ((), ((p0, ()), ()))) none
noncomputable def s139 : Su := ⟨[.c false [.sl 3 kk3]], [(false, [.sl 3 kk3])], true, .inl fun x => g139 x.1.1⟩
noncomputable def E139 : En := ⟨8, tt, gaOf [], [], fun _ => none, [], fun _ => none⟩
noncomputable def st139 (x : PT s139.ps) : St := ⟨[(2, .v .nil), (0, .v (.d (.sl 3 kk3) x.1.1))], []⟩
theorem t139 (x : PT s139.ps) (b : Bool) : ((codeT E139 (.seq (codeR (codeL (codeR (bodyOf Tryz.f139)))) (codeR (codeR (bodyOf Tryz.f139)))) (((st139 x).bindT 3 (.v (.d (.sl 3 kk3) x.1.1), none)).bindT 4 (.v (.d .bool b), none))).bind (finT E139 Tryz.f139.results.toList s139.ps s139.rs s139.fresh)).run =
    cond b (some ((), (([], ()), ()))) (g139 x.1.1) := by kernel_rfl
theorem ok139 : SuOK Tryz.prog 139 s139 :=
  fn_nil (E := E139) (hTT hT) (gaok_of (l := []) trivial) hmix (fn := Tryz.f139) (c0 := codeL (bodyOf Tryz.f139)) (cc := codeR (codeL (codeR (bodyOf Tryz.f139)))) (c3 := codeR (codeR (bodyOf Tryz.f139))) (id := regId (codeL (codeL (codeR (bodyOf Tryz.f139)))))
    (o1 := opAt (codeL (codeL (codeR (bodyOf Tryz.f139)))) 0) (o2 := opAt (codeL (codeL (codeR (bodyOf Tryz.f139)))) 1) (by kernel_rfl) (by kernel_rfl) (by kernel_rfl) rfl
    (loopsOK_free (fun _ => rfl) _ (by kernel_rfl)) (loopsOK_free (fun _ => rfl) _ (by kernel_rfl)) (loopsOK_free (fun _ => rfl) _ (by kernel_rfl)) (t0 := 0) (t3 := 3) (t4 := 4) (ty := 23) (ty' := 23) (e := 3) (e' := 3) (by' := 24) (fl := []) (ks := kk3) (by kernel_rfl) (by kernel_rfl) (by kernel_rfl) (by kernel_rfl) (by kernel_rfl) (by kernel_rfl) (by kernel_rfl) (by kernel_rfl) (by kernel_rfl)
    st139 (fun x => x.1.1) (fun x => by kernel_rfl) (fun x => by kernel_rfl) fun x y hy b hb => by
      refine ⟨y.1, fun _ => rfl, ?_⟩
      rw [t139]
      have hy : g139 x.1.1 = some y := hy
      cases b with
      | false => exact hy
      | true =>
        have he : x.1.1 = ([] : List R3) := hb rfl
        rw [he] at hy
        exact hy

/- (loop.example/g00735/impl.Ring).copied -/
noncomputable def g97 (p0 : (Int × Int × (List R3) × (List R3) × Unit)) : Option (Unit × ((Int × Int × (List R3) × (List R3) × Unit) × Unit)) :=
  Option.bind (g139 p0.2.2.1) fun y1 =>
  Option.bind (g139 p0.2.2.2.1) fun y2 =>
  some ((), ((p0.1, p0.2.1, y1.2.1.1, y2.2.1.1, ()), ()))
noncomputable def s97 : Su := ⟨[.c true [.int .i64, .int .i64, .sl 3 kk3, .sl 3 kk3]], [(true, [.int .i64, .int .i64, .sl 3 kk3, .sl 3 kk3])], true, .inl fun x => g97 x.1⟩
def rh97 : List SE := []
noncomputable def lo97 : Nat → Option (Lo rh97)
  | _ => none
noncomputable def ga97 : List (Nat × Su) := [(139, s139)]
noncomputable def E97 : En := ⟨12, tt, gaOf ga97, rh97, lo97, [], fun _ => none⟩
theorem t97 (x : PT s97.ps) : (fnT E97 (bodyOf Tryz.f97) Tryz.f97.results.toList s97.ps s97.rs true x).run = g97 x.1 := by kernel_rfl
theorem hga97 : GAok Tryz.prog E97 := gaok_of (l := ga97) ⟨ok139, trivial⟩
theorem ok97 : SuOK Tryz.prog 97 s97 :=
  fn_ok (E := E97) (hTT hT) hga97 hmix (fn := Tryz.f97) (c := (bodyOf Tryz.f97)) (by kernel_rfl) (by kernel_rfl) (by kernel_rfl) rfl (loopsOK_all [] (by kernel_rfl) trivial) fun x y h => ⟨y.1, fun _ => rfl, (t97 x).trans h⟩


/- slices.Clone[[]byte,byte] -/
noncomputable def g164 (p0 : List R5) : Option (Unit × ((List R5) × Unit) × Unit) := cond (fitB 1 ([] : List R5) p0) (some ((), ((p0, ()), ()))) none
noncomputable def s164 : Su := ⟨[.c false [.sl 5 kk5]], [(false, [.sl 5 kk5])], true, .inl fun x => g164 x.1.1⟩
noncomputable def E164 : En := ⟨8, tt, gaOf [], [], fun _ => none, [], fun _ => none⟩
noncomputable def st164 (x : PT s164.ps) : St := ⟨[(2, .v .nil), (0, .v (.d (.sl 5 kk5) x.1.1))], []⟩
theorem t164 (x : PT s164.ps) (b : Bool) : ((codeT E164 (.seq (codeR (codeL (codeR (bodyOf Tryz.f164)))) (codeR (codeR (bodyOf Tryz.f164)))) (((st164 x).bindT 3 (.v (.d (.sl 5 kk5) x.1.1), none)).bindT 4 (.v (.d .bool b), none))).bind (finT E164 Tryz.f164.results.toList s164.ps s164.rs s164.fresh)).run =
    cond b (some ((), (([], ()), ()))) (g164 x.1.1) := by kernel_rfl
theorem ok164 : SuOK Tryz.prog 164 s164 :=
  fn_nil (E := E164) (hTT hT) (gaok_of (l := []) trivial) hmix (fn := Tryz.f164) (c0 := codeL (bodyOf Tryz.f164)) (cc := codeR (codeL (codeR (bodyOf Tryz.f164)))) (c3 := codeR (codeR (bodyOf Tryz.f164))) (id := regId (codeL (codeL (codeR (bodyOf Tryz.f164)))))
    (o1 := opAt (codeL (codeL (codeR (bodyOf Tryz.f164)))) 0) (o2 := opAt (codeL (codeL (codeR (bodyOf Tryz.f164)))) 1) (by kernel_rfl) (by kernel_rfl) (by kernel_rfl) rfl
    (loopsOK_free (fun _ => rfl) _ (by kernel_rfl)) (loopsOK_free (fun _ => rfl) _ (by kernel_rfl)) (loopsOK_free (fun _ => rfl) _ (by kernel_rfl)) (t0 := 0) (t3 := 3) (t4 := 4) (ty := 106) (ty' := 106) (e := 5) (e' := 5) (by' := 24) (fl := []) (ks := kk5) (by kernel_rfl) (by kernel_rfl) (by kernel_rfl) (by kernel_rfl) (by kernel_rfl) (by kernel_rfl) (by kernel_rfl) (by kernel_rfl) (by kernel_rfl)
    st164 (fun x => x.1.1) (fun x => by kernel_rfl) (fun x => by kernel_rfl) fun x y hy b hb => by
      refine ⟨y.1, fun _ => rfl, ?_⟩
      rw [t164]
      have hy : g164 x.1.1 = some y := hy
      cases b with
      | false => exact hy
      | true =>
        have he : x.1.1 = ([] : List R5) := hb rfl
        rw [he] at hy
        exact hy

/- loop.example/g00735/impl.copySlots -/
noncomputable def r154_0 (t3 : (List R118)) (t7 : (List R118)) (t8 : Int) (t9 : Int) : Option (Sum ((List R118) × (List R118) × Int × Int × Unit) (Sum ((List R118) × (List R118) × Int × Int × Unit) Unit)) :=
  cond (ltI t9 t8) (
    cond (inB t9 t7) (
    let u1 := (gt d118 t7 t9)
    Option.bind (g164 u1.2.2.1) fun y1 =>
    cond (fitB 56 t3 [(u1.1, u1.2.1, y1.2.1.1, ())]) (
    some (.inl ((apL t3 [(u1.1, u1.2.1, y1.2.1.1, ())]), t7, t8, (addW .i64 t9 1), ()))
    ) none
    ) none
  ) (
    some (.inr (.inl (t3, t7, t8, t9, ())))
  )
noncomputable def l154_0 (t3 : (List R118)) (t7 : (List R118)) (t8 : Int) (t9 : Int) : Option (Sum ((List R118) × (List R118) × Int × Int × Unit) Unit) := loopF (fun (x : ((List R118) × (List R118) × Int × Int × Unit)) => r154_0 x.1 x.2.1 x.2.2.1 x.2.2.2.1) (t3, t7, t8, t9, ())
noncomputable def g154 (p0 : (List R118)) : Option (Unit × (((List R118) × Unit) × Unit)) :=
  Option.bind (l154_0 [] p0 (lenI p0) 0) (Sum.elim (fun y1 =>
    some ((), ((y1.1, ()), ()))
  ) (fun y1 =>
    none
  ))
noncomputable def s154 : Su := ⟨[.c false [.sl 118 kk118]], [(false, [.sl 118 kk118])], true, .inl fun x => g154 x.1.1⟩
def sg154_0 : List SE := [.own 3 (.sl 118 kk118), .d 7 (.sl 118 kk118), .d 8 (.int .i64), .d 9 (.int .i64)]
def rh154 : List SE := []
noncomputable def lo154 : Nat → Option (Lo rh154)
  | 0 => some ⟨sg154_0, fun x => l154_0 x.1 x.2.1 x.2.2.1 x.2.2.2.1⟩
  | _ => none
noncomputable def ga154 : List (Nat × Su) := [(164, s164)]
noncomputable def E154 : En := ⟨26, tt, gaOf ga154, rh154, lo154, [], fun _ => none⟩
theorem t154_0 (x : SigT sg154_0) : (roundT E154 0 sg154_0 (loopOf 0 (bodyOf Tryz.f154)) x).run = r154_0 x.1 x.2.1 x.2.2.1 x.2.2.2.1 := by kernel_rfl
theorem t154 (x : PT s154.ps) : (fnT E154 (bodyOf Tryz.f154) Tryz.f154.results.toList s154.ps s154.rs true x).run = g154 x.1.1 := by kernel_rfl
theorem hga154 : GAok Tryz.prog E154 := gaok_of (l := ga154) ⟨ok164, trivial⟩
theorem L154_0 : LoopSem Tryz.prog E154 0 (.loop (loopOf 0 (bodyOf Tryz.f154))) ⟨sg154_0, fun x => l154_0 x.1 x.2.1 x.2.2.1 x.2.2.2.1⟩ :=
  sem_of (hTT hT) hga154 hmix (step := fun (x : SigT sg154_0) => r154_0 x.1 x.2.1 x.2.2.1 x.2.2.2.1) t154_0 (loopsOK_all [] (by kernel_rfl) trivial)
theorem ok154 : SuOK Tryz.prog 154 s154 :=
  fn_ok (E := E154) (hTT hT) hga154 hmix (fn := Tryz.f154) (c := (bodyOf Tryz.f154)) (by kernel_rfl) (by kernel_rfl) (by kernel_rfl) rfl (loopsOK_all [(0, .loop (loopOf 0 (bodyOf Tryz.f154)))] (by kernel_rfl) ⟨semL rfl L154_0, trivial⟩) fun x y h => ⟨y.1, fun _ => rfl, (t154 x).trans h⟩


/- (loop.example/g00735/impl.Acct).copied -/
noncomputable def g126 (p0 : ((List UInt8) × Int × Int × Int × Int × (List R74) × Int × Int × (List R3) × (List R3) × (List R118) × Unit)) : Option (Unit × (((List UInt8) × Int × Int × Int × Int × (List R74) × Int × Int × (List R3) × (List R3) × (List R118) × Unit) × Unit)) :=
  Option.bind (g120 p0.2.2.2.2.2.1) fun y1 =>
  Option.bind (g97 (p0.2.2.2.2.2.2.1, p0.2.2.2.2.2.2.2.1, p0.2.2.2.2.2.2.2.2.1, p0.2.2.2.2.2.2.2.2.2.1, ())) fun y2 =>
  Option.bind (g154 p0.2.2.2.2.2.2.2.2.2.2.1) fun y3 =>
  some ((), ((p0.1, p0.2.1, p0.2.2.1, p0.2.2.2.1, p0.2.2.2.2.1, y1.2.1.1, y2.2.1.1, y2.2.1.2.1, y2.2.1.2.2.1, y2.2.1.2.2.2.1, y3.2.1.1, ()), ()))
noncomputable def s126 : Su := ⟨[.c true [.str, .int .i64, .int .i64, .int .i64, .int .i64, .sl 74 kk74, .int .i64, .int .i64, .sl 3 kk3, .sl 3 kk3, .sl 118 kk118]], [(true, [.str, .int .i64, .int .i64, .int .i64, .int .i64, .sl 74 kk74, .int .i64, .int .i64, .sl 3 kk3, .sl 3 kk3, .sl 118 kk118])], true, .inl fun x => g126 x.1⟩
def rh126 : List SE := []
noncomputable def lo126 : Nat → Option (Lo rh126)
  | _ => none
noncomputable def ga126 : List (Nat × Su) := [(120, s120), (97, s97), (154, s154)]
noncomputable def E126 : En := ⟨16, tt, gaOf ga126, rh126, lo126, [], fun _ => none⟩
theorem t126 (x : PT s126.ps) : (fnT E126 (bodyOf Tryz.f126) Tryz.f126.results.toList s126.ps s126.rs true x).run = g126 x.1 := by kernel_rfl
theorem hga126 : GAok Tryz.prog E126 := gaok_of (l := ga126) ⟨ok120, ok97, ok154, trivial⟩
theorem ok126 : SuOK Tryz.prog 126 s126 :=
  fn_ok (E := E126) (hTT hT) hga126 hmix (fn := Tryz.f126) (c := (bodyOf Tryz.f126)) (by kernel_rfl) (by kernel_rfl) (by kernel_rfl) rfl (loopsOK_all [] (by kernel_rfl) trivial) fun x y h => ⟨y.1, fun _ => rfl, (t126 x).trans h⟩


/- loop.example/g00735/impl.Spread -/
noncomputable def r64_0 (t1 : Int) (t5 : (List R136)) (t18 : Int) (t19 : Int) (b2 : ((List R34) × Unit)) : Option (Sum (Int × (List R136) × Int × Int × ((List R34) × Unit) × Unit) (Sum (Int × (List R136) × Int × Int × ((List R34) × Unit) × Unit) Unit)) :=
  cond (ltI t19 t18) (
    cond (fitB 32 t5 [((-1), [], ())]) (
    some (.inl (t1, (apL t5 [((-1), [], ())]), t18, (addW .i64 t19 1), b2, ()))
    ) none
  ) (
    some (.inr (.inl (t1, t5, t18, t19, b2, ())))
  )
noncomputable def l64_0 (t1 : Int) (t5 : (List R136)) (t18 : Int) (t19 : Int) (b2 : ((List R34) × Unit)) : Option (Sum (Int × (List R136) × Int × Int × ((List R34) × Unit) × Unit) Unit) := loopF (fun (x : (Int × (List R136) × Int × Int × ((List R34) × Unit) × Unit)) => r64_0 x.1 x.2.1 x.2.2.1 x.2.2.2.1 x.2.2.2.2.1) (t1, t5, t18, t19, b2, ())
noncomputable def r64_2 (t1 : Int) (t5 : (List R136)) (t27 : (List R34)) (t28 : Int) (t29 : Int) : Option (Sum (Int × (List R136) × (List R34) × Int × Int × Unit) (Sum (Int × (List R136) × (List R34) × Int × Int × Unit) Unit)) :=
  cond (ltI t29 t28) (
    cond (inB t29 t27) (
    let u1 := (gt d34 t27 t29)
    Option.bind (g125 u1.1 t1) fun y1 =>
    cond (inB y1.2.1.1 t5) (
    Option.bind (g126 u1) fun y2 =>
    let u2 := (gt d136 t5 y1.2.1.1)
    cond (fitB 160 u2.2.1 [y2.2.1]) (
    cond (atB y1.2.1.1 t5 y1.2.1.1) (
    some (.inl (t1, (stI t5 y1.2.1.1 (u2.1, (apL u2.2.1 [y2.2.1]), ())), t27, t28, (addW .i64 t29 1), ()))
    ) none
    ) none
    ) none
    ) none
  ) (
    some (.inr (.inl (t1, t5, t27, t28, t29, ())))
  )
noncomputable def l64_2 (t1 : Int) (t5 : (List R136)) (t27 : (List R34)) (t28 : Int) (t29 : Int) : Option (Sum (Int × (List R136) × (List R34) × Int × Int × Unit) Unit) := loopF (fun (x : (Int × (List R136) × (List R34) × Int × Int × Unit)) => r64_2 x.1 x.2.1 x.2.2.1 x.2.2.2.1 x.2.2.2.2.1) (t1, t5, t27, t28, t29, ())
noncomputable def g64 (p0 : ((List R34) × Unit)) (p1 : Int) : Option (Unit × (((List R136) × Unit) × Unit)) :=
  Option.bind (g124 p0) fun y1 =>
  cond (!y1.2.1.1) (
    some ((), (([], ()), ()))
  ) (
    Option.bind (g73 p1 1 5) fun y2 =>
    cond (!y2.2.1.1) (
      some ((), (([], ()), ()))
    ) (
      Option.bind (l64_0 p1 [] p1 0 p0) (Sum.elim (fun y3 =>
        Option.bind (l64_2 y3.1 y3.2.1 y3.2.2.2.2.1.1 (lenI y3.2.2.2.2.1.1) 0) (Sum.elim (fun y4 =>
          some ((), ((y4.2.1, ()), ()))
        ) (fun y4 =>
          none
        ))
      ) (fun y3 =>
        none
      ))
    )
  )
noncomputable def s64 : Su := ⟨[.c true [.sl 34 kk34], .c false [.int .i64]], [(false, [.sl 136 kk136])], true, .inl fun x => g64 x.1 x.2.1.1⟩
def sg64_0 : List SE := [.d 1 (.int .i64), .own 5 (.sl 136 kk136), .d 18 (.int .i64), .d 19 (.int .i64), .box 2 [(false, .sl 34 kk34)]]
def sg64_2 : List SE := [.d 1 (.int .i64), .own 5 (.sl 136 kk136), .d 27 (.sl 34 kk34), .d 28 (.int .i64), .d 29 (.int .i64)]
def rh64 : List SE := []
noncomputable def lo64 : Nat → Option (Lo rh64)
  | 0 => some ⟨sg64_0, fun x => l64_0 x.1 x.2.1 x.2.2.1 x.2.2.2.1 x.2.2.2.2.1⟩
  | 2 => some ⟨sg64_2, fun x => l64_2 x.1 x.2.1 x.2.2.1 x.2.2.2.1 x.2.2.2.2.1⟩
  | _ => none
noncomputable def ga64 : List (Nat × Su) := [(73, s73), (124, s124), (125, s125), (126, s126)]
noncomputable def EL64 : En := ⟨52, tt, gaOf ga64, rh64, lo64, [], fun _ => none⟩
noncomputable def rg64 : Nat → Option (St → Tr St)
  | 12 => some (appT EL64 (opsOf (regOf 12 (bodyOf Tryz.f64))) [(10, 0), (10, 1)] 10)
  | _ => none
noncomputable def E64 : En := ⟨52, tt, gaOf ga64, rh64, lo64, [], rg64⟩
theorem t64_0 (x : SigT sg64_0) : (roundT E64 0 sg64_0 (loopOf 0 (bodyOf Tryz.f64)) x).run = r64_0 x.1 x.2.1 x.2.2.1 x.2.2.2.1 x.2.2.2.2.1 := by kernel_rfl
theorem t64_2 (x : SigT sg64_2) : (roundT E64 2 sg64_2 (loopOf 2 (bodyOf Tryz.f64)) x).run = r64_2 x.1 x.2.1 x.2.2.1 x.2.2.2.1 x.2.2.2.2.1 := by kernel_rfl
theorem t64 (x : PT s64.ps) : (fnT E64 (bodyOf Tryz.f64) Tryz.f64.results.toList s64.ps s64.rs true x).run = g64 x.1 x.2.1.1 := by kernel_rfl
theorem hga64 : GAok Tryz.prog E64 := gaok_of (l := ga64) ⟨ok73, ok124, ok125, ok126, trivial⟩
theorem hgaL64_12 : GAok Tryz.prog EL64 := gaok_of (l := ga64) ⟨ok73, ok124, ok125, ok126, trivial⟩
theorem R64_12 : RegSem Tryz.prog E64 (regOf 12 (bodyOf Tryz.f64)) (appT EL64 (opsOf (regOf 12 (bodyOf Tryz.f64))) [(10, 0), (10, 1)] 10) :=
  regSem_rg rfl rfl (app_of (E := EL64) (hTT hT) hgaL64_12 hmix (c := (regOf 12 (bodyOf Tryz.f64))) (id := 12) (by kernel_rfl))
theorem L64_0 : LoopSem Tryz.prog E64 0 (.loop (loopOf 0 (bodyOf Tryz.f64))) ⟨sg64_0, fun x => l64_0 x.1 x.2.1 x.2.2.1 x.2.2.2.1 x.2.2.2.2.1⟩ :=
  sem_of (hTT hT) hga64 hmix (step := fun (x : SigT sg64_0) => r64_0 x.1 x.2.1 x.2.2.1 x.2.2.2.1 x.2.2.2.2.1) t64_0 (loopsOK_reg [] (by kernel_rfl) trivial [] (by kernel_rfl) trivial)
theorem L64_2 : LoopSem Tryz.prog E64 2 (.loop (loopOf 2 (bodyOf Tryz.f64))) ⟨sg64_2, fun x => l64_2 x.1 x.2.1 x.2.2.1 x.2.2.2.1 x.2.2.2.2.1⟩ :=
  sem_of (hTT hT) hga64 hmix (step := fun (x : SigT sg64_2) => r64_2 x.1 x.2.1 x.2.2.1 x.2.2.2.1 x.2.2.2.2.1) t64_2 (loopsOK_reg [] (by kernel_rfl) trivial [(12, regOf 12 (bodyOf Tryz.f64))] (by kernel_rfl) ⟨regL rfl R64_12, trivial⟩)
theorem ok64 : SuOK Tryz.prog 64 s64 :=
  fn_ok (E := E64) (hTT hT) hga64 hmix (fn := Tryz.f64) (c := (bodyOf Tryz.f64)) (by kernel_rfl) (by kernel_rfl) (by kernel_rfl) rfl (loopsOK_reg [(0, .loop (loopOf 0 (bodyOf Tryz.f64))), (2, .loop (loopOf 2 (bodyOf Tryz.f64)))] (by kernel_rfl) ⟨semL rfl L64_0, semL rfl L64_2, trivial⟩ [] (by kernel_rfl) trivial) fun x y h => ⟨y.1, fun _ => rfl, (t64 x).trans h⟩


/- loop.example/g00735/impl.WorldNew -/
noncomputable def g19 (p0 : ((List R34) × Unit)) (p1 : Int) : Option (Unit × (((List R136) × Int × Int × (List R142) × Unit) × (Bool × Unit) × Unit)) :=
  Option.bind (g64 p0 p1) fun y1 =>
  cond (eqI (lenI y1.2.1.1) 0) (
    some ((), (([], 0, 0, [], ()), (false, ()), ()))
  ) (
    some ((), ((y1.2.1.1, 0, 0, [], ()), (true, ()), ()))
  )
noncomputable def s19 : Su := ⟨[.c true [.sl 34 kk34], .c false [.int .i64]], [(true, [.sl 136 kk136, .int .i64, .int .i64, .sl 142 kk142]), (false, [.bool])], true, .inl fun x => g19 x.1 x.2.1.1⟩
def rh19 : List SE := []
noncomputable def lo19 : Nat → Option (Lo rh19)
  | _ => none
noncomputable def ga19 : List (Nat × Su) := [(64, s64)]
noncomputable def E19 : En := ⟨16, tt, gaOf ga19, rh19, lo19, [], fun _ => none⟩
theorem t19 (x : PT s19.ps) : (fnT E19 (bodyOf Tryz.f19) Tryz.f19.results.toList s19.ps s19.rs true x).run = g19 x.1 x.2.1.1 := by kernel_rfl
theorem hga19 : GAok Tryz.prog E19 := gaok_of (l := ga19) ⟨ok64, trivial⟩
theorem ok19 : SuOK Tryz.prog 19 s19 :=
  fn_ok (E := E19) (hTT hT) hga19 hmix (fn := Tryz.f19) (c := (bodyOf Tryz.f19)) (by kernel_rfl) (by kernel_rfl) (by kernel_rfl) rfl (loopsOK_all [] (by kernel_rfl) trivial) fun x y h => ⟨y.1, fun _ => rfl, (t19 x).trans h⟩


/- loop.example/g00735/laws.eqHold -/
noncomputable def g99 (p0 : ((List UInt8) × Int × Int × Unit)) (p1 : ((List UInt8) × Int × Int × Unit)) : Option (Unit × ((Bool × Unit) × Unit)) :=
  cond (!(eqS p0.1 p1.1)) (
    some ((), ((false, ()), ()))
  ) (
    cond (!(eqI p0.2.1 p1.2.1)) (
      some ((), ((false, ()), ()))
    ) (
      cond (!(eqI p0.2.2.1 p1.2.2.1)) (
        some ((), ((false, ()), ()))
      ) (
        some ((), ((true, ()), ()))
      )
    )
  )
noncomputable def s99 : Su := ⟨[.c true [.str, .int .i64, .int .i64], .c true [.str, .int .i64, .int .i64]], [(false, [.bool])], true, .inl fun x => g99 x.1 x.2.1⟩
def rh99 : List SE := []
noncomputable def lo99 : Nat → Option (Lo rh99)
  | _ => none
noncomputable def ga99 : List (Nat × Su) := []
noncomputable def E99 : En := ⟨20, tt, gaOf ga99, rh99, lo99, [], fun _ => none⟩
theorem t99 (x : PT s99.ps) : (fnT E99 (bodyOf Tryz.f99) Tryz.f99.results.toList s99.ps s99.rs true x).run = g99 x.1 x.2.1 := by kernel_rfl
theorem hga99 : GAok Tryz.prog E99 := gaok_of (l := ga99) trivial
theorem ok99 : SuOK Tryz.prog 99 s99 :=
  fn_ok (E := E99) (hTT hT) hga99 hmix (fn := Tryz.f99) (c := (bodyOf Tryz.f99)) (by kernel_rfl) (by kernel_rfl) (by kernel_rfl) rfl (loopsOK_all [] (by kernel_rfl) trivial) fun x y h => ⟨y.1, fun _ => rfl, (t99 x).trans h⟩


/- loop.example/g00735/laws.eqHoldS -/
noncomputable def r42_0 (t0 : (List R74)) (t1 : (List R74)) (t5 : Int) : Option (Sum ((List R74) × (List R74) × Int × Unit) (Sum ((List R74) × (List R74) × Int × Unit) (Bool × Unit))) :=
  cond (ltI t5 (lenI t0)) (
    cond (inB t5 t0) (
    cond (inB t5 t1) (
    Option.bind (g99 (gt d74 t0 t5) (gt d74 t1 t5)) fun y1 =>
    cond (!y1.2.1.1) (
      some (.inr (.inr (false, ())))
    ) (
      some (.inl (t0, t1, (addW .i64 t5 1), ()))
    )
    ) none
    ) none
  ) (
    some (.inr (.inl (t0, t1, t5, ())))
  )
noncomputable def l42_0 (t0 : (List R74)) (t1 : (List R74)) (t5 : Int) : Option (Sum ((List R74) × (List R74) × Int × Unit) (Bool × Unit)) := loopF (fun (x : ((List R74) × (List R74) × Int × Unit)) => r42_0 x.1 x.2.1 x.2.2.1) (t0, t1, t5, ())
noncomputable def g42 (p0 : (List R74)) (p1 : (List R74)) : Option (Unit × ((Bool × Unit) × Unit)) :=
  cond (!(eqI (lenI p0) (lenI p1))) (
    some ((), ((false, ()), ()))
  ) (
    Option.bind (l42_0 p0 p1 0) (Sum.elim (fun y1 =>
      some ((), ((true, ()), ()))
    ) (fun y1 =>
      some ((), (y1, ()))
    ))
  )
noncomputable def s42 : Su := ⟨[.c false [.sl 74 kk74], .c false [.sl 74 kk74]], [(false, [.bool])], true, .inl fun x => g42 x.1.1 x.2.1.1⟩
def sg42_0 : List SE := [.d 0 (.sl 74 kk74), .d 1 (.sl 74 kk74), .d 5 (.int .i64)]
def rh42 : List SE := [.d 4 (.bool)]
noncomputable def lo42 : Nat → Option (Lo rh42)
  | 0 => some ⟨sg42_0, fun x => l42_0 x.1 x.2.1 x.2.2.1⟩
  | _ => none
noncomputable def ga42 : List (Nat × Su) := [(99, s99)]
noncomputable def E42 : En := ⟨27, tt, gaOf ga42, rh42, lo42, [], fun _ => none⟩
theorem t42_0 (x : SigT sg42_0) : (roundT E42 0 sg42_0 (loopOf 0 (bodyOf Tryz.f42)) x).run = r42_0 x.1 x.2.1 x.2.2.1 := by kernel_rfl
theorem t42 (x : PT s42.ps) : (fnT E42 (bodyOf Tryz.f42) Tryz.f42.results.toList s42.ps s42.rs true x).run = g42 x.1.1 x.2.1.1 := by kernel_rfl
theorem hga42 : GAok Tryz.prog E42 := gaok_of (l := ga42) ⟨ok99, trivial⟩
theorem L42_0 : LoopSem Tryz.prog E42 0 (.loop (loopOf 0 (bodyOf Tryz.f42))) ⟨sg42_0, fun x => l42_0 x.1 x.2.1 x.2.2.1⟩ :=
  sem_of (hTT hT) hga42 hmix (step := fun (x : SigT sg42_0) => r42_0 x.1 x.2.1 x.2.2.1) t42_0 (loopsOK_all [] (by kernel_rfl) trivial)
theorem ok42 : SuOK Tryz.prog 42 s42 :=
  fn_ok (E := E42) (hTT hT) hga42 hmix (fn := Tryz.f42) (c := (bodyOf Tryz.f42)) (by kernel_rfl) (by kernel_rfl) (by kernel_rfl) rfl (loopsOK_all [(0, .loop (loopOf 0 (bodyOf Tryz.f42)))] (by kernel_rfl) ⟨semL rfl L42_0, trivial⟩) fun x y h => ⟨y.1, fun _ => rfl, (t42 x).trans h⟩


/- loop.example/g00735/laws.eqIntS -/
noncomputable def r100_0 (t0 : (List R3)) (t1 : (List R3)) (t5 : Int) : Option (Sum ((List R3) × (List R3) × Int × Unit) (Sum ((List R3) × (List R3) × Int × Unit) (Bool × Unit))) :=
  cond (ltI t5 (lenI t0)) (
    cond (inB t5 t0) (
    cond (inB t5 t1) (
    cond (!(eqI (gt d3 t0 t5).1 (gt d3 t1 t5).1)) (
      some (.inr (.inr (false, ())))
    ) (
      some (.inl (t0, t1, (addW .i64 t5 1), ()))
    )
    ) none
    ) none
  ) (
    some (.inr (.inl (t0, t1, t5, ())))
  )
noncomputable def l100_0 (t0 : (List R3)) (t1 : (List R3)) (t5 : Int) : Option (Sum ((List R3) × (List R3) × Int × Unit) (Bool × Unit)) := loopF (fun (x : ((List R3) × (List R3) × Int × Unit)) => r100_0 x.1 x.2.1 x.2.2.1) (t0, t1, t5, ())
noncomputable def g100 (p0 : (List R3)) (p1 : (List R3)) : Option (Unit × ((Bool × Unit) × Unit)) :=
  cond (!(eqI (lenI p0) (lenI p1))) (
    some ((), ((false, ()), ()))
  ) (
    Option.bind (l100_0 p0 p1 0) (Sum.elim (fun y1 =>
      some ((), ((true, ()), ()))
    ) (fun y1 =>
      some ((), (y1, ()))
    ))
  )
noncomputable def s100 : Su := ⟨[.c false [.sl 3 kk3], .c false [.sl 3 kk3]], [(false, [.bool])], true, .inl fun x => g100 x.1.1 x.2.1.1⟩
def sg100_0 : List SE := [.d 0 (.sl 3 kk3), .d 1 (.sl 3 kk3), .d 5 (.int .i64)]
def rh100 : List SE := [.d 4 (.bool)]
noncomputable def lo100 : Nat → Option (Lo rh100)
  | 0 => some ⟨sg100_0, fun x => l100_0 x.1 x.2.1 x.2.2.1⟩
  | _ => none
noncomputable def ga100 : List (Nat × Su) := []
noncomputable def E100 : En := ⟨26, tt, gaOf ga100, rh100, lo100, [], fun _ => none⟩
theorem t100_0 (x : SigT sg100_0) : (roundT E100 0 sg100_0 (loopOf 0 (bodyOf Tryz.f100)) x).run = r100_0 x.1 x.2.1 x.2.2.1 := by kernel_rfl
theorem t100 (x : PT s100.ps) : (fnT E100 (bodyOf Tryz.f100) Tryz.f100.results.toList s100.ps s100.rs true x).run = g100 x.1.1 x.2.1.1 := by kernel_rfl
theorem hga100 : GAok Tryz.prog E100 := gaok_of (l := ga100) trivial
theorem L100_0 : LoopSem Tryz.prog E100 0 (.loop (loopOf 0 (bodyOf Tryz.f100))) ⟨sg100_0, fun x => l100_0 x.1 x.2.1 x.2.2.1⟩ :=
  sem_of (hTT hT) hga100 hmix (step := fun (x : SigT sg100_0) => r100_0 x.1 x.2.1 x.2.2.1) t100_0 (loopsOK_all [] (by kernel_rfl) trivial)
theorem ok100 : SuOK Tryz.prog 100 s100 :=
  fn_ok (E := E100) (hTT hT) hga100 hmix (fn := Tryz.f100) (c := (bodyOf Tryz.f100)) (by kernel_rfl) (by kernel_rfl) (by kernel_rfl) rfl (loopsOK_all [(0, .loop (loopOf 0 (bodyOf Tryz.f100)))] (by kernel_rfl) ⟨semL rfl L100_0, trivial⟩) fun x y h => ⟨y.1, fun _ => rfl, (t100 x).trans h⟩


/- loop.example/g00735/laws.eqRing -/
noncomputable def g43 (p0 : (Int × Int × (List R3) × (List R3) × Unit)) (p1 : (Int × Int × (List R3) × (List R3) × Unit)) : Option (Unit × ((Bool × Unit) × Unit)) :=
  cond (!(eqI p0.1 p1.1)) (
    some ((), ((false, ()), ()))
  ) (
    cond (!(eqI p0.2.1 p1.2.1)) (
      some ((), ((false, ()), ()))
    ) (
      Option.bind (g100 p0.2.2.1 p1.2.2.1) fun y1 =>
      cond (!y1.2.1.1) (
        some ((), ((false, ()), ()))
      ) (
        Option.bind (g100 p0.2.2.2.1 p1.2.2.2.1) fun y2 =>
        cond (!y2.2.1.1) (
          some ((), ((false, ()), ()))
        ) (
          some ((), ((true, ()), ()))
        )
      )
    )
  )
noncomputable def s43 : Su := ⟨[.c true [.int .i64, .int .i64, .sl 3 kk3, .sl 3 kk3], .c true [.int .i64, .int .i64, .sl 3 kk3, .sl 3 kk3]], [(false, [.bool])], true, .inl fun x => g43 x.1 x.2.1⟩
def rh43 : List SE := []
noncomputable def lo43 : Nat → Option (Lo rh43)
  | _ => none
noncomputable def ga43 : List (Nat × Su) := [(100, s100)]
noncomputable def E43 : En := ⟨27, tt, gaOf ga43, rh43, lo43, [], fun _ => none⟩
theorem t43 (x : PT s43.ps) : (fnT E43 (bodyOf Tryz.f43) Tryz.f43.results.toList s43.ps s43.rs true x).run = g43 x.1 x.2.1 := by kernel_rfl
theorem hga43 : GAok Tryz.prog E43 := gaok_of (l := ga43) ⟨ok100, trivial⟩
theorem ok43 : SuOK Tryz.prog 43 s43 :=
  fn_ok (E := E43) (hTT hT) hga43 hmix (fn := Tryz.f43) (c := (bodyOf Tryz.f43)) (by kernel_rfl) (by kernel_rfl) (by kernel_rfl) rfl (loopsOK_all [] (by kernel_rfl) trivial) fun x y h => ⟨y.1, fun _ => rfl, (t43 x).trans h⟩


/- loop.example/g00735/laws.eqByteS -/
noncomputable def r141_0 (t0 : (List R5)) (t1 : (List R5)) (t5 : Int) : Option (Sum ((List R5) × (List R5) × Int × Unit) (Sum ((List R5) × (List R5) × Int × Unit) (Bool × Unit))) :=
  cond (ltI t5 (lenI t0)) (
    cond (inB t5 t0) (
    cond (inB t5 t1) (
    cond (!(eqI (gt d5 t0 t5).1 (gt d5 t1 t5).1)) (
      some (.inr (.inr (false, ())))
    ) (
      some (.inl (t0, t1, (addW .i64 t5 1), ()))
    )
    ) none
    ) none
  ) (
    some (.inr (.inl (t0, t1, t5, ())))
  )
noncomputable def l141_0 (t0 : (List R5)) (t1 : (List R5)) (t5 : Int) : Option (Sum ((List R5) × (List R5) × Int × Unit) (Bool × Unit)) := loopF (fun (x : ((List R5) × (List R5) × Int × Unit)) => r141_0 x.1 x.2.1 x.2.2.1) (t0, t1, t5, ())
noncomputable def g141 (p0 : (List R5)) (p1 : (List R5)) : Option (Unit × ((Bool × Unit) × Unit)) :=
  cond (!(eqI (lenI p0) (lenI p1))) (
    some ((), ((false, ()), ()))
  ) (
    Option.bind (l141_0 p0 p1 0) (Sum.elim (fun y1 =>
      some ((), ((true, ()), ()))
    ) (fun y1 =>
      some ((), (y1, ()))
    ))
  )
noncomputable def s141 : Su := ⟨[.c false [.sl 5 kk5], .c false [.sl 5 kk5]], [(false, [.bool])], true, .inl fun x => g141 x.1.1 x.2.1.1⟩
def sg141_0 : List SE := [.d 0 (.sl 5 kk5), .d 1 (.sl 5 kk5), .d 5 (.int .i64)]
def rh141 : List SE := [.d 4 (.bool)]
noncomputable def lo141 : Nat → Option (Lo rh141)
  | 0 => some ⟨sg141_0, fun x => l141_0 x.1 x.2.1 x.2.2.1⟩
  | _ => none
noncomputable def ga141 : List (Nat × Su) := []
noncomputable def E141 : En := ⟨26, tt, gaOf ga141, rh141, lo141, [], fun _ => none⟩
theorem t141_0 (x : SigT sg141_0) : (roundT E141 0 sg141_0 (loopOf 0 (bodyOf Tryz.f141)) x).run = r141_0 x.1 x.2.1 x.2.2.1 := by kernel_rfl
theorem t141 (x : PT s141.ps) : (fnT E141 (bodyOf Tryz.f141) Tryz.f141.results.toList s141.ps s141.rs true x).run = g141 x.1.1 x.2.1.1 := by kernel_rfl
theorem hga141 : GAok Tryz.prog E141 := gaok_of (l := ga141) trivial
theorem L141_0 : LoopSem Tryz.prog E141 0 (.loop (loopOf 0 (bodyOf Tryz.f141))) ⟨sg141_0, fun x => l141_0 x.1 x.2.1 x.2.2.1⟩ :=
  sem_of (hTT hT) hga141 hmix (step := fun (x : SigT sg141_0) => r141_0 x.1 x.2.1 x.2.2.1) t141_0 (loopsOK_all [] (by kernel_rfl) trivial)
theorem ok141 : SuOK Tryz.prog 141 s141 :=
  fn_ok (E := E141) (hTT hT) hga141 hmix (fn := Tryz.f141) (c := (bodyOf Tryz.f141)) (by kernel_rfl) (by kernel_rfl) (by kernel_rfl) rfl (loopsOK_all [(0, .loop (loopOf 0 (bodyOf Tryz.f141)))] (by kernel_rfl) ⟨semL rfl L141_0, trivial⟩) fun x y h => ⟨y.1, fun _ => rfl, (t141 x).trans h⟩


/- loop.example/g00735/laws.eqSlot -/
noncomputable def g101 (p0 : ((List UInt8) × (List UInt8) × (List R5) × Unit)) (p1 : ((List UInt8) × (List UInt8) × (List R5) × Unit)) : Option (Unit × ((Bool × Unit) × Unit)) :=
  cond (!(eqS p0.1 p1.1)) (
    some ((), ((false, ()), ()))
  ) (
    cond (!(eqS p0.2.1 p1.2.1)) (
      some ((), ((false, ()), ()))
    ) (
      Option.bind (g141 p0.2.2.1 p1.2.2.1) fun y1 =>
      cond (!y1.2.1.1) (
        some ((), ((false, ()), ()))
      ) (
        some ((), ((true, ()), ()))
      )
    )
  )
noncomputable def s101 : Su := ⟨[.c true [.str, .str, .sl 5 kk5], .c true [.str, .str, .sl 5 kk5]], [(false, [.bool])], true, .inl fun x => g101 x.1 x.2.1⟩
def rh101 : List SE := []
noncomputable def lo101 : Nat → Option (Lo rh101)
  | _ => none
noncomputable def ga101 : List (Nat × Su) := [(141, s141)]
noncomputable def E101 : En := ⟨21, tt, gaOf ga101, rh101, lo101, [], fun _ => none⟩
theorem t101 (x : PT s101.ps) : (fnT E101 (bodyOf Tryz.f101) Tryz.f101.results.toList s101.ps s101.rs true x).run = g101 x.1 x.2.1 := by kernel_rfl
theorem hga101 : GAok Tryz.prog E101 := gaok_of (l := ga101) ⟨ok141, trivial⟩
theorem ok101 : SuOK Tryz.prog 101 s101 :=
  fn_ok (E := E101) (hTT hT) hga101 hmix (fn := Tryz.f101) (c := (bodyOf Tryz.f101)) (by kernel_rfl) (by kernel_rfl) (by kernel_rfl) rfl (loopsOK_all [] (by kernel_rfl) trivial) fun x y h => ⟨y.1, fun _ => rfl, (t101 x).trans h⟩


/- loop.example/g00735/laws.eqSlotS -/
noncomputable def r44_0 (t0 : (List R118)) (t1 : (List R118)) (t5 : Int) : Option (Sum ((List R118) × (List R118) × Int × Unit) (Sum ((List R118) × (List R118) × Int × Unit) (Bool × Unit))) :=
  cond (ltI t5 (lenI t0)) (
    cond (inB t5 t0) (
    cond (inB t5 t1) (
    Option.bind (g101 (gt d118 t0 t5) (gt d118 t1 t5)) fun y1 =>
    cond (!y1.2.1.1) (
      some (.inr (.inr (false, ())))
    ) (
      some (.inl (t0, t1, (addW .i64 t5 1), ()))
    )
    ) none
    ) none
  ) (
    some (.inr (.inl (t0, t1, t5, ())))
  )
noncomputable def l44_0 (t0 : (List R118)) (t1 : (List R118)) (t5 : Int) : Option (Sum ((List R118) × (List R118) × Int × Unit) (Bool × Unit)) := loopF (fun (x : ((List R118) × (List R118) × Int × Unit)) => r44_0 x.1 x.2.1 x.2.2.1) (t0, t1, t5, ())
noncomputable def g44 (p0 : (List R118)) (p1 : (List R118)) : Option (Unit × ((Bool × Unit) × Unit)) :=
  cond (!(eqI (lenI p0) (lenI p1))) (
    some ((), ((false, ()), ()))
  ) (
    Option.bind (l44_0 p0 p1 0) (Sum.elim (fun y1 =>
      some ((), ((true, ()), ()))
    ) (fun y1 =>
      some ((), (y1, ()))
    ))
  )
noncomputable def s44 : Su := ⟨[.c false [.sl 118 kk118], .c false [.sl 118 kk118]], [(false, [.bool])], true, .inl fun x => g44 x.1.1 x.2.1.1⟩
def sg44_0 : List SE := [.d 0 (.sl 118 kk118), .d 1 (.sl 118 kk118), .d 5 (.int .i64)]
def rh44 : List SE := [.d 4 (.bool)]
noncomputable def lo44 : Nat → Option (Lo rh44)
  | 0 => some ⟨sg44_0, fun x => l44_0 x.1 x.2.1 x.2.2.1⟩
  | _ => none
noncomputable def ga44 : List (Nat × Su) := [(101, s101)]
noncomputable def E44 : En := ⟨27, tt, gaOf ga44, rh44, lo44, [], fun _ => none⟩
theorem t44_0 (x : SigT sg44_0) : (roundT E44 0 sg44_0 (loopOf 0 (bodyOf Tryz.f44)) x).run = r44_0 x.1 x.2.1 x.2.2.1 := by kernel_rfl
theorem t44 (x : PT s44.ps) : (fnT E44 (bodyOf Tryz.f44) Tryz.f44.results.toList s44.ps s44.rs true x).run = g44 x.1.1 x.2.1.1 := by kernel_rfl
theorem hga44 : GAok Tryz.prog E44 := gaok_of (l := ga44) ⟨ok101, trivial⟩
theorem L44_0 : LoopSem Tryz.prog E44 0 (.loop (loopOf 0 (bodyOf Tryz.f44))) ⟨sg44_0, fun x => l44_0 x.1 x.2.1 x.2.2.1⟩ :=
  sem_of (hTT hT) hga44 hmix (step := fun (x : SigT sg44_0) => r44_0 x.1 x.2.1 x.2.2.1) t44_0 (loopsOK_all [] (by kernel_rfl) trivial)
theorem ok44 : SuOK Tryz.prog 44 s44 :=
  fn_ok (E := E44) (hTT hT) hga44 hmix (fn := Tryz.f44) (c := (bodyOf Tryz.f44)) (by kernel_rfl) (by kernel_rfl) (by kernel_rfl) rfl (loopsOK_all [(0, .loop (loopOf 0 (bodyOf Tryz.f44)))] (by kernel_rfl) ⟨semL rfl L44_0, trivial⟩) fun x y h => ⟨y.1, fun _ => rfl, (t44 x).trans h⟩


/- loop.example/g00735/laws.eqAcct -/
noncomputable def g11 (p0 : ((List UInt8) × Int × Int × Int × Int × (List R74) × Int × Int × (List R3) × (List R3) × (List R118) × Unit)) (p1 : ((List UInt8) × Int × Int × Int × Int × (List R74) × Int × Int × (List R3) × (List R3) × (List R118) × Unit)) : Option (Unit × ((Bool × Unit) × Unit)) :=
  cond (!(eqS p0.1 p1.1)) (
    some ((), ((false, ()), ()))
  ) (
    cond (!(eqI p0.2.1 p1.2.1)) (
      some ((), ((false, ()), ()))
    ) (
      cond (!(eqI p0.2.2.1 p1.2.2.1)) (
        some ((), ((false, ()), ()))
      ) (
        cond (!(eqI p0.2.2.2.1 p1.2.2.2.1)) (
          some ((), ((false, ()), ()))
        ) (
          cond (!(eqI p0.2.2.2.2.1 p1.2.2.2.2.1)) (
            some ((), ((false, ()), ()))
          ) (
            Option.bind (g42 p0.2.2.2.2.2.1 p1.2.2.2.2.2.1) fun y1 =>
            cond (!y1.2.1.1) (
              some ((), ((false, ()), ()))
            ) (
              Option.bind (g43 (p0.2.2.2.2.2.2.1, p0.2.2.2.2.2.2.2.1, p0.2.2.2.2.2.2.2.2.1, p0.2.2.2.2.2.2.2.2.2.1, ()) (p1.2.2.2.2.2.2.1, p1.2.2.2.2.2.2.2.1, p1.2.2.2.2.2.2.2.2.1, p1.2.2.2.2.2.2.2.2.2.1, ())) fun y2 =>
              cond (!y2.2.1.1) (
                some ((), ((false, ()), ()))
              ) (
                Option.bind (g44 p0.2.2.2.2.2.2.2.2.2.2.1 p1.2.2.2.2.2.2.2.2.2.2.1) fun y3 =>
                cond (!y3.2.1.1) (
                  some ((), ((false, ()), ()))
                ) (
                  some ((), ((true, ()), ()))
                )
              )
            )
          )
        )
      )
    )
  )
noncomputable def s11 : Su := ⟨[.c true [.str, .int .i64, .int .i64, .int .i64, .int .i64, .sl 74 kk74, .int .i64, .int .i64, .sl 3 kk3, .sl 3 kk3, .sl 118 kk118], .c true [.str, .int .i64, .int .i64, .int .i64, .int .i64, .sl 74 kk74, .int .i64, .int .i64, .sl 3 kk3, .sl 3 kk3, .sl 118 kk118]], [(false, [.bool])], true, .inl fun x => g11 x.1 x.2.1⟩
def rh11 : List SE := []
noncomputable def lo11 : Nat → Option (Lo rh11)
  | _ => none
noncomputable def ga11 : List (Nat × Su) := [(42, s42), (43, s43), (44, s44)]
noncomputable def E11 : En := ⟨48, tt, gaOf ga11, rh11, lo11, [], fun _ => none⟩
theorem t11 (x : PT s11.ps) : (fnT E11 (bodyOf Tryz.f11) Tryz.f11.results.toList s11.ps s11.rs true x).run = g11 x.1 x.2.1 := by kernel_rfl
theorem hga11 : GAok Tryz.prog E11 := gaok_of (l := ga11) ⟨ok42, ok43, ok44, trivial⟩
theorem ok11 : SuOK Tryz.prog 11 s11 :=
  fn_ok (E := E11) (hTT hT) hga11 hmix (fn := Tryz.f11) (c := (bodyOf Tryz.f11)) (by kernel_rfl) (by kernel_rfl) (by kernel_rfl) rfl (loopsOK_all [] (by kernel_rfl) trivial) fun x y h => ⟨y.1, fun _ => rfl, (t11 x).trans h⟩


/- loop.example/g00735/laws.eqAcctS -/
noncomputable def r67_0 (t0 : (List R34)) (t1 : (List R34)) (t5 : Int) : Option (Sum ((List R34) × (List R34) × Int × Unit) (Sum ((List R34) × (List R34) × Int × Unit) (Bool × Unit))) :=
  cond (ltI t5 (lenI t0)) (
    cond (inB t5 t0) (
    cond (inB t5 t1) (
    Option.bind (g11 (gt d34 t0 t5) (gt d34 t1 t5)) fun y1 =>
    cond (!y1.2.1.1) (
      some (.inr (.inr (false, ())))
    ) (
      some (.inl (t0, t1, (addW .i64 t5 1), ()))
    )
    ) none
    ) none
  ) (
    some (.inr (.inl (t0, t1, t5, ())))
  )
noncomputable def l67_0 (t0 : (List R34)) (t1 : (List R34)) (t5 : Int) : Option (Sum ((List R34) × (List R34) × Int × Unit) (Bool × Unit)) := loopF (fun (x : ((List R34) × (List R34) × Int × Unit)) => r67_0 x.1 x.2.1 x.2.2.1) (t0, t1, t5, ())
noncomputable def g67 (p0 : (List R34)) (p1 : (List R34)) : Option (Unit × ((Bool × Unit) × Unit)) :=
  cond (!(eqI (lenI p0) (lenI p1))) (
    some ((), ((false, ()), ()))
  ) (
    Option.bind (l67_0 p0 p1 0) (Sum.elim (fun y1 =>
      some ((), ((true, ()), ()))
    ) (fun y1 =>
      some ((), (y1, ()))
    ))
  )
noncomputable def s67 : Su := ⟨[.c false [.sl 34 kk34], .c false [.sl 34 kk34]], [(false, [.bool])], true, .inl fun x => g67 x.1.1 x.2.1.1⟩
def sg67_0 : List SE := [.d 0 (.sl 34 kk34), .d 1 (.sl 34 kk34), .d 5 (.int .i64)]
def rh67 : List SE := [.d 4 (.bool)]
noncomputable def lo67 : Nat → Option (Lo rh67)
  | 0 => some ⟨sg67_0, fun x => l67_0 x.1 x.2.1 x.2.2.1⟩
  | _ => none
noncomputable def ga67 : List (Nat × Su) := [(11, s11)]
noncomputable def E67 : En := ⟨27, tt, gaOf ga67, rh67, lo67, [], fun _ => none⟩
theorem t67_0 (x : SigT sg67_0) : (roundT E67 0 sg67_0 (loopOf 0 (bodyOf Tryz.f67)) x).run = r67_0 x.1 x.2.1 x.2.2.1 := by kernel_rfl
theorem t67 (x : PT s67.ps) : (fnT E67 (bodyOf Tryz.f67) Tryz.f67.results.toList s67.ps s67.rs true x).run = g67 x.1.1 x.2.1.1 := by kernel_rfl
theorem hga67 : GAok Tryz.prog E67 := gaok_of (l := ga67) ⟨ok11, trivial⟩
theorem L67_0 : LoopSem Tryz.prog E67 0 (.loop (loopOf 0 (bodyOf Tryz.f67))) ⟨sg67_0, fun x => l67_0 x.1 x.2.1 x.2.2.1⟩ :=
  sem_of (hTT hT) hga67 hmix (step := fun (x : SigT sg67_0) => r67_0 x.1 x.2.1 x.2.2.1) t67_0 (loopsOK_all [] (by kernel_rfl) trivial)
theorem ok67 : SuOK Tryz.prog 67 s67 :=
  fn_ok (E := E67) (hTT hT) hga67 hmix (fn := Tryz.f67) (c := (bodyOf Tryz.f67)) (by kernel_rfl) (by kernel_rfl) (by kernel_rfl) rfl (loopsOK_all [(0, .loop (loopOf 0 (bodyOf Tryz.f67)))] (by kernel_rfl) ⟨semL rfl L67_0, trivial⟩) fun x y h => ⟨y.1, fun _ => rfl, (t67 x).trans h⟩


/- loop.example/g00735/laws.eqStripe -/
noncomputable def g127 (p0 : (Int × (List R34) × Unit)) (p1 : (Int × (List R34) × Unit)) : Option (Unit × ((Bool × Unit) × Unit)) :=
  cond (!(eqI p0.1 p1.1)) (
    some ((), ((false, ()), ()))
  ) (
    Option.bind (g67 p0.2.1 p1.2.1) fun y1 =>
    cond (!y1.2.1.1) (
      some ((), ((false, ()), ()))
    ) (
      some ((), ((true, ()), ()))
    )
  )
noncomputable def s127 : Su := ⟨[.c true [.int .i64, .sl 34 kk34], .c true [.int .i64, .sl 34 kk34]], [(false, [.bool])], true, .inl fun x => g127 x.1 x.2.1⟩
def rh127 : List SE := []
noncomputable def lo127 : Nat → Option (Lo rh127)
  | _ => none
noncomputable def ga127 : List (Nat × Su) := [(67, s67)]
noncomputable def E127 : En := ⟨16, tt, gaOf ga127, rh127, lo127, [], fun _ => none⟩
theorem t127 (x : PT s127.ps) : (fnT E127 (bodyOf Tryz.f127) Tryz.f127.results.toList s127.ps s127.rs true x).run = g127 x.1 x.2.1 := by kernel_rfl
theorem hga127 : GAok Tryz.prog E127 := gaok_of (l := ga127) ⟨ok67, trivial⟩
theorem ok127 : SuOK Tryz.prog 127 s127 :=
  fn_ok (E := E127) (hTT hT) hga127 hmix (fn := Tryz.f127) (c := (bodyOf Tryz.f127)) (by kernel_rfl) (by kernel_rfl) (by kernel_rfl) rfl (loopsOK_all [] (by kernel_rfl) trivial) fun x y h => ⟨y.1, fun _ => rfl, (t127 x).trans h⟩


/- loop.example/g00735/laws.eqStripeS -/
noncomputable def r65_0 (t0 : (List R136)) (t1 : (List R136)) (t5 : Int) : Option (Sum ((List R136) × (List R136) × Int × Unit) (Sum ((List R136) × (List R136) × Int × Unit) (Bool × Unit))) :=
  cond (ltI t5 (lenI t0)) (
    cond (inB t5 t0) (
    cond (inB t5 t1) (
    Option.bind (g127 (gt d136 t0 t5) (gt d136 t1 t5)) fun y1 =>
    cond (!y1.2.1.1) (
      some (.inr (.inr (false, ())))
    ) (
      some (.inl (t0, t1, (addW .i64 t5 1), ()))
    )
    ) none
    ) none
  ) (
    some (.inr (.inl (t0, t1, t5, ())))
  )
noncomputable def l65_0 (t0 : (List R136)) (t1 : (List R136)) (t5 : Int) : Option (Sum ((List R136) × (List R136) × Int × Unit) (Bool × Unit)) := loopF (fun (x : ((List R136) × (List R136) × Int × Unit)) => r65_0 x.1 x.2.1 x.2.2.1) (t0, t1, t5, ())
noncomputable def g65 (p0 : (List R136)) (p1 : (List R136)) : Option (Unit × ((Bool × Unit) × Unit)) :=
  cond (!(eqI (lenI p0) (lenI p1))) (
    some ((), ((false, ()), ()))
  ) (
    Option.bind (l65_0 p0 p1 0) (Sum.elim (fun y1 =>
      some ((), ((true, ()), ()))
    ) (fun y1 =>
      some ((), (y1, ()))
    ))
  )
noncomputable def s65 : Su := ⟨[.c false [.sl 136 kk136], .c false [.sl 136 kk136]], [(false, [.bool])], true, .inl fun x => g65 x.1.1 x.2.1.1⟩
def sg65_0 : List SE := [.d 0 (.sl 136 kk136), .d 1 (.sl 136 kk136), .d 5 (.int .i64)]
def rh65 : List SE := [.d 4 (.bool)]
noncomputable def lo65 : Nat → Option (Lo rh65)
  | 0 => some ⟨sg65_0, fun x => l65_0 x.1 x.2.1 x.2.2.1⟩
  | _ => none
noncomputable def ga65 : List (Nat × Su) := [(127, s127)]
noncomputable def E65 : En := ⟨27, tt, gaOf ga65, rh65, lo65, [], fun _ => none⟩
theorem t65_0 (x : SigT sg65_0) : (roundT E65 0 sg65_0 (loopOf 0 (bodyOf Tryz.f65)) x).run = r65_0 x.1 x.2.1 x.2.2.1 := by kernel_rfl
theorem t65 (x : PT s65.ps) : (fnT E65 (bodyOf Tryz.f65) Tryz.f65.results.toList s65.ps s65.rs true x).run = g65 x.1.1 x.2.1.1 := by kernel_rfl
theorem hga65 : GAok Tryz.prog E65 := gaok_of (l := ga65) ⟨ok127, trivial⟩
theorem L65_0 : LoopSem Tryz.prog E65 0 (.loop (loopOf 0 (bodyOf Tryz.f65))) ⟨sg65_0, fun x => l65_0 x.1 x.2.1 x.2.2.1⟩ :=
  sem_of (hTT hT) hga65 hmix (step := fun (x : SigT sg65_0) => r65_0 x.1 x.2.1 x.2.2.1) t65_0 (loopsOK_all [] (by kernel_rfl) trivial)
theorem ok65 : SuOK Tryz.prog 65 s65 :=
  fn_ok (E := E65) (hTT hT) hga65 hmix (fn := Tryz.f65) (c := (bodyOf Tryz.f65)) (by kernel_rfl) (by kernel_rfl) (by kernel_rfl) rfl (loopsOK_all [(0, .loop (loopOf 0 (bodyOf Tryz.f65)))] (by kernel_rfl) ⟨semL rfl L65_0, trivial⟩) fun x y h => ⟨y.1, fun _ => rfl, (t65 x).trans h⟩


/- loop.example/g00735/laws.eqTask -/
noncomputable def g128 (p0 : ((List R5) × Int × (List R3) × Int × Int × Int × Int × Int × (List R5) × Unit)) (p1 : ((List R5) × Int × (List R3) × Int × Int × Int × Int × Int × (List R5) × Unit)) : Option (Unit × ((Bool × Unit) × Unit)) :=
  Option.bind (g141 p0.1 p1.1) fun y1 =>
  cond (!y1.2.1.1) (
    some ((), ((false, ()), ()))
  ) (
    cond (!(eqI p0.2.1 p1.2.1)) (
      some ((), ((false, ()), ()))
    ) (
      Option.bind (g100 p0.2.2.1 p1.2.2.1) fun y2 =>
      cond (!y2.2.1.1) (
        some ((), ((false, ()), ()))
      ) (
        cond (!(eqI p0.2.2.2.1 p1.2.2.2.1)) (
          some ((), ((false, ()), ()))
        ) (
          cond (!(eqI p0.2.2.2.2.1 p1.2.2.2.2.1)) (
            some ((), ((false, ()), ()))
          ) (
            cond (!(eqI p0.2.2.2.2.2.1 p1.2.2.2.2.2.1)) (
              some ((), ((false, ()), ()))
            ) (
              cond (!(eqI p0.2.2.2.2.2.2.1 p1.2.2.2.2.2.2.1)) (
                some ((), ((false, ()), ()))
              ) (
                cond (!(eqI p0.2.2.2.2.2.2.2.1 p1.2.2.2.2.2.2.2.1)) (
                  some ((), ((false, ()), ()))
                ) (
                  Option.bind (g141 p0.2.2.2.2.2.2.2.2.1 p1.2.2.2.2.2.2.2.2.1) fun y3 =>
                  cond (!y3.2.1.1) (
                    some ((), ((false, ()), ()))
                  ) (
                    some ((), ((true, ()), ()))
                  )
                )
              )
            )
          )
        )
      )
    )
  )
noncomputable def s128 : Su := ⟨[.c true [.sl 5 kk5, .int .i64, .sl 3 kk3, .int .i64, .int .i64, .int .i64, .int .i64, .int .i64, .sl 5 kk5], .c true [.sl 5 kk5, .int .i64, .sl 3 kk3, .int .i64, .int .i64, .int .i64, .int .i64, .int .i64, .sl 5 kk5]], [(false, [.bool])], true, .inl fun x => g128 x.1 x.2.1⟩
def rh128 : List SE := []
noncomputable def lo128 : Nat → Option (Lo rh128)
  | _ => none
noncomputable def ga128 : List (Nat × Su) := [(100, s100), (141, s141)]
noncomputable def E128 : En := ⟨53, tt, gaOf ga128, rh128, lo128, [], fun _ => none⟩
theorem t128 (x : PT s128.ps) : (fnT E128 (bodyOf Tryz.f128) Tryz.f128.results.toList s128.ps s128.rs true x).run = g128 x.1 x.2.1 := by kernel_rfl
theorem hga128 : GAok Tryz.prog E128 := gaok_of (l := ga128) ⟨ok100, ok141, trivial⟩
theorem ok128 : SuOK Tryz.prog 128 s128 :=
  fn_ok (E := E128) (hTT hT) hga128 hmix (fn := Tryz.f128) (c := (bodyOf Tryz.f128)) (by kernel_rfl) (by kernel_rfl) (by kernel_rfl) rfl (loopsOK_all [] (by kernel_rfl) trivial) fun x y h => ⟨y.1, fun _ => rfl, (t128 x).trans h⟩


/- loop.example/g00735/laws.eqTaskS -/
noncomputable def r66_0 (t0 : (List R142)) (t1 : (List R142)) (t5 : Int) : Option (Sum ((List R142) × (List R142) × Int × Unit) (Sum ((List R142) × (List R142) × Int × Unit) (Bool × Unit))) :=
  cond (ltI t5 (lenI t0)) (
    cond (inB t5 t0) (
    cond (inB t5 t1) (
    Option.bind (g128 (gt d142 t0 t5) (gt d142 t1 t5)) fun y1 =>
    cond (!y1.2.1.1) (
      some (.inr (.inr (false, ())))
    ) (
      some (.inl (t0, t1, (addW .i64 t5 1), ()))
    )
    ) none
    ) none
  ) (
    some (.inr (.inl (t0, t1, t5, ())))
  )
noncomputable def l66_0 (t0 : (List R142)) (t1 : (List R142)) (t5 : Int) : Option (Sum ((List R142) × (List R142) × Int × Unit) (Bool × Unit)) := loopF (fun (x : ((List R142) × (List R142) × Int × Unit)) => r66_0 x.1 x.2.1 x.2.2.1) (t0, t1, t5, ())
noncomputable def g66 (p0 : (List R142)) (p1 : (List R142)) : Option (Unit × ((Bool × Unit) × Unit)) :=
  cond (!(eqI (lenI p0) (lenI p1))) (
    some ((), ((false, ()), ()))
  ) (
    Option.bind (l66_0 p0 p1 0) (Sum.elim (fun y1 =>
      some ((), ((true, ()), ()))
    ) (fun y1 =>
      some ((), (y1, ()))
    ))
  )
noncomputable def s66 : Su := ⟨[.c false [.sl 142 kk142], .c false [.sl 142 kk142]], [(false, [.bool])], true, .inl fun x => g66 x.1.1 x.2.1.1⟩
def sg66_0 : List SE := [.d 0 (.sl 142 kk142), .d 1 (.sl 142 kk142), .d 5 (.int .i64)]
def rh66 : List SE := [.d 4 (.bool)]
noncomputable def lo66 : Nat → Option (Lo rh66)
  | 0 => some ⟨sg66_0, fun x => l66_0 x.1 x.2.1 x.2.2.1⟩
  | _ => none
noncomputable def ga66 : List (Nat × Su) := [(128, s128)]
noncomputable def E66 : En := ⟨27, tt, gaOf ga66, rh66, lo66, [], fun _ => none⟩
theorem t66_0 (x : SigT sg66_0) : (roundT E66 0 sg66_0 (loopOf 0 (bodyOf Tryz.f66)) x).run = r66_0 x.1 x.2.1 x.2.2.1 := by kernel_rfl
theorem t66 (x : PT s66.ps) : (fnT E66 (bodyOf Tryz.f66) Tryz.f66.results.toList s66.ps s66.rs true x).run = g66 x.1.1 x.2.1.1 := by kernel_rfl
theorem hga66 : GAok Tryz.prog E66 := gaok_of (l := ga66) ⟨ok128, trivial⟩
theorem L66_0 : LoopSem Tryz.prog E66 0 (.loop (loopOf 0 (bodyOf Tryz.f66))) ⟨sg66_0, fun x => l66_0 x.1 x.2.1 x.2.2.1⟩ :=
  sem_of (hTT hT) hga66 hmix (step := fun (x : SigT sg66_0) => r66_0 x.1 x.2.1 x.2.2.1) t66_0 (loopsOK_all [] (by kernel_rfl) trivial)
theorem ok66 : SuOK Tryz.prog 66 s66 :=
  fn_ok (E := E66) (hTT hT) hga66 hmix (fn := Tryz.f66) (c := (bodyOf Tryz.f66)) (by kernel_rfl) (by kernel_rfl) (by kernel_rfl) rfl (loopsOK_all [(0, .loop (loopOf 0 (bodyOf Tryz.f66)))] (by kernel_rfl) ⟨semL rfl L66_0, trivial⟩) fun x y h => ⟨y.1, fun _ => rfl, (t66 x).trans h⟩


/- loop.example/g00735/laws.eqWorld -/
noncomputable def g20 (p0 : ((List R136) × Int × Int × (List R142) × Unit)) (p1 : ((List R136) × Int × Int × (List R142) × Unit)) : Option (Unit × ((Bool × Unit) × Unit)) :=
  Option.bind (g65 p0.1 p1.1) fun y1 =>
  cond (!y1.2.1.1) (
    some ((), ((false, ()), ()))
  ) (
    cond (!(eqI p0.2.1 p1.2.1)) (
      some ((), ((false, ()), ()))
    ) (
      cond (!(eqI p0.2.2.1 p1.2.2.1)) (
        some ((), ((false, ()), ()))
      ) (
        Option.bind (g66 p0.2.2.2.1 p1.2.2.2.1) fun y2 =>
        cond (!y2.2.1.1) (
          some ((), ((false, ()), ()))
        ) (
          some ((), ((true, ()), ()))
        )
      )
    )
  )
noncomputable def s20 : Su := ⟨[.c true [.sl 136 kk136, .int .i64, .int .i64, .sl 142 kk142], .c true [.sl 136 kk136, .int .i64, .int .i64, .sl 142 kk142]], [(false, [.bool])], true, .inl fun x => g20 x.1 x.2.1⟩
def rh20 : List SE := []
noncomputable def lo20 : Nat → Option (Lo rh20)
  | _ => none
noncomputable def ga20 : List (Nat × Su) := [(65, s65), (66, s66)]
noncomputable def E20 : En := ⟨27, tt, gaOf ga20, rh20, lo20, [], fun _ => none⟩
theorem t20 (x : PT s20.ps) : (fnT E20 (bodyOf Tryz.f20) Tryz.f20.results.toList s20.ps s20.rs true x).run = g20 x.1 x.2.1 := by kernel_rfl
theorem hga20 : GAok Tryz.prog E20 := gaok_of (l := ga20) ⟨ok65, ok66, trivial⟩
theorem ok20 : SuOK Tryz.prog 20 s20 :=
  fn_ok (E := E20) (hTT hT) hga20 hmix (fn := Tryz.f20) (c := (bodyOf Tryz.f20)) (by kernel_rfl) (by kernel_rfl) (by kernel_rfl) rfl (loopsOK_all [] (by kernel_rfl) trivial) fun x y h => ⟨y.1, fun _ => rfl, (t20 x).trans h⟩


/- loop.example/g00735/laws.eqBook -/
noncomputable def g21 (p0 : ((List R34) × Unit)) (p1 : ((List R34) × Unit)) : Option (Unit × ((Bool × Unit) × Unit)) :=
  Option.bind (g67 p0.1 p1.1) fun y1 =>
  cond (!y1.2.1.1) (
    some ((), ((false, ()), ()))
  ) (
    some ((), ((true, ()), ()))
  )
noncomputable def s21 : Su := ⟨[.c true [.sl 34 kk34], .c true [.sl 34 kk34]], [(false, [.bool])], true, .inl fun x => g21 x.1 x.2.1⟩
def rh21 : List SE := []
noncomputable def lo21 : Nat → Option (Lo rh21)
  | _ => none
noncomputable def ga21 : List (Nat × Su) := [(67, s67)]
noncomputable def E21 : En := ⟨11, tt, gaOf ga21, rh21, lo21, [], fun _ => none⟩
theorem t21 (x : PT s21.ps) : (fnT E21 (bodyOf Tryz.f21) Tryz.f21.results.toList s21.ps s21.rs true x).run = g21 x.1 x.2.1 := by kernel_rfl
theorem hga21 : GAok Tryz.prog E21 := gaok_of (l := ga21) ⟨ok67, trivial⟩
theorem ok21 : SuOK Tryz.prog 21 s21 :=
  fn_ok (E := E21) (hTT hT) hga21 hmix (fn := Tryz.f21) (c := (bodyOf Tryz.f21)) (by kernel_rfl) (by kernel_rfl) (by kernel_rfl) rfl (loopsOK_all [] (by kernel_rfl) trivial) fun x y h => ⟨y.1, fun _ => rfl, (t21 x).trans h⟩


/- loop.example/g00735/laws.markText -/
noncomputable def r102_0 (t0 : Int) (t3 : (List UInt8)) : Option (Sum (Int × (List UInt8) × Unit) (Sum (Int × (List UInt8) × Unit) Unit)) :=
  cond (ltI 0 t0) (
    let u1 := (strOf [((cvtW .u8 (addW .i64 48 (remI t0 10))), ())])
    cond (fitS u1 t3) (
    some (.inl ((quoW .i64 t0 10), (apS u1 t3), ()))
    ) none
  ) (
    some (.inr (.inl (t0, t3, ())))
  )
noncomputable def l102_0 (t0 : Int) (t3 : (List UInt8)) : Option (Sum (Int × (List UInt8) × Unit) Unit) := loopF (fun (x : (Int × (List UInt8) × Unit)) => r102_0 x.1 x.2.1) (t0, t3, ())
noncomputable def g102 (p0 : Int) : Option (Unit × (((List UInt8) × Unit) × Unit)) :=
  cond (leI p0 0) (
    some ((), (([109, 48], ()), ()))
  ) (
    Option.bind (l102_0 p0 []) (Sum.elim (fun y1 =>
      cond (fitS [109] y1.2.1) (
      some ((), (((apS [109] y1.2.1), ()), ()))
      ) none
    ) (fun y1 =>
      none
    ))
  )
noncomputable def s102 : Su := ⟨[.c false [.int .i64]], [(false, [.str])], true, .inl fun x => g102 x.1.1⟩
def sg102_0 : List SE := [.d 0 (.int .i64), .d 3 (.str)]
def rh102 : List SE := []
noncomputable def lo102 : Nat → Option (Lo rh102)
  | 0 => some ⟨sg102_0, fun x => l102_0 x.1 x.2.1⟩
  | _ => none
noncomputable def ga102 : List (Nat × Su) := []
noncomputable def E102 : En := ⟨20, tt, gaOf ga102, rh102, lo102, [], fun _ => none⟩
theorem t102_0 (x : SigT sg102_0) : (roundT E102 0 sg102_0 (loopOf 0 (bodyOf Tryz.f102)) x).run = r102_0 x.1 x.2.1 := by kernel_rfl
theorem t102 (x : PT s102.ps) : (fnT E102 (bodyOf Tryz.f102) Tryz.f102.results.toList s102.ps s102.rs true x).run = g102 x.1.1 := by kernel_rfl
theorem hga102 : GAok Tryz.prog E102 := gaok_of (l := ga102) trivial
theorem L102_0 : LoopSem Tryz.prog E102 0 (.loop (loopOf 0 (bodyOf Tryz.f102))) ⟨sg102_0, fun x => l102_0 x.1 x.2.1⟩ :=
  sem_of (hTT hT) hga102 hmix (step := fun (x : SigT sg102_0) => r102_0 x.1 x.2.1) t102_0 (loopsOK_all [] (by kernel_rfl) trivial)
theorem ok102 : SuOK Tryz.prog 102 s102 :=
  fn_ok (E := E102) (hTT hT) hga102 hmix (fn := Tryz.f102) (c := (bodyOf Tryz.f102)) (by kernel_rfl) (by kernel_rfl) (by kernel_rfl) rfl (loopsOK_all [(0, .loop (loopOf 0 (bodyOf Tryz.f102)))] (by kernel_rfl) ⟨semL rfl L102_0, trivial⟩) fun x y h => ⟨y.1, fun _ => rfl, (t102 x).trans h⟩


/- loop.example/g00735/laws.markHoldS -/
noncomputable def r45_0 (t0 : (List R74)) (t1 : Int) (t5 : Int) : Option (Sum ((List R74) × Int × Int × Unit) (Sum ((List R74) × Int × Int × Unit) Unit)) :=
  cond (ltI t5 (lenI t0)) (
    Option.bind (g102 t1) fun y1 =>
    cond (inB t5 t0) (
    let u1 := (gt d74 t0 t5)
    let u2 := (stI t0 t5 (y1.2.1.1, u1.2.1, u1.2.2.1, ()))
    cond (inB t5 u2) (
    let u3 := (gt d74 u2 t5)
    let u4 := (addW .i64 t1 1)
    let u5 := (stI u2 t5 (u3.1, u4, u3.2.2.1, ()))
    cond (inB t5 u5) (
    let u6 := (gt d74 u5 t5)
    let u7 := (addW .i64 u4 1)
    some (.inl ((stI u5 t5 (u6.1, u6.2.1, u7, ())), (addW .i64 u7 1), (addW .i64 t5 1), ()))
    ) none
    ) none
    ) none
  ) (
    some (.inr (.inl (t0, t1, t5, ())))
  )
noncomputable def l45_0 (t0 : (List R74)) (t1 : Int) (t5 : Int) : Option (Sum ((List R74) × Int × Int × Unit) Unit) := loopF (fun (x : ((List R74) × Int × Int × Unit)) => r45_0 x.1 x.2.1 x.2.2.1) (t0, t1, t5, ())
noncomputable def g45 (p0 : (List R74)) (p1 : Int) : Option ((((List R74) × Unit) × Unit) × ((Int × Unit) × Unit)) :=
  Option.bind (l45_0 p0 p1 0) (Sum.elim (fun y1 =>
    some (((y1.1, ()), ()), ((y1.2.1, ()), ()))
  ) (fun y1 =>
    none
  ))
noncomputable def s45 : Su := ⟨[.io false [.sl 74 kk74], .c false [.int .i64]], [(false, [.int .i64])], true, .inl fun x => g45 x.1.1 x.2.1.1⟩
def sg45_0 : List SE := [.own 0 (.sl 74 kk74), .d 1 (.int .i64), .d 5 (.int .i64)]
def rh45 : List SE := []
noncomputable def lo45 : Nat → Option (Lo rh45)
  | 0 => some ⟨sg45_0, fun x => l45_0 x.1 x.2.1 x.2.2.1⟩
  | _ => none
noncomputable def ga45 : List (Nat × Su) := [(102, s102)]
noncomputable def E45 : En := ⟨35, tt, gaOf ga45, rh45, lo45, [0], fun _ => none⟩
theorem t45_0 (x : SigT sg45_0) : (roundT E45 0 sg45_0 (loopOf 0 (bodyOf Tryz.f45)) x).run = r45_0 x.1 x.2.1 x.2.2.1 := by kernel_rfl
theorem t45 (x : PT s45.ps) : (fnT E45 (bodyOf Tryz.f45) Tryz.f45.results.toList s45.ps s45.rs true x).run = g45 x.1.1 x.2.1.1 := by kernel_rfl
theorem hga45 : GAok Tryz.prog E45 := gaok_of (l := ga45) ⟨ok102, trivial⟩
theorem L45_0 : LoopSem Tryz.prog E45 0 (.loop (loopOf 0 (bodyOf Tryz.f45))) ⟨sg45_0, fun x => l45_0 x.1 x.2.1 x.2.2.1⟩ :=
  sem_of (hTT hT) hga45 hmix (step := fun (x : SigT sg45_0) => r45_0 x.1 x.2.1 x.2.2.1) t45_0 (loopsOK_all [] (by kernel_rfl) trivial)
theorem ok45 : SuOK Tryz.prog 45 s45 :=
  fn_ok (E := E45) (hTT hT) hga45 hmix (fn := Tryz.f45) (c := (bodyOf Tryz.f45)) (by kernel_rfl) (by kernel_rfl) (by kernel_rfl) rfl (loopsOK_all [(0, .loop (loopOf 0 (bodyOf Tryz.f45)))] (by kernel_rfl) ⟨semL rfl L45_0, trivial⟩) fun x y h => ⟨y.1, fun _ => rfl, (t45 x).trans h⟩


/- loop.example/g00735/laws.markIntS -/
noncomputable def r103_0 (t0 : (List R3)) (t1 : Int) (t5 : Int) : Option (Sum ((List R3) × Int × Int × Unit) (Sum ((List R3) × Int × Int × Unit) Unit)) :=
  cond (ltI t5 (lenI t0)) (
    cond (inB t5 t0) (
    some (.inl ((stI t0 t5 (t1, ())), (addW .i64 t1 1), (addW .i64 t5 1), ()))
    ) none
  ) (
    some (.inr (.inl (t0, t1, t5, ())))
  )
noncomputable def l103_0 (t0 : (List R3)) (t1 : Int) (t5 : Int) : Option (Sum ((List R3) × Int × Int × Unit) Unit) := loopF (fun (x : ((List R3) × Int × Int × Unit)) => r103_0 x.1 x.2.1 x.2.2.1) (t0, t1, t5, ())
noncomputable def g103 (p0 : (List R3)) (p1 : Int) : Option ((((List R3) × Unit) × Unit) × ((Int × Unit) × Unit)) :=
  Option.bind (l103_0 p0 p1 0) (Sum.elim (fun y1 =>
    some (((y1.1, ()), ()), ((y1.2.1, ()), ()))
  ) (fun y1 =>
    none
  ))
noncomputable def s103 : Su := ⟨[.io false [.sl 3 kk3], .c false [.int .i64]], [(false, [.int .i64])], true, .inl fun x => g103 x.1.1 x.2.1.1⟩
def sg103_0 : List SE := [.own 0 (.sl 3 kk3), .d 1 (.int .i64), .d 5 (.int .i64)]
def rh103 : List SE := []
noncomputable def lo103 : Nat → Option (Lo rh103)
  | 0 => some ⟨sg103_0, fun x => l103_0 x.1 x.2.1 x.2.2.1⟩
  | _ => none
noncomputable def ga103 : List (Nat × Su) := []
noncomputable def E103 : En := ⟨19, tt, gaOf ga103, rh103, lo103, [0], fun _ => none⟩
theorem t103_0 (x : SigT sg103_0) : (roundT E103 0 sg103_0 (loopOf 0 (bodyOf Tryz.f103)) x).run = r103_0 x.1 x.2.1 x.2.2.1 := by kernel_rfl
theorem t103 (x : PT s103.ps) : (fnT E103 (bodyOf Tryz.f103) Tryz.f103.results.toList s103.ps s103.rs true x).run = g103 x.1.1 x.2.1.1 := by kernel_rfl
theorem hga103 : GAok Tryz.prog E103 := gaok_of (l := ga103) trivial
theorem L103_0 : LoopSem Tryz.prog E103 0 (.loop (loopOf 0 (bodyOf Tryz.f103))) ⟨sg103_0, fun x => l103_0 x.1 x.2.1 x.2.2.1⟩ :=
  sem_of (hTT hT) hga103 hmix (step := fun (x : SigT sg103_0) => r103_0 x.1 x.2.1 x.2.2.1) t103_0 (loopsOK_all [] (by kernel_rfl) trivial)
theorem ok103 : SuOK Tryz.prog 103 s103 :=
  fn_ok (E := E103) (hTT hT) hga103 hmix (fn := Tryz.f103) (c := (bodyOf Tryz.f103)) (by kernel_rfl) (by kernel_rfl) (by kernel_rfl) rfl (loopsOK_all [(0, .loop (loopOf 0 (bodyOf Tryz.f103)))] (by kernel_rfl) ⟨semL rfl L103_0, trivial⟩) fun x y h => ⟨y.1, fun _ => rfl, (t103 x).trans h⟩


/- loop.example/g00735/laws.markByteS -/
noncomputable def r104_0 (t0 : (List R5)) (t1 : Int) (t5 : Int) : Option (Sum ((List R5) × Int × Int × Unit) (Sum ((List R5) × Int × Int × Unit) Unit)) :=
  cond (ltI t5 (lenI t0)) (
    cond (inB t5 t0) (
    some (.inl ((stI t0 t5 ((cvtW .u8 t1), ())), (addW .i64 t1 1), (addW .i64 t5 1), ()))
    ) none
  ) (
    some (.inr (.inl (t0, t1, t5, ())))
  )
noncomputable def l104_0 (t0 : (List R5)) (t1 : Int) (t5 : Int) : Option (Sum ((List R5) × Int × Int × Unit) Unit) := loopF (fun (x : ((List R5) × Int × Int × Unit)) => r104_0 x.1 x.2.1 x.2.2.1) (t0, t1, t5, ())
noncomputable def g104 (p0 : (List R5)) (p1 : Int) : Option ((((List R5) × Unit) × Unit) × ((Int × Unit) × Unit)) :=
  Option.bind (l104_0 p0 p1 0) (Sum.elim (fun y1 =>
    some (((y1.1, ()), ()), ((y1.2.1, ()), ()))
  ) (fun y1 =>
    none
  ))
noncomputable def s104 : Su := ⟨[.io false [.sl 5 kk5], .c false [.int .i64]], [(false, [.int .i64])], true, .inl fun x => g104 x.1.1 x.2.1.1⟩
def sg104_0 : List SE := [.own 0 (.sl 5 kk5), .d 1 (.int .i64), .d 5 (.int .i64)]
def rh104 : List SE := []
noncomputable def lo104 : Nat → Option (Lo rh104)
  | 0 => some ⟨sg104_0, fun x => l104_0 x.1 x.2.1 x.2.2.1⟩
  | _ => none
noncomputable def ga104 : List (Nat × Su) := []
noncomputable def E104 : En := ⟨20, tt, gaOf ga104, rh104, lo104, [0], fun _ => none⟩
theorem t104_0 (x : SigT sg104_0) : (roundT E104 0 sg104_0 (loopOf 0 (bodyOf Tryz.f104)) x).run = r104_0 x.1 x.2.1 x.2.2.1 := by kernel_rfl
theorem t104 (x : PT s104.ps) : (fnT E104 (bodyOf Tryz.f104) Tryz.f104.results.toList s104.ps s104.rs true x).run = g104 x.1.1 x.2.1.1 := by kernel_rfl
theorem hga104 : GAok Tryz.prog E104 := gaok_of (l := ga104) trivial
theorem L104_0 : LoopSem Tryz.prog E104 0 (.loop (loopOf 0 (bodyOf Tryz.f104))) ⟨sg104_0, fun x => l104_0 x.1 x.2.1 x.2.2.1⟩ :=
  sem_of (hTT hT) hga104 hmix (step := fun (x : SigT sg104_0) => r104_0 x.1 x.2.1 x.2.2.1) t104_0 (loopsOK_all [] (by kernel_rfl) trivial)
theorem ok104 : SuOK Tryz.prog 104 s104 :=
  fn_ok (E := E104) (hTT hT) hga104 hmix (fn := Tryz.f104) (c := (bodyOf Tryz.f104)) (by kernel_rfl) (by kernel_rfl) (by kernel_rfl) rfl (loopsOK_all [(0, .loop (loopOf 0 (bodyOf Tryz.f104)))] (by kernel_rfl) ⟨semL rfl L104_0, trivial⟩) fun x y h => ⟨y.1, fun _ => rfl, (t104 x).trans h⟩


/- loop.example/g00735/laws.markSlotS -/
noncomputable def r47_0 (t0 : (List R118)) (t1 : Int) (t5 : Int) : Option (Sum ((List R118) × Int × Int × Unit) (Sum ((List R118) × Int × Int × Unit) Unit)) :=
  cond (ltI t5 (lenI t0)) (
    Option.bind (g102 t1) fun y1 =>
    cond (inB t5 t0) (
    let u1 := (addW .i64 t1 1)
    Option.bind (g102 u1) fun y2 =>
    let u2 := (gt d118 t0 t5)
    let u3 := (stI t0 t5 (y1.2.1.1, u2.2.1, u2.2.2.1, ()))
    cond (inB t5 u3) (
    let u4 := (gt d118 u3 t5)
    let u5 := (stI u3 t5 (u4.1, y2.2.1.1, u4.2.2.1, ()))
    cond (inB t5 u5) (
    let u6 := (gt d118 u5 t5)
    Option.bind (g104 u6.2.2.1 (addW .i64 u1 1)) fun y3 =>
    some (.inl ((stI u5 t5 (u6.1, u6.2.1, y3.1.1.1, ())), y3.2.1.1, (addW .i64 t5 1), ()))
    ) none
    ) none
    ) none
  ) (
    some (.inr (.inl (t0, t1, t5, ())))
  )
noncomputable def l47_0 (t0 : (List R118)) (t1 : Int) (t5 : Int) : Option (Sum ((List R118) × Int × Int × Unit) Unit) := loopF (fun (x : ((List R118) × Int × Int × Unit)) => r47_0 x.1 x.2.1 x.2.2.1) (t0, t1, t5, ())
noncomputable def g47 (p0 : (List R118)) (p1 : Int) : Option ((((List R118) × Unit) × Unit) × ((Int × Unit) × Unit)) :=
  Option.bind (l47_0 p0 p1 0) (Sum.elim (fun y1 =>
    some (((y1.1, ()), ()), ((y1.2.1, ()), ()))
  ) (fun y1 =>
    none
  ))
noncomputable def s47 : Su := ⟨[.io false [.sl 118 kk118], .c false [.int .i64]], [(false, [.int .i64])], true, .inl fun x => g47 x.1.1 x.2.1.1⟩
def sg47_0 : List SE := [.own 0 (.sl 118 kk118), .d 1 (.int .i64), .d 5 (.int .i64)]
def rh47 : List SE := []
noncomputable def lo47 : Nat → Option (Lo rh47)
  | 0 => some ⟨sg47_0, fun x => l47_0 x.1 x.2.1 x.2.2.1⟩
  | _ => none
noncomputable def ga47 : List (Nat × Su) := [(102, s102), (104, s104)]
noncomputable def E47 : En := ⟨36, tt, gaOf ga47, rh47, lo47, [0], fun _ => none⟩
theorem t47_0 (x : SigT sg47_0) : (roundT E47 0 sg47_0 (loopOf 0 (bodyOf Tryz.f47)) x).run = r47_0 x.1 x.2.1 x.2.2.1 := by kernel_rfl
theorem t47 (x : PT s47.ps) : (fnT E47 (bodyOf Tryz.f47) Tryz.f47.results.toList s47.ps s47.rs true x).run = g47 x.1.1 x.2.1.1 := by kernel_rfl
theorem hga47 : GAok Tryz.prog E47 := gaok_of (l := ga47) ⟨ok102, ok104, trivial⟩
theorem L47_0 : LoopSem Tryz.prog E47 0 (.loop (loopOf 0 (bodyOf Tryz.f47))) ⟨sg47_0, fun x => l47_0 x.1 x.2.1 x.2.2.1⟩ :=
  sem_of (hTT hT) hga47 hmix (step := fun (x : SigT sg47_0) => r47_0 x.1 x.2.1 x.2.2.1) t47_0 (loopsOK_all [] (by kernel_rfl) trivial)
theorem ok47 : SuOK Tryz.prog 47 s47 :=
  fn_ok (E := E47) (hTT hT) hga47 hmix (fn := Tryz.f47) (c := (bodyOf Tryz.f47)) (by kernel_rfl) (by kernel_rfl) (by kernel_rfl) rfl (loopsOK_all [(0, .loop (loopOf 0 (bodyOf Tryz.f47)))] (by kernel_rfl) ⟨semL rfl L47_0, trivial⟩) fun x y h => ⟨y.1, fun _ => rfl, (t47 x).trans h⟩


/- loop.example/g00735/laws.markAcctS -/
noncomputable def r68_0 (t0 : (List R34)) (t1 : Int) (t5 : Int) : Option (Sum ((List R34) × Int × Int × Unit) (Sum ((List R34) × Int × Int × Unit) Unit)) :=
  cond (ltI t5 (lenI t0)) (
    Option.bind (g102 t1) fun y1 =>
    cond (inB t5 t0) (
    let u1 := (gt d34 t0 t5)
    let u2 := (stI t0 t5 (y1.2.1.1, u1.2.1, u1.2.2.1, u1.2.2.2.1, u1.2.2.2.2.1, u1.2.2.2.2.2.1, u1.2.2.2.2.2.2.1, u1.2.2.2.2.2.2.2.1, u1.2.2.2.2.2.2.2.2.1, u1.2.2.2.2.2.2.2.2.2.1, u1.2.2.2.2.2.2.2.2.2.2.1, ()))
    cond (inB t5 u2) (
    let u3 := (gt d34 u2 t5)
    let u4 := (addW .i64 t1 1)
    let u5 := (stI u2 t5 (u3.1, u4, u3.2.2.1, u3.2.2.2.1, u3.2.2.2.2.1, u3.2.2.2.2.2.1, u3.2.2.2.2.2.2.1, u3.2.2.2.2.2.2.2.1, u3.2.2.2.2.2.2.2.2.1, u3.2.2.2.2.2.2.2.2.2.1, u3.2.2.2.2.2.2.2.2.2.2.1, ()))
    cond (inB t5 u5) (
    let u6 := (gt d34 u5 t5)
    let u7 := (addW .i64 u4 1)
    let u8 := (stI u5 t5 (u6.1, u6.2.1, u7, u6.2.2.2.1, u6.2.2.2.2.1, u6.2.2.2.2.2.1, u6.2.2.2.2.2.2.1, u6.2.2.2.2.2.2.2.1, u6.2.2.2.2.2.2.2.2.1, u6.2.2.2.2.2.2.2.2.2.1, u6.2.2.2.2.2.2.2.2.2.2.1, ()))
    cond (inB t5 u8) (
    let u9 := (gt d34 u8 t5)
    let u10 := (addW .i64 u7 1)
    let u11 := (stI u8 t5 (u9.1, u9.2.1, u9.2.2.1, u10, u9.2.2.2.2.1, u9.2.2.2.2.2.1, u9.2.2.2.2.2.2.1, u9.2.2.2.2.2.2.2.1, u9.2.2.2.2.2.2.2.2.1, u9.2.2.2.2.2.2.2.2.2.1, u9.2.2.2.2.2.2.2.2.2.2.1, ()))
    cond (inB t5 u11) (
    let u12 := (gt d34 u11 t5)
    let u13 := (addW .i64 u10 1)
    let u14 := (stI u11 t5 (u12.1, u12.2.1, u12.2.2.1, u12.2.2.2.1, u13, u12.2.2.2.2.2.1, u12.2.2.2.2.2.2.1, u12.2.2.2.2.2.2.2.1, u12.2.2.2.2.2.2.2.2.1, u12.2.2.2.2.2.2.2.2.2.1, u12.2.2.2.2.2.2.2.2.2.2.1, ()))
    cond (inB t5 u14) (
    let u15 := (gt d34 u14 t5)
    Option.bind (g45 u15.2.2.2.2.2.1 (addW .i64 u13 1)) fun y2 =>
    let u16 := (stI u14 t5 (u15.1, u15.2.1, u15.2.2.1, u15.2.2.2.1, u15.2.2.2.2.1, y2.1.1.1, u15.2.2.2.2.2.2.1, u15.2.2.2.2.2.2.2.1, u15.2.2.2.2.2.2.2.2.1, u15.2.2.2.2.2.2.2.2.2.1, u15.2.2.2.2.2.2.2.2.2.2.1, ()))
    cond (inB t5 u16) (
    let u17 := (gt d34 u16 t5)
    let u18 := (stI u16 t5 (u17.1, u17.2.1, u17.2.2.1, u17.2.2.2.1, u17.2.2.2.2.1, u17.2.2.2.2.2.1, y2.2.1.1, u17.2.2.2.2.2.2.2.1, u17.2.2.2.2.2.2.2.2.1, u17.2.2.2.2.2.2.2.2.2.1, u17.2.2.2.2.2.2.2.2.2.2.1, ()))
    cond (inB t5 u18) (
    let u19 := (gt d34 u18 t5)
    let u20 := (addW .i64 y2.2.1.1 1)
    let u21 := (stI u18 t5 (u19.1, u19.2.1, u19.2.2.1, u19.2.2.2.1, u19.2.2.2.2.1, u19.2.2.2.2.2.1, u19.2.2.2.2.2.2.1, u20, u19.2.2.2.2.2.2.2.2.1, u19.2.2.2.2.2.2.2.2.2.1, u19.2.2.2.2.2.2.2.2.2.2.1, ()))
    cond (inB t5 u21) (
    let u22 := (gt d34 u21 t5)
    Option.bind (g103 u22.2.2.2.2.2.2.2.2.1 (addW .i64 u20 1)) fun y3 =>
    let u23 := (stI u21 t5 (u22.1, u22.2.1, u22.2.2.1, u22.2.2.2.1, u22.2.2.2.2.1, u22.2.2.2.2.2.1, u22.2.2.2.2.2.2.1, u22.2.2.2.2.2.2.2.1, y3.1.1.1, u22.2.2.2.2.2.2.2.2.2.1, u22.2.2.2.2.2.2.2.2.2.2.1, ()))
    cond (inB t5 u23) (
    let u24 := (gt d34 u23 t5)
    Option.bind (g103 u24.2.2.2.2.2.2.2.2.2.1 y3.2.1.1) fun y4 =>
    let u25 := (stI u23 t5 (u24.1, u24.2.1, u24.2.2.1, u24.2.2.2.1, u24.2.2.2.2.1, u24.2.2.2.2.2.1, u24.2.2.2.2.2.2.1, u24.2.2.2.2.2.2.2.1, u24.2.2.2.2.2.2.2.2.1, y4.1.1.1, u24.2.2.2.2.2.2.2.2.2.2.1, ()))
    cond (inB t5 u25) (
    let u26 := (gt d34 u25 t5)
    Option.bind (g47 u26.2.2.2.2.2.2.2.2.2.2.1 y4.2.1.1) fun y5 =>
    some (.inl ((stI u25 t5 (u26.1, u26.2.1, u26.2.2.1, u26.2.2.2.1, u26.2.2.2.2.1, u26.2.2.2.2.2.1, u26.2.2.2.2.2.2.1, u26.2.2.2.2.2.2.2.1, u26.2.2.2.2.2.2.2.2.1, u26.2.2.2.2.2.2.2.2.2.1, y5.1.1.1, ())), y5.2.1.1, (addW .i64 t5 1), ()))
    ) none
    ) none
    ) none
    ) none
    ) none
    ) none
    ) none
    ) none
    ) none
    ) none
    ) none
  ) (
    some (.inr (.inl (t0, t1, t5, ())))
  )
noncomputable def l68_0 (t0 : (List R34)) (t1 : Int) (t5 : Int) : Option (Sum ((List R34) × Int × Int × Unit) Unit) := loopF (fun (x : ((List R34) × Int × Int × Unit)) => r68_0 x.1 x.2.1 x.2.2.1) (t0, t1, t5, ())
noncomputable def g68 (p0 : (List R34)) (p1 : Int) : Option ((((List R34) × Unit) × Unit) × ((Int × Unit) × Unit)) :=
  Option.bind (l68_0 p0 p1 0) (Sum.elim (fun y1 =>
    some (((y1.1, ()), ()), ((y1.2.1, ()), ()))
  ) (fun y1 =>
    none
  ))
noncomputable def s68 : Su := ⟨[.io false [.sl 34 kk34], .c false [.int .i64]], [(false, [.int .i64])], true, .inl fun x => g68 x.1.1 x.2.1.1⟩
def sg68_0 : List SE := [.own 0 (.sl 34 kk34), .d 1 (.int .i64), .d 5 (.int .i64)]
def rh68 : List SE := []
noncomputable def lo68 : Nat → Option (Lo rh68)
  | 0 => some ⟨sg68_0, fun x => l68_0 x.1 x.2.1 x.2.2.1⟩
  | _ => none
noncomputable def ga68 : List (Nat × Su) := [(102, s102), (45, s45), (103, s103), (47, s47)]
noncomputable def E68 : En := ⟨95, tt, gaOf ga68, rh68, lo68, [0], fun _ => none⟩
theorem t68_0 (x : SigT sg68_0) : (roundT E68 0 sg68_0 (loopOf 0 (bodyOf Tryz.f68)) x).run = r68_0 x.1 x.2.1 x.2.2.1 := by kernel_rfl
theorem t68 (x : PT s68.ps) : (fnT E68 (bodyOf Tryz.f68) Tryz.f68.results.toList s68.ps s68.rs true x).run = g68 x.1.1 x.2.1.1 := by kernel_rfl
theorem hga68 : GAok Tryz.prog E68 := gaok_of (l := ga68) ⟨ok102, ok45, ok103, ok47, trivial⟩
theorem L68_0 : LoopSem Tryz.prog E68 0 (.loop (loopOf 0 (bodyOf Tryz.f68))) ⟨sg68_0, fun x => l68_0 x.1 x.2.1 x.2.2.1⟩ :=
  sem_of (hTT hT) hga68 hmix (step := fun (x : SigT sg68_0) => r68_0 x.1 x.2.1 x.2.2.1) t68_0 (loopsOK_all [] (by kernel_rfl) trivial)
theorem ok68 : SuOK Tryz.prog 68 s68 :=
  fn_ok (E := E68) (hTT hT) hga68 hmix (fn := Tryz.f68) (c := (bodyOf Tryz.f68)) (by kernel_rfl) (by kernel_rfl) (by kernel_rfl) rfl (loopsOK_all [(0, .loop (loopOf 0 (bodyOf Tryz.f68)))] (by kernel_rfl) ⟨semL rfl L68_0, trivial⟩) fun x y h => ⟨y.1, fun _ => rfl, (t68 x).trans h⟩


/- loop.example/g00735/laws.markBook -/
noncomputable def g22 (p0 : ((List R34) × Unit)) (p1 : Int) : Option ((((List R34) × Unit) × Unit) × ((Int × Unit) × Unit)) :=
  Option.bind (g68 p0.1 p1) fun y1 =>
  some ((y1.1.1, ()), (y1.2.1, ()))
noncomputable def s22 : Su := ⟨[.io true [.sl 34 kk34], .c false [.int .i64]], [(false, [.int .i64])], true, .inl fun x => g22 x.1 x.2.1.1⟩
def rh22 : List SE := []
noncomputable def lo22 : Nat → Option (Lo rh22)
  | _ => none
noncomputable def ga22 : List (Nat × Su) := [(68, s68)]
noncomputable def E22 : En := ⟨10, tt, gaOf ga22, rh22, lo22, [0], fun _ => none⟩
theorem t22 (x : PT s22.ps) : (fnT E22 (bodyOf Tryz.f22) Tryz.f22.results.toList s22.ps s22.rs true x).run = g22 x.1 x.2.1.1 := by kernel_rfl
theorem hga22 : GAok Tryz.prog E22 := gaok_of (l := ga22) ⟨ok68, trivial⟩
theorem ok22 : SuOK Tryz.prog 22 s22 :=
  fn_ok (E := E22) (hTT hT) hga22 hmix (fn := Tryz.f22) (c := (bodyOf Tryz.f22)) (by kernel_rfl) (by kernel_rfl) (by kernel_rfl) rfl (loopsOK_all [] (by kernel_rfl) trivial) fun x y h => ⟨y.1, fun _ => rfl, (t22 x).trans h⟩


/- loop.example/g00735/laws.markStripeS -/
noncomputable def r69_0 (t0 : (List R136)) (t1 : Int) (t5 : Int) : Option (Sum ((List R136) × Int × Int × Unit) (Sum ((List R136) × Int × Int × Unit) Unit)) :=
  cond (ltI t5 (lenI t0)) (
    cond (inB t5 t0) (
    let u1 := (stI t0 t5 (t1, (gt d136 t0 t5).2.1, ()))
    cond (inB t5 u1) (
    let u2 := (gt d136 u1 t5)
    Option.bind (g68 u2.2.1 (addW .i64 t1 1)) fun y1 =>
    some (.inl ((stI u1 t5 (u2.1, y1.1.1.1, ())), y1.2.1.1, (addW .i64 t5 1), ()))
    ) none
    ) none
  ) (
    some (.inr (.inl (t0, t1, t5, ())))
  )
noncomputable def l69_0 (t0 : (List R136)) (t1 : Int) (t5 : Int) : Option (Sum ((List R136) × Int × Int × Unit) Unit) := loopF (fun (x : ((List R136) × Int × Int × Unit)) => r69_0 x.1 x.2.1 x.2.2.1) (t0, t1, t5, ())
noncomputable def g69 (p0 : (List R136)) (p1 : Int) : Option ((((List R136) × Unit) × Unit) × ((Int × Unit) × Unit)) :=
  Option.bind (l69_0 p0 p1 0) (Sum.elim (fun y1 =>
    some (((y1.1, ()), ()), ((y1.2.1, ()), ()))
  ) (fun y1 =>
    none
  ))
noncomputable def s69 : Su := ⟨[.io false [.sl 136 kk136], .c false [.int .i64]], [(false, [.int .i64])], true, .inl fun x => g69 x.1.1 x.2.1.1⟩
def sg69_0 : List SE := [.own 0 (.sl 136 kk136), .d 1 (.int .i64), .d 5 (.int .i64)]
def rh69 : List SE := []
noncomputable def lo69 : Nat → Option (Lo rh69)
  | 0 => some ⟨sg69_0, fun x => l69_0 x.1 x.2.1 x.2.2.1⟩
  | _ => none
noncomputable def ga69 : List (Nat × Su) := [(68, s68)]
noncomputable def E69 : En := ⟨27, tt, gaOf ga69, rh69, lo69, [0], fun _ => none⟩
theorem t69_0 (x : SigT sg69_0) : (roundT E69 0 sg69_0 (loopOf 0 (bodyOf Tryz.f69)) x).run = r69_0 x.1 x.2.1 x.2.2.1 := by kernel_rfl
theorem t69 (x : PT s69.ps) : (fnT E69 (bodyOf Tryz.f69) Tryz.f69.results.toList s69.ps s69.rs true x).run = g69 x.1.1 x.2.1.1 := by kernel_rfl
theorem hga69 : GAok Tryz.prog E69 := gaok_of (l := ga69) ⟨ok68, trivial⟩
theorem L69_0 : LoopSem Tryz.prog E69 0 (.loop (loopOf 0 (bodyOf Tryz.f69))) ⟨sg69_0, fun x => l69_0 x.1 x.2.1 x.2.2.1⟩ :=
  sem_of (hTT hT) hga69 hmix (step := fun (x : SigT sg69_0) => r69_0 x.1 x.2.1 x.2.2.1) t69_0 (loopsOK_all [] (by kernel_rfl) trivial)
theorem ok69 : SuOK Tryz.prog 69 s69 :=
  fn_ok (E := E69) (hTT hT) hga69 hmix (fn := Tryz.f69) (c := (bodyOf Tryz.f69)) (by kernel_rfl) (by kernel_rfl) (by kernel_rfl) rfl (loopsOK_all [(0, .loop (loopOf 0 (bodyOf Tryz.f69)))] (by kernel_rfl) ⟨semL rfl L69_0, trivial⟩) fun x y h => ⟨y.1, fun _ => rfl, (t69 x).trans h⟩


/- loop.example/g00735/laws.markTaskS -/
noncomputable def r70_0 (t0 : (List R142)) (t1 : Int) (t5 : Int) : Option (Sum ((List R142) × Int × Int × Unit) (Sum ((List R142) × Int × Int × Unit) Unit)) :=
  cond (ltI t5 (lenI t0)) (
    cond (inB t5 t0) (
    let u1 := (gt d142 t0 t5)
    Option.bind (g104 u1.1 t1) fun y1 =>
    let u2 := (stI t0 t5 (y1.1.1.1, u1.2.1, u1.2.2.1, u1.2.2.2.1, u1.2.2.2.2.1, u1.2.2.2.2.2.1, u1.2.2.2.2.2.2.1, u1.2.2.2.2.2.2.2.1, u1.2.2.2.2.2.2.2.2.1, ()))
    cond (inB t5 u2) (
    let u3 := (gt d142 u2 t5)
    let u4 := (stI u2 t5 (u3.1, y1.2.1.1, u3.2.2.1, u3.2.2.2.1, u3.2.2.2.2.1, u3.2.2.2.2.2.1, u3.2.2.2.2.2.2.1, u3.2.2.2.2.2.2.2.1, u3.2.2.2.2.2.2.2.2.1, ()))
    cond (inB t5 u4) (
    let u5 := (gt d142 u4 t5)
    Option.bind (g103 u5.2.2.1 (addW .i64 y1.2.1.1 1)) fun y2 =>
    let u6 := (stI u4 t5 (u5.1, u5.2.1, y2.1.1.1, u5.2.2.2.1, u5.2.2.2.2.1, u5.2.2.2.2.2.1, u5.2.2.2.2.2.2.1, u5.2.2.2.2.2.2.2.1, u5.2.2.2.2.2.2.2.2.1, ()))
    cond (inB t5 u6) (
    let u7 := (gt d142 u6 t5)
    let u8 := (stI u6 t5 (u7.1, u7.2.1, u7.2.2.1, y2.2.1.1, u7.2.2.2.2.1, u7.2.2.2.2.2.1, u7.2.2.2.2.2.2.1, u7.2.2.2.2.2.2.2.1, u7.2.2.2.2.2.2.2.2.1, ()))
    cond (inB t5 u8) (
    let u9 := (gt d142 u8 t5)
    let u10 := (addW .i64 y2.2.1.1 1)
    let u11 := (stI u8 t5 (u9.1, u9.2.1, u9.2.2.1, u9.2.2.2.1, u10, u9.2.2.2.2.2.1, u9.2.2.2.2.2.2.1, u9.2.2.2.2.2.2.2.1, u9.2.2.2.2.2.2.2.2.1, ()))
    cond (inB t5 u11) (
    let u12 := (gt d142 u11 t5)
    let u13 := (addW .i64 u10 1)
    let u14 := (stI u11 t5 (u12.1, u12.2.1, u12.2.2.1, u12.2.2.2.1, u12.2.2.2.2.1, u13, u12.2.2.2.2.2.2.1, u12.2.2.2.2.2.2.2.1, u12.2.2.2.2.2.2.2.2.1, ()))
    cond (inB t5 u14) (
    let u15 := (gt d142 u14 t5)
    let u16 := (addW .i64 u13 1)
    let u17 := (stI u14 t5 (u15.1, u15.2.1, u15.2.2.1, u15.2.2.2.1, u15.2.2.2.2.1, u15.2.2.2.2.2.1, u16, u15.2.2.2.2.2.2.2.1, u15.2.2.2.2.2.2.2.2.1, ()))
    cond (inB t5 u17) (
    let u18 := (gt d142 u17 t5)
    let u19 := (addW .i64 u16 1)
    let u20 := (stI u17 t5 (u18.1, u18.2.1, u18.2.2.1, u18.2.2.2.1, u18.2.2.2.2.1, u18.2.2.2.2.2.1, u18.2.2.2.2.2.2.1, u19, u18.2.2.2.2.2.2.2.2.1, ()))
    cond (inB t5 u20) (
    let u21 := (gt d142 u20 t5)
    Option.bind (g104 u21.2.2.2.2.2.2.2.2.1 (addW .i64 u19 1)) fun y3 =>
    some (.inl ((stI u20 t5 (u21.1, u21.2.1, u21.2.2.1, u21.2.2.2.1, u21.2.2.2.2.1, u21.2.2.2.2.2.1, u21.2.2.2.2.2.2.1, u21.2.2.2.2.2.2.2.1, y3.1.1.1, ())), y3.2.1.1, (addW .i64 t5 1), ()))
    ) none
    ) none
    ) none
    ) none
    ) none
    ) none
    ) none
    ) none
    ) none
  ) (
    some (.inr (.inl (t0, t1, t5, ())))
  )
noncomputable def l70_0 (t0 : (List R142)) (t1 : Int) (t5 : Int) : Option (Sum ((List R142) × Int × Int × Unit) Unit) := loopF (fun (x : ((List R142) × Int × Int × Unit)) => r70_0 x.1 x.2.1 x.2.2.1) (t0, t1, t5, ())
noncomputable def g70 (p0 : (List R142)) (p1 : Int) : Option ((((List R142) × Unit) × Unit) × ((Int × Unit) × Unit)) :=
  Option.bind (l70_0 p0 p1 0) (Sum.elim (fun y1 =>
    some (((y1.1, ()), ()), ((y1.2.1, ()), ()))
  ) (fun y1 =>
    none
  ))
noncomputable def s70 : Su := ⟨[.io false [.sl 142 kk142], .c false [.int .i64]], [(false, [.int .i64])], true, .inl fun x => g70 x.1.1 x.2.1.1⟩
def sg70_0 : List SE := [.own 0 (.sl 142 kk142), .d 1 (.int .i64), .d 5 (.int .i64)]
def rh70 : List SE := []
noncomputable def lo70 : Nat → Option (Lo rh70)
  | 0 => some ⟨sg70_0, fun x => l70_0 x.1 x.2.1 x.2.2.1⟩
  | _ => none
noncomputable def ga70 : List (Nat × Su) := [(103, s103), (104, s104)]
noncomputable def E70 : En := ⟨76, tt, gaOf ga70, rh70, lo70, [0], fun _ => none⟩
theorem t70_0 (x : SigT sg70_0) : (roundT E70 0 sg70_0 (loopOf 0 (bodyOf Tryz.f70)) x).run = r70_0 x.1 x.2.1 x.2.2.1 := by kernel_rfl
theorem t70 (x : PT s70.ps) : (fnT E70 (bodyOf Tryz.f70) Tryz.f70.results.toList s70.ps s70.rs true x).run = g70 x.1.1 x.2.1.1 := by kernel_rfl
theorem hga70 : GAok Tryz.prog E70 := gaok_of (l := ga70) ⟨ok103, ok104, trivial⟩
theorem L70_0 : LoopSem Tryz.prog E70 0 (.loop (loopOf 0 (bodyOf Tryz.f70))) ⟨sg70_0, fun x => l70_0 x.1 x.2.1 x.2.2.1⟩ :=
  sem_of (hTT hT) hga70 hmix (step := fun (x : SigT sg70_0) => r70_0 x.1 x.2.1 x.2.2.1) t70_0 (loopsOK_all [] (by kernel_rfl) trivial)
theorem ok70 : SuOK Tryz.prog 70 s70 :=
  fn_ok (E := E70) (hTT hT) hga70 hmix (fn := Tryz.f70) (c := (bodyOf Tryz.f70)) (by kernel_rfl) (by kernel_rfl) (by kernel_rfl) rfl (loopsOK_all [(0, .loop (loopOf 0 (bodyOf Tryz.f70)))] (by kernel_rfl) ⟨semL rfl L70_0, trivial⟩) fun x y h => ⟨y.1, fun _ => rfl, (t70 x).trans h⟩


/- loop.example/g00735/laws.markWorld -/
noncomputable def g23 (p0 : ((List R136) × Int × Int × (List R142) × Unit)) (p1 : Int) : Option ((((List R136) × Int × Int × (List R142) × Unit) × Unit) × ((Int × Unit) × Unit)) :=
  Option.bind (g69 p0.1 p1) fun y1 =>
  Option.bind (g70 p0.2.2.2.1 y1.2.1.1) fun y2 =>
  some (((y1.1.1.1, p0.2.1, p0.2.2.1, y2.1.1.1, ()), ()), (y2.2.1, ()))
noncomputable def s23 : Su := ⟨[.io true [.sl 136 kk136, .int .i64, .int .i64, .sl 142 kk142], .c false [.int .i64]], [(false, [.int .i64])], true, .inl fun x => g23 x.1 x.2.1.1⟩
def rh23 : List SE := []
noncomputable def lo23 : Nat → Option (Lo rh23)
  | _ => none
noncomputable def ga23 : List (Nat × Su) := [(69, s69), (70, s70)]
noncomputable def E23 : En := ⟨14, tt, gaOf ga23, rh23, lo23, [0], fun _ => none⟩
theorem t23 (x : PT s23.ps) : (fnT E23 (bodyOf Tryz.f23) Tryz.f23.results.toList s23.ps s23.rs true x).run = g23 x.1 x.2.1.1 := by kernel_rfl
theorem hga23 : GAok Tryz.prog E23 := gaok_of (l := ga23) ⟨ok69, ok70, trivial⟩
theorem ok23 : SuOK Tryz.prog 23 s23 :=
  fn_ok (E := E23) (hTT hT) hga23 hmix (fn := Tryz.f23) (c := (bodyOf Tryz.f23)) (by kernel_rfl) (by kernel_rfl) (by kernel_rfl) rfl (loopsOK_all [] (by kernel_rfl) trivial) fun x y h => ⟨y.1, fun _ => rfl, (t23 x).trans h⟩


/- loop.example/g00735/laws.heldHoldS -/
noncomputable def r48_0 (t0 : (List R74)) (t1 : Int) (t5 : Int) : Option (Sum ((List R74) × Int × Int × Unit) (Sum ((List R74) × Int × Int × Unit) (Int × Unit))) :=
  cond (ltI t5 (lenI t0)) (
    cond (inB t5 t0) (
    Option.bind (g102 t1) fun y1 =>
    let u1 := (gt d74 t0 t5)
    cond (!(eqS u1.1 y1.2.1.1)) (
      some (.inr (.inr ((-1), ())))
    ) (
      cond (inB t5 t0) (
      let u2 := (addW .i64 t1 1)
      cond (!(eqI u1.2.1 u2)) (
        some (.inr (.inr ((-1), ())))
      ) (
        cond (inB t5 t0) (
        let u3 := (addW .i64 u2 1)
        cond (!(eqI u1.2.2.1 u3)) (
          some (.inr (.inr ((-1), ())))
        ) (
          some (.inl (t0, (addW .i64 u3 1), (addW .i64 t5 1), ()))
        )
        ) none
      )
      ) none
    )
    ) none
  ) (
    some (.inr (.inl (t0, t1, t5, ())))
  )
noncomputable def l48_0 (t0 : (List R74)) (t1 : Int) (t5 : Int) : Option (Sum ((List R74) × Int × Int × Unit) (Int × Unit)) := loopF (fun (x : ((List R74) × Int × Int × Unit)) => r48_0 x.1 x.2.1 x.2.2.1) (t0, t1, t5, ())
noncomputable def g48 (p0 : (List R74)) (p1 : Int) : Option (Unit × ((Int × Unit) × Unit)) :=
  Option.bind (l48_0 p0 p1 0) (Sum.elim (fun y1 =>
    some ((), ((y1.2.1, ()), ()))
  ) (fun y1 =>
    some ((), (y1, ()))
  ))
noncomputable def s48 : Su := ⟨[.c false [.sl 74 kk74], .c false [.int .i64]], [(false, [.int .i64])], true, .inl fun x => g48 x.1.1 x.2.1.1⟩
def sg48_0 : List SE := [.d 0 (.sl 74 kk74), .d 1 (.int .i64), .d 5 (.int .i64)]
def rh48 : List SE := [.d 4 (.int .i64)]
noncomputable def lo48 : Nat → Option (Lo rh48)
  | 0 => some ⟨sg48_0, fun x => l48_0 x.1 x.2.1 x.2.2.1⟩
  | _ => none
noncomputable def ga48 : List (Nat × Su) := [(102, s102)]
noncomputable def E48 : En := ⟨41, tt, gaOf ga48, rh48, lo48, [], fun _ => none⟩
theorem t48_0 (x : SigT sg48_0) : (roundT E48 0 sg48_0 (loopOf 0 (bodyOf Tryz.f48)) x).run = r48_0 x.1 x.2.1 x.2.2.1 := by kernel_rfl
theorem t48 (x : PT s48.ps) : (fnT E48 (bodyOf Tryz.f48) Tryz.f48.results.toList s48.ps s48.rs true x).run = g48 x.1.1 x.2.1.1 := by kernel_rfl
theorem hga48 : GAok Tryz.prog E48 := gaok_of (l := ga48) ⟨ok102, trivial⟩
theorem L48_0 : LoopSem Tryz.prog E48 0 (.loop (loopOf 0 (bodyOf Tryz.f48))) ⟨sg48_0, fun x => l48_0 x.1 x.2.1 x.2.2.1⟩ :=
  sem_of (hTT hT) hga48 hmix (step := fun (x : SigT sg48_0) => r48_0 x.1 x.2.1 x.2.2.1) t48_0 (loopsOK_all [] (by kernel_rfl) trivial)
theorem ok48 : SuOK Tryz.prog 48 s48 :=
  fn_ok (E := E48) (hTT hT) hga48 hmix (fn := Tryz.f48) (c := (bodyOf Tryz.f48)) (by kernel_rfl) (by kernel_rfl) (by kernel_rfl) rfl (loopsOK_all [(0, .loop (loopOf 0 (bodyOf Tryz.f48)))] (by kernel_rfl) ⟨semL rfl L48_0, trivial⟩) fun x y h => ⟨y.1, fun _ => rfl, (t48 x).trans h⟩


/- loop.example/g00735/laws.heldIntS -/
noncomputable def r105_0 (t0 : (List R3)) (t1 : Int) (t5 : Int) : Option (Sum ((List R3) × Int × Int × Unit) (Sum ((List R3) × Int × Int × Unit) (Int × Unit))) :=
  cond (ltI t5 (lenI t0)) (
    cond (inB t5 t0) (
    cond (!(eqI (gt d3 t0 t5).1 t1)) (
      some (.inr (.inr ((-1), ())))
    ) (
      some (.inl (t0, (addW .i64 t1 1), (addW .i64 t5 1), ()))
    )
    ) none
  ) (
    some (.inr (.inl (t0, t1, t5, ())))
  )
noncomputable def l105_0 (t0 : (List R3)) (t1 : Int) (t5 : Int) : Option (Sum ((List R3) × Int × Int × Unit) (Int × Unit)) := loopF (fun (x : ((List R3) × Int × Int × Unit)) => r105_0 x.1 x.2.1 x.2.2.1) (t0, t1, t5, ())
noncomputable def g105 (p0 : (List R3)) (p1 : Int) : Option (Unit × ((Int × Unit) × Unit)) :=
  Option.bind (l105_0 p0 p1 0) (Sum.elim (fun y1 =>
    some ((), ((y1.2.1, ()), ()))
  ) (fun y1 =>
    some ((), (y1, ()))
  ))
noncomputable def s105 : Su := ⟨[.c false [.sl 3 kk3], .c false [.int .i64]], [(false, [.int .i64])], true, .inl fun x => g105 x.1.1 x.2.1.1⟩
def sg105_0 : List SE := [.d 0 (.sl 3 kk3), .d 1 (.int .i64), .d 5 (.int .i64)]
def rh105 : List SE := [.d 4 (.int .i64)]
noncomputable def lo105 : Nat → Option (Lo rh105)
  | 0 => some ⟨sg105_0, fun x => l105_0 x.1 x.2.1 x.2.2.1⟩
  | _ => none
noncomputable def ga105 : List (Nat × Su) := []
noncomputable def E105 : En := ⟨21, tt, gaOf ga105, rh105, lo105, [], fun _ => none⟩
theorem t105_0 (x : SigT sg105_0) : (roundT E105 0 sg105_0 (loopOf 0 (bodyOf Tryz.f105)) x).run = r105_0 x.1 x.2.1 x.2.2.1 := by kernel_rfl
theorem t105 (x : PT s105.ps) : (fnT E105 (bodyOf Tryz.f105) Tryz.f105.results.toList s105.ps s105.rs true x).run = g105 x.1.1 x.2.1.1 := by kernel_rfl
theorem hga105 : GAok Tryz.prog E105 := gaok_of (l := ga105) trivial
theorem L105_0 : LoopSem Tryz.prog E105 0 (.loop (loopOf 0 (bodyOf Tryz.f105))) ⟨sg105_0, fun x => l105_0 x.1 x.2.1 x.2.2.1⟩ :=
  sem_of (hTT hT) hga105 hmix (step := fun (x : SigT sg105_0) => r105_0 x.1 x.2.1 x.2.2.1) t105_0 (loopsOK_all [] (by kernel_rfl) trivial)
theorem ok105 : SuOK Tryz.prog 105 s105 :=
  fn_ok (E := E105) (hTT hT) hga105 hmix (fn := Tryz.f105) (c := (bodyOf Tryz.f105)) (by kernel_rfl) (by kernel_rfl) (by kernel_rfl) rfl (loopsOK_all [(0, .loop (loopOf 0 (bodyOf Tryz.f105)))] (by kernel_rfl) ⟨semL rfl L105_0, trivial⟩) fun x y h => ⟨y.1, fun _ => rfl, (t105 x).trans h⟩


/- loop.example/g00735/laws.heldByteS -/
noncomputable def r106_0 (t0 : (List R5)) (t1 : Int) (t5 : Int) : Option (Sum ((List R5) × Int × Int × Unit) (Sum ((List R5) × Int × Int × Unit) (Int × Unit))) :=
  cond (ltI t5 (lenI t0)) (
    cond (inB t5 t0) (
    cond (!(eqI (gt d5 t0 t5).1 (cvtW .u8 t1))) (
      some (.inr (.inr ((-1), ())))
    ) (
      some (.inl (t0, (addW .i64 t1 1), (addW .i64 t5 1), ()))
    )
    ) none
  ) (
    some (.inr (.inl (t0, t1, t5, ())))
  )
noncomputable def l106_0 (t0 : (List R5)) (t1 : Int) (t5 : Int) : Option (Sum ((List R5) × Int × Int × Unit) (Int × Unit)) := loopF (fun (x : ((List R5) × Int × Int × Unit)) => r106_0 x.1 x.2.1 x.2.2.1) (t0, t1, t5, ())
noncomputable def g106 (p0 : (List R5)) (p1 : Int) : Option (Unit × ((Int × Unit) × Unit)) :=
  Option.bind (l106_0 p0 p1 0) (Sum.elim (fun y1 =>
    some ((), ((y1.2.1, ()), ()))
  ) (fun y1 =>
    some ((), (y1, ()))
  ))
noncomputable def s106 : Su := ⟨[.c false [.sl 5 kk5], .c false [.int .i64]], [(false, [.int .i64])], true, .inl fun x => g106 x.1.1 x.2.1.1⟩
def sg106_0 : List SE := [.d 0 (.sl 5 kk5), .d 1 (.int .i64), .d 5 (.int .i64)]
def rh106 : List SE := [.d 4 (.int .i64)]
noncomputable def lo106 : Nat → Option (Lo rh106)
  | 0 => some ⟨sg106_0, fun x => l106_0 x.1 x.2.1 x.2.2.1⟩
  | _ => none
noncomputable def ga106 : List (Nat × Su) := []
noncomputable def E106 : En := ⟨22, tt, gaOf ga106, rh106, lo106, [], fun _ => none⟩
theorem t106_0 (x : SigT sg106_0) : (roundT E106 0 sg106_0 (loopOf 0 (bodyOf Tryz.f106)) x).run = r106_0 x.1 x.2.1 x.2.2.1 := by kernel_rfl
theorem t106 (x : PT s106.ps) : (fnT E106 (bodyOf Tryz.f106) Tryz.f106.results.toList s106.ps s106.rs true x).run = g106 x.1.1 x.2.1.1 := by kernel_rfl
theorem hga106 : GAok Tryz.prog E106 := gaok_of (l := ga106) trivial
theorem L106_0 : LoopSem Tryz.prog E106 0 (.loop (loopOf 0 (bodyOf Tryz.f106))) ⟨sg106_0, fun x => l106_0 x.1 x.2.1 x.2.2.1⟩ :=
  sem_of (hTT hT) hga106 hmix (step := fun (x : SigT sg106_0) => r106_0 x.1 x.2.1 x.2.2.1) t106_0 (loopsOK_all [] (by kernel_rfl) trivial)
theorem ok106 : SuOK Tryz.prog 106 s106 :=
  fn_ok (E := E106) (hTT hT) hga106 hmix (fn := Tryz.f106) (c := (bodyOf Tryz.f106)) (by kernel_rfl) (by kernel_rfl) (by kernel_rfl) rfl (loopsOK_all [(0, .loop (loopOf 0 (bodyOf Tryz.f106)))] (by kernel_rfl) ⟨semL rfl L106_0, trivial⟩) fun x y h => ⟨y.1, fun _ => rfl, (t106 x).trans h⟩


/- loop.example/g00735/laws.heldSlotS -/
noncomputable def r50_0 (t0 : (List R118)) (t1 : Int) (t5 : Int) : Option (Sum ((List R118) × Int × Int × Unit) (Sum ((List R118) × Int × Int × Unit) (Int × Unit))) :=
  cond (ltI t5 (lenI t0)) (
    cond (inB t5 t0) (
    Option.bind (g102 t1) fun y1 =>
    let u1 := (gt d118 t0 t5)
    cond (!(eqS u1.1 y1.2.1.1)) (
      some (.inr (.inr ((-1), ())))
    ) (
      cond (inB t5 t0) (
      let u2 := (addW .i64 t1 1)
      Option.bind (g102 u2) fun y2 =>
      cond (!(eqS u1.2.1 y2.2.1.1)) (
        some (.inr (.inr ((-1), ())))
      ) (
        cond (inB t5 t0) (
        Option.bind (g106 u1.2.2.1 (addW .i64 u2 1)) fun y3 =>
        cond (ltI y3.2.1.1 0) (
          some (.inr (.inr ((-1), ())))
        ) (
          some (.inl (t0, y3.2.1.1, (addW .i64 t5 1), ()))
        )
        ) none
      )
      ) none
    )
    ) none
  ) (
    some (.inr (.inl (t0, t1, t5, ())))
  )
noncomputable def l50_0 (t0 : (List R118)) (t1 : Int) (t5 : Int) : Option (Sum ((List R118) × Int × Int × Unit) (Int × Unit)) := loopF (fun (x : ((List R118) × Int × Int × Unit)) => r50_0 x.1 x.2.1 x.2.2.1) (t0, t1, t5, ())
noncomputable def g50 (p0 : (List R118)) (p1 : Int) : Option (Unit × ((Int × Unit) × Unit)) :=
  Option.bind (l50_0 p0 p1 0) (Sum.elim (fun y1 =>
    some ((), ((y1.2.1, ()), ()))
  ) (fun y1 =>
    some ((), (y1, ()))
  ))
noncomputable def s50 : Su := ⟨[.c false [.sl 118 kk118], .c false [.int .i64]], [(false, [.int .i64])], true, .inl fun x => g50 x.1.1 x.2.1.1⟩
def sg50_0 : List SE := [.d 0 (.sl 118 kk118), .d 1 (.int .i64), .d 5 (.int .i64)]
def rh50 : List SE := [.d 4 (.int .i64)]
noncomputable def lo50 : Nat → Option (Lo rh50)
  | 0 => some ⟨sg50_0, fun x => l50_0 x.1 x.2.1 x.2.2.1⟩
  | _ => none
noncomputable def ga50 : List (Nat × Su) := [(102, s102), (106, s106)]
noncomputable def E50 : En := ⟨42, tt, gaOf ga50, rh50, lo50, [], fun _ => none⟩
theorem t50_0 (x : SigT sg50_0) : (roundT E50 0 sg50_0 (loopOf 0 (bodyOf Tryz.f50)) x).run = r50_0 x.1 x.2.1 x.2.2.1 := by kernel_rfl
theorem t50 (x : PT s50.ps) : (fnT E50 (bodyOf Tryz.f50) Tryz.f50.results.toList s50.ps s50.rs true x).run = g50 x.1.1 x.2.1.1 := by kernel_rfl
theorem hga50 : GAok Tryz.prog E50 := gaok_of (l := ga50) ⟨ok102, ok106, trivial⟩
theorem L50_0 : LoopSem Tryz.prog E50 0 (.loop (loopOf 0 (bodyOf Tryz.f50))) ⟨sg50_0, fun x => l50_0 x.1 x.2.1 x.2.2.1⟩ :=
  sem_of (hTT hT) hga50 hmix (step := fun (x : SigT sg50_0) => r50_0 x.1 x.2.1 x.2.2.1) t50_0 (loopsOK_all [] (by kernel_rfl) trivial)
theorem ok50 : SuOK Tryz.prog 50 s50 :=
  fn_ok (E := E50) (hTT hT) hga50 hmix (fn := Tryz.f50) (c := (bodyOf Tryz.f50)) (by kernel_rfl) (by kernel_rfl) (by kernel_rfl) rfl (loopsOK_all [(0, .loop (loopOf 0 (bodyOf Tryz.f50)))] (by kernel_rfl) ⟨semL rfl L50_0, trivial⟩) fun x y h => ⟨y.1, fun _ => rfl, (t50 x).trans h⟩


/- loop.example/g00735/laws.heldAcctS -/
noncomputable def r129_0 (t0 : (List R34)) (t1 : Int) (t5 : Int) : Option (Sum ((List R34) × Int × Int × Unit) (Sum ((List R34) × Int × Int × Unit) (Int × Unit))) :=
  cond (ltI t5 (lenI t0)) (
    cond (inB t5 t0) (
    Option.bind (g102 t1) fun y1 =>
    let u1 := (gt d34 t0 t5)
    cond (!(eqS u1.1 y1.2.1.1)) (
      some (.inr (.inr ((-1), ())))
    ) (
      cond (inB t5 t0) (
      let u2 := (addW .i64 t1 1)
      cond (!(eqI u1.2.1 u2)) (
        some (.inr (.inr ((-1), ())))
      ) (
        cond (inB t5 t0) (
        let u3 := (addW .i64 u2 1)
        cond (!(eqI u1.2.2.1 u3)) (
          some (.inr (.inr ((-1), ())))
        ) (
          cond (inB t5 t0) (
          let u4 := (addW .i64 u3 1)
          cond (!(eqI u1.2.2.2.1 u4)) (
            some (.inr (.inr ((-1), ())))
          ) (
            cond (inB t5 t0) (
            let u5 := (addW .i64 u4 1)
            cond (!(eqI u1.2.2.2.2.1 u5)) (
              some (.inr (.inr ((-1), ())))
            ) (
              cond (inB t5 t0) (
              Option.bind (g48 u1.2.2.2.2.2.1 (addW .i64 u5 1)) fun y2 =>
              cond (ltI y2.2.1.1 0) (
                some (.inr (.inr ((-1), ())))
              ) (
                cond (inB t5 t0) (
                cond (!(eqI u1.2.2.2.2.2.2.1 y2.2.1.1)) (
                  some (.inr (.inr ((-1), ())))
                ) (
                  cond (inB t5 t0) (
                  let u6 := (addW .i64 y2.2.1.1 1)
                  cond (!(eqI u1.2.2.2.2.2.2.2.1 u6)) (
                    some (.inr (.inr ((-1), ())))
                  ) (
                    cond (inB t5 t0) (
                    Option.bind (g105 u1.2.2.2.2.2.2.2.2.1 (addW .i64 u6 1)) fun y3 =>
                    cond (ltI y3.2.1.1 0) (
                      some (.inr (.inr ((-1), ())))
                    ) (
                      cond (inB t5 t0) (
                      Option.bind (g105 u1.2.2.2.2.2.2.2.2.2.1 y3.2.1.1) fun y4 =>
                      cond (ltI y4.2.1.1 0) (
                        some (.inr (.inr ((-1), ())))
                      ) (
                        cond (inB t5 t0) (
                        Option.bind (g50 u1.2.2.2.2.2.2.2.2.2.2.1 y4.2.1.1) fun y5 =>
                        cond (ltI y5.2.1.1 0) (
                          some (.inr (.inr ((-1), ())))
                        ) (
                          some (.inl (t0, y5.2.1.1, (addW .i64 t5 1), ()))
                        )
                        ) none
                      )
                      ) none
                    )
                    ) none
                  )
                  ) none
                )
                ) none
              )
              ) none
            )
            ) none
          )
          ) none
        )
        ) none
      )
      ) none
    )
    ) none
  ) (
    some (.inr (.inl (t0, t1, t5, ())))
  )
noncomputable def l129_0 (t0 : (List R34)) (t1 : Int) (t5 : Int) : Option (Sum ((List R34) × Int × Int × Unit) (Int × Unit)) := loopF (fun (x : ((List R34) × Int × Int × Unit)) => r129_0 x.1 x.2.1 x.2.2.1) (t0, t1, t5, ())
noncomputable def g129 (p0 : (List R34)) (p1 : Int) : Option (Unit × ((Int × Unit) × Unit)) :=
  Option.bind (l129_0 p0 p1 0) (Sum.elim (fun y1 =>
    some ((), ((y1.2.1, ()), ()))
  ) (fun y1 =>
    some ((), (y1, ()))
  ))
noncomputable def s129 : Su := ⟨[.c false [.sl 34 kk34], .c false [.int .i64]], [(false, [.int .i64])], true, .inl fun x => g129 x.1.1 x.2.1.1⟩
def sg129_0 : List SE := [.d 0 (.sl 34 kk34), .d 1 (.int .i64), .d 5 (.int .i64)]
def rh129 : List SE := [.d 4 (.int .i64)]
noncomputable def lo129 : Nat → Option (Lo rh129)
  | 0 => some ⟨sg129_0, fun x => l129_0 x.1 x.2.1 x.2.2.1⟩
  | _ => none
noncomputable def ga129 : List (Nat × Su) := [(102, s102), (48, s48), (105, s105), (50, s50)]
noncomputable def E129 : En := ⟨117, tt, gaOf ga129, rh129, lo129, [], fun _ => none⟩
theorem t129_0 (x : SigT sg129_0) : (roundT E129 0 sg129_0 (loopOf 0 (bodyOf Tryz.f129)) x).run = r129_0 x.1 x.2.1 x.2.2.1 := by kernel_rfl
theorem t129 (x : PT s129.ps) : (fnT E129 (bodyOf Tryz.f129) Tryz.f129.results.toList s129.ps s129.rs true x).run = g129 x.1.1 x.2.1.1 := by kernel_rfl
theorem hga129 : GAok Tryz.prog E129 := gaok_of (l := ga129) ⟨ok102, ok48, ok105, ok50, trivial⟩
theorem L129_0 : LoopSem Tryz.prog E129 0 (.loop (loopOf 0 (bodyOf Tryz.f129))) ⟨sg129_0, fun x => l129_0 x.1 x.2.1 x.2.2.1⟩ :=
  sem_of (hTT hT) hga129 hmix (step := fun (x : SigT sg129_0) => r129_0 x.1 x.2.1 x.2.2.1) t129_0 (loopsOK_all [] (by kernel_rfl) trivial)
theorem ok129 : SuOK Tryz.prog 129 s129 :=
  fn_ok (E := E129) (hTT hT) hga129 hmix (fn := Tryz.f129) (c := (bodyOf Tryz.f129)) (by kernel_rfl) (by kernel_rfl) (by kernel_rfl) rfl (loopsOK_all [(0, .loop (loopOf 0 (bodyOf Tryz.f129)))] (by kernel_rfl) ⟨semL rfl L129_0, trivial⟩) fun x y h => ⟨y.1, fun _ => rfl, (t129 x).trans h⟩


/- loop.example/g00735/laws.heldStripeS -/
noncomputable def r71_0 (t0 : (List R136)) (t1 : Int) (t5 : Int) : Option (Sum ((List R136) × Int × Int × Unit) (Sum ((List R136) × Int × Int × Unit) (Int × Unit))) :=
  cond (ltI t5 (lenI t0)) (
    cond (inB t5 t0) (
    let u1 := (gt d136 t0 t5)
    cond (!(eqI u1.1 t1)) (
      some (.inr (.inr ((-1), ())))
    ) (
      cond (inB t5 t0) (
      Option.bind (g129 u1.2.1 (addW .i64 t1 1)) fun y1 =>
      cond (ltI y1.2.1.1 0) (
        some (.inr (.inr ((-1), ())))
      ) (
        some (.inl (t0, y1.2.1.1, (addW .i64 t5 1), ()))
      )
      ) none
    )
    ) none
  ) (
    some (.inr (.inl (t0, t1, t5, ())))
  )
noncomputable def l71_0 (t0 : (List R136)) (t1 : Int) (t5 : Int) : Option (Sum ((List R136) × Int × Int × Unit) (Int × Unit)) := loopF (fun (x : ((List R136) × Int × Int × Unit)) => r71_0 x.1 x.2.1 x.2.2.1) (t0, t1, t5, ())
noncomputable def g71 (p0 : (List R136)) (p1 : Int) : Option (Unit × ((Int × Unit) × Unit)) :=
  Option.bind (l71_0 p0 p1 0) (Sum.elim (fun y1 =>
    some ((), ((y1.2.1, ()), ()))
  ) (fun y1 =>
    some ((), (y1, ()))
  ))
noncomputable def s71 : Su := ⟨[.c false [.sl 136 kk136], .c false [.int .i64]], [(false, [.int .i64])], true, .inl fun x => g71 x.1.1 x.2.1.1⟩
def sg71_0 : List SE := [.d 0 (.sl 136 kk136), .d 1 (.int .i64), .d 5 (.int .i64)]
def rh71 : List SE := [.d 4 (.int .i64)]
noncomputable def lo71 : Nat → Option (Lo rh71)
  | 0 => some ⟨sg71_0, fun x => l71_0 x.1 x.2.1 x.2.2.1⟩
  | _ => none
noncomputable def ga71 : List (Nat × Su) := [(129, s129)]
noncomputable def E71 : En := ⟨31, tt, gaOf ga71, rh71, lo71, [], fun _ => none⟩
theorem t71_0 (x : SigT sg71_0) : (roundT E71 0 sg71_0 (loopOf 0 (bodyOf Tryz.f71)) x).run = r71_0 x.1 x.2.1 x.2.2.1 := by kernel_rfl
theorem t71 (x : PT s71.ps) : (fnT E71 (bodyOf Tryz.f71) Tryz.f71.results.toList s71.ps s71.rs true x).run = g71 x.1.1 x.2.1.1 := by kernel_rfl
theorem hga71 : GAok Tryz.prog E71 := gaok_of (l := ga71) ⟨ok129, trivial⟩
theorem L71_0 : LoopSem Tryz.prog E71 0 (.loop (loopOf 0 (bodyOf Tryz.f71))) ⟨sg71_0, fun x => l71_0 x.1 x.2.1 x.2.2.1⟩ :=
  sem_of (hTT hT) hga71 hmix (step := fun (x : SigT sg71_0) => r71_0 x.1 x.2.1 x.2.2.1) t71_0 (loopsOK_all [] (by kernel_rfl) trivial)
theorem ok71 : SuOK Tryz.prog 71 s71 :=
  fn_ok (E := E71) (hTT hT) hga71 hmix (fn := Tryz.f71) (c := (bodyOf Tryz.f71)) (by kernel_rfl) (by kernel_rfl) (by kernel_rfl) rfl (loopsOK_all [(0, .loop (loopOf 0 (bodyOf Tryz.f71)))] (by kernel_rfl) ⟨semL rfl L71_0, trivial⟩) fun x y h => ⟨y.1, fun _ => rfl, (t71 x).trans h⟩


/- loop.example/g00735/laws.heldTaskS -/
noncomputable def r72_0 (t0 : (List R142)) (t1 : Int) (t5 : Int) : Option (Sum ((List R142) × Int × Int × Unit) (Sum ((List R142) × Int × Int × Unit) (Int × Unit))) :=
  cond (ltI t5 (lenI t0)) (
    cond (inB t5 t0) (
    let u1 := (gt d142 t0 t5)
    Option.bind (g106 u1.1 t1) fun y1 =>
    cond (ltI y1.2.1.1 0) (
      some (.inr (.inr ((-1), ())))
    ) (
      cond (inB t5 t0) (
      cond (!(eqI u1.2.1 y1.2.1.1)) (
        some (.inr (.inr ((-1), ())))
      ) (
        cond (inB t5 t0) (
        Option.bind (g105 u1.2.2.1 (addW .i64 y1.2.1.1 1)) fun y2 =>
        cond (ltI y2.2.1.1 0) (
          some (.inr (.inr ((-1), ())))
        ) (
          cond (inB t5 t0) (
          cond (!(eqI u1.2.2.2.1 y2.2.1.1)) (
            some (.inr (.inr ((-1), ())))
          ) (
            cond (inB t5 t0) (
            let u2 := (addW .i64 y2.2.1.1 1)
            cond (!(eqI u1.2.2.2.2.1 u2)) (
              some (.inr (.inr ((-1), ())))
            ) (
              cond (inB t5 t0) (
              let u3 := (addW .i64 u2 1)
              cond (!(eqI u1.2.2.2.2.2.1 u3)) (
                some (.inr (.inr ((-1), ())))
              ) (
                cond (inB t5 t0) (
                let u4 := (addW .i64 u3 1)
                cond (!(eqI u1.2.2.2.2.2.2.1 u4)) (
                  some (.inr (.inr ((-1), ())))
                ) (
                  cond (inB t5 t0) (
                  let u5 := (addW .i64 u4 1)
                  cond (!(eqI u1.2.2.2.2.2.2.2.1 u5)) (
                    some (.inr (.inr ((-1), ())))
                  ) (
                    cond (inB t5 t0) (
                    Option.bind (g106 u1.2.2.2.2.2.2.2.2.1 (addW .i64 u5 1)) fun y3 =>
                    cond (ltI y3.2.1.1 0) (
                      some (.inr (.inr ((-1), ())))
                    ) (
                      some (.inl (t0, y3.2.1.1, (addW .i64 t5 1), ()))
                    )
                    ) none
                  )
                  ) none
                )
                ) none
              )
              ) none
            )
            ) none
          )
          ) none
        )
        ) none
      )
      ) none
    )
    ) none
  ) (
    some (.inr (.inl (t0, t1, t5, ())))
  )
noncomputable def l72_0 (t0 : (List R142)) (t1 : Int) (t5 : Int) : Option (Sum ((List R142) × Int × Int × Unit) (Int × Unit)) := loopF (fun (x : ((List R142) × Int × Int × Unit)) => r72_0 x.1 x.2.1 x.2.2.1) (t0, t1, t5, ())
noncomputable def g72 (p0 : (List R142)) (p1 : Int) : Option (Unit × ((Int × Unit) × Unit)) :=
  Option.bind (l72_0 p0 p1 0) (Sum.elim (fun y1 =>
    some ((), ((y1.2.1, ()), ()))
  ) (fun y1 =>
    some ((), (y1, ()))
  ))
noncomputable def s72 : Su := ⟨[.c false [.sl 142 kk142], .c false [.int .i64]], [(false, [.int .i64])], true, .inl fun x => g72 x.1.1 x.2.1.1⟩
def sg72_0 : List SE := [.d 0 (.sl 142 kk142), .d 1 (.int .i64), .d 5 (.int .i64)]
def rh72 : List SE := [.d 4 (.int .i64)]
noncomputable def lo72 : Nat → Option (Lo rh72)
  | 0 => some ⟨sg72_0, fun x => l72_0 x.1 x.2.1 x.2.2.1⟩
  | _ => none
noncomputable def ga72 : List (Nat × Su) := [(105, s105), (106, s106)]
noncomputable def E72 : En := ⟨94, tt, gaOf ga72, rh72, lo72, [], fun _ => none⟩
theorem t72_0 (x : SigT sg72_0) : (roundT E72 0 sg72_0 (loopOf 0 (bodyOf Tryz.f72)) x).run = r72_0 x.1 x.2.1 x.2.2.1 := by kernel_rfl
theorem t72 (x : PT s72.ps) : (fnT E72 (bodyOf Tryz.f72) Tryz.f72.results.toList s72.ps s72.rs true x).run = g72 x.1.1 x.2.1.1 := by kernel_rfl
theorem hga72 : GAok Tryz.prog E72 := gaok_of (l := ga72) ⟨ok105, ok106, trivial⟩
theorem L72_0 : LoopSem Tryz.prog E72 0 (.loop (loopOf 0 (bodyOf Tryz.f72))) ⟨sg72_0, fun x => l72_0 x.1 x.2.1 x.2.2.1⟩ :=
  sem_of (hTT hT) hga72 hmix (step := fun (x : SigT sg72_0) => r72_0 x.1 x.2.1 x.2.2.1) t72_0 (loopsOK_all [] (by kernel_rfl) trivial)
theorem ok72 : SuOK Tryz.prog 72 s72 :=
  fn_ok (E := E72) (hTT hT) hga72 hmix (fn := Tryz.f72) (c := (bodyOf Tryz.f72)) (by kernel_rfl) (by kernel_rfl) (by kernel_rfl) rfl (loopsOK_all [(0, .loop (loopOf 0 (bodyOf Tryz.f72)))] (by kernel_rfl) ⟨semL rfl L72_0, trivial⟩) fun x y h => ⟨y.1, fun _ => rfl, (t72 x).trans h⟩


/- loop.example/g00735/laws.heldWorld -/
noncomputable def g24 (p0 : ((List R136) × Int × Int × (List R142) × Unit)) (p1 : Int) : Option (Unit × ((Int × Unit) × Unit)) :=
  Option.bind (g71 p0.1 p1) fun y1 =>
  cond (ltI y1.2.1.1 0) (
    some ((), (((-1), ()), ()))
  ) (
    Option.bind (g72 p0.2.2.2.1 y1.2.1.1) fun y2 =>
    cond (ltI y2.2.1.1 0) (
      some ((), (((-1), ()), ()))
    ) (
      some ((), (y2.2.1, ()))
    )
  )
noncomputable def s24 : Su := ⟨[.c true [.sl 136 kk136, .int .i64, .int .i64, .sl 142 kk142], .c false [.int .i64]], [(false, [.int .i64])], true, .inl fun x => g24 x.1 x.2.1.1⟩
def rh24 : List SE := []
noncomputable def lo24 : Nat → Option (Lo rh24)
  | _ => none
noncomputable def ga24 : List (Nat × Su) := [(71, s71), (72, s72)]
noncomputable def E24 : En := ⟨18, tt, gaOf ga24, rh24, lo24, [], fun _ => none⟩
theorem t24 (x : PT s24.ps) : (fnT E24 (bodyOf Tryz.f24) Tryz.f24.results.toList s24.ps s24.rs true x).run = g24 x.1 x.2.1.1 := by kernel_rfl
theorem hga24 : GAok Tryz.prog E24 := gaok_of (l := ga24) ⟨ok71, ok72, trivial⟩
theorem ok24 : SuOK Tryz.prog 24 s24 :=
  fn_ok (E := E24) (hTT hT) hga24 hmix (fn := Tryz.f24) (c := (bodyOf Tryz.f24)) (by kernel_rfl) (by kernel_rfl) (by kernel_rfl) rfl (loopsOK_all [] (by kernel_rfl) trivial) fun x y h => ⟨y.1, fun _ => rfl, (t24 x).trans h⟩


/- loop.example/g00735/laws.FnExactWorldNew -/
noncomputable def g5 (p0 : ((List R28) × Unit)) (p1 : Int) : Option (Unit × ((Bool × Unit) × Unit)) :=
  Option.bind (g16 p0 1048576) fun y1 =>
  cond (ltI y1.2.1.1 0) (
    some ((), ((true, ()), ()))
  ) (
    let u1 := (g18 p0)
    Option.bind u1 fun y2 =>
    Option.bind (g17 y2.2.1 p1) fun y3 =>
    Option.bind u1 fun y4 =>
    Option.bind (g19 y4.2.1 p1) fun y5 =>
    let u2 := (g20 y5.2.1 y3.2.1)
    Option.bind u2 fun y6 =>
    cond (cond (!y6.2.1.1) true (!(eqB y5.2.2.1.1 y3.2.2.1.1))) (
      some ((), ((false, ()), ()))
    ) (
      Option.bind u1 fun y7 =>
      Option.bind (g21 y4.2.1 y7.2.1) fun y8 =>
      cond (!y8.2.1.1) (
        some ((), ((false, ()), ()))
      ) (
        Option.bind (g22 y4.2.1 1) fun y9 =>
        cond (ltI y9.2.1.1 0) (
          some ((), ((false, ()), ()))
        ) (
          Option.bind u2 fun y10 =>
          cond (cond (!y10.2.1.1) true (!(eqB y5.2.2.1.1 y3.2.2.1.1))) (
            some ((), ((false, ()), ()))
          ) (
            Option.bind (g23 y5.2.1 1) fun y11 =>
            let u3 := (g24 (y11.1.1.1, y5.2.1.2.1, y5.2.1.2.2.1, y11.1.1.2.2.2.1, ()) 1)
            Option.bind u3 fun y12 =>
            cond (ltI y12.2.1.1 0) (
              some ((), ((false, ()), ()))
            ) (
              cond (!(eqI y12.2.1.1 y11.2.1.1)) (
                some ((), ((false, ()), ()))
              ) (
                Option.bind u1 fun y13 =>
                Option.bind (g19 y13.2.1 p1) fun y14 =>
                Option.bind (g20 y14.2.1 y3.2.1) fun y15 =>
                cond (cond (!y15.2.1.1) true (!(eqB y14.2.2.1.1 y3.2.2.1.1))) (
                  some ((), ((false, ()), ()))
                ) (
                  Option.bind u3 fun y16 =>
                  cond (ltI y16.2.1.1 0) (
                    some ((), ((false, ()), ()))
                  ) (
                    cond (!(eqI y16.2.1.1 y11.2.1.1)) (
                      some ((), ((false, ()), ()))
                    ) (
                      some ((), ((true, ()), ()))
                    )
                  )
                )
              )
            )
          )
        )
      )
    )
  )
noncomputable def s5 : Su := ⟨[.c true [.sl 28 kk28], .c false [.int .i64]], [(false, [.bool])], true, .inl fun x => g5 x.1 x.2.1.1⟩
def rh5 : List SE := []
noncomputable def lo5 : Nat → Option (Lo rh5)
  | _ => none
noncomputable def ga5 : List (Nat × Su) := [(16, s16), (18, s18), (17, s17), (19, s19), (20, s20), (21, s21), (22, s22), (23, s23), (24, s24)]
noncomputable def E5 : En := ⟨101, tt, gaOf ga5, rh5, lo5, [], fun _ => none⟩
theorem t5 (x : PT s5.ps) : (fnT E5 (bodyOf Tryz.f5) Tryz.f5.results.toList s5.ps s5.rs true x).run = g5 x.1 x.2.1.1 := by kernel_rfl
theorem hga5 : GAok Tryz.prog E5 := gaok_of (l := ga5) ⟨ok16, ok18, ok17, ok19, ok20, ok21, ok22, ok23, ok24, trivial⟩
theorem ok5 : SuOK Tryz.prog 5 s5 :=
  fn_ok (E := E5) (hTT hT) hga5 hmix (fn := Tryz.f5) (c := (bodyOf Tryz.f5)) (by kernel_rfl) (by kernel_rfl) (by kernel_rfl) rfl (loopsOK_all [] (by kernel_rfl) trivial) fun x y h => ⟨y.1, fun _ => rfl, (t5 x).trans h⟩

end Go.Av
