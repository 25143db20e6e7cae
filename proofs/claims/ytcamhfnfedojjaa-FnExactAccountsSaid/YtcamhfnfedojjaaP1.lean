/- Part of a proof that the law FnExactAccounts answers true for every input: texts printed for this program and laws about them. No conditions beyond the statement. -/
import Derived.Test.YtcamhfnfedojjaaFw4
import Derived.WalkKit
import Derived.Lib.Walk
import Derived.Lib.SliceRun
import Derived.Shelf.Spec.SlicesInsert
import Derived.Test.YtcamhfnfedojjaaProg
set_option maxRecDepth 100000
namespace Go.Av
open Go.Proofs
def kk123 : List K := [.str, .int .i64, .int .i64]
def kk3 : List K := [.int .i64]
def kk5 : List K := [.int .u8]
def kk125 : List K := [.str, .str, .sl 5 kk5]
def kk107 : List K := [.str, .int .i64, .int .i64, .int .i64, .int .i64, .sl 123 kk123, .int .i64, .int .i64, .sl 3 kk3, .sl 3 kk3, .sl 125 kk125]
def kk55 : List K := [.int .i64, .sl 107 kk107]
def kk60 : List K := [.sl 5 kk5, .int .i64, .sl 3 kk3, .int .i64, .int .i64, .int .i64, .int .i64, .int .i64, .sl 5 kk5]
def kk99 : List K := [.str, .int .i64, .int .i64]
def kk101 : List K := [.str, .str, .sl 5 kk5]
def kk68 : List K := [.str, .int .i64, .int .i64, .int .i64, .int .i64, .sl 99 kk99, .int .i64, .int .i64, .sl 3 kk3, .sl 3 kk3, .sl 101 kk101]
def kk62 : List K := [.int .i64, .sl 68 kk68]
def kk71 : List K := [.sl 5 kk5, .int .i64, .sl 3 kk3, .int .i64, .int .i64, .int .i64, .int .i64, .int .i64, .sl 5 kk5]
abbrev R123 := ((List UInt8) × Int × Int × Unit)
def d123 : R123 := ([], 0, 0, ())
abbrev R3 := (Int × Unit)
def d3 : R3 := (0, ())
abbrev R5 := (Int × Unit)
def d5 : R5 := (0, ())
abbrev R125 := ((List UInt8) × (List UInt8) × (List R5) × Unit)
def d125 : R125 := ([], [], [], ())
abbrev R107 := ((List UInt8) × Int × Int × Int × Int × (List R123) × Int × Int × (List R3) × (List R3) × (List R125) × Unit)
def d107 : R107 := ([], 0, 0, 0, 0, [], 0, 0, [], [], [], ())
abbrev R55 := (Int × (List R107) × Unit)
def d55 : R55 := (0, [], ())
abbrev R60 := ((List R5) × Int × (List R3) × Int × Int × Int × Int × Int × (List R5) × Unit)
def d60 : R60 := ([], 0, [], 0, 0, 0, 0, 0, [], ())
abbrev R99 := ((List UInt8) × Int × Int × Unit)
def d99 : R99 := ([], 0, 0, ())
abbrev R101 := ((List UInt8) × (List UInt8) × (List R5) × Unit)
def d101 : R101 := ([], [], [], ())
abbrev R68 := ((List UInt8) × Int × Int × Int × Int × (List R99) × Int × Int × (List R3) × (List R3) × (List R101) × Unit)
def d68 : R68 := ([], 0, 0, 0, 0, [], 0, 0, [], [], [], ())
abbrev R62 := (Int × (List R68) × Unit)
def d62 : R62 := (0, [], ())
abbrev R71 := ((List R5) × Int × (List R3) × Int × Int × Int × Int × Int × (List R5) × Unit)
def d71 : R71 := ([], 0, [], 0, 0, 0, 0, 0, [], ())
def tt : List (Nat × TI) := [(2, ⟨false, [.int .i64], 0, 8, []⟩),
  (3, ⟨false, [.int .i64], 0, 8, []⟩),
  (4, ⟨false, [.bool], 0, 1, []⟩),
  (5, ⟨false, [.int .u8], 0, 1, []⟩),
  (6, ⟨false, [.int .u8], 0, 1, []⟩),
  (7, ⟨true, [.int .i64, .int .i64, .bool, .int .u8], 0, 24, [(0, 2), (1, 3), (2, 4), (3, 6)]⟩),
  (8, ⟨true, [.int .i64, .int .i64, .bool, .int .u8], 0, 24, [(0, 2), (1, 3), (2, 4), (3, 6)]⟩),
  (9, ⟨false, [.str], 0, 16, []⟩),
  (10, ⟨false, [.str], 0, 16, []⟩),
  (11, ⟨false, [.str], 0, 16, []⟩),
  (12, ⟨false, [.int .u64], 0, 8, []⟩),
  (13, ⟨true, [.str, .int .u64], 0, 24, [(0, 9), (1, 12)]⟩),
  (14, ⟨true, [.str, .int .u64], 0, 24, [(0, 9), (1, 12)]⟩),
  (21, ⟨false, [.int .i32], 0, 4, []⟩),
  (22, ⟨false, [.sl 55 kk55], 55, 24, []⟩),
  (23, ⟨false, [.sl 60 kk60], 60, 24, []⟩),
  (24, ⟨true, [.sl 55 kk55, .int .i64, .int .i64, .sl 60 kk60], 0, 64, [(0, 22), (1, 3), (2, 3), (3, 23)]⟩),
  (25, ⟨true, [.sl 55 kk55, .int .i64, .int .i64, .sl 60 kk60], 0, 64, [(0, 22), (1, 3), (2, 3), (3, 23)]⟩),
  (27, ⟨false, [.sl 68 kk68], 68, 24, []⟩),
  (28, ⟨true, [.sl 68 kk68], 0, 24, [(0, 27)]⟩),
  (29, ⟨true, [.sl 68 kk68], 0, 24, [(0, 27)]⟩),
  (31, ⟨false, [.sl 62 kk62], 62, 24, []⟩),
  (32, ⟨false, [.sl 71 kk71], 71, 24, []⟩),
  (33, ⟨true, [.sl 62 kk62, .int .i64, .int .i64, .sl 71 kk71], 0, 64, [(0, 31), (1, 3), (2, 3), (3, 32)]⟩),
  (34, ⟨true, [.sl 62 kk62, .int .i64, .int .i64, .sl 71 kk71], 0, 64, [(0, 31), (1, 3), (2, 3), (3, 32)]⟩),
  (53, ⟨false, [.sl 107 kk107], 107, 24, []⟩),
  (54, ⟨true, [.int .i64, .sl 107 kk107], 0, 32, [(0, 3), (1, 53)]⟩),
  (55, ⟨true, [.int .i64, .sl 107 kk107], 0, 32, [(0, 3), (1, 53)]⟩),
  (57, ⟨false, [.sl 5 kk5], 5, 24, []⟩),
  (58, ⟨false, [.sl 3 kk3], 3, 24, []⟩),
  (59, ⟨true, [.sl 5 kk5, .int .i64, .sl 3 kk3, .int .i64, .int .i64, .int .i64, .int .i64, .int .i64, .sl 5 kk5], 0, 120, [(0, 57), (1, 3), (2, 58), (3, 3), (4, 3), (5, 3), (6, 3), (7, 3), (8, 57)]⟩),
  (60, ⟨true, [.sl 5 kk5, .int .i64, .sl 3 kk3, .int .i64, .int .i64, .int .i64, .int .i64, .int .i64, .sl 5 kk5], 0, 120, [(0, 57), (1, 3), (2, 58), (3, 3), (4, 3), (5, 3), (6, 3), (7, 3), (8, 57)]⟩),
  (61, ⟨true, [.int .i64, .sl 68 kk68], 0, 32, [(0, 3), (1, 27)]⟩),
  (62, ⟨true, [.int .i64, .sl 68 kk68], 0, 32, [(0, 3), (1, 27)]⟩),
  (63, ⟨false, [.sl 99 kk99], 99, 24, []⟩),
  (64, ⟨true, [.int .i64, .int .i64, .sl 3 kk3, .sl 3 kk3], 0, 64, [(0, 3), (1, 3), (2, 58), (3, 58)]⟩),
  (65, ⟨true, [.int .i64, .int .i64, .sl 3 kk3, .sl 3 kk3], 0, 64, [(0, 3), (1, 3), (2, 58), (3, 58)]⟩),
  (66, ⟨false, [.sl 101 kk101], 101, 24, []⟩),
  (67, ⟨true, [.str, .int .i64, .int .i64, .int .i64, .int .i64, .sl 99 kk99, .int .i64, .int .i64, .sl 3 kk3, .sl 3 kk3, .sl 101 kk101], 0, 160, [(0, 9), (1, 3), (2, 3), (3, 3), (4, 3), (5, 63), (6, 65), (10, 66)]⟩),
  (68, ⟨true, [.str, .int .i64, .int .i64, .int .i64, .int .i64, .sl 99 kk99, .int .i64, .int .i64, .sl 3 kk3, .sl 3 kk3, .sl 101 kk101], 0, 160, [(0, 9), (1, 3), (2, 3), (3, 3), (4, 3), (5, 63), (6, 65), (10, 66)]⟩),
  (71, ⟨true, [.sl 5 kk5, .int .i64, .sl 3 kk3, .int .i64, .int .i64, .int .i64, .int .i64, .int .i64, .sl 5 kk5], 0, 120, [(0, 57), (1, 3), (2, 58), (3, 3), (4, 3), (5, 3), (6, 3), (7, 3), (8, 57)]⟩),
  (98, ⟨true, [.str, .int .i64, .int .i64], 0, 32, [(0, 9), (1, 3), (2, 3)]⟩),
  (99, ⟨true, [.str, .int .i64, .int .i64], 0, 32, [(0, 9), (1, 3), (2, 3)]⟩),
  (100, ⟨true, [.str, .str, .sl 5 kk5], 0, 56, [(0, 9), (1, 9), (2, 57)]⟩),
  (101, ⟨true, [.str, .str, .sl 5 kk5], 0, 56, [(0, 9), (1, 9), (2, 57)]⟩),
  (103, ⟨false, [.sl 123 kk123], 123, 24, []⟩),
  (104, ⟨true, [.int .i64, .int .i64, .sl 3 kk3, .sl 3 kk3], 0, 64, [(0, 3), (1, 3), (2, 58), (3, 58)]⟩),
  (105, ⟨false, [.sl 125 kk125], 125, 24, []⟩),
  (106, ⟨true, [.str, .int .i64, .int .i64, .int .i64, .int .i64, .sl 123 kk123, .int .i64, .int .i64, .sl 3 kk3, .sl 3 kk3, .sl 125 kk125], 0, 160, [(0, 9), (1, 3), (2, 3), (3, 3), (4, 3), (5, 103), (6, 104), (10, 105)]⟩),
  (107, ⟨true, [.str, .int .i64, .int .i64, .int .i64, .int .i64, .sl 123 kk123, .int .i64, .int .i64, .sl 3 kk3, .sl 3 kk3, .sl 125 kk125], 0, 160, [(0, 9), (1, 3), (2, 3), (3, 3), (4, 3), (5, 103), (6, 104), (10, 105)]⟩),
  (121, ⟨false, [.int .u64], 0, 8, []⟩),
  (123, ⟨true, [.str, .int .i64, .int .i64], 0, 32, [(0, 9), (1, 3), (2, 3)]⟩),
  (125, ⟨true, [.str, .str, .sl 5 kk5], 0, 56, [(0, 9), (1, 9), (2, 57)]⟩),
  (135, ⟨false, [.int .u32], 0, 4, []⟩),
  (136, ⟨false, [.int .u8], 0, 1, []⟩),
  (137, ⟨false, [.int .u8], 0, 1, []⟩),
  (140, ⟨false, [.int .i32], 0, 4, []⟩),
  (141, ⟨false, [.int .i32], 0, 4, []⟩)]
noncomputable def E0 : En := ⟨0, tt, fun _ => [], [], fun _ => none, [], fun _ => none⟩
theorem hT : TTok Try.prog E0 := ttok_of (by kernel_rfl)
theorem hmix : Try.prog.follows .mixedOrders = true := by kernel_rfl
set_option maxHeartbeats 4000000
noncomputable def g80 (p0 : ((List UInt8) × Int × Int × Unit)) (p1 : Int) : Option (Unit × ((Int × Unit) × Unit)) :=
  let u1 := (subW .i64 p1 (lenI p0.1))
  cond (ltI u1 0) (
    some ((), (((-1), ()), ()))
  ) (
    some ((), ((u1, ()), ()))
  )
noncomputable def s80 : Su := ⟨[.c true [.str, .int .i64, .int .i64], .c false [.int .i64]], [(false, [.int .i64])], true, .inl fun x => g80 x.1 x.2.1.1⟩
def rh80 : List SE := []
noncomputable def lo80 : Nat → Option (Lo rh80)
  | _ => none
noncomputable def ga80 : List (Nat × Su) := []
noncomputable def E80 : En := ⟨13, tt, gaOf ga80, rh80, lo80, [], fun _ => none⟩
theorem t80 (x : PT s80.ps) : (fnT E80 (bodyOf Try.f80) Try.f80.results.toList s80.ps s80.rs true x).run = g80 x.1 x.2.1.1 := by kernel_rfl
theorem hga80 : GAok Try.prog E80 := gaok_of (l := ga80) trivial
theorem ok80 : SuOK Try.prog 80 s80 :=
  fn_ok (E := E80) (hTT hT) hga80 hmix (fn := Try.f80) (c := (bodyOf Try.f80)) (by kernel_rfl) (by kernel_rfl) (by kernel_rfl) rfl (loopsOK_all [] (by kernel_rfl) trivial) fun x y h => ⟨y.1, fun _ => rfl, (t80 x).trans h⟩
noncomputable def r71_0 (t0 : (List R123)) (t1 : Int) (t5 : Int) : Option (Sum ((List R123) × Int × Int × Unit) (Sum ((List R123) × Int × Int × Unit) (Int × Unit))) :=
  cond (ltI t5 (lenI t0)) (
    cond (inB t5 t0) (
    Option.bind (g80 (gt d123 t0 t5) t1) fun y1 =>
    cond (ltI y1.2.1.1 0) (
      some (.inr (.inr ((-1), ())))
    ) (
      some (.inl (t0, y1.2.1.1, (addW .i64 t5 1), ()))
    )
    ) none
  ) (
    some (.inr (.inl (t0, t1, t5, ())))
  )
noncomputable def l71_0 (t0 : (List R123)) (t1 : Int) (t5 : Int) : Option (Sum ((List R123) × Int × Int × Unit) (Int × Unit)) := loopF (fun (x : ((List R123) × Int × Int × Unit)) => r71_0 x.1 x.2.1 x.2.2.1) (t0, t1, t5, ())
noncomputable def g71 (p0 : (List R123)) (p1 : Int) : Option (Unit × ((Int × Unit) × Unit)) :=
  let u1 := (subW .i64 p1 (lenI p0))
  cond (ltI u1 0) (
    some ((), (((-1), ()), ()))
  ) (
    Option.bind (l71_0 p0 u1 0) (Sum.elim (fun y1 =>
      some ((), ((y1.2.1, ()), ()))
    ) (fun y1 =>
      some ((), (y1, ()))
    ))
  )
noncomputable def s71 : Su := ⟨[.c false [.sl 123 kk123], .c false [.int .i64]], [(false, [.int .i64])], true, .inl fun x => g71 x.1.1 x.2.1.1⟩
def sg71_0 : List SE := [.d 0 (.sl 123 kk123), .d 1 (.int .i64), .d 5 (.int .i64)]
def rh71 : List SE := [.d 4 (.int .i64)]
noncomputable def lo71 : Nat → Option (Lo rh71)
  | 0 => some ⟨sg71_0, fun x => l71_0 x.1 x.2.1 x.2.2.1⟩
  | _ => none
noncomputable def ga71 : List (Nat × Su) := [(80, s80)]
noncomputable def E71 : En := ⟨27, tt, gaOf ga71, rh71, lo71, [], fun _ => none⟩
theorem t71_0 (x : SigT sg71_0) : (roundT E71 0 sg71_0 (loopOf 0 (bodyOf Try.f71)) x).run = r71_0 x.1 x.2.1 x.2.2.1 := by kernel_rfl
theorem t71 (x : PT s71.ps) : (fnT E71 (bodyOf Try.f71) Try.f71.results.toList s71.ps s71.rs true x).run = g71 x.1.1 x.2.1.1 := by kernel_rfl
theorem hga71 : GAok Try.prog E71 := gaok_of (l := ga71) ⟨ok80, trivial⟩
theorem L71_0 : LoopSem Try.prog E71 0 (.loop (loopOf 0 (bodyOf Try.f71))) ⟨sg71_0, fun x => l71_0 x.1 x.2.1 x.2.2.1⟩ :=
  sem_of (hTT hT) hga71 hmix (step := fun (x : SigT sg71_0) => r71_0 x.1 x.2.1 x.2.2.1) t71_0 (loopsOK_all [] (by kernel_rfl) trivial)
theorem ok71 : SuOK Try.prog 71 s71 :=
  fn_ok (E := E71) (hTT hT) hga71 hmix (fn := Try.f71) (c := (bodyOf Try.f71)) (by kernel_rfl) (by kernel_rfl) (by kernel_rfl) rfl (loopsOK_all [(0, .loop (loopOf 0 (bodyOf Try.f71)))] (by kernel_rfl) ⟨semL rfl L71_0, trivial⟩) fun x y h => ⟨y.1, fun _ => rfl, (t71 x).trans h⟩
noncomputable def g47 (p0 : (List R3)) (p1 : Int) : Option (Unit × ((Int × Unit) × Unit)) :=
  let u1 := (subW .i64 p1 (lenI p0))
  cond (ltI u1 0) (
    some ((), (((-1), ()), ()))
  ) (
    some ((), ((u1, ()), ()))
  )
noncomputable def s47 : Su := ⟨[.c false [.sl 3 kk3], .c false [.int .i64]], [(false, [.int .i64])], true, .inl fun x => g47 x.1.1 x.2.1.1⟩
def rh47 : List SE := []
noncomputable def lo47 : Nat → Option (Lo rh47)
  | _ => none
noncomputable def ga47 : List (Nat × Su) := []
noncomputable def E47 : En := ⟨12, tt, gaOf ga47, rh47, lo47, [], fun _ => none⟩
theorem t47 (x : PT s47.ps) : (fnT E47 (bodyOf Try.f47) Try.f47.results.toList s47.ps s47.rs true x).run = g47 x.1.1 x.2.1.1 := by kernel_rfl
theorem hga47 : GAok Try.prog E47 := gaok_of (l := ga47) trivial
theorem ok47 : SuOK Try.prog 47 s47 :=
  fn_ok (E := E47) (hTT hT) hga47 hmix (fn := Try.f47) (c := (bodyOf Try.f47)) (by kernel_rfl) (by kernel_rfl) (by kernel_rfl) rfl (loopsOK_all [] (by kernel_rfl) trivial) fun x y h => ⟨y.1, fun _ => rfl, (t47 x).trans h⟩
noncomputable def g72 (p0 : (Int × Int × (List R3) × (List R3) × Unit)) (p1 : Int) : Option (Unit × ((Int × Unit) × Unit)) :=
  Option.bind (g47 p0.2.2.1 p1) fun y1 =>
  cond (ltI y1.2.1.1 0) (
    some ((), (((-1), ()), ()))
  ) (
    Option.bind (g47 p0.2.2.2.1 y1.2.1.1) fun y2 =>
    cond (ltI y2.2.1.1 0) (
      some ((), (((-1), ()), ()))
    ) (
      some ((), (y2.2.1, ()))
    )
  )
noncomputable def s72 : Su := ⟨[.c true [.int .i64, .int .i64, .sl 3 kk3, .sl 3 kk3], .c false [.int .i64]], [(false, [.int .i64])], true, .inl fun x => g72 x.1 x.2.1.1⟩
def rh72 : List SE := []
noncomputable def lo72 : Nat → Option (Lo rh72)
  | _ => none
noncomputable def ga72 : List (Nat × Su) := [(47, s47)]
noncomputable def E72 : En := ⟨18, tt, gaOf ga72, rh72, lo72, [], fun _ => none⟩
theorem t72 (x : PT s72.ps) : (fnT E72 (bodyOf Try.f72) Try.f72.results.toList s72.ps s72.rs true x).run = g72 x.1 x.2.1.1 := by kernel_rfl
theorem hga72 : GAok Try.prog E72 := gaok_of (l := ga72) ⟨ok47, trivial⟩
theorem ok72 : SuOK Try.prog 72 s72 :=
  fn_ok (E := E72) (hTT hT) hga72 hmix (fn := Try.f72) (c := (bodyOf Try.f72)) (by kernel_rfl) (by kernel_rfl) (by kernel_rfl) rfl (loopsOK_all [] (by kernel_rfl) trivial) fun x y h => ⟨y.1, fun _ => rfl, (t72 x).trans h⟩
noncomputable def g46 (p0 : (List R5)) (p1 : Int) : Option (Unit × ((Int × Unit) × Unit)) :=
  let u1 := (subW .i64 p1 (lenI p0))
  cond (ltI u1 0) (
    some ((), (((-1), ()), ()))
  ) (
    some ((), ((u1, ()), ()))
  )
noncomputable def s46 : Su := ⟨[.c false [.sl 5 kk5], .c false [.int .i64]], [(false, [.int .i64])], true, .inl fun x => g46 x.1.1 x.2.1.1⟩
def rh46 : List SE := []
noncomputable def lo46 : Nat → Option (Lo rh46)
  | _ => none
noncomputable def ga46 : List (Nat × Su) := []
noncomputable def E46 : En := ⟨12, tt, gaOf ga46, rh46, lo46, [], fun _ => none⟩
theorem t46 (x : PT s46.ps) : (fnT E46 (bodyOf Try.f46) Try.f46.results.toList s46.ps s46.rs true x).run = g46 x.1.1 x.2.1.1 := by kernel_rfl
theorem hga46 : GAok Try.prog E46 := gaok_of (l := ga46) trivial
theorem ok46 : SuOK Try.prog 46 s46 :=
  fn_ok (E := E46) (hTT hT) hga46 hmix (fn := Try.f46) (c := (bodyOf Try.f46)) (by kernel_rfl) (by kernel_rfl) (by kernel_rfl) rfl (loopsOK_all [] (by kernel_rfl) trivial) fun x y h => ⟨y.1, fun _ => rfl, (t46 x).trans h⟩
noncomputable def g81 (p0 : ((List UInt8) × (List UInt8) × (List R5) × Unit)) (p1 : Int) : Option (Unit × ((Int × Unit) × Unit)) :=
  let u1 := (subW .i64 p1 (lenI p0.1))
  cond (ltI u1 0) (
    some ((), (((-1), ()), ()))
  ) (
    let u2 := (subW .i64 u1 (lenI p0.2.1))
    cond (ltI u2 0) (
      some ((), (((-1), ()), ()))
    ) (
      Option.bind (g46 p0.2.2.1 u2) fun y1 =>
      cond (ltI y1.2.1.1 0) (
        some ((), (((-1), ()), ()))
      ) (
        some ((), (y1.2.1, ()))
      )
    )
  )
noncomputable def s81 : Su := ⟨[.c true [.str, .str, .sl 5 kk5], .c false [.int .i64]], [(false, [.int .i64])], true, .inl fun x => g81 x.1 x.2.1.1⟩
def rh81 : List SE := []
noncomputable def lo81 : Nat → Option (Lo rh81)
  | _ => none
noncomputable def ga81 : List (Nat × Su) := [(46, s46)]
noncomputable def E81 : En := ⟨26, tt, gaOf ga81, rh81, lo81, [], fun _ => none⟩
theorem t81 (x : PT s81.ps) : (fnT E81 (bodyOf Try.f81) Try.f81.results.toList s81.ps s81.rs true x).run = g81 x.1 x.2.1.1 := by kernel_rfl
theorem hga81 : GAok Try.prog E81 := gaok_of (l := ga81) ⟨ok46, trivial⟩
theorem ok81 : SuOK Try.prog 81 s81 :=
  fn_ok (E := E81) (hTT hT) hga81 hmix (fn := Try.f81) (c := (bodyOf Try.f81)) (by kernel_rfl) (by kernel_rfl) (by kernel_rfl) rfl (loopsOK_all [] (by kernel_rfl) trivial) fun x y h => ⟨y.1, fun _ => rfl, (t81 x).trans h⟩
noncomputable def r73_0 (t0 : (List R125)) (t1 : Int) (t5 : Int) : Option (Sum ((List R125) × Int × Int × Unit) (Sum ((List R125) × Int × Int × Unit) (Int × Unit))) :=
  cond (ltI t5 (lenI t0)) (
    cond (inB t5 t0) (
    Option.bind (g81 (gt d125 t0 t5) t1) fun y1 =>
    cond (ltI y1.2.1.1 0) (
      some (.inr (.inr ((-1), ())))
    ) (
      some (.inl (t0, y1.2.1.1, (addW .i64 t5 1), ()))
    )
    ) none
  ) (
    some (.inr (.inl (t0, t1, t5, ())))
  )
noncomputable def l73_0 (t0 : (List R125)) (t1 : Int) (t5 : Int) : Option (Sum ((List R125) × Int × Int × Unit) (Int × Unit)) := loopF (fun (x : ((List R125) × Int × Int × Unit)) => r73_0 x.1 x.2.1 x.2.2.1) (t0, t1, t5, ())
noncomputable def g73 (p0 : (List R125)) (p1 : Int) : Option (Unit × ((Int × Unit) × Unit)) :=
  let u1 := (subW .i64 p1 (lenI p0))
  cond (ltI u1 0) (
    some ((), (((-1), ()), ()))
  ) (
    Option.bind (l73_0 p0 u1 0) (Sum.elim (fun y1 =>
      some ((), ((y1.2.1, ()), ()))
    ) (fun y1 =>
      some ((), (y1, ()))
    ))
  )
noncomputable def s73 : Su := ⟨[.c false [.sl 125 kk125], .c false [.int .i64]], [(false, [.int .i64])], true, .inl fun x => g73 x.1.1 x.2.1.1⟩
def sg73_0 : List SE := [.d 0 (.sl 125 kk125), .d 1 (.int .i64), .d 5 (.int .i64)]
def rh73 : List SE := [.d 4 (.int .i64)]
noncomputable def lo73 : Nat → Option (Lo rh73)
  | 0 => some ⟨sg73_0, fun x => l73_0 x.1 x.2.1 x.2.2.1⟩
  | _ => none
noncomputable def ga73 : List (Nat × Su) := [(81, s81)]
noncomputable def E73 : En := ⟨27, tt, gaOf ga73, rh73, lo73, [], fun _ => none⟩
theorem t73_0 (x : SigT sg73_0) : (roundT E73 0 sg73_0 (loopOf 0 (bodyOf Try.f73)) x).run = r73_0 x.1 x.2.1 x.2.2.1 := by kernel_rfl
theorem t73 (x : PT s73.ps) : (fnT E73 (bodyOf Try.f73) Try.f73.results.toList s73.ps s73.rs true x).run = g73 x.1.1 x.2.1.1 := by kernel_rfl
theorem hga73 : GAok Try.prog E73 := gaok_of (l := ga73) ⟨ok81, trivial⟩
theorem L73_0 : LoopSem Try.prog E73 0 (.loop (loopOf 0 (bodyOf Try.f73))) ⟨sg73_0, fun x => l73_0 x.1 x.2.1 x.2.2.1⟩ :=
  sem_of (hTT hT) hga73 hmix (step := fun (x : SigT sg73_0) => r73_0 x.1 x.2.1 x.2.2.1) t73_0 (loopsOK_all [] (by kernel_rfl) trivial)
theorem ok73 : SuOK Try.prog 73 s73 :=
  fn_ok (E := E73) (hTT hT) hga73 hmix (fn := Try.f73) (c := (bodyOf Try.f73)) (by kernel_rfl) (by kernel_rfl) (by kernel_rfl) rfl (loopsOK_all [(0, .loop (loopOf 0 (bodyOf Try.f73)))] (by kernel_rfl) ⟨semL rfl L73_0, trivial⟩) fun x y h => ⟨y.1, fun _ => rfl, (t73 x).trans h⟩
noncomputable def g62 (p0 : ((List UInt8) × Int × Int × Int × Int × (List R123) × Int × Int × (List R3) × (List R3) × (List R125) × Unit)) (p1 : Int) : Option (Unit × ((Int × Unit) × Unit)) :=
  let u1 := (subW .i64 p1 (lenI p0.1))
  cond (ltI u1 0) (
    some ((), (((-1), ()), ()))
  ) (
    Option.bind (g71 p0.2.2.2.2.2.1 u1) fun y1 =>
    cond (ltI y1.2.1.1 0) (
      some ((), (((-1), ()), ()))
    ) (
      Option.bind (g72 (p0.2.2.2.2.2.2.1, p0.2.2.2.2.2.2.2.1, p0.2.2.2.2.2.2.2.2.1, p0.2.2.2.2.2.2.2.2.2.1, ()) y1.2.1.1) fun y2 =>
      cond (ltI y2.2.1.1 0) (
        some ((), (((-1), ()), ()))
      ) (
        Option.bind (g73 p0.2.2.2.2.2.2.2.2.2.2.1 y2.2.1.1) fun y3 =>
        cond (ltI y3.2.1.1 0) (
          some ((), (((-1), ()), ()))
        ) (
          some ((), (y3.2.1, ()))
        )
      )
    )
  )
noncomputable def s62 : Su := ⟨[.c true [.str, .int .i64, .int .i64, .int .i64, .int .i64, .sl 123 kk123, .int .i64, .int .i64, .sl 3 kk3, .sl 3 kk3, .sl 125 kk125], .c false [.int .i64]], [(false, [.int .i64])], true, .inl fun x => g62 x.1 x.2.1.1⟩
def rh62 : List SE := []
noncomputable def lo62 : Nat → Option (Lo rh62)
  | _ => none
noncomputable def ga62 : List (Nat × Su) := [(71, s71), (72, s72), (73, s73)]
noncomputable def E62 : En := ⟨31, tt, gaOf ga62, rh62, lo62, [], fun _ => none⟩
theorem t62 (x : PT s62.ps) : (fnT E62 (bodyOf Try.f62) Try.f62.results.toList s62.ps s62.rs true x).run = g62 x.1 x.2.1.1 := by kernel_rfl
theorem hga62 : GAok Try.prog E62 := gaok_of (l := ga62) ⟨ok71, ok72, ok73, trivial⟩
theorem ok62 : SuOK Try.prog 62 s62 :=
  fn_ok (E := E62) (hTT hT) hga62 hmix (fn := Try.f62) (c := (bodyOf Try.f62)) (by kernel_rfl) (by kernel_rfl) (by kernel_rfl) rfl (loopsOK_all [] (by kernel_rfl) trivial) fun x y h => ⟨y.1, fun _ => rfl, (t62 x).trans h⟩
noncomputable def r45_0 (t0 : (List R107)) (t1 : Int) (t5 : Int) : Option (Sum ((List R107) × Int × Int × Unit) (Sum ((List R107) × Int × Int × Unit) (Int × Unit))) :=
  cond (ltI t5 (lenI t0)) (
    cond (inB t5 t0) (
    Option.bind (g62 (gt d107 t0 t5) t1) fun y1 =>
    cond (ltI y1.2.1.1 0) (
      some (.inr (.inr ((-1), ())))
    ) (
      some (.inl (t0, y1.2.1.1, (addW .i64 t5 1), ()))
    )
    ) none
  ) (
    some (.inr (.inl (t0, t1, t5, ())))
  )
noncomputable def l45_0 (t0 : (List R107)) (t1 : Int) (t5 : Int) : Option (Sum ((List R107) × Int × Int × Unit) (Int × Unit)) := loopF (fun (x : ((List R107) × Int × Int × Unit)) => r45_0 x.1 x.2.1 x.2.2.1) (t0, t1, t5, ())
noncomputable def g45 (p0 : (List R107)) (p1 : Int) : Option (Unit × ((Int × Unit) × Unit)) :=
  let u1 := (subW .i64 p1 (lenI p0))
  cond (ltI u1 0) (
    some ((), (((-1), ()), ()))
  ) (
    Option.bind (l45_0 p0 u1 0) (Sum.elim (fun y1 =>
      some ((), ((y1.2.1, ()), ()))
    ) (fun y1 =>
      some ((), (y1, ()))
    ))
  )
noncomputable def s45 : Su := ⟨[.c false [.sl 107 kk107], .c false [.int .i64]], [(false, [.int .i64])], true, .inl fun x => g45 x.1.1 x.2.1.1⟩
def sg45_0 : List SE := [.d 0 (.sl 107 kk107), .d 1 (.int .i64), .d 5 (.int .i64)]
def rh45 : List SE := [.d 4 (.int .i64)]
noncomputable def lo45 : Nat → Option (Lo rh45)
  | 0 => some ⟨sg45_0, fun x => l45_0 x.1 x.2.1 x.2.2.1⟩
  | _ => none
noncomputable def ga45 : List (Nat × Su) := [(62, s62)]
noncomputable def E45 : En := ⟨27, tt, gaOf ga45, rh45, lo45, [], fun _ => none⟩
theorem t45_0 (x : SigT sg45_0) : (roundT E45 0 sg45_0 (loopOf 0 (bodyOf Try.f45)) x).run = r45_0 x.1 x.2.1 x.2.2.1 := by kernel_rfl
theorem t45 (x : PT s45.ps) : (fnT E45 (bodyOf Try.f45) Try.f45.results.toList s45.ps s45.rs true x).run = g45 x.1.1 x.2.1.1 := by kernel_rfl
theorem hga45 : GAok Try.prog E45 := gaok_of (l := ga45) ⟨ok62, trivial⟩
theorem L45_0 : LoopSem Try.prog E45 0 (.loop (loopOf 0 (bodyOf Try.f45))) ⟨sg45_0, fun x => l45_0 x.1 x.2.1 x.2.2.1⟩ :=
  sem_of (hTT hT) hga45 hmix (step := fun (x : SigT sg45_0) => r45_0 x.1 x.2.1 x.2.2.1) t45_0 (loopsOK_all [] (by kernel_rfl) trivial)
theorem ok45 : SuOK Try.prog 45 s45 :=
  fn_ok (E := E45) (hTT hT) hga45 hmix (fn := Try.f45) (c := (bodyOf Try.f45)) (by kernel_rfl) (by kernel_rfl) (by kernel_rfl) rfl (loopsOK_all [(0, .loop (loopOf 0 (bodyOf Try.f45)))] (by kernel_rfl) ⟨semL rfl L45_0, trivial⟩) fun x y h => ⟨y.1, fun _ => rfl, (t45 x).trans h⟩
noncomputable def g26 (p0 : (Int × (List R107) × Unit)) (p1 : Int) : Option (Unit × ((Int × Unit) × Unit)) :=
  Option.bind (g45 p0.2.1 p1) fun y1 =>
  cond (ltI y1.2.1.1 0) (
    some ((), (((-1), ()), ()))
  ) (
    some ((), (y1.2.1, ()))
  )
noncomputable def s26 : Su := ⟨[.c true [.int .i64, .sl 107 kk107], .c false [.int .i64]], [(false, [.int .i64])], true, .inl fun x => g26 x.1 x.2.1.1⟩
def rh26 : List SE := []
noncomputable def lo26 : Nat → Option (Lo rh26)
  | _ => none
noncomputable def ga26 : List (Nat × Su) := [(45, s45)]
noncomputable def E26 : En := ⟨12, tt, gaOf ga26, rh26, lo26, [], fun _ => none⟩
theorem t26 (x : PT s26.ps) : (fnT E26 (bodyOf Try.f26) Try.f26.results.toList s26.ps s26.rs true x).run = g26 x.1 x.2.1.1 := by kernel_rfl
theorem hga26 : GAok Try.prog E26 := gaok_of (l := ga26) ⟨ok45, trivial⟩
theorem ok26 : SuOK Try.prog 26 s26 :=
  fn_ok (E := E26) (hTT hT) hga26 hmix (fn := Try.f26) (c := (bodyOf Try.f26)) (by kernel_rfl) (by kernel_rfl) (by kernel_rfl) rfl (loopsOK_all [] (by kernel_rfl) trivial) fun x y h => ⟨y.1, fun _ => rfl, (t26 x).trans h⟩
noncomputable def r13_0 (t0 : (List R55)) (t1 : Int) (t5 : Int) : Option (Sum ((List R55) × Int × Int × Unit) (Sum ((List R55) × Int × Int × Unit) (Int × Unit))) :=
  cond (ltI t5 (lenI t0)) (
    cond (inB t5 t0) (
    Option.bind (g26 (gt d55 t0 t5) t1) fun y1 =>
    cond (ltI y1.2.1.1 0) (
      some (.inr (.inr ((-1), ())))
    ) (
      some (.inl (t0, y1.2.1.1, (addW .i64 t5 1), ()))
    )
    ) none
  ) (
    some (.inr (.inl (t0, t1, t5, ())))
  )
noncomputable def l13_0 (t0 : (List R55)) (t1 : Int) (t5 : Int) : Option (Sum ((List R55) × Int × Int × Unit) (Int × Unit)) := loopF (fun (x : ((List R55) × Int × Int × Unit)) => r13_0 x.1 x.2.1 x.2.2.1) (t0, t1, t5, ())
noncomputable def g13 (p0 : (List R55)) (p1 : Int) : Option (Unit × ((Int × Unit) × Unit)) :=
  let u1 := (subW .i64 p1 (lenI p0))
  cond (ltI u1 0) (
    some ((), (((-1), ()), ()))
  ) (
    Option.bind (l13_0 p0 u1 0) (Sum.elim (fun y1 =>
      some ((), ((y1.2.1, ()), ()))
    ) (fun y1 =>
      some ((), (y1, ()))
    ))
  )
noncomputable def s13 : Su := ⟨[.c false [.sl 55 kk55], .c false [.int .i64]], [(false, [.int .i64])], true, .inl fun x => g13 x.1.1 x.2.1.1⟩
def sg13_0 : List SE := [.d 0 (.sl 55 kk55), .d 1 (.int .i64), .d 5 (.int .i64)]
def rh13 : List SE := [.d 4 (.int .i64)]
noncomputable def lo13 : Nat → Option (Lo rh13)
  | 0 => some ⟨sg13_0, fun x => l13_0 x.1 x.2.1 x.2.2.1⟩
  | _ => none
noncomputable def ga13 : List (Nat × Su) := [(26, s26)]
noncomputable def E13 : En := ⟨27, tt, gaOf ga13, rh13, lo13, [], fun _ => none⟩
theorem t13_0 (x : SigT sg13_0) : (roundT E13 0 sg13_0 (loopOf 0 (bodyOf Try.f13)) x).run = r13_0 x.1 x.2.1 x.2.2.1 := by kernel_rfl
theorem t13 (x : PT s13.ps) : (fnT E13 (bodyOf Try.f13) Try.f13.results.toList s13.ps s13.rs true x).run = g13 x.1.1 x.2.1.1 := by kernel_rfl
theorem hga13 : GAok Try.prog E13 := gaok_of (l := ga13) ⟨ok26, trivial⟩
theorem L13_0 : LoopSem Try.prog E13 0 (.loop (loopOf 0 (bodyOf Try.f13))) ⟨sg13_0, fun x => l13_0 x.1 x.2.1 x.2.2.1⟩ :=
  sem_of (hTT hT) hga13 hmix (step := fun (x : SigT sg13_0) => r13_0 x.1 x.2.1 x.2.2.1) t13_0 (loopsOK_all [] (by kernel_rfl) trivial)
theorem ok13 : SuOK Try.prog 13 s13 :=
  fn_ok (E := E13) (hTT hT) hga13 hmix (fn := Try.f13) (c := (bodyOf Try.f13)) (by kernel_rfl) (by kernel_rfl) (by kernel_rfl) rfl (loopsOK_all [(0, .loop (loopOf 0 (bodyOf Try.f13)))] (by kernel_rfl) ⟨semL rfl L13_0, trivial⟩) fun x y h => ⟨y.1, fun _ => rfl, (t13 x).trans h⟩
noncomputable def g27 (p0 : ((List R5) × Int × (List R3) × Int × Int × Int × Int × Int × (List R5) × Unit)) (p1 : Int) : Option (Unit × ((Int × Unit) × Unit)) :=
  Option.bind (g46 p0.1 p1) fun y1 =>
  cond (ltI y1.2.1.1 0) (
    some ((), (((-1), ()), ()))
  ) (
    Option.bind (g47 p0.2.2.1 y1.2.1.1) fun y2 =>
    cond (ltI y2.2.1.1 0) (
      some ((), (((-1), ()), ()))
    ) (
      Option.bind (g46 p0.2.2.2.2.2.2.2.2.1 y2.2.1.1) fun y3 =>
      cond (ltI y3.2.1.1 0) (
        some ((), (((-1), ()), ()))
      ) (
        some ((), (y3.2.1, ()))
      )
    )
  )
noncomputable def s27 : Su := ⟨[.c true [.sl 5 kk5, .int .i64, .sl 3 kk3, .int .i64, .int .i64, .int .i64, .int .i64, .int .i64, .sl 5 kk5], .c false [.int .i64]], [(false, [.int .i64])], true, .inl fun x => g27 x.1 x.2.1.1⟩
def rh27 : List SE := []
noncomputable def lo27 : Nat → Option (Lo rh27)
  | _ => none
noncomputable def ga27 : List (Nat × Su) := [(47, s47), (46, s46)]
noncomputable def E27 : En := ⟨24, tt, gaOf ga27, rh27, lo27, [], fun _ => none⟩
theorem t27 (x : PT s27.ps) : (fnT E27 (bodyOf Try.f27) Try.f27.results.toList s27.ps s27.rs true x).run = g27 x.1 x.2.1.1 := by kernel_rfl
theorem hga27 : GAok Try.prog E27 := gaok_of (l := ga27) ⟨ok47, ok46, trivial⟩
theorem ok27 : SuOK Try.prog 27 s27 :=
  fn_ok (E := E27) (hTT hT) hga27 hmix (fn := Try.f27) (c := (bodyOf Try.f27)) (by kernel_rfl) (by kernel_rfl) (by kernel_rfl) rfl (loopsOK_all [] (by kernel_rfl) trivial) fun x y h => ⟨y.1, fun _ => rfl, (t27 x).trans h⟩
noncomputable def r14_0 (t0 : (List R60)) (t1 : Int) (t5 : Int) : Option (Sum ((List R60) × Int × Int × Unit) (Sum ((List R60) × Int × Int × Unit) (Int × Unit))) :=
  cond (ltI t5 (lenI t0)) (
    cond (inB t5 t0) (
    Option.bind (g27 (gt d60 t0 t5) t1) fun y1 =>
    cond (ltI y1.2.1.1 0) (
      some (.inr (.inr ((-1), ())))
    ) (
      some (.inl (t0, y1.2.1.1, (addW .i64 t5 1), ()))
    )
    ) none
  ) (
    some (.inr (.inl (t0, t1, t5, ())))
  )
noncomputable def l14_0 (t0 : (List R60)) (t1 : Int) (t5 : Int) : Option (Sum ((List R60) × Int × Int × Unit) (Int × Unit)) := loopF (fun (x : ((List R60) × Int × Int × Unit)) => r14_0 x.1 x.2.1 x.2.2.1) (t0, t1, t5, ())
noncomputable def g14 (p0 : (List R60)) (p1 : Int) : Option (Unit × ((Int × Unit) × Unit)) :=
  let u1 := (subW .i64 p1 (lenI p0))
  cond (ltI u1 0) (
    some ((), (((-1), ()), ()))
  ) (
    Option.bind (l14_0 p0 u1 0) (Sum.elim (fun y1 =>
      some ((), ((y1.2.1, ()), ()))
    ) (fun y1 =>
      some ((), (y1, ()))
    ))
  )
noncomputable def s14 : Su := ⟨[.c false [.sl 60 kk60], .c false [.int .i64]], [(false, [.int .i64])], true, .inl fun x => g14 x.1.1 x.2.1.1⟩
def sg14_0 : List SE := [.d 0 (.sl 60 kk60), .d 1 (.int .i64), .d 5 (.int .i64)]
def rh14 : List SE := [.d 4 (.int .i64)]
noncomputable def lo14 : Nat → Option (Lo rh14)
  | 0 => some ⟨sg14_0, fun x => l14_0 x.1 x.2.1 x.2.2.1⟩
  | _ => none
noncomputable def ga14 : List (Nat × Su) := [(27, s27)]
noncomputable def E14 : En := ⟨27, tt, gaOf ga14, rh14, lo14, [], fun _ => none⟩
theorem t14_0 (x : SigT sg14_0) : (roundT E14 0 sg14_0 (loopOf 0 (bodyOf Try.f14)) x).run = r14_0 x.1 x.2.1 x.2.2.1 := by kernel_rfl
theorem t14 (x : PT s14.ps) : (fnT E14 (bodyOf Try.f14) Try.f14.results.toList s14.ps s14.rs true x).run = g14 x.1.1 x.2.1.1 := by kernel_rfl
theorem hga14 : GAok Try.prog E14 := gaok_of (l := ga14) ⟨ok27, trivial⟩
theorem L14_0 : LoopSem Try.prog E14 0 (.loop (loopOf 0 (bodyOf Try.f14))) ⟨sg14_0, fun x => l14_0 x.1 x.2.1 x.2.2.1⟩ :=
  sem_of (hTT hT) hga14 hmix (step := fun (x : SigT sg14_0) => r14_0 x.1 x.2.1 x.2.2.1) t14_0 (loopsOK_all [] (by kernel_rfl) trivial)
theorem ok14 : SuOK Try.prog 14 s14 :=
  fn_ok (E := E14) (hTT hT) hga14 hmix (fn := Try.f14) (c := (bodyOf Try.f14)) (by kernel_rfl) (by kernel_rfl) (by kernel_rfl) rfl (loopsOK_all [(0, .loop (loopOf 0 (bodyOf Try.f14)))] (by kernel_rfl) ⟨semL rfl L14_0, trivial⟩) fun x y h => ⟨y.1, fun _ => rfl, (t14 x).trans h⟩
noncomputable def g4 (p0 : ((List R55) × Int × Int × (List R60) × Unit)) (p1 : Int) : Option (Unit × ((Int × Unit) × Unit)) :=
  Option.bind (g13 p0.1 p1) fun y1 =>
  cond (ltI y1.2.1.1 0) (
    some ((), (((-1), ()), ()))
  ) (
    Option.bind (g14 p0.2.2.2.1 y1.2.1.1) fun y2 =>
    cond (ltI y2.2.1.1 0) (
      some ((), (((-1), ()), ()))
    ) (
      some ((), (y2.2.1, ()))
    )
  )
noncomputable def s4 : Su := ⟨[.c true [.sl 55 kk55, .int .i64, .int .i64, .sl 60 kk60], .c false [.int .i64]], [(false, [.int .i64])], true, .inl fun x => g4 x.1 x.2.1.1⟩
def rh4 : List SE := []
noncomputable def lo4 : Nat → Option (Lo rh4)
  | _ => none
noncomputable def ga4 : List (Nat × Su) := [(13, s13), (14, s14)]
noncomputable def E4 : En := ⟨18, tt, gaOf ga4, rh4, lo4, [], fun _ => none⟩
theorem t4 (x : PT s4.ps) : (fnT E4 (bodyOf Try.f4) Try.f4.results.toList s4.ps s4.rs true x).run = g4 x.1 x.2.1.1 := by kernel_rfl
theorem hga4 : GAok Try.prog E4 := gaok_of (l := ga4) ⟨ok13, ok14, trivial⟩
theorem ok4 : SuOK Try.prog 4 s4 :=
  fn_ok (E := E4) (hTT hT) hga4 hmix (fn := Try.f4) (c := (bodyOf Try.f4)) (by kernel_rfl) (by kernel_rfl) (by kernel_rfl) rfl (loopsOK_all [] (by kernel_rfl) trivial) fun x y h => ⟨y.1, fun _ => rfl, (t4 x).trans h⟩
noncomputable def g82 (p0 : ((List UInt8) × Int × Int × Unit)) : Option (Unit × (((List UInt8) × Int × Int × Unit) × Unit)) :=
  some ((), (p0, ()))
noncomputable def s82 : Su := ⟨[.c true [.str, .int .i64, .int .i64]], [(true, [.str, .int .i64, .int .i64])], true, .inl fun x => g82 x.1⟩
def rh82 : List SE := []
noncomputable def lo82 : Nat → Option (Lo rh82)
  | _ => none
noncomputable def ga82 : List (Nat × Su) := []
noncomputable def E82 : En := ⟨14, tt, gaOf ga82, rh82, lo82, [], fun _ => none⟩
theorem t82 (x : PT s82.ps) : (fnT E82 (bodyOf Try.f82) Try.f82.results.toList s82.ps s82.rs true x).run = g82 x.1 := by kernel_rfl
theorem hga82 : GAok Try.prog E82 := gaok_of (l := ga82) trivial
theorem ok82 : SuOK Try.prog 82 s82 :=
  fn_ok (E := E82) (hTT hT) hga82 hmix (fn := Try.f82) (c := (bodyOf Try.f82)) (by kernel_rfl) (by kernel_rfl) (by kernel_rfl) rfl (loopsOK_all [] (by kernel_rfl) trivial) fun x y h => ⟨y.1, fun _ => rfl, (t82 x).trans h⟩
noncomputable def r74_0 (t0 : (List R123)) (t3 : (List R99)) (t4 : Int) : Option (Sum ((List R123) × (List R99) × Int × Unit) (Sum ((List R123) × (List R99) × Int × Unit) Unit)) :=
  cond (ltI t4 (lenI t0)) (
    cond (inB t4 t0) (
    Option.bind (g82 (gt d123 t0 t4)) fun y1 =>
    cond (inB t4 t3) (
    let u1 := (gt d99 t3 t4)
    let u2 := (stI t3 t4 (y1.2.1.1, u1.2.1, u1.2.2.1, ()))
    let u3 := (gt d99 u2 t4)
    let u4 := (stI u2 t4 (u3.1, y1.2.1.2.1, u3.2.2.1, ()))
    let u5 := (gt d99 u4 t4)
    some (.inl (t0, (stI u4 t4 (u5.1, u5.2.1, y1.2.1.2.2.1, ())), (addW .i64 t4 1), ()))
    ) none
    ) none
  ) (
    some (.inr (.inl (t0, t3, t4, ())))
  )
noncomputable def l74_0 (t0 : (List R123)) (t3 : (List R99)) (t4 : Int) : Option (Sum ((List R123) × (List R99) × Int × Unit) Unit) := loopF (fun (x : ((List R123) × (List R99) × Int × Unit)) => r74_0 x.1 x.2.1 x.2.2.1) (t0, t3, t4, ())
noncomputable def g74 (p0 : (List R123)) : Option (Unit × (((List R99) × Unit) × Unit)) :=
  let u1 := (lenI p0)
  cond (mkB 32 u1) (
  Option.bind (l74_0 p0 (repI d99 u1) 0) (Sum.elim (fun y1 =>
    some ((), ((y1.2.1, ()), ()))
  ) (fun y1 =>
    none
  ))
  ) none
noncomputable def s74 : Su := ⟨[.c false [.sl 123 kk123]], [(false, [.sl 99 kk99])], true, .inl fun x => g74 x.1.1⟩
def sg74_0 : List SE := [.d 0 (.sl 123 kk123), .own 3 (.sl 99 kk99), .d 4 (.int .i64)]
def rh74 : List SE := []
noncomputable def lo74 : Nat → Option (Lo rh74)
  | 0 => some ⟨sg74_0, fun x => l74_0 x.1 x.2.1 x.2.2.1⟩
  | _ => none
noncomputable def ga74 : List (Nat × Su) := [(82, s82)]
noncomputable def E74 : En := ⟨23, tt, gaOf ga74, rh74, lo74, [], fun _ => none⟩
theorem t74_0 (x : SigT sg74_0) : (roundT E74 0 sg74_0 (loopOf 0 (bodyOf Try.f74)) x).run = r74_0 x.1 x.2.1 x.2.2.1 := by kernel_rfl
theorem t74 (x : PT s74.ps) : (fnT E74 (bodyOf Try.f74) Try.f74.results.toList s74.ps s74.rs true x).run = g74 x.1.1 := by kernel_rfl
theorem hga74 : GAok Try.prog E74 := gaok_of (l := ga74) ⟨ok82, trivial⟩
theorem L74_0 : LoopSem Try.prog E74 0 (.loop (loopOf 0 (bodyOf Try.f74))) ⟨sg74_0, fun x => l74_0 x.1 x.2.1 x.2.2.1⟩ :=
  sem_of (hTT hT) hga74 hmix (step := fun (x : SigT sg74_0) => r74_0 x.1 x.2.1 x.2.2.1) t74_0 (loopsOK_all [] (by kernel_rfl) trivial)
theorem ok74 : SuOK Try.prog 74 s74 :=
  fn_ok (E := E74) (hTT hT) hga74 hmix (fn := Try.f74) (c := (bodyOf Try.f74)) (by kernel_rfl) (by kernel_rfl) (by kernel_rfl) rfl (loopsOK_all [(0, .loop (loopOf 0 (bodyOf Try.f74)))] (by kernel_rfl) ⟨semL rfl L74_0, trivial⟩) fun x y h => ⟨y.1, fun _ => rfl, (t74 x).trans h⟩
noncomputable def r52_0 (t0 : (List R3)) (t3 : (List R3)) (t4 : Int) : Option (Sum ((List R3) × (List R3) × Int × Unit) (Sum ((List R3) × (List R3) × Int × Unit) Unit)) :=
  cond (ltI t4 (lenI t0)) (
    cond (inB t4 t0) (
    cond (inB t4 t3) (
    some (.inl (t0, (stI t3 t4 (gt d3 t0 t4)), (addW .i64 t4 1), ()))
    ) none
    ) none
  ) (
    some (.inr (.inl (t0, t3, t4, ())))
  )
noncomputable def l52_0 (t0 : (List R3)) (t3 : (List R3)) (t4 : Int) : Option (Sum ((List R3) × (List R3) × Int × Unit) Unit) := loopF (fun (x : ((List R3) × (List R3) × Int × Unit)) => r52_0 x.1 x.2.1 x.2.2.1) (t0, t3, t4, ())
noncomputable def g52 (p0 : (List R3)) : Option (Unit × (((List R3) × Unit) × Unit)) :=
  let u1 := (lenI p0)
  cond (mkB 8 u1) (
  Option.bind (l52_0 p0 (repI d3 u1) 0) (Sum.elim (fun y1 =>
    some ((), ((y1.2.1, ()), ()))
  ) (fun y1 =>
    none
  ))
  ) none
noncomputable def s52 : Su := ⟨[.c false [.sl 3 kk3]], [(false, [.sl 3 kk3])], true, .inl fun x => g52 x.1.1⟩
def sg52_0 : List SE := [.d 0 (.sl 3 kk3), .own 3 (.sl 3 kk3), .d 4 (.int .i64)]
def rh52 : List SE := []
noncomputable def lo52 : Nat → Option (Lo rh52)
  | 0 => some ⟨sg52_0, fun x => l52_0 x.1 x.2.1 x.2.2.1⟩
  | _ => none
noncomputable def ga52 : List (Nat × Su) := []
noncomputable def E52 : En := ⟨22, tt, gaOf ga52, rh52, lo52, [], fun _ => none⟩
theorem t52_0 (x : SigT sg52_0) : (roundT E52 0 sg52_0 (loopOf 0 (bodyOf Try.f52)) x).run = r52_0 x.1 x.2.1 x.2.2.1 := by kernel_rfl
theorem t52 (x : PT s52.ps) : (fnT E52 (bodyOf Try.f52) Try.f52.results.toList s52.ps s52.rs true x).run = g52 x.1.1 := by kernel_rfl
theorem hga52 : GAok Try.prog E52 := gaok_of (l := ga52) trivial
theorem L52_0 : LoopSem Try.prog E52 0 (.loop (loopOf 0 (bodyOf Try.f52))) ⟨sg52_0, fun x => l52_0 x.1 x.2.1 x.2.2.1⟩ :=
  sem_of (hTT hT) hga52 hmix (step := fun (x : SigT sg52_0) => r52_0 x.1 x.2.1 x.2.2.1) t52_0 (loopsOK_all [] (by kernel_rfl) trivial)
theorem ok52 : SuOK Try.prog 52 s52 :=
  fn_ok (E := E52) (hTT hT) hga52 hmix (fn := Try.f52) (c := (bodyOf Try.f52)) (by kernel_rfl) (by kernel_rfl) (by kernel_rfl) rfl (loopsOK_all [(0, .loop (loopOf 0 (bodyOf Try.f52)))] (by kernel_rfl) ⟨semL rfl L52_0, trivial⟩) fun x y h => ⟨y.1, fun _ => rfl, (t52 x).trans h⟩
noncomputable def g75 (p0 : (Int × Int × (List R3) × (List R3) × Unit)) : Option (Unit × ((Int × Int × (List R3) × (List R3) × Unit) × Unit)) :=
  Option.bind (g52 p0.2.2.1) fun y1 =>
  Option.bind (g52 p0.2.2.2.1) fun y2 =>
  some ((), ((p0.1, p0.2.1, y1.2.1.1, y2.2.1.1, ()), ()))
noncomputable def s75 : Su := ⟨[.c true [.int .i64, .int .i64, .sl 3 kk3, .sl 3 kk3]], [(true, [.int .i64, .int .i64, .sl 3 kk3, .sl 3 kk3])], true, .inl fun x => g75 x.1⟩
def rh75 : List SE := []
noncomputable def lo75 : Nat → Option (Lo rh75)
  | _ => none
noncomputable def ga75 : List (Nat × Su) := [(52, s52)]
noncomputable def E75 : En := ⟨19, tt, gaOf ga75, rh75, lo75, [], fun _ => none⟩
theorem t75 (x : PT s75.ps) : (fnT E75 (bodyOf Try.f75) Try.f75.results.toList s75.ps s75.rs true x).run = g75 x.1 := by kernel_rfl
theorem hga75 : GAok Try.prog E75 := gaok_of (l := ga75) ⟨ok52, trivial⟩
theorem ok75 : SuOK Try.prog 75 s75 :=
  fn_ok (E := E75) (hTT hT) hga75 hmix (fn := Try.f75) (c := (bodyOf Try.f75)) (by kernel_rfl) (by kernel_rfl) (by kernel_rfl) rfl (loopsOK_all [] (by kernel_rfl) trivial) fun x y h => ⟨y.1, fun _ => rfl, (t75 x).trans h⟩
noncomputable def r51_0 (t0 : (List R5)) (t3 : (List R5)) (t4 : Int) : Option (Sum ((List R5) × (List R5) × Int × Unit) (Sum ((List R5) × (List R5) × Int × Unit) Unit)) :=
  cond (ltI t4 (lenI t0)) (
    cond (inB t4 t0) (
    cond (inB t4 t3) (
    some (.inl (t0, (stI t3 t4 (gt d5 t0 t4)), (addW .i64 t4 1), ()))
    ) none
    ) none
  ) (
    some (.inr (.inl (t0, t3, t4, ())))
  )
noncomputable def l51_0 (t0 : (List R5)) (t3 : (List R5)) (t4 : Int) : Option (Sum ((List R5) × (List R5) × Int × Unit) Unit) := loopF (fun (x : ((List R5) × (List R5) × Int × Unit)) => r51_0 x.1 x.2.1 x.2.2.1) (t0, t3, t4, ())
noncomputable def g51 (p0 : (List R5)) : Option (Unit × (((List R5) × Unit) × Unit)) :=
  let u1 := (lenI p0)
  cond (mkB 1 u1) (
  Option.bind (l51_0 p0 (repI d5 u1) 0) (Sum.elim (fun y1 =>
    some ((), ((y1.2.1, ()), ()))
  ) (fun y1 =>
    none
  ))
  ) none
noncomputable def s51 : Su := ⟨[.c false [.sl 5 kk5]], [(false, [.sl 5 kk5])], true, .inl fun x => g51 x.1.1⟩
def sg51_0 : List SE := [.d 0 (.sl 5 kk5), .own 3 (.sl 5 kk5), .d 4 (.int .i64)]
def rh51 : List SE := []
noncomputable def lo51 : Nat → Option (Lo rh51)
  | 0 => some ⟨sg51_0, fun x => l51_0 x.1 x.2.1 x.2.2.1⟩
  | _ => none
noncomputable def ga51 : List (Nat × Su) := []
noncomputable def E51 : En := ⟨22, tt, gaOf ga51, rh51, lo51, [], fun _ => none⟩
theorem t51_0 (x : SigT sg51_0) : (roundT E51 0 sg51_0 (loopOf 0 (bodyOf Try.f51)) x).run = r51_0 x.1 x.2.1 x.2.2.1 := by kernel_rfl
theorem t51 (x : PT s51.ps) : (fnT E51 (bodyOf Try.f51) Try.f51.results.toList s51.ps s51.rs true x).run = g51 x.1.1 := by kernel_rfl
theorem hga51 : GAok Try.prog E51 := gaok_of (l := ga51) trivial
theorem L51_0 : LoopSem Try.prog E51 0 (.loop (loopOf 0 (bodyOf Try.f51))) ⟨sg51_0, fun x => l51_0 x.1 x.2.1 x.2.2.1⟩ :=
  sem_of (hTT hT) hga51 hmix (step := fun (x : SigT sg51_0) => r51_0 x.1 x.2.1 x.2.2.1) t51_0 (loopsOK_all [] (by kernel_rfl) trivial)
theorem ok51 : SuOK Try.prog 51 s51 :=
  fn_ok (E := E51) (hTT hT) hga51 hmix (fn := Try.f51) (c := (bodyOf Try.f51)) (by kernel_rfl) (by kernel_rfl) (by kernel_rfl) rfl (loopsOK_all [(0, .loop (loopOf 0 (bodyOf Try.f51)))] (by kernel_rfl) ⟨semL rfl L51_0, trivial⟩) fun x y h => ⟨y.1, fun _ => rfl, (t51 x).trans h⟩
noncomputable def g83 (p0 : ((List UInt8) × (List UInt8) × (List R5) × Unit)) : Option (Unit × (((List UInt8) × (List UInt8) × (List R5) × Unit) × Unit)) :=
  Option.bind (g51 p0.2.2.1) fun y1 =>
  some ((), ((p0.1, p0.2.1, y1.2.1.1, ()), ()))
noncomputable def s83 : Su := ⟨[.c true [.str, .str, .sl 5 kk5]], [(true, [.str, .str, .sl 5 kk5])], true, .inl fun x => g83 x.1⟩
def rh83 : List SE := []
noncomputable def lo83 : Nat → Option (Lo rh83)
  | _ => none
noncomputable def ga83 : List (Nat × Su) := [(51, s51)]
noncomputable def E83 : En := ⟨15, tt, gaOf ga83, rh83, lo83, [], fun _ => none⟩
theorem t83 (x : PT s83.ps) : (fnT E83 (bodyOf Try.f83) Try.f83.results.toList s83.ps s83.rs true x).run = g83 x.1 := by kernel_rfl
theorem hga83 : GAok Try.prog E83 := gaok_of (l := ga83) ⟨ok51, trivial⟩
theorem ok83 : SuOK Try.prog 83 s83 :=
  fn_ok (E := E83) (hTT hT) hga83 hmix (fn := Try.f83) (c := (bodyOf Try.f83)) (by kernel_rfl) (by kernel_rfl) (by kernel_rfl) rfl (loopsOK_all [] (by kernel_rfl) trivial) fun x y h => ⟨y.1, fun _ => rfl, (t83 x).trans h⟩
noncomputable def r76_0 (t0 : (List R125)) (t3 : (List R101)) (t4 : Int) : Option (Sum ((List R125) × (List R101) × Int × Unit) (Sum ((List R125) × (List R101) × Int × Unit) Unit)) :=
  cond (ltI t4 (lenI t0)) (
    cond (inB t4 t0) (
    Option.bind (g83 (gt d125 t0 t4)) fun y1 =>
    cond (inB t4 t3) (
    let u1 := (gt d101 t3 t4)
    let u2 := (stI t3 t4 (y1.2.1.1, u1.2.1, u1.2.2.1, ()))
    let u3 := (gt d101 u2 t4)
    let u4 := (stI u2 t4 (u3.1, y1.2.1.2.1, u3.2.2.1, ()))
    let u5 := (gt d101 u4 t4)
    some (.inl (t0, (stI u4 t4 (u5.1, u5.2.1, y1.2.1.2.2.1, ())), (addW .i64 t4 1), ()))
    ) none
    ) none
  ) (
    some (.inr (.inl (t0, t3, t4, ())))
  )
noncomputable def l76_0 (t0 : (List R125)) (t3 : (List R101)) (t4 : Int) : Option (Sum ((List R125) × (List R101) × Int × Unit) Unit) := loopF (fun (x : ((List R125) × (List R101) × Int × Unit)) => r76_0 x.1 x.2.1 x.2.2.1) (t0, t3, t4, ())
noncomputable def g76 (p0 : (List R125)) : Option (Unit × (((List R101) × Unit) × Unit)) :=
  let u1 := (lenI p0)
  cond (mkB 56 u1) (
  Option.bind (l76_0 p0 (repI d101 u1) 0) (Sum.elim (fun y1 =>
    some ((), ((y1.2.1, ()), ()))
  ) (fun y1 =>
    none
  ))
  ) none
noncomputable def s76 : Su := ⟨[.c false [.sl 125 kk125]], [(false, [.sl 101 kk101])], true, .inl fun x => g76 x.1.1⟩
def sg76_0 : List SE := [.d 0 (.sl 125 kk125), .own 3 (.sl 101 kk101), .d 4 (.int .i64)]
def rh76 : List SE := []
noncomputable def lo76 : Nat → Option (Lo rh76)
  | 0 => some ⟨sg76_0, fun x => l76_0 x.1 x.2.1 x.2.2.1⟩
  | _ => none
noncomputable def ga76 : List (Nat × Su) := [(83, s83)]
noncomputable def E76 : En := ⟨23, tt, gaOf ga76, rh76, lo76, [], fun _ => none⟩
theorem t76_0 (x : SigT sg76_0) : (roundT E76 0 sg76_0 (loopOf 0 (bodyOf Try.f76)) x).run = r76_0 x.1 x.2.1 x.2.2.1 := by kernel_rfl
theorem t76 (x : PT s76.ps) : (fnT E76 (bodyOf Try.f76) Try.f76.results.toList s76.ps s76.rs true x).run = g76 x.1.1 := by kernel_rfl
theorem hga76 : GAok Try.prog E76 := gaok_of (l := ga76) ⟨ok83, trivial⟩
theorem L76_0 : LoopSem Try.prog E76 0 (.loop (loopOf 0 (bodyOf Try.f76))) ⟨sg76_0, fun x => l76_0 x.1 x.2.1 x.2.2.1⟩ :=
  sem_of (hTT hT) hga76 hmix (step := fun (x : SigT sg76_0) => r76_0 x.1 x.2.1 x.2.2.1) t76_0 (loopsOK_all [] (by kernel_rfl) trivial)
theorem ok76 : SuOK Try.prog 76 s76 :=
  fn_ok (E := E76) (hTT hT) hga76 hmix (fn := Try.f76) (c := (bodyOf Try.f76)) (by kernel_rfl) (by kernel_rfl) (by kernel_rfl) rfl (loopsOK_all [(0, .loop (loopOf 0 (bodyOf Try.f76)))] (by kernel_rfl) ⟨semL rfl L76_0, trivial⟩) fun x y h => ⟨y.1, fun _ => rfl, (t76 x).trans h⟩
noncomputable def g63 (p0 : ((List UInt8) × Int × Int × Int × Int × (List R123) × Int × Int × (List R3) × (List R3) × (List R125) × Unit)) : Option (Unit × (((List UInt8) × Int × Int × Int × Int × (List R99) × Int × Int × (List R3) × (List R3) × (List R101) × Unit) × Unit)) :=
  Option.bind (g74 p0.2.2.2.2.2.1) fun y1 =>
  Option.bind (g75 (p0.2.2.2.2.2.2.1, p0.2.2.2.2.2.2.2.1, p0.2.2.2.2.2.2.2.2.1, p0.2.2.2.2.2.2.2.2.2.1, ())) fun y2 =>
  Option.bind (g76 p0.2.2.2.2.2.2.2.2.2.2.1) fun y3 =>
  some ((), ((p0.1, p0.2.1, p0.2.2.1, p0.2.2.2.1, p0.2.2.2.2.1, y1.2.1.1, y2.2.1.1, y2.2.1.2.1, y2.2.1.2.2.1, y2.2.1.2.2.2.1, y3.2.1.1, ()), ()))
noncomputable def s63 : Su := ⟨[.c true [.str, .int .i64, .int .i64, .int .i64, .int .i64, .sl 123 kk123, .int .i64, .int .i64, .sl 3 kk3, .sl 3 kk3, .sl 125 kk125]], [(true, [.str, .int .i64, .int .i64, .int .i64, .int .i64, .sl 99 kk99, .int .i64, .int .i64, .sl 3 kk3, .sl 3 kk3, .sl 101 kk101])], true, .inl fun x => g63 x.1⟩
def rh63 : List SE := []
noncomputable def lo63 : Nat → Option (Lo rh63)
  | _ => none
noncomputable def ga63 : List (Nat × Su) := [(74, s74), (75, s75), (76, s76)]
noncomputable def E63 : En := ⟨32, tt, gaOf ga63, rh63, lo63, [], fun _ => none⟩
theorem t63 (x : PT s63.ps) : (fnT E63 (bodyOf Try.f63) Try.f63.results.toList s63.ps s63.rs true x).run = g63 x.1 := by kernel_rfl
theorem hga63 : GAok Try.prog E63 := gaok_of (l := ga63) ⟨ok74, ok75, ok76, trivial⟩
theorem ok63 : SuOK Try.prog 63 s63 :=
  fn_ok (E := E63) (hTT hT) hga63 hmix (fn := Try.f63) (c := (bodyOf Try.f63)) (by kernel_rfl) (by kernel_rfl) (by kernel_rfl) rfl (loopsOK_all [] (by kernel_rfl) trivial) fun x y h => ⟨y.1, fun _ => rfl, (t63 x).trans h⟩
noncomputable def r50_0 (t0 : (List R107)) (t3 : (List R68)) (t4 : Int) : Option (Sum ((List R107) × (List R68) × Int × Unit) (Sum ((List R107) × (List R68) × Int × Unit) Unit)) :=
  cond (ltI t4 (lenI t0)) (
    cond (inB t4 t0) (
    Option.bind (g63 (gt d107 t0 t4)) fun y1 =>
    cond (inB t4 t3) (
    let u1 := (gt d68 t3 t4)
    let u2 := (stI t3 t4 (y1.2.1.1, u1.2.1, u1.2.2.1, u1.2.2.2.1, u1.2.2.2.2.1, u1.2.2.2.2.2.1, u1.2.2.2.2.2.2.1, u1.2.2.2.2.2.2.2.1, u1.2.2.2.2.2.2.2.2.1, u1.2.2.2.2.2.2.2.2.2.1, u1.2.2.2.2.2.2.2.2.2.2.1, ()))
    let u3 := (gt d68 u2 t4)
    let u4 := (stI u2 t4 (u3.1, y1.2.1.2.1, u3.2.2.1, u3.2.2.2.1, u3.2.2.2.2.1, u3.2.2.2.2.2.1, u3.2.2.2.2.2.2.1, u3.2.2.2.2.2.2.2.1, u3.2.2.2.2.2.2.2.2.1, u3.2.2.2.2.2.2.2.2.2.1, u3.2.2.2.2.2.2.2.2.2.2.1, ()))
    let u5 := (gt d68 u4 t4)
    let u6 := (stI u4 t4 (u5.1, u5.2.1, y1.2.1.2.2.1, u5.2.2.2.1, u5.2.2.2.2.1, u5.2.2.2.2.2.1, u5.2.2.2.2.2.2.1, u5.2.2.2.2.2.2.2.1, u5.2.2.2.2.2.2.2.2.1, u5.2.2.2.2.2.2.2.2.2.1, u5.2.2.2.2.2.2.2.2.2.2.1, ()))
    let u7 := (gt d68 u6 t4)
    let u8 := (stI u6 t4 (u7.1, u7.2.1, u7.2.2.1, y1.2.1.2.2.2.1, u7.2.2.2.2.1, u7.2.2.2.2.2.1, u7.2.2.2.2.2.2.1, u7.2.2.2.2.2.2.2.1, u7.2.2.2.2.2.2.2.2.1, u7.2.2.2.2.2.2.2.2.2.1, u7.2.2.2.2.2.2.2.2.2.2.1, ()))
    let u9 := (gt d68 u8 t4)
    let u10 := (stI u8 t4 (u9.1, u9.2.1, u9.2.2.1, u9.2.2.2.1, y1.2.1.2.2.2.2.1, u9.2.2.2.2.2.1, u9.2.2.2.2.2.2.1, u9.2.2.2.2.2.2.2.1, u9.2.2.2.2.2.2.2.2.1, u9.2.2.2.2.2.2.2.2.2.1, u9.2.2.2.2.2.2.2.2.2.2.1, ()))
    let u11 := (gt d68 u10 t4)
    let u12 := (stI u10 t4 (u11.1, u11.2.1, u11.2.2.1, u11.2.2.2.1, u11.2.2.2.2.1, y1.2.1.2.2.2.2.2.1, u11.2.2.2.2.2.2.1, u11.2.2.2.2.2.2.2.1, u11.2.2.2.2.2.2.2.2.1, u11.2.2.2.2.2.2.2.2.2.1, u11.2.2.2.2.2.2.2.2.2.2.1, ()))
    let u13 := (gt d68 u12 t4)
    let u14 := (stI u12 t4 (u13.1, u13.2.1, u13.2.2.1, u13.2.2.2.1, u13.2.2.2.2.1, u13.2.2.2.2.2.1, y1.2.1.2.2.2.2.2.2.1, u13.2.2.2.2.2.2.2.1, u13.2.2.2.2.2.2.2.2.1, u13.2.2.2.2.2.2.2.2.2.1, u13.2.2.2.2.2.2.2.2.2.2.1, ()))
    let u15 := (gt d68 u14 t4)
    let u16 := (stI u14 t4 (u15.1, u15.2.1, u15.2.2.1, u15.2.2.2.1, u15.2.2.2.2.1, u15.2.2.2.2.2.1, u15.2.2.2.2.2.2.1, y1.2.1.2.2.2.2.2.2.2.1, u15.2.2.2.2.2.2.2.2.1, u15.2.2.2.2.2.2.2.2.2.1, u15.2.2.2.2.2.2.2.2.2.2.1, ()))
    let u17 := (gt d68 u16 t4)
    let u18 := (stI u16 t4 (u17.1, u17.2.1, u17.2.2.1, u17.2.2.2.1, u17.2.2.2.2.1, u17.2.2.2.2.2.1, u17.2.2.2.2.2.2.1, u17.2.2.2.2.2.2.2.1, y1.2.1.2.2.2.2.2.2.2.2.1, u17.2.2.2.2.2.2.2.2.2.1, u17.2.2.2.2.2.2.2.2.2.2.1, ()))
    let u19 := (gt d68 u18 t4)
    let u20 := (stI u18 t4 (u19.1, u19.2.1, u19.2.2.1, u19.2.2.2.1, u19.2.2.2.2.1, u19.2.2.2.2.2.1, u19.2.2.2.2.2.2.1, u19.2.2.2.2.2.2.2.1, u19.2.2.2.2.2.2.2.2.1, y1.2.1.2.2.2.2.2.2.2.2.2.1, u19.2.2.2.2.2.2.2.2.2.2.1, ()))
    let u21 := (gt d68 u20 t4)
    some (.inl (t0, (stI u20 t4 (u21.1, u21.2.1, u21.2.2.1, u21.2.2.2.1, u21.2.2.2.2.1, u21.2.2.2.2.2.1, u21.2.2.2.2.2.2.1, u21.2.2.2.2.2.2.2.1, u21.2.2.2.2.2.2.2.2.1, u21.2.2.2.2.2.2.2.2.2.1, y1.2.1.2.2.2.2.2.2.2.2.2.2.1, ())), (addW .i64 t4 1), ()))
    ) none
    ) none
  ) (
    some (.inr (.inl (t0, t3, t4, ())))
  )
noncomputable def l50_0 (t0 : (List R107)) (t3 : (List R68)) (t4 : Int) : Option (Sum ((List R107) × (List R68) × Int × Unit) Unit) := loopF (fun (x : ((List R107) × (List R68) × Int × Unit)) => r50_0 x.1 x.2.1 x.2.2.1) (t0, t3, t4, ())
noncomputable def g50 (p0 : (List R107)) : Option (Unit × (((List R68) × Unit) × Unit)) :=
  let u1 := (lenI p0)
  cond (mkB 160 u1) (
  Option.bind (l50_0 p0 (repI d68 u1) 0) (Sum.elim (fun y1 =>
    some ((), ((y1.2.1, ()), ()))
  ) (fun y1 =>
    none
  ))
  ) none
noncomputable def s50 : Su := ⟨[.c false [.sl 107 kk107]], [(false, [.sl 68 kk68])], true, .inl fun x => g50 x.1.1⟩
def sg50_0 : List SE := [.d 0 (.sl 107 kk107), .own 3 (.sl 68 kk68), .d 4 (.int .i64)]
def rh50 : List SE := []
noncomputable def lo50 : Nat → Option (Lo rh50)
  | 0 => some ⟨sg50_0, fun x => l50_0 x.1 x.2.1 x.2.2.1⟩
  | _ => none
noncomputable def ga50 : List (Nat × Su) := [(63, s63)]
noncomputable def E50 : En := ⟨23, tt, gaOf ga50, rh50, lo50, [], fun _ => none⟩
theorem t50_0 (x : SigT sg50_0) : (roundT E50 0 sg50_0 (loopOf 0 (bodyOf Try.f50)) x).run = r50_0 x.1 x.2.1 x.2.2.1 := by kernel_rfl
theorem t50 (x : PT s50.ps) : (fnT E50 (bodyOf Try.f50) Try.f50.results.toList s50.ps s50.rs true x).run = g50 x.1.1 := by kernel_rfl
theorem hga50 : GAok Try.prog E50 := gaok_of (l := ga50) ⟨ok63, trivial⟩
theorem L50_0 : LoopSem Try.prog E50 0 (.loop (loopOf 0 (bodyOf Try.f50))) ⟨sg50_0, fun x => l50_0 x.1 x.2.1 x.2.2.1⟩ :=
  sem_of (hTT hT) hga50 hmix (step := fun (x : SigT sg50_0) => r50_0 x.1 x.2.1 x.2.2.1) t50_0 (loopsOK_all [] (by kernel_rfl) trivial)
theorem ok50 : SuOK Try.prog 50 s50 :=
  fn_ok (E := E50) (hTT hT) hga50 hmix (fn := Try.f50) (c := (bodyOf Try.f50)) (by kernel_rfl) (by kernel_rfl) (by kernel_rfl) rfl (loopsOK_all [(0, .loop (loopOf 0 (bodyOf Try.f50)))] (by kernel_rfl) ⟨semL rfl L50_0, trivial⟩) fun x y h => ⟨y.1, fun _ => rfl, (t50 x).trans h⟩
noncomputable def g29 (p0 : (Int × (List R107) × Unit)) : Option (Unit × ((Int × (List R68) × Unit) × Unit)) :=
  Option.bind (g50 p0.2.1) fun y1 =>
  some ((), ((p0.1, y1.2.1.1, ()), ()))
noncomputable def s29 : Su := ⟨[.c true [.int .i64, .sl 107 kk107]], [(true, [.int .i64, .sl 68 kk68])], true, .inl fun x => g29 x.1⟩
def rh29 : List SE := []
noncomputable def lo29 : Nat → Option (Lo rh29)
  | _ => none
noncomputable def ga29 : List (Nat × Su) := [(50, s50)]
noncomputable def E29 : En := ⟨12, tt, gaOf ga29, rh29, lo29, [], fun _ => none⟩
theorem t29 (x : PT s29.ps) : (fnT E29 (bodyOf Try.f29) Try.f29.results.toList s29.ps s29.rs true x).run = g29 x.1 := by kernel_rfl
theorem hga29 : GAok Try.prog E29 := gaok_of (l := ga29) ⟨ok50, trivial⟩
theorem ok29 : SuOK Try.prog 29 s29 :=
  fn_ok (E := E29) (hTT hT) hga29 hmix (fn := Try.f29) (c := (bodyOf Try.f29)) (by kernel_rfl) (by kernel_rfl) (by kernel_rfl) rfl (loopsOK_all [] (by kernel_rfl) trivial) fun x y h => ⟨y.1, fun _ => rfl, (t29 x).trans h⟩
noncomputable def r16_0 (t0 : (List R55)) (t3 : (List R62)) (t4 : Int) : Option (Sum ((List R55) × (List R62) × Int × Unit) (Sum ((List R55) × (List R62) × Int × Unit) Unit)) :=
  cond (ltI t4 (lenI t0)) (
    cond (inB t4 t0) (
    Option.bind (g29 (gt d55 t0 t4)) fun y1 =>
    cond (inB t4 t3) (
    let u1 := (stI t3 t4 (y1.2.1.1, (gt d62 t3 t4).2.1, ()))
    some (.inl (t0, (stI u1 t4 ((gt d62 u1 t4).1, y1.2.1.2.1, ())), (addW .i64 t4 1), ()))
    ) none
    ) none
  ) (
    some (.inr (.inl (t0, t3, t4, ())))
  )
noncomputable def l16_0 (t0 : (List R55)) (t3 : (List R62)) (t4 : Int) : Option (Sum ((List R55) × (List R62) × Int × Unit) Unit) := loopF (fun (x : ((List R55) × (List R62) × Int × Unit)) => r16_0 x.1 x.2.1 x.2.2.1) (t0, t3, t4, ())
noncomputable def g16 (p0 : (List R55)) : Option (Unit × (((List R62) × Unit) × Unit)) :=
  let u1 := (lenI p0)
  cond (mkB 32 u1) (
  Option.bind (l16_0 p0 (repI d62 u1) 0) (Sum.elim (fun y1 =>
    some ((), ((y1.2.1, ()), ()))
  ) (fun y1 =>
    none
  ))
  ) none
noncomputable def s16 : Su := ⟨[.c false [.sl 55 kk55]], [(false, [.sl 62 kk62])], true, .inl fun x => g16 x.1.1⟩
def sg16_0 : List SE := [.d 0 (.sl 55 kk55), .own 3 (.sl 62 kk62), .d 4 (.int .i64)]
def rh16 : List SE := []
noncomputable def lo16 : Nat → Option (Lo rh16)
  | 0 => some ⟨sg16_0, fun x => l16_0 x.1 x.2.1 x.2.2.1⟩
  | _ => none
noncomputable def ga16 : List (Nat × Su) := [(29, s29)]
noncomputable def E16 : En := ⟨23, tt, gaOf ga16, rh16, lo16, [], fun _ => none⟩
theorem t16_0 (x : SigT sg16_0) : (roundT E16 0 sg16_0 (loopOf 0 (bodyOf Try.f16)) x).run = r16_0 x.1 x.2.1 x.2.2.1 := by kernel_rfl
theorem t16 (x : PT s16.ps) : (fnT E16 (bodyOf Try.f16) Try.f16.results.toList s16.ps s16.rs true x).run = g16 x.1.1 := by kernel_rfl
theorem hga16 : GAok Try.prog E16 := gaok_of (l := ga16) ⟨ok29, trivial⟩
theorem L16_0 : LoopSem Try.prog E16 0 (.loop (loopOf 0 (bodyOf Try.f16))) ⟨sg16_0, fun x => l16_0 x.1 x.2.1 x.2.2.1⟩ :=
  sem_of (hTT hT) hga16 hmix (step := fun (x : SigT sg16_0) => r16_0 x.1 x.2.1 x.2.2.1) t16_0 (loopsOK_all [] (by kernel_rfl) trivial)
theorem ok16 : SuOK Try.prog 16 s16 :=
  fn_ok (E := E16) (hTT hT) hga16 hmix (fn := Try.f16) (c := (bodyOf Try.f16)) (by kernel_rfl) (by kernel_rfl) (by kernel_rfl) rfl (loopsOK_all [(0, .loop (loopOf 0 (bodyOf Try.f16)))] (by kernel_rfl) ⟨semL rfl L16_0, trivial⟩) fun x y h => ⟨y.1, fun _ => rfl, (t16 x).trans h⟩
noncomputable def g30 (p0 : ((List R5) × Int × (List R3) × Int × Int × Int × Int × Int × (List R5) × Unit)) : Option (Unit × (((List R5) × Int × (List R3) × Int × Int × Int × Int × Int × (List R5) × Unit) × Unit)) :=
  Option.bind (g51 p0.1) fun y1 =>
  Option.bind (g52 p0.2.2.1) fun y2 =>
  Option.bind (g51 p0.2.2.2.2.2.2.2.2.1) fun y3 =>
  some ((), ((y1.2.1.1, p0.2.1, y2.2.1.1, p0.2.2.2.1, p0.2.2.2.2.1, p0.2.2.2.2.2.1, p0.2.2.2.2.2.2.1, p0.2.2.2.2.2.2.2.1, y3.2.1.1, ()), ()))
noncomputable def s30 : Su := ⟨[.c true [.sl 5 kk5, .int .i64, .sl 3 kk3, .int .i64, .int .i64, .int .i64, .int .i64, .int .i64, .sl 5 kk5]], [(true, [.sl 5 kk5, .int .i64, .sl 3 kk3, .int .i64, .int .i64, .int .i64, .int .i64, .int .i64, .sl 5 kk5])], true, .inl fun x => g30 x.1⟩
def rh30 : List SE := []
noncomputable def lo30 : Nat → Option (Lo rh30)
  | _ => none
noncomputable def ga30 : List (Nat × Su) := [(52, s52), (51, s51)]
noncomputable def E30 : En := ⟨35, tt, gaOf ga30, rh30, lo30, [], fun _ => none⟩
theorem t30 (x : PT s30.ps) : (fnT E30 (bodyOf Try.f30) Try.f30.results.toList s30.ps s30.rs true x).run = g30 x.1 := by kernel_rfl
theorem hga30 : GAok Try.prog E30 := gaok_of (l := ga30) ⟨ok52, ok51, trivial⟩
theorem ok30 : SuOK Try.prog 30 s30 :=
  fn_ok (E := E30) (hTT hT) hga30 hmix (fn := Try.f30) (c := (bodyOf Try.f30)) (by kernel_rfl) (by kernel_rfl) (by kernel_rfl) rfl (loopsOK_all [] (by kernel_rfl) trivial) fun x y h => ⟨y.1, fun _ => rfl, (t30 x).trans h⟩
noncomputable def r17_0 (t0 : (List R60)) (t3 : (List R71)) (t4 : Int) : Option (Sum ((List R60) × (List R71) × Int × Unit) (Sum ((List R60) × (List R71) × Int × Unit) Unit)) :=
  cond (ltI t4 (lenI t0)) (
    cond (inB t4 t0) (
    Option.bind (g30 (gt d60 t0 t4)) fun y1 =>
    cond (inB t4 t3) (
    let u1 := (gt d71 t3 t4)
    let u2 := (stI t3 t4 (y1.2.1.1, u1.2.1, u1.2.2.1, u1.2.2.2.1, u1.2.2.2.2.1, u1.2.2.2.2.2.1, u1.2.2.2.2.2.2.1, u1.2.2.2.2.2.2.2.1, u1.2.2.2.2.2.2.2.2.1, ()))
    let u3 := (gt d71 u2 t4)
    let u4 := (stI u2 t4 (u3.1, y1.2.1.2.1, u3.2.2.1, u3.2.2.2.1, u3.2.2.2.2.1, u3.2.2.2.2.2.1, u3.2.2.2.2.2.2.1, u3.2.2.2.2.2.2.2.1, u3.2.2.2.2.2.2.2.2.1, ()))
    let u5 := (gt d71 u4 t4)
    let u6 := (stI u4 t4 (u5.1, u5.2.1, y1.2.1.2.2.1, u5.2.2.2.1, u5.2.2.2.2.1, u5.2.2.2.2.2.1, u5.2.2.2.2.2.2.1, u5.2.2.2.2.2.2.2.1, u5.2.2.2.2.2.2.2.2.1, ()))
    let u7 := (gt d71 u6 t4)
    let u8 := (stI u6 t4 (u7.1, u7.2.1, u7.2.2.1, y1.2.1.2.2.2.1, u7.2.2.2.2.1, u7.2.2.2.2.2.1, u7.2.2.2.2.2.2.1, u7.2.2.2.2.2.2.2.1, u7.2.2.2.2.2.2.2.2.1, ()))
    let u9 := (gt d71 u8 t4)
    let u10 := (stI u8 t4 (u9.1, u9.2.1, u9.2.2.1, u9.2.2.2.1, y1.2.1.2.2.2.2.1, u9.2.2.2.2.2.1, u9.2.2.2.2.2.2.1, u9.2.2.2.2.2.2.2.1, u9.2.2.2.2.2.2.2.2.1, ()))
    let u11 := (gt d71 u10 t4)
    let u12 := (stI u10 t4 (u11.1, u11.2.1, u11.2.2.1, u11.2.2.2.1, u11.2.2.2.2.1, y1.2.1.2.2.2.2.2.1, u11.2.2.2.2.2.2.1, u11.2.2.2.2.2.2.2.1, u11.2.2.2.2.2.2.2.2.1, ()))
    let u13 := (gt d71 u12 t4)
    let u14 := (stI u12 t4 (u13.1, u13.2.1, u13.2.2.1, u13.2.2.2.1, u13.2.2.2.2.1, u13.2.2.2.2.2.1, y1.2.1.2.2.2.2.2.2.1, u13.2.2.2.2.2.2.2.1, u13.2.2.2.2.2.2.2.2.1, ()))
    let u15 := (gt d71 u14 t4)
    let u16 := (stI u14 t4 (u15.1, u15.2.1, u15.2.2.1, u15.2.2.2.1, u15.2.2.2.2.1, u15.2.2.2.2.2.1, u15.2.2.2.2.2.2.1, y1.2.1.2.2.2.2.2.2.2.1, u15.2.2.2.2.2.2.2.2.1, ()))
    let u17 := (gt d71 u16 t4)
    some (.inl (t0, (stI u16 t4 (u17.1, u17.2.1, u17.2.2.1, u17.2.2.2.1, u17.2.2.2.2.1, u17.2.2.2.2.2.1, u17.2.2.2.2.2.2.1, u17.2.2.2.2.2.2.2.1, y1.2.1.2.2.2.2.2.2.2.2.1, ())), (addW .i64 t4 1), ()))
    ) none
    ) none
  ) (
    some (.inr (.inl (t0, t3, t4, ())))
  )
noncomputable def l17_0 (t0 : (List R60)) (t3 : (List R71)) (t4 : Int) : Option (Sum ((List R60) × (List R71) × Int × Unit) Unit) := loopF (fun (x : ((List R60) × (List R71) × Int × Unit)) => r17_0 x.1 x.2.1 x.2.2.1) (t0, t3, t4, ())
noncomputable def g17 (p0 : (List R60)) : Option (Unit × (((List R71) × Unit) × Unit)) :=
  let u1 := (lenI p0)
  cond (mkB 120 u1) (
  Option.bind (l17_0 p0 (repI d71 u1) 0) (Sum.elim (fun y1 =>
    some ((), ((y1.2.1, ()), ()))
  ) (fun y1 =>
    none
  ))
  ) none
noncomputable def s17 : Su := ⟨[.c false [.sl 60 kk60]], [(false, [.sl 71 kk71])], true, .inl fun x => g17 x.1.1⟩
def sg17_0 : List SE := [.d 0 (.sl 60 kk60), .own 3 (.sl 71 kk71), .d 4 (.int .i64)]
def rh17 : List SE := []
noncomputable def lo17 : Nat → Option (Lo rh17)
  | 0 => some ⟨sg17_0, fun x => l17_0 x.1 x.2.1 x.2.2.1⟩
  | _ => none
noncomputable def ga17 : List (Nat × Su) := [(30, s30)]
noncomputable def E17 : En := ⟨23, tt, gaOf ga17, rh17, lo17, [], fun _ => none⟩
theorem t17_0 (x : SigT sg17_0) : (roundT E17 0 sg17_0 (loopOf 0 (bodyOf Try.f17)) x).run = r17_0 x.1 x.2.1 x.2.2.1 := by kernel_rfl
theorem t17 (x : PT s17.ps) : (fnT E17 (bodyOf Try.f17) Try.f17.results.toList s17.ps s17.rs true x).run = g17 x.1.1 := by kernel_rfl
theorem hga17 : GAok Try.prog E17 := gaok_of (l := ga17) ⟨ok30, trivial⟩
theorem L17_0 : LoopSem Try.prog E17 0 (.loop (loopOf 0 (bodyOf Try.f17))) ⟨sg17_0, fun x => l17_0 x.1 x.2.1 x.2.2.1⟩ :=
  sem_of (hTT hT) hga17 hmix (step := fun (x : SigT sg17_0) => r17_0 x.1 x.2.1 x.2.2.1) t17_0 (loopsOK_all [] (by kernel_rfl) trivial)
theorem ok17 : SuOK Try.prog 17 s17 :=
  fn_ok (E := E17) (hTT hT) hga17 hmix (fn := Try.f17) (c := (bodyOf Try.f17)) (by kernel_rfl) (by kernel_rfl) (by kernel_rfl) rfl (loopsOK_all [(0, .loop (loopOf 0 (bodyOf Try.f17)))] (by kernel_rfl) ⟨semL rfl L17_0, trivial⟩) fun x y h => ⟨y.1, fun _ => rfl, (t17 x).trans h⟩
noncomputable def g6 (p0 : ((List R55) × Int × Int × (List R60) × Unit)) : Option (Unit × (((List R62) × Int × Int × (List R71) × Unit) × Unit)) :=
  Option.bind (g16 p0.1) fun y1 =>
  Option.bind (g17 p0.2.2.2.1) fun y2 =>
  some ((), ((y1.2.1.1, p0.2.1, p0.2.2.1, y2.2.1.1, ()), ()))
noncomputable def s6 : Su := ⟨[.c true [.sl 55 kk55, .int .i64, .int .i64, .sl 60 kk60]], [(true, [.sl 62 kk62, .int .i64, .int .i64, .sl 71 kk71])], true, .inl fun x => g6 x.1⟩
def rh6 : List SE := []
noncomputable def lo6 : Nat → Option (Lo rh6)
  | _ => none
noncomputable def ga6 : List (Nat × Su) := [(16, s16), (17, s17)]
noncomputable def E6 : En := ⟨19, tt, gaOf ga6, rh6, lo6, [], fun _ => none⟩
theorem t6 (x : PT s6.ps) : (fnT E6 (bodyOf Try.f6) Try.f6.results.toList s6.ps s6.rs true x).run = g6 x.1 := by kernel_rfl
theorem hga6 : GAok Try.prog E6 := gaok_of (l := ga6) ⟨ok16, ok17, trivial⟩
theorem ok6 : SuOK Try.prog 6 s6 :=
  fn_ok (E := E6) (hTT hT) hga6 hmix (fn := Try.f6) (c := (bodyOf Try.f6)) (by kernel_rfl) (by kernel_rfl) (by kernel_rfl) rfl (loopsOK_all [] (by kernel_rfl) trivial) fun x y h => ⟨y.1, fun _ => rfl, (t6 x).trans h⟩
noncomputable def g48 (p0 : (Int × Int × (List R3) × (List R3) × Unit)) : Option (Unit × ((Int × Int × (List R3) × (List R3) × Unit) × Unit)) :=
  cond (fitB 8 [] p0.2.2.1) (
  cond (fitB 8 [] p0.2.2.2.1) (
  some ((), ((p0.1, p0.2.1, (apL [] p0.2.2.1), (apL [] p0.2.2.2.1), ()), ()))
  ) none
  ) none
noncomputable def s48 : Su := ⟨[.c true [.int .i64, .int .i64, .sl 3 kk3, .sl 3 kk3]], [(true, [.int .i64, .int .i64, .sl 3 kk3, .sl 3 kk3])], true, .inl fun x => g48 x.1⟩
def rh48 : List SE := []
noncomputable def lo48 : Nat → Option (Lo rh48)
  | _ => none
noncomputable def ga48 : List (Nat × Su) := []
noncomputable def E48 : En := ⟨14, tt, gaOf ga48, rh48, lo48, [], fun _ => none⟩
theorem t48 (x : PT s48.ps) : (fnT E48 (bodyOf Try.f48) Try.f48.results.toList s48.ps s48.rs true x).run = g48 x.1 := by kernel_rfl
theorem hga48 : GAok Try.prog E48 := gaok_of (l := ga48) trivial
theorem ok48 : SuOK Try.prog 48 s48 :=
  fn_ok (E := E48) (hTT hT) hga48 hmix (fn := Try.f48) (c := (bodyOf Try.f48)) (by kernel_rfl) (by kernel_rfl) (by kernel_rfl) rfl (loopsOK_all [] (by kernel_rfl) trivial) fun x y h => ⟨y.1, fun _ => rfl, (t48 x).trans h⟩
noncomputable def r49_0 (t3 : (List R101)) (t7 : (List R101)) (t8 : Int) (t9 : Int) : Option (Sum ((List R101) × (List R101) × Int × Int × Unit) (Sum ((List R101) × (List R101) × Int × Int × Unit) Unit)) :=
  cond (ltI t9 t8) (
    cond (inB t9 t7) (
    let u1 := (gt d101 t7 t9)
    cond (fitB 1 [] u1.2.2.1) (
    cond (fitB 56 t3 [(u1.1, u1.2.1, (apL [] u1.2.2.1), ())]) (
    some (.inl ((apL t3 [(u1.1, u1.2.1, (apL [] u1.2.2.1), ())]), t7, t8, (addW .i64 t9 1), ()))
    ) none
    ) none
    ) none
  ) (
    some (.inr (.inl (t3, t7, t8, t9, ())))
  )
noncomputable def l49_0 (t3 : (List R101)) (t7 : (List R101)) (t8 : Int) (t9 : Int) : Option (Sum ((List R101) × (List R101) × Int × Int × Unit) Unit) := loopF (fun (x : ((List R101) × (List R101) × Int × Int × Unit)) => r49_0 x.1 x.2.1 x.2.2.1 x.2.2.2.1) (t3, t7, t8, t9, ())
noncomputable def g49 (p0 : (List R101)) : Option (Unit × (((List R101) × Unit) × Unit)) :=
  Option.bind (l49_0 [] p0 (lenI p0) 0) (Sum.elim (fun y1 =>
    some ((), ((y1.1, ()), ()))
  ) (fun y1 =>
    none
  ))
noncomputable def s49 : Su := ⟨[.c false [.sl 101 kk101]], [(false, [.sl 101 kk101])], true, .inl fun x => g49 x.1.1⟩
def sg49_0 : List SE := [.own 3 (.sl 101 kk101), .d 7 (.sl 101 kk101), .d 8 (.int .i64), .d 9 (.int .i64)]
def rh49 : List SE := []
noncomputable def lo49 : Nat → Option (Lo rh49)
  | 0 => some ⟨sg49_0, fun x => l49_0 x.1 x.2.1 x.2.2.1 x.2.2.2.1⟩
  | _ => none
noncomputable def ga49 : List (Nat × Su) := []
noncomputable def E49 : En := ⟨24, tt, gaOf ga49, rh49, lo49, [], fun _ => none⟩
theorem t49_0 (x : SigT sg49_0) : (roundT E49 0 sg49_0 (loopOf 0 (bodyOf Try.f49)) x).run = r49_0 x.1 x.2.1 x.2.2.1 x.2.2.2.1 := by kernel_rfl
theorem t49 (x : PT s49.ps) : (fnT E49 (bodyOf Try.f49) Try.f49.results.toList s49.ps s49.rs true x).run = g49 x.1.1 := by kernel_rfl
theorem hga49 : GAok Try.prog E49 := gaok_of (l := ga49) trivial
theorem L49_0 : LoopSem Try.prog E49 0 (.loop (loopOf 0 (bodyOf Try.f49))) ⟨sg49_0, fun x => l49_0 x.1 x.2.1 x.2.2.1 x.2.2.2.1⟩ :=
  sem_of (hTT hT) hga49 hmix (step := fun (x : SigT sg49_0) => r49_0 x.1 x.2.1 x.2.2.1 x.2.2.2.1) t49_0 (loopsOK_all [] (by kernel_rfl) trivial)
theorem ok49 : SuOK Try.prog 49 s49 :=
  fn_ok (E := E49) (hTT hT) hga49 hmix (fn := Try.f49) (c := (bodyOf Try.f49)) (by kernel_rfl) (by kernel_rfl) (by kernel_rfl) rfl (loopsOK_all [(0, .loop (loopOf 0 (bodyOf Try.f49)))] (by kernel_rfl) ⟨semL rfl L49_0, trivial⟩) fun x y h => ⟨y.1, fun _ => rfl, (t49 x).trans h⟩
noncomputable def g28 (p0 : ((List UInt8) × Int × Int × Int × Int × (List R99) × Int × Int × (List R3) × (List R3) × (List R101) × Unit)) : Option (Unit × (((List UInt8) × Int × Int × Int × Int × (List R99) × Int × Int × (List R3) × (List R3) × (List R101) × Unit) × Unit)) :=
  cond (fitB 32 [] p0.2.2.2.2.2.1) (
  Option.bind (g48 (p0.2.2.2.2.2.2.1, p0.2.2.2.2.2.2.2.1, p0.2.2.2.2.2.2.2.2.1, p0.2.2.2.2.2.2.2.2.2.1, ())) fun y1 =>
  Option.bind (g49 p0.2.2.2.2.2.2.2.2.2.2.1) fun y2 =>
  some ((), ((p0.1, p0.2.1, p0.2.2.1, p0.2.2.2.1, p0.2.2.2.2.1, (apL [] p0.2.2.2.2.2.1), y1.2.1.1, y1.2.1.2.1, y1.2.1.2.2.1, y1.2.1.2.2.2.1, y2.2.1.1, ()), ()))
  ) none
noncomputable def s28 : Su := ⟨[.c true [.str, .int .i64, .int .i64, .int .i64, .int .i64, .sl 99 kk99, .int .i64, .int .i64, .sl 3 kk3, .sl 3 kk3, .sl 101 kk101]], [(true, [.str, .int .i64, .int .i64, .int .i64, .int .i64, .sl 99 kk99, .int .i64, .int .i64, .sl 3 kk3, .sl 3 kk3, .sl 101 kk101])], true, .inl fun x => g28 x.1⟩
def rh28 : List SE := []
noncomputable def lo28 : Nat → Option (Lo rh28)
  | _ => none
noncomputable def ga28 : List (Nat × Su) := [(48, s48), (49, s49)]
noncomputable def E28 : En := ⟨17, tt, gaOf ga28, rh28, lo28, [], fun _ => none⟩
theorem t28 (x : PT s28.ps) : (fnT E28 (bodyOf Try.f28) Try.f28.results.toList s28.ps s28.rs true x).run = g28 x.1 := by kernel_rfl
theorem hga28 : GAok Try.prog E28 := gaok_of (l := ga28) ⟨ok48, ok49, trivial⟩
theorem ok28 : SuOK Try.prog 28 s28 :=
  fn_ok (E := E28) (hTT hT) hga28 hmix (fn := Try.f28) (c := (bodyOf Try.f28)) (by kernel_rfl) (by kernel_rfl) (by kernel_rfl) rfl (loopsOK_all [] (by kernel_rfl) trivial) fun x y h => ⟨y.1, fun _ => rfl, (t28 x).trans h⟩
noncomputable def r15_4 (t3 : (List R68)) (t8 : Int) (t11 : (List R62)) (t12 : Int) (t13 : Int) (t18 : (List R68)) (t19 : Int) (t20 : Int) (b2 : ((List R68) × Unit)) (b7 : ((List UInt8) × Int × Int × Int × Int × (List R99) × Int × Int × (List R3) × (List R3) × (List R101) × Unit)) : Option (Sum ((List R68) × Int × (List R62) × Int × Int × (List R68) × Int × Int × ((List R68) × Unit) × ((List UInt8) × Int × Int × Int × Int × (List R99) × Int × Int × (List R3) × (List R3) × (List R101) × Unit) × Unit) (Sum ((List R68) × Int × (List R62) × Int × Int × (List R68) × Int × Int × ((List R68) × Unit) × ((List UInt8) × Int × Int × Int × Int × (List R99) × Int × Int × (List R3) × (List R3) × (List R101) × Unit) × Unit) Unit)) :=
  cond (ltI 0 t8) (
    let u1 := (subW .i64 t8 1)
    cond (inB u1 t3) (
    cond (!(leS (gt d68 t3 u1).1 b7.1)) (
      some (.inl (t3, u1, t11, t12, t13, t18, t19, t20, b2, b7, ()))
    ) (
      some (.inr (.inl (t3, t8, t11, t12, t13, t18, t19, t20, b2, b7, ())))
    )
    ) none
  ) (
    some (.inr (.inl (t3, t8, t11, t12, t13, t18, t19, t20, b2, b7, ())))
  )
noncomputable def l15_4 (t3 : (List R68)) (t8 : Int) (t11 : (List R62)) (t12 : Int) (t13 : Int) (t18 : (List R68)) (t19 : Int) (t20 : Int) (b2 : ((List R68) × Unit)) (b7 : ((List UInt8) × Int × Int × Int × Int × (List R99) × Int × Int × (List R3) × (List R3) × (List R101) × Unit)) : Option (Sum ((List R68) × Int × (List R62) × Int × Int × (List R68) × Int × Int × ((List R68) × Unit) × ((List UInt8) × Int × Int × Int × Int × (List R99) × Int × Int × (List R3) × (List R3) × (List R101) × Unit) × Unit) Unit) := loopF (fun (x : ((List R68) × Int × (List R62) × Int × Int × (List R68) × Int × Int × ((List R68) × Unit) × ((List UInt8) × Int × Int × Int × Int × (List R99) × Int × Int × (List R3) × (List R3) × (List R101) × Unit) × Unit)) => r15_4 x.1 x.2.1 x.2.2.1 x.2.2.2.1 x.2.2.2.2.1 x.2.2.2.2.2.1 x.2.2.2.2.2.2.1 x.2.2.2.2.2.2.2.1 x.2.2.2.2.2.2.2.2.1 x.2.2.2.2.2.2.2.2.2.1) (t3, t8, t11, t12, t13, t18, t19, t20, b2, b7, ())
noncomputable def r15_2 (t3 : (List R68)) (t11 : (List R62)) (t12 : Int) (t13 : Int) (t18 : (List R68)) (t19 : Int) (t20 : Int) (b2 : ((List R68) × Unit)) : Option (Sum ((List R68) × (List R62) × Int × Int × (List R68) × Int × Int × ((List R68) × Unit) × Unit) (Sum ((List R68) × (List R62) × Int × Int × (List R68) × Int × Int × ((List R68) × Unit) × Unit) Unit)) :=
  cond (ltI t20 t19) (
    cond (inB t20 t18) (
    Option.bind (l15_4 t3 (lenI t3) t11 t12 t13 t18 t19 t20 b2 (gt d68 t18 t20)) (Sum.elim (fun y1 =>
      cond (cutB 0 y1.2.1 y1.1) (
      cond (fitN 160 [] y1.1 y1.2.1) (
      Option.bind (g28 y1.2.2.2.2.2.2.2.2.2.1) fun y2 =>
      let u1 := (apL [] (tkI y1.1 y1.2.1))
      cond (fitB 160 u1 [y2.2.1]) (
      cond (preI y1.2.1 y1.2.1) (
      let u2 := (apL u1 [y2.2.1])
      let u3 := (drI y1.1 y1.2.1)
      cond (fitB 160 u2 u3) (
      some (.inl ((apL u2 u3), y1.2.2.1, y1.2.2.2.1, y1.2.2.2.2.1, y1.2.2.2.2.2.1, y1.2.2.2.2.2.2.1, (addW .i64 y1.2.2.2.2.2.2.2.1 1), y1.2.2.2.2.2.2.2.2.1, ()))
      ) none
      ) none
      ) none
      ) none
      ) none
    ) (fun y1 =>
      some (.inr (.inr ()))
    ))
    ) none
  ) (
    some (.inr (.inl (t3, t11, t12, t13, t18, t19, t20, b2, ())))
  )
noncomputable def l15_2 (t3 : (List R68)) (t11 : (List R62)) (t12 : Int) (t13 : Int) (t18 : (List R68)) (t19 : Int) (t20 : Int) (b2 : ((List R68) × Unit)) : Option (Sum ((List R68) × (List R62) × Int × Int × (List R68) × Int × Int × ((List R68) × Unit) × Unit) Unit) := loopF (fun (x : ((List R68) × (List R62) × Int × Int × (List R68) × Int × Int × ((List R68) × Unit) × Unit)) => r15_2 x.1 x.2.1 x.2.2.1 x.2.2.2.1 x.2.2.2.2.1 x.2.2.2.2.2.1 x.2.2.2.2.2.2.1 x.2.2.2.2.2.2.2.1) (t3, t11, t12, t13, t18, t19, t20, b2, ())
noncomputable def r15_0 (t3 : (List R68)) (t11 : (List R62)) (t12 : Int) (t13 : Int) (b2 : ((List R68) × Unit)) : Option (Sum ((List R68) × (List R62) × Int × Int × ((List R68) × Unit) × Unit) (Sum ((List R68) × (List R62) × Int × Int × ((List R68) × Unit) × Unit) Unit)) :=
  cond (ltI t13 t12) (
    cond (inB t13 t11) (
    Option.bind (l15_2 t3 t11 t12 t13 (gt d62 t11 t13).2.1 (lenI (gt d62 t11 t13).2.1) 0 b2) (Sum.elim (fun y1 =>
      some (.inl (y1.1, y1.2.1, y1.2.2.1, (addW .i64 y1.2.2.2.1 1), y1.2.2.2.2.2.2.2.1, ()))
    ) (fun y1 =>
      some (.inr (.inr ()))
    ))
    ) none
  ) (
    some (.inr (.inl (t3, t11, t12, t13, b2, ())))
  )
noncomputable def l15_0 (t3 : (List R68)) (t11 : (List R62)) (t12 : Int) (t13 : Int) (b2 : ((List R68) × Unit)) : Option (Sum ((List R68) × (List R62) × Int × Int × ((List R68) × Unit) × Unit) Unit) := loopF (fun (x : ((List R68) × (List R62) × Int × Int × ((List R68) × Unit) × Unit)) => r15_0 x.1 x.2.1 x.2.2.1 x.2.2.2.1 x.2.2.2.2.1) (t3, t11, t12, t13, b2, ())
noncomputable def g15 (p0 : (List R62)) : Option (Unit × (((List R68) × Unit) × Unit)) :=
  Option.bind (l15_0 [] p0 (lenI p0) 0 ([], ())) (Sum.elim (fun y1 =>
    some ((), ((y1.1, ()), ()))
  ) (fun y1 =>
    none
  ))
noncomputable def s15 : Su := ⟨[.c false [.sl 62 kk62]], [(true, [.sl 68 kk68])], true, .inl fun x => g15 x.1.1⟩
def sg15_4 : List SE := [.own 3 (.sl 68 kk68), .d 8 (.int .i64), .d 11 (.sl 62 kk62), .d 12 (.int .i64), .d 13 (.int .i64), .d 18 (.sl 68 kk68), .d 19 (.int .i64), .d 20 (.int .i64), .box 2 [(true, .sl 68 kk68)], .box 7 [(false, .str), (false, .int .i64), (false, .int .i64), (false, .int .i64), (false, .int .i64), (false, .sl 99 kk99), (false, .int .i64), (false, .int .i64), (false, .sl 3 kk3), (false, .sl 3 kk3), (false, .sl 101 kk101)]]
def sg15_2 : List SE := [.own 3 (.sl 68 kk68), .d 11 (.sl 62 kk62), .d 12 (.int .i64), .d 13 (.int .i64), .d 18 (.sl 68 kk68), .d 19 (.int .i64), .d 20 (.int .i64), .box 2 [(true, .sl 68 kk68)]]
def sg15_0 : List SE := [.own 3 (.sl 68 kk68), .d 11 (.sl 62 kk62), .d 12 (.int .i64), .d 13 (.int .i64), .box 2 [(true, .sl 68 kk68)]]
def rh15 : List SE := []
noncomputable def lo15 : Nat → Option (Lo rh15)
  | 4 => some ⟨sg15_4, fun x => l15_4 x.1 x.2.1 x.2.2.1 x.2.2.2.1 x.2.2.2.2.1 x.2.2.2.2.2.1 x.2.2.2.2.2.2.1 x.2.2.2.2.2.2.2.1 x.2.2.2.2.2.2.2.2.1 x.2.2.2.2.2.2.2.2.2.1⟩
  | 2 => some ⟨sg15_2, fun x => l15_2 x.1 x.2.1 x.2.2.1 x.2.2.2.1 x.2.2.2.2.1 x.2.2.2.2.2.1 x.2.2.2.2.2.2.1 x.2.2.2.2.2.2.2.1⟩
  | 0 => some ⟨sg15_0, fun x => l15_0 x.1 x.2.1 x.2.2.1 x.2.2.2.1 x.2.2.2.2.1⟩
  | _ => none
noncomputable def ga15 : List (Nat × Su) := [(28, s28)]
noncomputable def EL15 : En := ⟨60, tt, gaOf ga15, rh15, lo15, [], fun _ => none⟩
noncomputable def rg15 : Nat → Option (St → Tr St)
  | 11 => some (splitF EL15 (opAt (regOf 11 (bodyOf Try.f15)) 0).op 27 27 27 3 8 41 42 43 44 45 9)
  | 13 => some (joinF EL15 27 27 27 9 3 8 51 52 53 54 55)
  | _ => none
noncomputable def E15 : En := ⟨60, tt, gaOf ga15, rh15, lo15, [], rg15⟩
theorem t15_4 (x : SigT sg15_4) : (roundT E15 4 sg15_4 (loopOf 4 (bodyOf Try.f15)) x).run = r15_4 x.1 x.2.1 x.2.2.1 x.2.2.2.1 x.2.2.2.2.1 x.2.2.2.2.2.1 x.2.2.2.2.2.2.1 x.2.2.2.2.2.2.2.1 x.2.2.2.2.2.2.2.2.1 x.2.2.2.2.2.2.2.2.2.1 := by kernel_rfl
theorem t15_2 (x : SigT sg15_2) : (roundT E15 2 sg15_2 (loopOf 2 (bodyOf Try.f15)) x).run = r15_2 x.1 x.2.1 x.2.2.1 x.2.2.2.1 x.2.2.2.2.1 x.2.2.2.2.2.1 x.2.2.2.2.2.2.1 x.2.2.2.2.2.2.2.1 := by kernel_rfl
theorem t15_0 (x : SigT sg15_0) : (roundT E15 0 sg15_0 (loopOf 0 (bodyOf Try.f15)) x).run = r15_0 x.1 x.2.1 x.2.2.1 x.2.2.2.1 x.2.2.2.2.1 := by kernel_rfl
theorem t15 (x : PT s15.ps) : (fnT E15 (bodyOf Try.f15) Try.f15.results.toList s15.ps s15.rs true x).run = g15 x.1.1 := by kernel_rfl
theorem hga15 : GAok Try.prog E15 := gaok_of (l := ga15) ⟨ok28, trivial⟩
theorem hgaL15_11 : GAok Try.prog EL15 := gaok_of (l := ga15) ⟨ok28, trivial⟩
theorem R15_11 : RegSem Try.prog E15 (regOf 11 (bodyOf Try.f15)) (splitF EL15 (opAt (regOf 11 (bodyOf Try.f15)) 0).op 27 27 27 3 8 41 42 43 44 45 9) :=
  regSem_rg rfl rfl (split_of (E := EL15) (hTT hT) hgaL15_11 (cd := (regOf 11 (bodyOf Try.f15))) (rid := 11) (o1 := opAt (regOf 11 (bodyOf Try.f15)) 0) (o2 := opAt (regOf 11 (bodyOf Try.f15)) 1) (o3 := opAt (regOf 11 (bodyOf Try.f15)) 2) (o4 := opAt (regOf 11 (bodyOf Try.f15)) 3) (o5 := opAt (regOf 11 (bodyOf Try.f15)) 4) (o6 := opAt (regOf 11 (bodyOf Try.f15)) 5) (c := callOf (opAt (regOf 11 (bodyOf Try.f15)) 4)) (tys := [])
    (by kernel_rfl) (by kernel_rfl) (by kernel_rfl) (by kernel_rfl) (by kernel_rfl) (by kernel_rfl) (by kernel_rfl) (by kernel_rfl) (by kernel_rfl) (by kernel_rfl) (by kernel_rfl) (by kernel_rfl) (by kernel_rfl) (by kernel_rfl) (by kernel_rfl) (by kernel_rfl) (by kernel_rfl) (by kernel_rfl) (by kernel_rfl) (by kernel_rfl) (by kernel_rfl))
theorem hgaL15_13 : GAok Try.prog EL15 := gaok_of (l := ga15) ⟨ok28, trivial⟩
theorem R15_13 : RegSem Try.prog E15 (regOf 13 (bodyOf Try.f15)) (joinF EL15 27 27 27 9 3 8 51 52 53 54 55) :=
  regSem_rg rfl rfl (join_of (E := EL15) (hTT hT) hgaL15_13 (cd := (regOf 13 (bodyOf Try.f15))) (rid := 13) (o1 := opAt (regOf 13 (bodyOf Try.f15)) 0) (o2 := opAt (regOf 13 (bodyOf Try.f15)) 1) (o3 := opAt (regOf 13 (bodyOf Try.f15)) 2) (o4 := opAt (regOf 13 (bodyOf Try.f15)) 3) (o5 := opAt (regOf 13 (bodyOf Try.f15)) 4) (o6 := opAt (regOf 13 (bodyOf Try.f15)) 5) (c := callOf (opAt (regOf 13 (bodyOf Try.f15)) 4)) (tys := [])
    (by kernel_rfl) (by kernel_rfl) (by kernel_rfl) (by kernel_rfl) (by kernel_rfl) (by kernel_rfl) (by kernel_rfl) (by kernel_rfl) (by kernel_rfl) (by kernel_rfl) (by kernel_rfl) (by kernel_rfl) (by kernel_rfl) (by kernel_rfl) (by kernel_rfl) (by kernel_rfl) (by kernel_rfl) (by kernel_rfl) (by kernel_rfl) (by kernel_rfl) (by kernel_rfl) (by kernel_rfl))
theorem L15_4 : LoopSem Try.prog E15 4 (.loop (loopOf 4 (bodyOf Try.f15))) ⟨sg15_4, fun x => l15_4 x.1 x.2.1 x.2.2.1 x.2.2.2.1 x.2.2.2.2.1 x.2.2.2.2.2.1 x.2.2.2.2.2.2.1 x.2.2.2.2.2.2.2.1 x.2.2.2.2.2.2.2.2.1 x.2.2.2.2.2.2.2.2.2.1⟩ :=
  sem_of (hTT hT) hga15 hmix (step := fun (x : SigT sg15_4) => r15_4 x.1 x.2.1 x.2.2.1 x.2.2.2.1 x.2.2.2.2.1 x.2.2.2.2.2.1 x.2.2.2.2.2.2.1 x.2.2.2.2.2.2.2.1 x.2.2.2.2.2.2.2.2.1 x.2.2.2.2.2.2.2.2.2.1) t15_4 (loopsOK_reg [] (by kernel_rfl) trivial [] (by kernel_rfl) trivial)
theorem L15_2 : LoopSem Try.prog E15 2 (.loop (loopOf 2 (bodyOf Try.f15))) ⟨sg15_2, fun x => l15_2 x.1 x.2.1 x.2.2.1 x.2.2.2.1 x.2.2.2.2.1 x.2.2.2.2.2.1 x.2.2.2.2.2.2.1 x.2.2.2.2.2.2.2.1⟩ :=
  sem_of (hTT hT) hga15 hmix (step := fun (x : SigT sg15_2) => r15_2 x.1 x.2.1 x.2.2.1 x.2.2.2.1 x.2.2.2.2.1 x.2.2.2.2.2.1 x.2.2.2.2.2.2.1 x.2.2.2.2.2.2.2.1) t15_2 (loopsOK_reg [(4, .loop (loopOf 4 (bodyOf Try.f15)))] (by kernel_rfl) ⟨semL rfl L15_4, trivial⟩ [(11, regOf 11 (bodyOf Try.f15)), (13, regOf 13 (bodyOf Try.f15))] (by kernel_rfl) ⟨regL rfl R15_11, regL rfl R15_13, trivial⟩)
theorem L15_0 : LoopSem Try.prog E15 0 (.loop (loopOf 0 (bodyOf Try.f15))) ⟨sg15_0, fun x => l15_0 x.1 x.2.1 x.2.2.1 x.2.2.2.1 x.2.2.2.2.1⟩ :=
  sem_of (hTT hT) hga15 hmix (step := fun (x : SigT sg15_0) => r15_0 x.1 x.2.1 x.2.2.1 x.2.2.2.1 x.2.2.2.2.1) t15_0 (loopsOK_reg [(2, .loop (loopOf 2 (bodyOf Try.f15)))] (by kernel_rfl) ⟨semL rfl L15_2, trivial⟩ [] (by kernel_rfl) trivial)
theorem ok15 : SuOK Try.prog 15 s15 :=
  fn_ok (E := E15) (hTT hT) hga15 hmix (fn := Try.f15) (c := (bodyOf Try.f15)) (by kernel_rfl) (by kernel_rfl) (by kernel_rfl) rfl (loopsOK_reg [(0, .loop (loopOf 0 (bodyOf Try.f15)))] (by kernel_rfl) ⟨semL rfl L15_0, trivial⟩ [] (by kernel_rfl) trivial) fun x y h => ⟨y.1, fun _ => rfl, (t15 x).trans h⟩
noncomputable def g5 (p0 : ((List R62) × Int × Int × (List R71) × Unit)) : Option (Unit × (((List R68) × Unit) × Unit)) :=
  Option.bind (g15 p0.1) fun y1 =>
  some ((), (y1.2.1, ()))
noncomputable def s5 : Su := ⟨[.c true [.sl 62 kk62, .int .i64, .int .i64, .sl 71 kk71]], [(true, [.sl 68 kk68])], true, .inl fun x => g5 x.1⟩
def rh5 : List SE := []
noncomputable def lo5 : Nat → Option (Lo rh5)
  | _ => none
noncomputable def ga5 : List (Nat × Su) := [(15, s15)]
noncomputable def E5 : En := ⟨6, tt, gaOf ga5, rh5, lo5, [], fun _ => none⟩
theorem t5 (x : PT s5.ps) : (fnT E5 (bodyOf Try.f5) Try.f5.results.toList s5.ps s5.rs true x).run = g5 x.1 := by kernel_rfl
theorem hga5 : GAok Try.prog E5 := gaok_of (l := ga5) ⟨ok15, trivial⟩
theorem ok5 : SuOK Try.prog 5 s5 :=
  fn_ok (E := E5) (hTT hT) hga5 hmix (fn := Try.f5) (c := (bodyOf Try.f5)) (by kernel_rfl) (by kernel_rfl) (by kernel_rfl) rfl (loopsOK_all [] (by kernel_rfl) trivial) fun x y h => ⟨y.1, fun _ => rfl, (t5 x).trans h⟩
noncomputable def g33 (p0 : ((List UInt8) × Int × Int × Int × Int × (List R99) × Int × Int × (List R3) × (List R3) × (List R101) × Unit)) (p1 : ((List UInt8) × Int × Int × Int × Int × (List R99) × Int × Int × (List R3) × (List R3) × (List R101) × Unit)) : Option (Unit × ((Int × Unit) × Unit)) :=
  cond (ltS p0.1 p1.1) (
    some ((), (((-1), ()), ()))
  ) (
    cond (!(leS p0.1 p1.1)) (
      some ((), ((1, ()), ()))
    ) (
      some ((), ((0, ()), ()))
    )
  )
noncomputable def s33 : Su := ⟨[.c true [.str, .int .i64, .int .i64, .int .i64, .int .i64, .sl 99 kk99, .int .i64, .int .i64, .sl 3 kk3, .sl 3 kk3, .sl 101 kk101], .c true [.str, .int .i64, .int .i64, .int .i64, .int .i64, .sl 99 kk99, .int .i64, .int .i64, .sl 3 kk3, .sl 3 kk3, .sl 101 kk101]], [(false, [.int .i64])], true, .inl fun x => g33 x.1 x.2.1⟩
def rh33 : List SE := []
noncomputable def lo33 : Nat → Option (Lo rh33)
  | _ => none
noncomputable def ga33 : List (Nat × Su) := []
noncomputable def E33 : En := ⟨17, tt, gaOf ga33, rh33, lo33, [], fun _ => none⟩
theorem t33 (x : PT s33.ps) : (fnT E33 (bodyOf Try.f33) Try.f33.results.toList s33.ps s33.rs true x).run = g33 x.1 x.2.1 := by kernel_rfl
theorem hga33 : GAok Try.prog E33 := gaok_of (l := ga33) trivial
theorem ok33 : SuOK Try.prog 33 s33 :=
  fn_ok (E := E33) (hTT hT) hga33 hmix (fn := Try.f33) (c := (bodyOf Try.f33)) (by kernel_rfl) (by kernel_rfl) (by kernel_rfl) rfl (loopsOK_all [] (by kernel_rfl) trivial) fun x y h => ⟨y.1, fun _ => rfl, (t33 x).trans h⟩
noncomputable def r67_2 (t0 : (List R68)) (t1 : Int) (t2 : Int) (f3 : Unit) (t8 : Int) (t9 : Int) : Option (Sum ((List R68) × Int × Int × Unit × Int × Int × Unit) (Sum ((List R68) × Int × Int × Unit × Int × Int × Unit) Unit)) :=
  cond (ltI t1 t9) (
    cond (inB t9 t0) (
    let u1 := (subW .i64 t9 1)
    cond (inB u1 t0) (
    Option.bind (g33 (gt d68 t0 t9) (gt d68 t0 u1)) fun y1 =>
    cond (ltI y1.2.1.1 0) (
      cond (inB u1 t0) (
      cond (inB t9 t0) (
      cond (atB t9 t0 t9) (
      cond (atB u1 t0 u1) (
      some (.inl ((swI d68 t0 t9 u1), t1, t2, (), t8, u1, ()))
      ) none
      ) none
      ) none
      ) none
    ) (
      some (.inr (.inl (t0, t1, t2, (), t8, t9, ())))
    )
    ) none
    ) none
  ) (
    some (.inr (.inl (t0, t1, t2, (), t8, t9, ())))
  )
noncomputable def l67_2 (t0 : (List R68)) (t1 : Int) (t2 : Int) (f3 : Unit) (t8 : Int) (t9 : Int) : Option (Sum ((List R68) × Int × Int × Unit × Int × Int × Unit) Unit) := loopF (fun (x : ((List R68) × Int × Int × Unit × Int × Int × Unit)) => r67_2 x.1 x.2.1 x.2.2.1 x.2.2.2.1 x.2.2.2.2.1 x.2.2.2.2.2.1) (t0, t1, t2, f3, t8, t9, ())
noncomputable def r67_0 (t0 : (List R68)) (t1 : Int) (t2 : Int) (f3 : Unit) (t8 : Int) : Option (Sum ((List R68) × Int × Int × Unit × Int × Unit) (Sum ((List R68) × Int × Int × Unit × Int × Unit) Unit)) :=
  cond (ltI t8 t2) (
    Option.bind (l67_2 t0 t1 t2 () t8 t8) (Sum.elim (fun y1 =>
      some (.inl (y1.1, y1.2.1, y1.2.2.1, (), (addW .i64 y1.2.2.2.2.1 1), ()))
    ) (fun y1 =>
      some (.inr (.inr ()))
    ))
  ) (
    some (.inr (.inl (t0, t1, t2, (), t8, ())))
  )
noncomputable def l67_0 (t0 : (List R68)) (t1 : Int) (t2 : Int) (f3 : Unit) (t8 : Int) : Option (Sum ((List R68) × Int × Int × Unit × Int × Unit) Unit) := loopF (fun (x : ((List R68) × Int × Int × Unit × Int × Unit)) => r67_0 x.1 x.2.1 x.2.2.1 x.2.2.2.1 x.2.2.2.2.1) (t0, t1, t2, f3, t8, ())
noncomputable def g67 (p0 : (List R68)) (p1 : Int) (p2 : Int) : Option ((((List R68) × Unit) × Unit) × Unit) :=
  Option.bind (l67_0 p0 p1 p2 () (addW .i64 p1 1)) (Sum.elim (fun y1 =>
    some (((y1.1, ()), ()), ())
  ) (fun y1 =>
    none
  ))
noncomputable def s67 : Su := ⟨[.io false [.sl 68 kk68], .c false [.int .i64], .c false [.int .i64], .fn 33 []], [], true, .inl fun x => g67 x.1.1 x.2.1.1 x.2.2.1.1⟩
def sg67_2 : List SE := [.own 0 (.sl 68 kk68), .d 1 (.int .i64), .d 2 (.int .i64), .fn 3 33 [], .d 8 (.int .i64), .d 9 (.int .i64)]
def sg67_0 : List SE := [.own 0 (.sl 68 kk68), .d 1 (.int .i64), .d 2 (.int .i64), .fn 3 33 [], .d 8 (.int .i64)]
def rh67 : List SE := []
noncomputable def lo67 : Nat → Option (Lo rh67)
  | 2 => some ⟨sg67_2, fun x => l67_2 x.1 x.2.1 x.2.2.1 x.2.2.2.1 x.2.2.2.2.1 x.2.2.2.2.2.1⟩
  | 0 => some ⟨sg67_0, fun x => l67_0 x.1 x.2.1 x.2.2.1 x.2.2.2.1 x.2.2.2.2.1⟩
  | _ => none
noncomputable def ga67 : List (Nat × Su) := [(33, s33)]
noncomputable def EL67 : En := ⟨53, tt, gaOf ga67, rh67, lo67, [0], fun _ => none⟩
noncomputable def rg67 : Nat → Option (St → Tr St)
  | 6 => some (swapT EL67 (opsOf (regOf 6 (bodyOf Try.f67))) [9] [(14, 2), (14, 3), (14, 4)] 14 9 13)
  | _ => none
noncomputable def E67 : En := ⟨53, tt, gaOf ga67, rh67, lo67, [0], rg67⟩
theorem t67_2 (x : SigT sg67_2) : (roundT E67 2 sg67_2 (loopOf 2 (bodyOf Try.f67)) x).run = r67_2 x.1 x.2.1 x.2.2.1 x.2.2.2.1 x.2.2.2.2.1 x.2.2.2.2.2.1 := by kernel_rfl
theorem t67_0 (x : SigT sg67_0) : (roundT E67 0 sg67_0 (loopOf 0 (bodyOf Try.f67)) x).run = r67_0 x.1 x.2.1 x.2.2.1 x.2.2.2.1 x.2.2.2.2.1 := by kernel_rfl
theorem t67 (x : PT s67.ps) : (fnT E67 (bodyOf Try.f67) Try.f67.results.toList s67.ps s67.rs true x).run = g67 x.1.1 x.2.1.1 x.2.2.1.1 := by kernel_rfl
theorem hga67 : GAok Try.prog E67 := gaok_of (l := ga67) ⟨ok33, trivial⟩
theorem hgaL67_6 : GAok Try.prog EL67 := gaok_of (l := ga67) ⟨ok33, trivial⟩
theorem R67_6 : RegSem Try.prog E67 (regOf 6 (bodyOf Try.f67)) (swapT EL67 (opsOf (regOf 6 (bodyOf Try.f67))) [9] [(14, 2), (14, 3), (14, 4)] 14 9 13) :=
  regSem_rg rfl rfl (swap_of (E := EL67) (hTT hT) hgaL67_6 hmix (c := (regOf 6 (bodyOf Try.f67))) (id := 6) (by kernel_rfl))
theorem L67_2 : LoopSem Try.prog E67 2 (.loop (loopOf 2 (bodyOf Try.f67))) ⟨sg67_2, fun x => l67_2 x.1 x.2.1 x.2.2.1 x.2.2.2.1 x.2.2.2.2.1 x.2.2.2.2.2.1⟩ :=
  sem_of (hTT hT) hga67 hmix (step := fun (x : SigT sg67_2) => r67_2 x.1 x.2.1 x.2.2.1 x.2.2.2.1 x.2.2.2.2.1 x.2.2.2.2.2.1) t67_2 (loopsOK_reg [] (by kernel_rfl) trivial [(6, regOf 6 (bodyOf Try.f67))] (by kernel_rfl) ⟨regL rfl R67_6, trivial⟩)
theorem L67_0 : LoopSem Try.prog E67 0 (.loop (loopOf 0 (bodyOf Try.f67))) ⟨sg67_0, fun x => l67_0 x.1 x.2.1 x.2.2.1 x.2.2.2.1 x.2.2.2.2.1⟩ :=
  sem_of (hTT hT) hga67 hmix (step := fun (x : SigT sg67_0) => r67_0 x.1 x.2.1 x.2.2.1 x.2.2.2.1 x.2.2.2.2.1) t67_0 (loopsOK_reg [(2, .loop (loopOf 2 (bodyOf Try.f67)))] (by kernel_rfl) ⟨semL rfl L67_2, trivial⟩ [] (by kernel_rfl) trivial)
theorem ok67 : SuOK Try.prog 67 s67 :=
  fn_ok (E := E67) (hTT hT) hga67 hmix (fn := Try.f67) (c := (bodyOf Try.f67)) (by kernel_rfl) (by kernel_rfl) (by kernel_rfl) rfl (loopsOK_reg [(0, .loop (loopOf 0 (bodyOf Try.f67)))] (by kernel_rfl) ⟨semL rfl L67_0, trivial⟩ [] (by kernel_rfl) trivial) fun x y h => ⟨y.1, fun _ => rfl, (t67 x).trans h⟩
noncomputable def r84_0 (t0 : (List R68)) (t1 : Int) (t2 : Int) (t3 : Int) (t10 : Int) : Option (Sum ((List R68) × Int × Int × Int × Int × Unit) (Sum ((List R68) × Int × Int × Int × Int × Unit) Unit)) :=
  cond (ltI t10 t3) (
    let u1 := (addW .i64 t2 t10)
    cond (inB u1 t0) (
    let u2 := (addW .i64 t1 t10)
    cond (inB u2 t0) (
    cond (atB u2 t0 u2) (
    cond (atB u1 t0 u1) (
    some (.inl ((swI d68 t0 u2 u1), t1, t2, t3, (addW .i64 t10 1), ()))
    ) none
    ) none
    ) none
    ) none
  ) (
    some (.inr (.inl (t0, t1, t2, t3, t10, ())))
  )
noncomputable def l84_0 (t0 : (List R68)) (t1 : Int) (t2 : Int) (t3 : Int) (t10 : Int) : Option (Sum ((List R68) × Int × Int × Int × Int × Unit) Unit) := loopF (fun (x : ((List R68) × Int × Int × Int × Int × Unit)) => r84_0 x.1 x.2.1 x.2.2.1 x.2.2.2.1 x.2.2.2.2.1) (t0, t1, t2, t3, t10, ())
noncomputable def g84 (p0 : (List R68)) (p1 : Int) (p2 : Int) (p3 : Int) : Option ((((List R68) × Unit) × Unit) × Unit) :=
  Option.bind (l84_0 p0 p1 p2 p3 0) (Sum.elim (fun y1 =>
    some (((y1.1, ()), ()), ())
  ) (fun y1 =>
    none
  ))
noncomputable def s84 : Su := ⟨[.io false [.sl 68 kk68], .c false [.int .i64], .c false [.int .i64], .c false [.int .i64], .fn 33 []], [], true, .inl fun x => g84 x.1.1 x.2.1.1 x.2.2.1.1 x.2.2.2.1.1⟩
def sg84_0 : List SE := [.own 0 (.sl 68 kk68), .d 1 (.int .i64), .d 2 (.int .i64), .d 3 (.int .i64), .d 10 (.int .i64)]
def rh84 : List SE := []
noncomputable def lo84 : Nat → Option (Lo rh84)
  | 0 => some ⟨sg84_0, fun x => l84_0 x.1 x.2.1 x.2.2.1 x.2.2.2.1 x.2.2.2.2.1⟩
  | _ => none
noncomputable def ga84 : List (Nat × Su) := []
noncomputable def EL84 : En := ⟨38, tt, gaOf ga84, rh84, lo84, [0], fun _ => none⟩
noncomputable def rg84 : Nat → Option (St → Tr St)
  | 3 => some (swapT EL84 (opsOf (regOf 3 (bodyOf Try.f84))) [2, 10] [(20, 4), (20, 5), (20, 6), (20, 7)] 20 13 19)
  | _ => none
noncomputable def E84 : En := ⟨38, tt, gaOf ga84, rh84, lo84, [0], rg84⟩
theorem t84_0 (x : SigT sg84_0) : (roundT E84 0 sg84_0 (loopOf 0 (bodyOf Try.f84)) x).run = r84_0 x.1 x.2.1 x.2.2.1 x.2.2.2.1 x.2.2.2.2.1 := by kernel_rfl
theorem t84 (x : PT s84.ps) : (fnT E84 (bodyOf Try.f84) Try.f84.results.toList s84.ps s84.rs true x).run = g84 x.1.1 x.2.1.1 x.2.2.1.1 x.2.2.2.1.1 := by kernel_rfl
theorem hga84 : GAok Try.prog E84 := gaok_of (l := ga84) trivial
theorem hgaL84_3 : GAok Try.prog EL84 := gaok_of (l := ga84) trivial
theorem R84_3 : RegSem Try.prog E84 (regOf 3 (bodyOf Try.f84)) (swapT EL84 (opsOf (regOf 3 (bodyOf Try.f84))) [2, 10] [(20, 4), (20, 5), (20, 6), (20, 7)] 20 13 19) :=
  regSem_rg rfl rfl (swap_of (E := EL84) (hTT hT) hgaL84_3 hmix (c := (regOf 3 (bodyOf Try.f84))) (id := 3) (by kernel_rfl))
theorem L84_0 : LoopSem Try.prog E84 0 (.loop (loopOf 0 (bodyOf Try.f84))) ⟨sg84_0, fun x => l84_0 x.1 x.2.1 x.2.2.1 x.2.2.2.1 x.2.2.2.2.1⟩ :=
  sem_of (hTT hT) hga84 hmix (step := fun (x : SigT sg84_0) => r84_0 x.1 x.2.1 x.2.2.1 x.2.2.2.1 x.2.2.2.2.1) t84_0 (loopsOK_reg [] (by kernel_rfl) trivial [(3, regOf 3 (bodyOf Try.f84))] (by kernel_rfl) ⟨regL rfl R84_3, trivial⟩)
theorem ok84 : SuOK Try.prog 84 s84 :=
  fn_ok (E := E84) (hTT hT) hga84 hmix (fn := Try.f84) (c := (bodyOf Try.f84)) (by kernel_rfl) (by kernel_rfl) (by kernel_rfl) rfl (loopsOK_reg [(0, .loop (loopOf 0 (bodyOf Try.f84)))] (by kernel_rfl) ⟨semL rfl L84_0, trivial⟩ [] (by kernel_rfl) trivial) fun x y h => ⟨y.1, fun _ => rfl, (t84 x).trans h⟩
noncomputable def r79_0 (t0 : (List R68)) (t2 : Int) (f4 : Unit) (t10 : Int) (t11 : Int) : Option (Sum ((List R68) × Int × Unit × Int × Int × Unit) (Sum ((List R68) × Int × Unit × Int × Int × Unit) Unit)) :=
  cond (!(eqI t10 t11)) (
    cond (ltI t11 t10) (
      let u1 := (subW .i64 t2 t10)
      Option.bind (g84 t0 u1 t2 t11) fun y1 =>
      some (.inl (y1.1.1.1, t2, (), (subW .i64 t10 t11), t11, ()))
    ) (
      let u1 := (subW .i64 t2 t10)
      Option.bind (g84 t0 u1 (subW .i64 (addW .i64 t2 t11) t10) t10) fun y1 =>
      some (.inl (y1.1.1.1, t2, (), t10, (subW .i64 t11 t10), ()))
    )
  ) (
    some (.inr (.inl (t0, t2, (), t10, t11, ())))
  )
noncomputable def l79_0 (t0 : (List R68)) (t2 : Int) (f4 : Unit) (t10 : Int) (t11 : Int) : Option (Sum ((List R68) × Int × Unit × Int × Int × Unit) Unit) := loopF (fun (x : ((List R68) × Int × Unit × Int × Int × Unit)) => r79_0 x.1 x.2.1 x.2.2.1 x.2.2.2.1 x.2.2.2.2.1) (t0, t2, f4, t10, t11, ())
noncomputable def g79 (p0 : (List R68)) (p1 : Int) (p2 : Int) (p3 : Int) : Option ((((List R68) × Unit) × Unit) × Unit) :=
  Option.bind (l79_0 p0 p2 () (subW .i64 p2 p1) (subW .i64 p3 p2)) (Sum.elim (fun y1 =>
    Option.bind (g84 y1.1 (subW .i64 y1.2.1 y1.2.2.2.1) y1.2.1 y1.2.2.2.1) fun y2 =>
    some ((y2.1.1, ()), ())
  ) (fun y1 =>
    none
  ))
noncomputable def s79 : Su := ⟨[.io false [.sl 68 kk68], .c false [.int .i64], .c false [.int .i64], .c false [.int .i64], .fn 33 []], [], true, .inl fun x => g79 x.1.1 x.2.1.1 x.2.2.1.1 x.2.2.2.1.1⟩
def sg79_0 : List SE := [.own 0 (.sl 68 kk68), .d 2 (.int .i64), .fn 4 33 [], .d 10 (.int .i64), .d 11 (.int .i64)]
def rh79 : List SE := []
noncomputable def lo79 : Nat → Option (Lo rh79)
  | 0 => some ⟨sg79_0, fun x => l79_0 x.1 x.2.1 x.2.2.1 x.2.2.2.1 x.2.2.2.2.1⟩
  | _ => none
noncomputable def ga79 : List (Nat × Su) := [(84, s84)]
noncomputable def E79 : En := ⟨58, tt, gaOf ga79, rh79, lo79, [0], fun _ => none⟩
theorem t79_0 (x : SigT sg79_0) : (roundT E79 0 sg79_0 (loopOf 0 (bodyOf Try.f79)) x).run = r79_0 x.1 x.2.1 x.2.2.1 x.2.2.2.1 x.2.2.2.2.1 := by kernel_rfl
theorem t79 (x : PT s79.ps) : (fnT E79 (bodyOf Try.f79) Try.f79.results.toList s79.ps s79.rs true x).run = g79 x.1.1 x.2.1.1 x.2.2.1.1 x.2.2.2.1.1 := by kernel_rfl
theorem hga79 : GAok Try.prog E79 := gaok_of (l := ga79) ⟨ok84, trivial⟩
theorem L79_0 : LoopSem Try.prog E79 0 (.loop (loopOf 0 (bodyOf Try.f79))) ⟨sg79_0, fun x => l79_0 x.1 x.2.1 x.2.2.1 x.2.2.2.1 x.2.2.2.2.1⟩ :=
  sem_of (hTT hT) hga79 hmix (step := fun (x : SigT sg79_0) => r79_0 x.1 x.2.1 x.2.2.1 x.2.2.2.1 x.2.2.2.2.1) t79_0 (loopsOK_all [] (by kernel_rfl) trivial)
theorem ok79 : SuOK Try.prog 79 s79 :=
  fn_ok (E := E79) (hTT hT) hga79 hmix (fn := Try.f79) (c := (bodyOf Try.f79)) (by kernel_rfl) (by kernel_rfl) (by kernel_rfl) rfl (loopsOK_all [(0, .loop (loopOf 0 (bodyOf Try.f79)))] (by kernel_rfl) ⟨semL rfl L79_0, trivial⟩) fun x y h => ⟨y.1, fun _ => rfl, (t79 x).trans h⟩
-- REC 68
noncomputable def r68_0 (t0 : (List R68)) (t1 : Int) (f4 : Unit) (t10 : Int) (t11 : Int) : Option (Sum ((List R68) × Int × Unit × Int × Int × Unit) (Sum ((List R68) × Int × Unit × Int × Int × Unit) Unit)) :=
  cond (ltI t10 t11) (
    let u1 := (cvtW .i64 (shrW .u64 (cvtW .u64 (addW .i64 t10 t11)) 1))
    cond (inB u1 t0) (
    cond (inB t1 t0) (
    Option.bind (g33 (gt d68 t0 u1) (gt d68 t0 t1)) fun y1 =>
    cond (ltI y1.2.1.1 0) (
      some (.inl (t0, t1, (), (addW .i64 u1 1), t11, ()))
    ) (
      some (.inl (t0, t1, (), t10, u1, ()))
    )
    ) none
    ) none
  ) (
    some (.inr (.inl (t0, t1, (), t10, t11, ())))
  )
noncomputable def l68_0 (t0 : (List R68)) (t1 : Int) (f4 : Unit) (t10 : Int) (t11 : Int) : Option (Sum ((List R68) × Int × Unit × Int × Int × Unit) Unit) := loopF (fun (x : ((List R68) × Int × Unit × Int × Int × Unit)) => r68_0 x.1 x.2.1 x.2.2.1 x.2.2.2.1 x.2.2.2.2.1) (t0, t1, f4, t10, t11, ())
noncomputable def r68_2 (t0 : (List R68)) (t10 : Int) (t13 : Int) : Option (Sum ((List R68) × Int × Int × Unit) (Sum ((List R68) × Int × Int × Unit) Unit)) :=
  cond (ltI t13 (subW .i64 t10 1)) (
    let u1 := (addW .i64 t13 1)
    cond (inB u1 t0) (
    cond (inB t13 t0) (
    cond (atB t13 t0 t13) (
    cond (atB u1 t0 u1) (
    some (.inl ((swI d68 t0 t13 u1), t10, u1, ()))
    ) none
    ) none
    ) none
    ) none
  ) (
    some (.inr (.inl (t0, t10, t13, ())))
  )
noncomputable def l68_2 (t0 : (List R68)) (t10 : Int) (t13 : Int) : Option (Sum ((List R68) × Int × Int × Unit) Unit) := loopF (fun (x : ((List R68) × Int × Int × Unit)) => r68_2 x.1 x.2.1 x.2.2.1) (t0, t10, t13, ())
noncomputable def r68_4 (t0 : (List R68)) (t2 : Int) (f4 : Unit) (t14 : Int) (t15 : Int) : Option (Sum ((List R68) × Int × Unit × Int × Int × Unit) (Sum ((List R68) × Int × Unit × Int × Int × Unit) Unit)) :=
  cond (ltI t14 t15) (
    cond (inB t2 t0) (
    let u1 := (cvtW .i64 (shrW .u64 (cvtW .u64 (addW .i64 t14 t15)) 1))
    cond (inB u1 t0) (
    Option.bind (g33 (gt d68 t0 t2) (gt d68 t0 u1)) fun y1 =>
    cond (!(ltI y1.2.1.1 0)) (
      some (.inl (t0, t2, (), (addW .i64 u1 1), t15, ()))
    ) (
      some (.inl (t0, t2, (), t14, u1, ()))
    )
    ) none
    ) none
  ) (
    some (.inr (.inl (t0, t2, (), t14, t15, ())))
  )
noncomputable def l68_4 (t0 : (List R68)) (t2 : Int) (f4 : Unit) (t14 : Int) (t15 : Int) : Option (Sum ((List R68) × Int × Unit × Int × Int × Unit) Unit) := loopF (fun (x : ((List R68) × Int × Unit × Int × Int × Unit)) => r68_4 x.1 x.2.1 x.2.2.1 x.2.2.2.1 x.2.2.2.2.1) (t0, t2, f4, t14, t15, ())
noncomputable def r68_6 (t0 : (List R68)) (t14 : Int) (t17 : Int) : Option (Sum ((List R68) × Int × Int × Unit) (Sum ((List R68) × Int × Int × Unit) Unit)) :=
  cond (ltI t14 t17) (
    let u1 := (subW .i64 t17 1)
    cond (inB u1 t0) (
    cond (inB t17 t0) (
    cond (atB t17 t0 t17) (
    cond (atB u1 t0 u1) (
    some (.inl ((swI d68 t0 t17 u1), t14, u1, ()))
    ) none
    ) none
    ) none
    ) none
  ) (
    some (.inr (.inl (t0, t14, t17, ())))
  )
noncomputable def l68_6 (t0 : (List R68)) (t14 : Int) (t17 : Int) : Option (Sum ((List R68) × Int × Int × Unit) Unit) := loopF (fun (x : ((List R68) × Int × Int × Unit)) => r68_6 x.1 x.2.1 x.2.2.1) (t0, t14, t17, ())
noncomputable def r68_8 (t0 : (List R68)) (t1 : Int) (t2 : Int) (t3 : Int) (f4 : Unit) (t18 : Int) (t19 : Int) (t20 : Int) (t21 : Int) (t22 : Int) : Option (Sum ((List R68) × Int × Int × Int × Unit × Int × Int × Int × Int × Int × Unit) (Sum ((List R68) × Int × Int × Int × Unit × Int × Int × Int × Int × Int × Unit) Unit)) :=
  cond (ltI t20 t21) (
    let u1 := (cvtW .i64 (shrW .u64 (cvtW .u64 (addW .i64 t20 t21)) 1))
    let u2 := (subW .i64 t22 u1)
    cond (inB u2 t0) (
    cond (inB u1 t0) (
    Option.bind (g33 (gt d68 t0 u2) (gt d68 t0 u1)) fun y1 =>
    cond (!(ltI y1.2.1.1 0)) (
      some (.inl (t0, t1, t2, t3, (), t18, t19, (addW .i64 u1 1), t21, t22, ()))
    ) (
      some (.inl (t0, t1, t2, t3, (), t18, t19, t20, u1, t22, ()))
    )
    ) none
    ) none
  ) (
    some (.inr (.inl (t0, t1, t2, t3, (), t18, t19, t20, t21, t22, ())))
  )
noncomputable def l68_8 (t0 : (List R68)) (t1 : Int) (t2 : Int) (t3 : Int) (f4 : Unit) (t18 : Int) (t19 : Int) (t20 : Int) (t21 : Int) (t22 : Int) : Option (Sum ((List R68) × Int × Int × Int × Unit × Int × Int × Int × Int × Int × Unit) Unit) := loopF (fun (x : ((List R68) × Int × Int × Int × Unit × Int × Int × Int × Int × Int × Unit)) => r68_8 x.1 x.2.1 x.2.2.1 x.2.2.2.1 x.2.2.2.2.1 x.2.2.2.2.2.1 x.2.2.2.2.2.2.1 x.2.2.2.2.2.2.2.1 x.2.2.2.2.2.2.2.2.1 x.2.2.2.2.2.2.2.2.2.1) (t0, t1, t2, t3, f4, t18, t19, t20, t21, t22, ())
noncomputable def g68n (n : Nat) : (List R68) → Int → Int → Int → Option ((((List R68) × Unit) × Unit) × Unit) := Nat.rec (motive := fun _ => (List R68) → Int → Int → Int → Option ((((List R68) × Unit) × Unit) × Unit)) (fun _ _ _ _ => none) (fun _ g68 => fun p0 p1 p2 p3 =>
  cond (eqI (subW .i64 p2 p1) 1) (
    Option.bind (l68_0 p0 p1 () p2 p3) (Sum.elim (fun y1 =>
      Option.bind (l68_2 y1.1 y1.2.2.2.1 y1.2.1) (Sum.elim (fun y2 =>
        some (((y2.1, ()), ()), ())
      ) (fun y2 =>
        none
      ))
    ) (fun y1 =>
      none
    ))
  ) (
    cond (eqI (subW .i64 p3 p2) 1) (
      Option.bind (l68_4 p0 p2 () p1 p2) (Sum.elim (fun y1 =>
        Option.bind (l68_6 y1.1 y1.2.2.2.1 y1.2.1) (Sum.elim (fun y2 =>
          some (((y2.1, ()), ()), ())
        ) (fun y2 =>
          none
        ))
      ) (fun y1 =>
        none
      ))
    ) (
      let u1 := (cvtW .i64 (shrW .u64 (cvtW .u64 (addW .i64 p1 p3)) 1))
      cond (ltI u1 p2) (
        let u2 := (addW .i64 u1 p2)
        let u3 := (subW .i64 u2 1)
        Option.bind (l68_8 p0 p1 p2 p3 () u1 u2 (subW .i64 u2 p3) u1 u3) (Sum.elim (fun y1 =>
          let u4 := (subW .i64 y1.2.2.2.2.2.2.1 y1.2.2.2.2.2.2.2.1)
          let u5 := (cond (ltI y1.2.2.2.2.2.2.2.1 y1.2.2.1) (ltI y1.2.2.1 u4) false)
          cond u5 (
            let u6 := (g79 y1.1 y1.2.2.2.2.2.2.2.1 y1.2.2.1 u4)
            Option.bind u6 fun y2 =>
            let u7 := (cond (ltI y1.2.1 y1.2.2.2.2.2.2.2.1) (ltI y1.2.2.2.2.2.2.2.1 y1.2.2.2.2.2.1) false)
            cond u7 (
              let u8 := (g68 y2.1.1.1 y1.2.1 y1.2.2.2.2.2.2.2.1 y1.2.2.2.2.2.1)
              Option.bind u8 fun y3 =>
              let u9 := (cond (ltI y1.2.2.2.2.2.1 u4) (ltI u4 y1.2.2.2.1) false)
              cond u9 (
                let u10 := (g68 y3.1.1.1 y1.2.2.2.2.2.1 u4 y1.2.2.2.1)
                Option.bind u10 fun y4 =>
                some ((y4.1.1, ()), ())
              ) (
                some ((y3.1.1, ()), ())
              )
            ) (
              let u8 := (cond (ltI y1.2.2.2.2.2.1 u4) (ltI u4 y1.2.2.2.1) false)
              cond u8 (
                let u9 := (g68 y2.1.1.1 y1.2.2.2.2.2.1 u4 y1.2.2.2.1)
                Option.bind u9 fun y3 =>
                some ((y3.1.1, ()), ())
              ) (
                some ((y2.1.1, ()), ())
              )
            )
          ) (
            let u6 := (cond (ltI y1.2.1 y1.2.2.2.2.2.2.2.1) (ltI y1.2.2.2.2.2.2.2.1 y1.2.2.2.2.2.1) false)
            cond u6 (
              let u7 := (g68 y1.1 y1.2.1 y1.2.2.2.2.2.2.2.1 y1.2.2.2.2.2.1)
              Option.bind u7 fun y2 =>
              let u8 := (cond (ltI y1.2.2.2.2.2.1 u4) (ltI u4 y1.2.2.2.1) false)
              cond u8 (
                let u9 := (g68 y2.1.1.1 y1.2.2.2.2.2.1 u4 y1.2.2.2.1)
                Option.bind u9 fun y3 =>
                some ((y3.1.1, ()), ())
              ) (
                some ((y2.1.1, ()), ())
              )
            ) (
              let u7 := (cond (ltI y1.2.2.2.2.2.1 u4) (ltI u4 y1.2.2.2.1) false)
              cond u7 (
                let u8 := (g68 y1.1 y1.2.2.2.2.2.1 u4 y1.2.2.2.1)
                Option.bind u8 fun y2 =>
                some ((y2.1.1, ()), ())
              ) (
                some (((y1.1, ()), ()), ())
              )
            )
          )
        ) (fun y1 =>
          none
        ))
      ) (
        let u2 := (addW .i64 u1 p2)
        let u3 := (subW .i64 u2 1)
        Option.bind (l68_8 p0 p1 p2 p3 () u1 u2 p1 p2 u3) (Sum.elim (fun y1 =>
          let u4 := (subW .i64 y1.2.2.2.2.2.2.1 y1.2.2.2.2.2.2.2.1)
          let u5 := (cond (ltI y1.2.2.2.2.2.2.2.1 y1.2.2.1) (ltI y1.2.2.1 u4) false)
          cond u5 (
            let u6 := (g79 y1.1 y1.2.2.2.2.2.2.2.1 y1.2.2.1 u4)
            Option.bind u6 fun y2 =>
            let u7 := (cond (ltI y1.2.1 y1.2.2.2.2.2.2.2.1) (ltI y1.2.2.2.2.2.2.2.1 y1.2.2.2.2.2.1) false)
            cond u7 (
              let u8 := (g68 y2.1.1.1 y1.2.1 y1.2.2.2.2.2.2.2.1 y1.2.2.2.2.2.1)
              Option.bind u8 fun y3 =>
              let u9 := (cond (ltI y1.2.2.2.2.2.1 u4) (ltI u4 y1.2.2.2.1) false)
              cond u9 (
                let u10 := (g68 y3.1.1.1 y1.2.2.2.2.2.1 u4 y1.2.2.2.1)
                Option.bind u10 fun y4 =>
                some ((y4.1.1, ()), ())
              ) (
                some ((y3.1.1, ()), ())
              )
            ) (
              let u8 := (cond (ltI y1.2.2.2.2.2.1 u4) (ltI u4 y1.2.2.2.1) false)
              cond u8 (
                let u9 := (g68 y2.1.1.1 y1.2.2.2.2.2.1 u4 y1.2.2.2.1)
                Option.bind u9 fun y3 =>
                some ((y3.1.1, ()), ())
              ) (
                some ((y2.1.1, ()), ())
              )
            )
          ) (
            let u6 := (cond (ltI y1.2.1 y1.2.2.2.2.2.2.2.1) (ltI y1.2.2.2.2.2.2.2.1 y1.2.2.2.2.2.1) false)
            cond u6 (
              let u7 := (g68 y1.1 y1.2.1 y1.2.2.2.2.2.2.2.1 y1.2.2.2.2.2.1)
              Option.bind u7 fun y2 =>
              let u8 := (cond (ltI y1.2.2.2.2.2.1 u4) (ltI u4 y1.2.2.2.1) false)
              cond u8 (
                let u9 := (g68 y2.1.1.1 y1.2.2.2.2.2.1 u4 y1.2.2.2.1)
                Option.bind u9 fun y3 =>
                some ((y3.1.1, ()), ())
              ) (
                some ((y2.1.1, ()), ())
              )
            ) (
              let u7 := (cond (ltI y1.2.2.2.2.2.1 u4) (ltI u4 y1.2.2.2.1) false)
              cond u7 (
                let u8 := (g68 y1.1 y1.2.2.2.2.2.1 u4 y1.2.2.2.1)
                Option.bind u8 fun y2 =>
                some ((y2.1.1, ()), ())
              ) (
                some (((y1.1, ()), ()), ())
              )
            )
          )
        ) (fun y1 =>
          none
        ))
      )
    )
  )) n
theorem g68n_succ (n : Nat) (p0 : (List R68)) (p1 : Int) (p2 : Int) (p3 : Int) : g68n (n + 1) p0 p1 p2 p3 =
  cond (eqI (subW .i64 p2 p1) 1) (
    Option.bind (l68_0 p0 p1 () p2 p3) (Sum.elim (fun y1 =>
      Option.bind (l68_2 y1.1 y1.2.2.2.1 y1.2.1) (Sum.elim (fun y2 =>
        some (((y2.1, ()), ()), ())
      ) (fun y2 =>
        none
      ))
    ) (fun y1 =>
      none
    ))
  ) (
    cond (eqI (subW .i64 p3 p2) 1) (
      Option.bind (l68_4 p0 p2 () p1 p2) (Sum.elim (fun y1 =>
        Option.bind (l68_6 y1.1 y1.2.2.2.1 y1.2.1) (Sum.elim (fun y2 =>
          some (((y2.1, ()), ()), ())
        ) (fun y2 =>
          none
        ))
      ) (fun y1 =>
        none
      ))
    ) (
      let u1 := (cvtW .i64 (shrW .u64 (cvtW .u64 (addW .i64 p1 p3)) 1))
      cond (ltI u1 p2) (
        let u2 := (addW .i64 u1 p2)
        let u3 := (subW .i64 u2 1)
        Option.bind (l68_8 p0 p1 p2 p3 () u1 u2 (subW .i64 u2 p3) u1 u3) (Sum.elim (fun y1 =>
          let u4 := (subW .i64 y1.2.2.2.2.2.2.1 y1.2.2.2.2.2.2.2.1)
          let u5 := (cond (ltI y1.2.2.2.2.2.2.2.1 y1.2.2.1) (ltI y1.2.2.1 u4) false)
          cond u5 (
            let u6 := (g79 y1.1 y1.2.2.2.2.2.2.2.1 y1.2.2.1 u4)
            Option.bind u6 fun y2 =>
            let u7 := (cond (ltI y1.2.1 y1.2.2.2.2.2.2.2.1) (ltI y1.2.2.2.2.2.2.2.1 y1.2.2.2.2.2.1) false)
            cond u7 (
              let u8 := (g68n n y2.1.1.1 y1.2.1 y1.2.2.2.2.2.2.2.1 y1.2.2.2.2.2.1)
              Option.bind u8 fun y3 =>
              let u9 := (cond (ltI y1.2.2.2.2.2.1 u4) (ltI u4 y1.2.2.2.1) false)
              cond u9 (
                let u10 := (g68n n y3.1.1.1 y1.2.2.2.2.2.1 u4 y1.2.2.2.1)
                Option.bind u10 fun y4 =>
                some ((y4.1.1, ()), ())
              ) (
                some ((y3.1.1, ()), ())
              )
            ) (
              let u8 := (cond (ltI y1.2.2.2.2.2.1 u4) (ltI u4 y1.2.2.2.1) false)
              cond u8 (
                let u9 := (g68n n y2.1.1.1 y1.2.2.2.2.2.1 u4 y1.2.2.2.1)
                Option.bind u9 fun y3 =>
                some ((y3.1.1, ()), ())
              ) (
                some ((y2.1.1, ()), ())
              )
            )
          ) (
            let u6 := (cond (ltI y1.2.1 y1.2.2.2.2.2.2.2.1) (ltI y1.2.2.2.2.2.2.2.1 y1.2.2.2.2.2.1) false)
            cond u6 (
              let u7 := (g68n n y1.1 y1.2.1 y1.2.2.2.2.2.2.2.1 y1.2.2.2.2.2.1)
              Option.bind u7 fun y2 =>
              let u8 := (cond (ltI y1.2.2.2.2.2.1 u4) (ltI u4 y1.2.2.2.1) false)
              cond u8 (
                let u9 := (g68n n y2.1.1.1 y1.2.2.2.2.2.1 u4 y1.2.2.2.1)
                Option.bind u9 fun y3 =>
                some ((y3.1.1, ()), ())
              ) (
                some ((y2.1.1, ()), ())
              )
            ) (
              let u7 := (cond (ltI y1.2.2.2.2.2.1 u4) (ltI u4 y1.2.2.2.1) false)
              cond u7 (
                let u8 := (g68n n y1.1 y1.2.2.2.2.2.1 u4 y1.2.2.2.1)
                Option.bind u8 fun y2 =>
                some ((y2.1.1, ()), ())
              ) (
                some (((y1.1, ()), ()), ())
              )
            )
          )
        ) (fun y1 =>
          none
        ))
      ) (
        let u2 := (addW .i64 u1 p2)
        let u3 := (subW .i64 u2 1)
        Option.bind (l68_8 p0 p1 p2 p3 () u1 u2 p1 p2 u3) (Sum.elim (fun y1 =>
          let u4 := (subW .i64 y1.2.2.2.2.2.2.1 y1.2.2.2.2.2.2.2.1)
          let u5 := (cond (ltI y1.2.2.2.2.2.2.2.1 y1.2.2.1) (ltI y1.2.2.1 u4) false)
          cond u5 (
            let u6 := (g79 y1.1 y1.2.2.2.2.2.2.2.1 y1.2.2.1 u4)
            Option.bind u6 fun y2 =>
            let u7 := (cond (ltI y1.2.1 y1.2.2.2.2.2.2.2.1) (ltI y1.2.2.2.2.2.2.2.1 y1.2.2.2.2.2.1) false)
            cond u7 (
              let u8 := (g68n n y2.1.1.1 y1.2.1 y1.2.2.2.2.2.2.2.1 y1.2.2.2.2.2.1)
              Option.bind u8 fun y3 =>
              let u9 := (cond (ltI y1.2.2.2.2.2.1 u4) (ltI u4 y1.2.2.2.1) false)
              cond u9 (
                let u10 := (g68n n y3.1.1.1 y1.2.2.2.2.2.1 u4 y1.2.2.2.1)
                Option.bind u10 fun y4 =>
                some ((y4.1.1, ()), ())
              ) (
                some ((y3.1.1, ()), ())
              )
            ) (
              let u8 := (cond (ltI y1.2.2.2.2.2.1 u4) (ltI u4 y1.2.2.2.1) false)
              cond u8 (
                let u9 := (g68n n y2.1.1.1 y1.2.2.2.2.2.1 u4 y1.2.2.2.1)
                Option.bind u9 fun y3 =>
                some ((y3.1.1, ()), ())
              ) (
                some ((y2.1.1, ()), ())
              )
            )
          ) (
            let u6 := (cond (ltI y1.2.1 y1.2.2.2.2.2.2.2.1) (ltI y1.2.2.2.2.2.2.2.1 y1.2.2.2.2.2.1) false)
            cond u6 (
              let u7 := (g68n n y1.1 y1.2.1 y1.2.2.2.2.2.2.2.1 y1.2.2.2.2.2.1)
              Option.bind u7 fun y2 =>
              let u8 := (cond (ltI y1.2.2.2.2.2.1 u4) (ltI u4 y1.2.2.2.1) false)
              cond u8 (
                let u9 := (g68n n y2.1.1.1 y1.2.2.2.2.2.1 u4 y1.2.2.2.1)
                Option.bind u9 fun y3 =>
                some ((y3.1.1, ()), ())
              ) (
                some ((y2.1.1, ()), ())
              )
            ) (
              let u7 := (cond (ltI y1.2.2.2.2.2.1 u4) (ltI u4 y1.2.2.2.1) false)
              cond u7 (
                let u8 := (g68n n y1.1 y1.2.2.2.2.2.1 u4 y1.2.2.2.1)
                Option.bind u8 fun y2 =>
                some ((y2.1.1, ()), ())
              ) (
                some (((y1.1, ()), ()), ())
              )
            )
          )
        ) (fun y1 =>
          none
        ))
      )
    )
  ) := rfl
noncomputable def g68 (p0 : (List R68)) (p1 : Int) (p2 : Int) (p3 : Int) : Option ((((List R68) × Unit) × Unit) × Unit) := fixG fun n => g68n n p0 p1 p2 p3
noncomputable def s68n (n : Nat) : Su := ⟨[.io false [.sl 68 kk68], .c false [.int .i64], .c false [.int .i64], .c false [.int .i64], .fn 33 []], [], true, .inl fun x => g68n n x.1.1 x.2.1.1 x.2.2.1.1 x.2.2.2.1.1⟩
noncomputable def s68 : Su := ⟨[.io false [.sl 68 kk68], .c false [.int .i64], .c false [.int .i64], .c false [.int .i64], .fn 33 []], [], true, .inl fun x => g68 x.1.1 x.2.1.1 x.2.2.1.1 x.2.2.2.1.1⟩
def sg68_0 : List SE := [.own 0 (.sl 68 kk68), .d 1 (.int .i64), .fn 4 33 [], .d 10 (.int .i64), .d 11 (.int .i64)]
def sg68_2 : List SE := [.own 0 (.sl 68 kk68), .d 10 (.int .i64), .d 13 (.int .i64)]
def sg68_4 : List SE := [.own 0 (.sl 68 kk68), .d 2 (.int .i64), .fn 4 33 [], .d 14 (.int .i64), .d 15 (.int .i64)]
def sg68_6 : List SE := [.own 0 (.sl 68 kk68), .d 14 (.int .i64), .d 17 (.int .i64)]
def sg68_8 : List SE := [.own 0 (.sl 68 kk68), .d 1 (.int .i64), .d 2 (.int .i64), .d 3 (.int .i64), .fn 4 33 [], .d 18 (.int .i64), .d 19 (.int .i64), .d 20 (.int .i64), .d 21 (.int .i64), .d 22 (.int .i64)]
def rh68 : List SE := []
noncomputable def lo68 : Nat → Option (Lo rh68)
  | 0 => some ⟨sg68_0, fun x => l68_0 x.1 x.2.1 x.2.2.1 x.2.2.2.1 x.2.2.2.2.1⟩
  | 2 => some ⟨sg68_2, fun x => l68_2 x.1 x.2.1 x.2.2.1⟩
  | 4 => some ⟨sg68_4, fun x => l68_4 x.1 x.2.1 x.2.2.1 x.2.2.2.1 x.2.2.2.2.1⟩
  | 6 => some ⟨sg68_6, fun x => l68_6 x.1 x.2.1 x.2.2.1⟩
  | 8 => some ⟨sg68_8, fun x => l68_8 x.1 x.2.1 x.2.2.1 x.2.2.2.1 x.2.2.2.2.1 x.2.2.2.2.2.1 x.2.2.2.2.2.2.1 x.2.2.2.2.2.2.2.1 x.2.2.2.2.2.2.2.2.1 x.2.2.2.2.2.2.2.2.2.1⟩
  | _ => none
noncomputable def ga68 (n : Nat) : List (Nat × Su) := [(33, s33), (68, (s68n n)), (79, s79)]
noncomputable def EL68 (n : Nat) : En := ⟨220, tt, gaOf (ga68 n), rh68, lo68, [0], fun _ => none⟩
noncomputable def rg68 (n : Nat) : Nat → Option (St → Tr St)
  | 11 => some (swapT (EL68 n) (opsOf (regOf 11 (bodyOf Try.f68))) [13] [(14, 2), (14, 3), (14, 4)] 14 9 13)
  | 23 => some (swapT (EL68 n) (opsOf (regOf 23 (bodyOf Try.f68))) [17] [(14, 2), (14, 3), (14, 4)] 14 9 13)
  | _ => none
noncomputable def E68 (n : Nat) : En := ⟨220, tt, gaOf (ga68 n), rh68, lo68, [0], (rg68 n)⟩
theorem t68_0 (n : Nat) (x : SigT sg68_0) : (roundT (E68 n) 0 sg68_0 (loopOf 0 (bodyOf Try.f68)) x).run = r68_0 x.1 x.2.1 x.2.2.1 x.2.2.2.1 x.2.2.2.2.1 := by kernel_rfl
theorem t68_2 (n : Nat) (x : SigT sg68_2) : (roundT (E68 n) 2 sg68_2 (loopOf 2 (bodyOf Try.f68)) x).run = r68_2 x.1 x.2.1 x.2.2.1 := by kernel_rfl
theorem t68_4 (n : Nat) (x : SigT sg68_4) : (roundT (E68 n) 4 sg68_4 (loopOf 4 (bodyOf Try.f68)) x).run = r68_4 x.1 x.2.1 x.2.2.1 x.2.2.2.1 x.2.2.2.2.1 := by kernel_rfl
theorem t68_6 (n : Nat) (x : SigT sg68_6) : (roundT (E68 n) 6 sg68_6 (loopOf 6 (bodyOf Try.f68)) x).run = r68_6 x.1 x.2.1 x.2.2.1 := by kernel_rfl
theorem t68_8 (n : Nat) (x : SigT sg68_8) : (roundT (E68 n) 8 sg68_8 (loopOf 8 (bodyOf Try.f68)) x).run = r68_8 x.1 x.2.1 x.2.2.1 x.2.2.2.1 x.2.2.2.2.1 x.2.2.2.2.2.1 x.2.2.2.2.2.2.1 x.2.2.2.2.2.2.2.1 x.2.2.2.2.2.2.2.2.1 x.2.2.2.2.2.2.2.2.2.1 := by kernel_rfl
theorem t68 (n : Nat) (x : PT (s68n (n + 1)).ps) : (fnT (E68 n) (bodyOf Try.f68) Try.f68.results.toList (s68n (n + 1)).ps (s68n (n + 1)).rs true x).run = g68n (n + 1) x.1.1 x.2.1.1 x.2.2.1.1 x.2.2.2.1.1 := by kernel_rfl
theorem hga68 (n : Nat) (hn : SuOK Try.prog 68 (s68n n)) : GAok Try.prog (E68 n) := gaok_of (l := (ga68 n)) ⟨ok33, hn, ok79, trivial⟩
theorem hgaL68_11 (n : Nat) (hn : SuOK Try.prog 68 (s68n n)) : GAok Try.prog (EL68 n) := gaok_of (l := (ga68 n)) ⟨ok33, hn, ok79, trivial⟩
theorem R68_11 (n : Nat) (hn : SuOK Try.prog 68 (s68n n)) : RegSem Try.prog (E68 n) (regOf 11 (bodyOf Try.f68)) (swapT (EL68 n) (opsOf (regOf 11 (bodyOf Try.f68))) [13] [(14, 2), (14, 3), (14, 4)] 14 9 13) :=
  regSem_rg rfl rfl (swap_of (E := (EL68 n)) (hTT hT) (hgaL68_11 n hn) hmix (c := (regOf 11 (bodyOf Try.f68))) (id := 11) (by kernel_rfl))
theorem hgaL68_23 (n : Nat) (hn : SuOK Try.prog 68 (s68n n)) : GAok Try.prog (EL68 n) := gaok_of (l := (ga68 n)) ⟨ok33, hn, ok79, trivial⟩
theorem R68_23 (n : Nat) (hn : SuOK Try.prog 68 (s68n n)) : RegSem Try.prog (E68 n) (regOf 23 (bodyOf Try.f68)) (swapT (EL68 n) (opsOf (regOf 23 (bodyOf Try.f68))) [17] [(14, 2), (14, 3), (14, 4)] 14 9 13) :=
  regSem_rg rfl rfl (swap_of (E := (EL68 n)) (hTT hT) (hgaL68_23 n hn) hmix (c := (regOf 23 (bodyOf Try.f68))) (id := 23) (by kernel_rfl))
theorem L68_0 (n : Nat) (hn : SuOK Try.prog 68 (s68n n)) : LoopSem Try.prog (E68 n) 0 (.loop (loopOf 0 (bodyOf Try.f68))) ⟨sg68_0, fun x => l68_0 x.1 x.2.1 x.2.2.1 x.2.2.2.1 x.2.2.2.2.1⟩ :=
  sem_of (hTT hT) (hga68 n hn) hmix (step := fun (x : SigT sg68_0) => r68_0 x.1 x.2.1 x.2.2.1 x.2.2.2.1 x.2.2.2.2.1) (t68_0 n) (loopsOK_reg [] (by kernel_rfl) trivial [] (by kernel_rfl) trivial)
theorem L68_2 (n : Nat) (hn : SuOK Try.prog 68 (s68n n)) : LoopSem Try.prog (E68 n) 2 (.loop (loopOf 2 (bodyOf Try.f68))) ⟨sg68_2, fun x => l68_2 x.1 x.2.1 x.2.2.1⟩ :=
  sem_of (hTT hT) (hga68 n hn) hmix (step := fun (x : SigT sg68_2) => r68_2 x.1 x.2.1 x.2.2.1) (t68_2 n) (loopsOK_reg [] (by kernel_rfl) trivial [(11, regOf 11 (bodyOf Try.f68))] (by kernel_rfl) ⟨regL rfl (R68_11 n hn), trivial⟩)
theorem L68_4 (n : Nat) (hn : SuOK Try.prog 68 (s68n n)) : LoopSem Try.prog (E68 n) 4 (.loop (loopOf 4 (bodyOf Try.f68))) ⟨sg68_4, fun x => l68_4 x.1 x.2.1 x.2.2.1 x.2.2.2.1 x.2.2.2.2.1⟩ :=
  sem_of (hTT hT) (hga68 n hn) hmix (step := fun (x : SigT sg68_4) => r68_4 x.1 x.2.1 x.2.2.1 x.2.2.2.1 x.2.2.2.2.1) (t68_4 n) (loopsOK_reg [] (by kernel_rfl) trivial [] (by kernel_rfl) trivial)
theorem L68_6 (n : Nat) (hn : SuOK Try.prog 68 (s68n n)) : LoopSem Try.prog (E68 n) 6 (.loop (loopOf 6 (bodyOf Try.f68))) ⟨sg68_6, fun x => l68_6 x.1 x.2.1 x.2.2.1⟩ :=
  sem_of (hTT hT) (hga68 n hn) hmix (step := fun (x : SigT sg68_6) => r68_6 x.1 x.2.1 x.2.2.1) (t68_6 n) (loopsOK_reg [] (by kernel_rfl) trivial [(23, regOf 23 (bodyOf Try.f68))] (by kernel_rfl) ⟨regL rfl (R68_23 n hn), trivial⟩)
theorem L68_8 (n : Nat) (hn : SuOK Try.prog 68 (s68n n)) : LoopSem Try.prog (E68 n) 8 (.loop (loopOf 8 (bodyOf Try.f68))) ⟨sg68_8, fun x => l68_8 x.1 x.2.1 x.2.2.1 x.2.2.2.1 x.2.2.2.2.1 x.2.2.2.2.2.1 x.2.2.2.2.2.2.1 x.2.2.2.2.2.2.2.1 x.2.2.2.2.2.2.2.2.1 x.2.2.2.2.2.2.2.2.2.1⟩ :=
  sem_of (hTT hT) (hga68 n hn) hmix (step := fun (x : SigT sg68_8) => r68_8 x.1 x.2.1 x.2.2.1 x.2.2.2.1 x.2.2.2.2.1 x.2.2.2.2.2.1 x.2.2.2.2.2.2.1 x.2.2.2.2.2.2.2.1 x.2.2.2.2.2.2.2.2.1 x.2.2.2.2.2.2.2.2.2.1) (t68_8 n) (loopsOK_reg [] (by kernel_rfl) trivial [] (by kernel_rfl) trivial)
theorem ok68n : ∀ n, SuOK Try.prog 68 (s68n n)
  | 0 => SuOK.zero fun _ => rfl
  | n + 1 => have hn := ok68n n
  fn_ok (E := (E68 n)) (hTT hT) (hga68 n hn) hmix (fn := Try.f68) (c := (bodyOf Try.f68)) (by kernel_rfl) (by kernel_rfl) (by kernel_rfl) rfl (loopsOK_reg [(0, .loop (loopOf 0 (bodyOf Try.f68))), (2, .loop (loopOf 2 (bodyOf Try.f68))), (4, .loop (loopOf 4 (bodyOf Try.f68))), (6, .loop (loopOf 6 (bodyOf Try.f68))), (8, .loop (loopOf 8 (bodyOf Try.f68)))] (by kernel_rfl) ⟨semL rfl (L68_0 n hn), semL rfl (L68_2 n hn), semL rfl (L68_4 n hn), semL rfl (L68_6 n hn), semL rfl (L68_8 n hn), trivial⟩ [] (by kernel_rfl) trivial) fun x y h => ⟨y.1, fun _ => rfl, ((t68 n) x).trans h⟩
theorem ok68 : SuOK Try.prog 68 s68 := SuOK.fix (ps := s68.ps) (rs := s68.rs) (fr := s68.fresh) (G := fun n (x : PT s68.ps) => g68n n x.1.1 x.2.1.1 x.2.2.1.1 x.2.2.2.1.1) ok68n
noncomputable def r55_0 (t0 : (List R68)) (t1 : Int) (f2 : Unit) (t6 : Int) (t7 : Int) (t8 : Int) : Option (Sum ((List R68) × Int × Unit × Int × Int × Int × Unit) (Sum ((List R68) × Int × Unit × Int × Int × Int × Unit) Unit)) :=
  cond (leI t8 t1) (
    Option.bind (g67 t0 t7 t8) fun y1 =>
    some (.inl (y1.1.1.1, t1, (), t6, t8, (addW .i64 t8 t6), ()))
  ) (
    some (.inr (.inl (t0, t1, (), t6, t7, t8, ())))
  )
noncomputable def l55_0 (t0 : (List R68)) (t1 : Int) (f2 : Unit) (t6 : Int) (t7 : Int) (t8 : Int) : Option (Sum ((List R68) × Int × Unit × Int × Int × Int × Unit) Unit) := loopF (fun (x : ((List R68) × Int × Unit × Int × Int × Int × Unit)) => r55_0 x.1 x.2.1 x.2.2.1 x.2.2.2.1 x.2.2.2.2.1 x.2.2.2.2.2.1) (t0, t1, f2, t6, t7, t8, ())
noncomputable def r55_4 (t0 : (List R68)) (t1 : Int) (f2 : Unit) (t6 : Int) (t7 : Int) (t8 : Int) : Option (Sum ((List R68) × Int × Unit × Int × Int × Int × Unit) (Sum ((List R68) × Int × Unit × Int × Int × Int × Unit) Unit)) :=
  cond (leI t8 t1) (
    Option.bind (g68 t0 t7 (addW .i64 t7 t6) t8) fun y1 =>
    some (.inl (y1.1.1.1, t1, (), t6, t8, (addW .i64 t8 (mulW .i64 2 t6)), ()))
  ) (
    some (.inr (.inl (t0, t1, (), t6, t7, t8, ())))
  )
noncomputable def l55_4 (t0 : (List R68)) (t1 : Int) (f2 : Unit) (t6 : Int) (t7 : Int) (t8 : Int) : Option (Sum ((List R68) × Int × Unit × Int × Int × Int × Unit) Unit) := loopF (fun (x : ((List R68) × Int × Unit × Int × Int × Int × Unit)) => r55_4 x.1 x.2.1 x.2.2.1 x.2.2.2.1 x.2.2.2.2.1 x.2.2.2.2.2.1) (t0, t1, f2, t6, t7, t8, ())
noncomputable def r55_2 (t0 : (List R68)) (t1 : Int) (f2 : Unit) (t6 : Int) : Option (Sum ((List R68) × Int × Unit × Int × Unit) (Sum ((List R68) × Int × Unit × Int × Unit) Unit)) :=
  cond (ltI t6 t1) (
    Option.bind (l55_4 t0 t1 () t6 0 (mulW .i64 2 t6)) (Sum.elim (fun y1 =>
      let u1 := (addW .i64 y1.2.2.2.2.1 y1.2.2.2.1)
      cond (ltI u1 y1.2.1) (
        Option.bind (g68 y1.1 y1.2.2.2.2.1 u1 y1.2.1) fun y2 =>
        let u2 := (mulW .i64 y1.2.2.2.1 2)
        some (.inl (y2.1.1.1, y1.2.1, (), u2, ()))
      ) (
        let u2 := (mulW .i64 y1.2.2.2.1 2)
        some (.inl (y1.1, y1.2.1, (), u2, ()))
      )
    ) (fun y1 =>
      some (.inr (.inr ()))
    ))
  ) (
    some (.inr (.inl (t0, t1, (), t6, ())))
  )
noncomputable def l55_2 (t0 : (List R68)) (t1 : Int) (f2 : Unit) (t6 : Int) : Option (Sum ((List R68) × Int × Unit × Int × Unit) Unit) := loopF (fun (x : ((List R68) × Int × Unit × Int × Unit)) => r55_2 x.1 x.2.1 x.2.2.1 x.2.2.2.1) (t0, t1, f2, t6, ())
noncomputable def g55 (p0 : (List R68)) (p1 : Int) : Option ((((List R68) × Unit) × Unit) × Unit) :=
  Option.bind (l55_0 p0 p1 () 20 0 20) (Sum.elim (fun y1 =>
    Option.bind (g67 y1.1 y1.2.2.2.2.1 y1.2.1) fun y2 =>
    Option.bind (l55_2 y2.1.1.1 y1.2.1 () y1.2.2.2.1) (Sum.elim (fun y3 =>
      some (((y3.1, ()), ()), ())
    ) (fun y3 =>
      none
    ))
  ) (fun y1 =>
    none
  ))
noncomputable def s55 : Su := ⟨[.io false [.sl 68 kk68], .c false [.int .i64], .fn 33 []], [], true, .inl fun x => g55 x.1.1 x.2.1.1⟩
def sg55_0 : List SE := [.own 0 (.sl 68 kk68), .d 1 (.int .i64), .fn 2 33 [], .d 6 (.int .i64), .d 7 (.int .i64), .d 8 (.int .i64)]
def sg55_4 : List SE := [.own 0 (.sl 68 kk68), .d 1 (.int .i64), .fn 2 33 [], .d 6 (.int .i64), .d 7 (.int .i64), .d 8 (.int .i64)]
def sg55_2 : List SE := [.own 0 (.sl 68 kk68), .d 1 (.int .i64), .fn 2 33 [], .d 6 (.int .i64)]
def rh55 : List SE := []
noncomputable def lo55 : Nat → Option (Lo rh55)
  | 0 => some ⟨sg55_0, fun x => l55_0 x.1 x.2.1 x.2.2.1 x.2.2.2.1 x.2.2.2.2.1 x.2.2.2.2.2.1⟩
  | 4 => some ⟨sg55_4, fun x => l55_4 x.1 x.2.1 x.2.2.1 x.2.2.2.1 x.2.2.2.2.1 x.2.2.2.2.2.1⟩
  | 2 => some ⟨sg55_2, fun x => l55_2 x.1 x.2.1 x.2.2.1 x.2.2.2.1⟩
  | _ => none
noncomputable def ga55 : List (Nat × Su) := [(67, s67), (68, s68)]
noncomputable def E55 : En := ⟨63, tt, gaOf ga55, rh55, lo55, [0], fun _ => none⟩
theorem t55_0 (x : SigT sg55_0) : (roundT E55 0 sg55_0 (loopOf 0 (bodyOf Try.f55)) x).run = r55_0 x.1 x.2.1 x.2.2.1 x.2.2.2.1 x.2.2.2.2.1 x.2.2.2.2.2.1 := by kernel_rfl
theorem t55_4 (x : SigT sg55_4) : (roundT E55 4 sg55_4 (loopOf 4 (bodyOf Try.f55)) x).run = r55_4 x.1 x.2.1 x.2.2.1 x.2.2.2.1 x.2.2.2.2.1 x.2.2.2.2.2.1 := by kernel_rfl
theorem t55_2 (x : SigT sg55_2) : (roundT E55 2 sg55_2 (loopOf 2 (bodyOf Try.f55)) x).run = r55_2 x.1 x.2.1 x.2.2.1 x.2.2.2.1 := by kernel_rfl
theorem t55 (x : PT s55.ps) : (fnT E55 (bodyOf Try.f55) Try.f55.results.toList s55.ps s55.rs true x).run = g55 x.1.1 x.2.1.1 := by kernel_rfl
theorem hga55 : GAok Try.prog E55 := gaok_of (l := ga55) ⟨ok67, ok68, trivial⟩
theorem L55_0 : LoopSem Try.prog E55 0 (.loop (loopOf 0 (bodyOf Try.f55))) ⟨sg55_0, fun x => l55_0 x.1 x.2.1 x.2.2.1 x.2.2.2.1 x.2.2.2.2.1 x.2.2.2.2.2.1⟩ :=
  sem_of (hTT hT) hga55 hmix (step := fun (x : SigT sg55_0) => r55_0 x.1 x.2.1 x.2.2.1 x.2.2.2.1 x.2.2.2.2.1 x.2.2.2.2.2.1) t55_0 (loopsOK_all [] (by kernel_rfl) trivial)
theorem L55_4 : LoopSem Try.prog E55 4 (.loop (loopOf 4 (bodyOf Try.f55))) ⟨sg55_4, fun x => l55_4 x.1 x.2.1 x.2.2.1 x.2.2.2.1 x.2.2.2.2.1 x.2.2.2.2.2.1⟩ :=
  sem_of (hTT hT) hga55 hmix (step := fun (x : SigT sg55_4) => r55_4 x.1 x.2.1 x.2.2.1 x.2.2.2.1 x.2.2.2.2.1 x.2.2.2.2.2.1) t55_4 (loopsOK_all [] (by kernel_rfl) trivial)
theorem L55_2 : LoopSem Try.prog E55 2 (.loop (loopOf 2 (bodyOf Try.f55))) ⟨sg55_2, fun x => l55_2 x.1 x.2.1 x.2.2.1 x.2.2.2.1⟩ :=
  sem_of (hTT hT) hga55 hmix (step := fun (x : SigT sg55_2) => r55_2 x.1 x.2.1 x.2.2.1 x.2.2.2.1) t55_2 (loopsOK_all [(4, .loop (loopOf 4 (bodyOf Try.f55)))] (by kernel_rfl) ⟨semL rfl L55_4, trivial⟩)
theorem ok55 : SuOK Try.prog 55 s55 :=
  fn_ok (E := E55) (hTT hT) hga55 hmix (fn := Try.f55) (c := (bodyOf Try.f55)) (by kernel_rfl) (by kernel_rfl) (by kernel_rfl) rfl (loopsOK_all [(0, .loop (loopOf 0 (bodyOf Try.f55))), (2, .loop (loopOf 2 (bodyOf Try.f55)))] (by kernel_rfl) ⟨semL rfl L55_0, semL rfl L55_2, trivial⟩) fun x y h => ⟨y.1, fun _ => rfl, (t55 x).trans h⟩
noncomputable def g32 (p0 : (List R68)) : Option ((((List R68) × Unit) × Unit) × Unit) :=
  Option.bind (g55 p0 (lenI p0)) fun y1 =>
  some ((y1.1.1, ()), ())
noncomputable def s32 : Su := ⟨[.io false [.sl 68 kk68], .fn 33 []], [], true, .inl fun x => g32 x.1.1⟩
def rh32 : List SE := []
noncomputable def lo32 : Nat → Option (Lo rh32)
  | _ => none
noncomputable def ga32 : List (Nat × Su) := [(55, s55)]
noncomputable def E32 : En := ⟨9, tt, gaOf ga32, rh32, lo32, [0], fun _ => none⟩
theorem t32 (x : PT s32.ps) : (fnT E32 (bodyOf Try.f32) Try.f32.results.toList s32.ps s32.rs true x).run = g32 x.1.1 := by kernel_rfl
theorem hga32 : GAok Try.prog E32 := gaok_of (l := ga32) ⟨ok55, trivial⟩
theorem ok32 : SuOK Try.prog 32 s32 :=
  fn_ok (E := E32) (hTT hT) hga32 hmix (fn := Try.f32) (c := (bodyOf Try.f32)) (by kernel_rfl) (by kernel_rfl) (by kernel_rfl) rfl (loopsOK_all [] (by kernel_rfl) trivial) fun x y h => ⟨y.1, fun _ => rfl, (t32 x).trans h⟩
noncomputable def g64 (p0 : List R99) : Option (Unit × ((List R99) × Unit) × Unit) := cond (fitB 32 ([] : List R99) p0) (some ((), ((p0, ()), ()))) none
noncomputable def s64 : Su := ⟨[.c false [.sl 99 kk99]], [(false, [.sl 99 kk99])], true, .inl fun x => g64 x.1.1⟩
noncomputable def E64 : En := ⟨8, tt, gaOf [], [], fun _ => none, [], fun _ => none⟩
noncomputable def st64 (x : PT s64.ps) : St := ⟨[(2, .v .nil), (0, .v (.d (.sl 99 kk99) x.1.1))], []⟩
theorem t64 (x : PT s64.ps) (b : Bool) : ((codeT E64 (.seq (codeR (codeL (codeR (bodyOf Try.f64)))) (codeR (codeR (bodyOf Try.f64)))) (((st64 x).bindT 3 (.v (.d (.sl 99 kk99) x.1.1), none)).bindT 4 (.v (.d .bool b), none))).bind (finT E64 Try.f64.results.toList s64.ps s64.rs s64.fresh)).run =
    cond b (some ((), (([], ()), ()))) (g64 x.1.1) := by kernel_rfl
theorem ok64 : SuOK Try.prog 64 s64 :=
  fn_nil (E := E64) (hTT hT) (gaok_of (l := []) trivial) hmix (fn := Try.f64) (c0 := codeL (bodyOf Try.f64)) (cc := codeR (codeL (codeR (bodyOf Try.f64)))) (c3 := codeR (codeR (bodyOf Try.f64))) (id := regId (codeL (codeL (codeR (bodyOf Try.f64)))))
    (o1 := opAt (codeL (codeL (codeR (bodyOf Try.f64)))) 0) (o2 := opAt (codeL (codeL (codeR (bodyOf Try.f64)))) 1) (by kernel_rfl) (by kernel_rfl) (by kernel_rfl) rfl
    (loopsOK_free (fun _ => rfl) _ (by kernel_rfl)) (loopsOK_free (fun _ => rfl) _ (by kernel_rfl)) (loopsOK_free (fun _ => rfl) _ (by kernel_rfl)) (t0 := 0) (t3 := 3) (t4 := 4) (ty := 63) (ty' := 63) (e := 99) (e' := 99) (by' := 24) (fl := []) (ks := kk99) (by kernel_rfl) (by kernel_rfl) (by kernel_rfl) (by kernel_rfl) (by kernel_rfl) (by kernel_rfl) (by kernel_rfl) (by kernel_rfl) (by kernel_rfl)
    st64 (fun x => x.1.1) (fun x => by kernel_rfl) (fun x => by kernel_rfl) fun x y hy b hb => by
      refine ⟨y.1, fun _ => rfl, ?_⟩
      rw [t64]
      have hy : g64 x.1.1 = some y := hy
      cases b with
      | false => exact hy
      | true =>
        have he : x.1.1 = ([] : List R99) := hb rfl
        rw [he] at hy
        exact hy
noncomputable def g77 (p0 : List R3) : Option (Unit × ((List R3) × Unit) × Unit) := cond (fitB 8 ([] : List R3) p0) (some ((), ((p0, ()), ()))) none
noncomputable def s77 : Su := ⟨[.c false [.sl 3 kk3]], [(false, [.sl 3 kk3])], true, .inl fun x => g77 x.1.1⟩
noncomputable def E77 : En := ⟨8, tt, gaOf [], [], fun _ => none, [], fun _ => none⟩
noncomputable def st77 (x : PT s77.ps) : St := ⟨[(2, .v .nil), (0, .v (.d (.sl 3 kk3) x.1.1))], []⟩
theorem t77 (x : PT s77.ps) (b : Bool) : ((codeT E77 (.seq (codeR (codeL (codeR (bodyOf Try.f77)))) (codeR (codeR (bodyOf Try.f77)))) (((st77 x).bindT 3 (.v (.d (.sl 3 kk3) x.1.1), none)).bindT 4 (.v (.d .bool b), none))).bind (finT E77 Try.f77.results.toList s77.ps s77.rs s77.fresh)).run =
    cond b (some ((), (([], ()), ()))) (g77 x.1.1) := by kernel_rfl
theorem ok77 : SuOK Try.prog 77 s77 :=
  fn_nil (E := E77) (hTT hT) (gaok_of (l := []) trivial) hmix (fn := Try.f77) (c0 := codeL (bodyOf Try.f77)) (cc := codeR (codeL (codeR (bodyOf Try.f77)))) (c3 := codeR (codeR (bodyOf Try.f77))) (id := regId (codeL (codeL (codeR (bodyOf Try.f77)))))
    (o1 := opAt (codeL (codeL (codeR (bodyOf Try.f77)))) 0) (o2 := opAt (codeL (codeL (codeR (bodyOf Try.f77)))) 1) (by kernel_rfl) (by kernel_rfl) (by kernel_rfl) rfl
    (loopsOK_free (fun _ => rfl) _ (by kernel_rfl)) (loopsOK_free (fun _ => rfl) _ (by kernel_rfl)) (loopsOK_free (fun _ => rfl) _ (by kernel_rfl)) (t0 := 0) (t3 := 3) (t4 := 4) (ty := 58) (ty' := 58) (e := 3) (e' := 3) (by' := 24) (fl := []) (ks := kk3) (by kernel_rfl) (by kernel_rfl) (by kernel_rfl) (by kernel_rfl) (by kernel_rfl) (by kernel_rfl) (by kernel_rfl) (by kernel_rfl) (by kernel_rfl)
    st77 (fun x => x.1.1) (fun x => by kernel_rfl) (fun x => by kernel_rfl) fun x y hy b hb => by
      refine ⟨y.1, fun _ => rfl, ?_⟩
      rw [t77]
      have hy : g77 x.1.1 = some y := hy
      cases b with
      | false => exact hy
      | true =>
        have he : x.1.1 = ([] : List R3) := hb rfl
        rw [he] at hy
        exact hy
noncomputable def g65 (p0 : (Int × Int × (List R3) × (List R3) × Unit)) : Option (Unit × ((Int × Int × (List R3) × (List R3) × Unit) × Unit)) :=
  Option.bind (g77 p0.2.2.1) fun y1 =>
  Option.bind (g77 p0.2.2.2.1) fun y2 =>
  some ((), ((p0.1, p0.2.1, y1.2.1.1, y2.2.1.1, ()), ()))
noncomputable def s65 : Su := ⟨[.c true [.int .i64, .int .i64, .sl 3 kk3, .sl 3 kk3]], [(true, [.int .i64, .int .i64, .sl 3 kk3, .sl 3 kk3])], true, .inl fun x => g65 x.1⟩
def rh65 : List SE := []
noncomputable def lo65 : Nat → Option (Lo rh65)
  | _ => none
noncomputable def ga65 : List (Nat × Su) := [(77, s77)]
noncomputable def E65 : En := ⟨12, tt, gaOf ga65, rh65, lo65, [], fun _ => none⟩
theorem t65 (x : PT s65.ps) : (fnT E65 (bodyOf Try.f65) Try.f65.results.toList s65.ps s65.rs true x).run = g65 x.1 := by kernel_rfl
theorem hga65 : GAok Try.prog E65 := gaok_of (l := ga65) ⟨ok77, trivial⟩
theorem ok65 : SuOK Try.prog 65 s65 :=
  fn_ok (E := E65) (hTT hT) hga65 hmix (fn := Try.f65) (c := (bodyOf Try.f65)) (by kernel_rfl) (by kernel_rfl) (by kernel_rfl) rfl (loopsOK_all [] (by kernel_rfl) trivial) fun x y h => ⟨y.1, fun _ => rfl, (t65 x).trans h⟩
noncomputable def g78 (p0 : List R5) : Option (Unit × ((List R5) × Unit) × Unit) := cond (fitB 1 ([] : List R5) p0) (some ((), ((p0, ()), ()))) none
noncomputable def s78 : Su := ⟨[.c false [.sl 5 kk5]], [(false, [.sl 5 kk5])], true, .inl fun x => g78 x.1.1⟩
noncomputable def E78 : En := ⟨8, tt, gaOf [], [], fun _ => none, [], fun _ => none⟩
noncomputable def st78 (x : PT s78.ps) : St := ⟨[(2, .v .nil), (0, .v (.d (.sl 5 kk5) x.1.1))], []⟩
theorem t78 (x : PT s78.ps) (b : Bool) : ((codeT E78 (.seq (codeR (codeL (codeR (bodyOf Try.f78)))) (codeR (codeR (bodyOf Try.f78)))) (((st78 x).bindT 3 (.v (.d (.sl 5 kk5) x.1.1), none)).bindT 4 (.v (.d .bool b), none))).bind (finT E78 Try.f78.results.toList s78.ps s78.rs s78.fresh)).run =
    cond b (some ((), (([], ()), ()))) (g78 x.1.1) := by kernel_rfl
theorem ok78 : SuOK Try.prog 78 s78 :=
  fn_nil (E := E78) (hTT hT) (gaok_of (l := []) trivial) hmix (fn := Try.f78) (c0 := codeL (bodyOf Try.f78)) (cc := codeR (codeL (codeR (bodyOf Try.f78)))) (c3 := codeR (codeR (bodyOf Try.f78))) (id := regId (codeL (codeL (codeR (bodyOf Try.f78)))))
    (o1 := opAt (codeL (codeL (codeR (bodyOf Try.f78)))) 0) (o2 := opAt (codeL (codeL (codeR (bodyOf Try.f78)))) 1) (by kernel_rfl) (by kernel_rfl) (by kernel_rfl) rfl
    (loopsOK_free (fun _ => rfl) _ (by kernel_rfl)) (loopsOK_free (fun _ => rfl) _ (by kernel_rfl)) (loopsOK_free (fun _ => rfl) _ (by kernel_rfl)) (t0 := 0) (t3 := 3) (t4 := 4) (ty := 57) (ty' := 57) (e := 5) (e' := 5) (by' := 24) (fl := []) (ks := kk5) (by kernel_rfl) (by kernel_rfl) (by kernel_rfl) (by kernel_rfl) (by kernel_rfl) (by kernel_rfl) (by kernel_rfl) (by kernel_rfl) (by kernel_rfl)
    st78 (fun x => x.1.1) (fun x => by kernel_rfl) (fun x => by kernel_rfl) fun x y hy b hb => by
      refine ⟨y.1, fun _ => rfl, ?_⟩
      rw [t78]
      have hy : g78 x.1.1 = some y := hy
      cases b with
      | false => exact hy
      | true =>
        have he : x.1.1 = ([] : List R5) := hb rfl
        rw [he] at hy
        exact hy
noncomputable def r66_0 (t3 : (List R101)) (t7 : (List R101)) (t8 : Int) (t9 : Int) : Option (Sum ((List R101) × (List R101) × Int × Int × Unit) (Sum ((List R101) × (List R101) × Int × Int × Unit) Unit)) :=
  cond (ltI t9 t8) (
    cond (inB t9 t7) (
    let u1 := (gt d101 t7 t9)
    Option.bind (g78 u1.2.2.1) fun y1 =>
    cond (fitB 56 t3 [(u1.1, u1.2.1, y1.2.1.1, ())]) (
    some (.inl ((apL t3 [(u1.1, u1.2.1, y1.2.1.1, ())]), t7, t8, (addW .i64 t9 1), ()))
    ) none
    ) none
  ) (
    some (.inr (.inl (t3, t7, t8, t9, ())))
  )
noncomputable def l66_0 (t3 : (List R101)) (t7 : (List R101)) (t8 : Int) (t9 : Int) : Option (Sum ((List R101) × (List R101) × Int × Int × Unit) Unit) := loopF (fun (x : ((List R101) × (List R101) × Int × Int × Unit)) => r66_0 x.1 x.2.1 x.2.2.1 x.2.2.2.1) (t3, t7, t8, t9, ())
noncomputable def g66 (p0 : (List R101)) : Option (Unit × (((List R101) × Unit) × Unit)) :=
  Option.bind (l66_0 [] p0 (lenI p0) 0) (Sum.elim (fun y1 =>
    some ((), ((y1.1, ()), ()))
  ) (fun y1 =>
    none
  ))
noncomputable def s66 : Su := ⟨[.c false [.sl 101 kk101]], [(false, [.sl 101 kk101])], true, .inl fun x => g66 x.1.1⟩
def sg66_0 : List SE := [.own 3 (.sl 101 kk101), .d 7 (.sl 101 kk101), .d 8 (.int .i64), .d 9 (.int .i64)]
def rh66 : List SE := []
noncomputable def lo66 : Nat → Option (Lo rh66)
  | 0 => some ⟨sg66_0, fun x => l66_0 x.1 x.2.1 x.2.2.1 x.2.2.2.1⟩
  | _ => none
noncomputable def ga66 : List (Nat × Su) := [(78, s78)]
noncomputable def E66 : En := ⟨26, tt, gaOf ga66, rh66, lo66, [], fun _ => none⟩
theorem t66_0 (x : SigT sg66_0) : (roundT E66 0 sg66_0 (loopOf 0 (bodyOf Try.f66)) x).run = r66_0 x.1 x.2.1 x.2.2.1 x.2.2.2.1 := by kernel_rfl
theorem t66 (x : PT s66.ps) : (fnT E66 (bodyOf Try.f66) Try.f66.results.toList s66.ps s66.rs true x).run = g66 x.1.1 := by kernel_rfl
theorem hga66 : GAok Try.prog E66 := gaok_of (l := ga66) ⟨ok78, trivial⟩
theorem L66_0 : LoopSem Try.prog E66 0 (.loop (loopOf 0 (bodyOf Try.f66))) ⟨sg66_0, fun x => l66_0 x.1 x.2.1 x.2.2.1 x.2.2.2.1⟩ :=
  sem_of (hTT hT) hga66 hmix (step := fun (x : SigT sg66_0) => r66_0 x.1 x.2.1 x.2.2.1 x.2.2.2.1) t66_0 (loopsOK_all [] (by kernel_rfl) trivial)
theorem ok66 : SuOK Try.prog 66 s66 :=
  fn_ok (E := E66) (hTT hT) hga66 hmix (fn := Try.f66) (c := (bodyOf Try.f66)) (by kernel_rfl) (by kernel_rfl) (by kernel_rfl) rfl (loopsOK_all [(0, .loop (loopOf 0 (bodyOf Try.f66)))] (by kernel_rfl) ⟨semL rfl L66_0, trivial⟩) fun x y h => ⟨y.1, fun _ => rfl, (t66 x).trans h⟩
noncomputable def g54 (p0 : ((List UInt8) × Int × Int × Int × Int × (List R99) × Int × Int × (List R3) × (List R3) × (List R101) × Unit)) : Option (Unit × (((List UInt8) × Int × Int × Int × Int × (List R99) × Int × Int × (List R3) × (List R3) × (List R101) × Unit) × Unit)) :=
  Option.bind (g64 p0.2.2.2.2.2.1) fun y1 =>
  Option.bind (g65 (p0.2.2.2.2.2.2.1, p0.2.2.2.2.2.2.2.1, p0.2.2.2.2.2.2.2.2.1, p0.2.2.2.2.2.2.2.2.2.1, ())) fun y2 =>
  Option.bind (g66 p0.2.2.2.2.2.2.2.2.2.2.1) fun y3 =>
  some ((), ((p0.1, p0.2.1, p0.2.2.1, p0.2.2.2.1, p0.2.2.2.2.1, y1.2.1.1, y2.2.1.1, y2.2.1.2.1, y2.2.1.2.2.1, y2.2.1.2.2.2.1, y3.2.1.1, ()), ()))
noncomputable def s54 : Su := ⟨[.c true [.str, .int .i64, .int .i64, .int .i64, .int .i64, .sl 99 kk99, .int .i64, .int .i64, .sl 3 kk3, .sl 3 kk3, .sl 101 kk101]], [(true, [.str, .int .i64, .int .i64, .int .i64, .int .i64, .sl 99 kk99, .int .i64, .int .i64, .sl 3 kk3, .sl 3 kk3, .sl 101 kk101])], true, .inl fun x => g54 x.1⟩
def rh54 : List SE := []
noncomputable def lo54 : Nat → Option (Lo rh54)
  | _ => none
noncomputable def ga54 : List (Nat × Su) := [(64, s64), (65, s65), (66, s66)]
noncomputable def E54 : En := ⟨16, tt, gaOf ga54, rh54, lo54, [], fun _ => none⟩
theorem t54 (x : PT s54.ps) : (fnT E54 (bodyOf Try.f54) Try.f54.results.toList s54.ps s54.rs true x).run = g54 x.1 := by kernel_rfl
theorem hga54 : GAok Try.prog E54 := gaok_of (l := ga54) ⟨ok64, ok65, ok66, trivial⟩
theorem ok54 : SuOK Try.prog 54 s54 :=
  fn_ok (E := E54) (hTT hT) hga54 hmix (fn := Try.f54) (c := (bodyOf Try.f54)) (by kernel_rfl) (by kernel_rfl) (by kernel_rfl) rfl (loopsOK_all [] (by kernel_rfl) trivial) fun x y h => ⟨y.1, fun _ => rfl, (t54 x).trans h⟩
noncomputable def r53_0 (f1 : Unit) (t10 : (List R68)) (t11 : Int) (t12 : Int) (b4 : ((List R68) × Unit)) (b5 : ((List R68) × Unit)) : Option (Sum (Unit × (List R68) × Int × Int × ((List R68) × Unit) × ((List R68) × Unit) × Unit) (Sum (Unit × (List R68) × Int × Int × ((List R68) × Unit) × ((List R68) × Unit) × Unit) Unit)) :=
  cond (ltI t12 t11) (
    cond (inB t12 t10) (
    Option.bind (g54 (gt d68 t10 t12)) fun y1 =>
    cond (fitB 160 b5.1 [y1.2.1]) (
    some (.inl ((), t10, t11, (addW .i64 t12 1), b4, ((apL b5.1 [y1.2.1]), ()), ()))
    ) none
    ) none
  ) (
    some (.inr (.inl ((), t10, t11, t12, b4, b5, ())))
  )
noncomputable def l53_0 (f1 : Unit) (t10 : (List R68)) (t11 : Int) (t12 : Int) (b4 : ((List R68) × Unit)) (b5 : ((List R68) × Unit)) : Option (Sum (Unit × (List R68) × Int × Int × ((List R68) × Unit) × ((List R68) × Unit) × Unit) Unit) := loopF (fun (x : (Unit × (List R68) × Int × Int × ((List R68) × Unit) × ((List R68) × Unit) × Unit)) => r53_0 x.1 x.2.1 x.2.2.1 x.2.2.2.1 x.2.2.2.2.1 x.2.2.2.2.2.1) (f1, t10, t11, t12, b4, b5, ())
noncomputable def g53 (p0 : ((List R68) × Unit)) : Option (Unit × (((List R68) × Unit) × Unit)) :=
  Option.bind (l53_0 () p0.1 (lenI p0.1) 0 ([], ()) ([], ())) (Sum.elim (fun y1 =>
    some ((), (y1.2.2.2.2.2.1, ()))
  ) (fun y1 =>
    none
  ))
noncomputable def s53 : Su := ⟨[.c true [.sl 68 kk68], .fn 54 []], [(true, [.sl 68 kk68])], true, .inl fun x => g53 x.1⟩
def sg53_0 : List SE := [.fn 1 54 [], .d 10 (.sl 68 kk68), .d 11 (.int .i64), .d 12 (.int .i64), .box 4 [(true, .sl 68 kk68)], .box 5 [(true, .sl 68 kk68)]]
def rh53 : List SE := []
noncomputable def lo53 : Nat → Option (Lo rh53)
  | 0 => some ⟨sg53_0, fun x => l53_0 x.1 x.2.1 x.2.2.1 x.2.2.2.1 x.2.2.2.2.1 x.2.2.2.2.2.1⟩
  | _ => none
noncomputable def ga53 : List (Nat × Su) := [(54, s54)]
noncomputable def E53 : En := ⟨26, tt, gaOf ga53, rh53, lo53, [], fun _ => none⟩
theorem t53_0 (x : SigT sg53_0) : (roundT E53 0 sg53_0 (loopOf 0 (bodyOf Try.f53)) x).run = r53_0 x.1 x.2.1 x.2.2.1 x.2.2.2.1 x.2.2.2.2.1 x.2.2.2.2.2.1 := by kernel_rfl
theorem t53 (x : PT s53.ps) : (fnT E53 (bodyOf Try.f53) Try.f53.results.toList s53.ps s53.rs true x).run = g53 x.1 := by kernel_rfl
theorem hga53 : GAok Try.prog E53 := gaok_of (l := ga53) ⟨ok54, trivial⟩
theorem L53_0 : LoopSem Try.prog E53 0 (.loop (loopOf 0 (bodyOf Try.f53))) ⟨sg53_0, fun x => l53_0 x.1 x.2.1 x.2.2.1 x.2.2.2.1 x.2.2.2.2.1 x.2.2.2.2.2.1⟩ :=
  sem_of (hTT hT) hga53 hmix (step := fun (x : SigT sg53_0) => r53_0 x.1 x.2.1 x.2.2.1 x.2.2.2.1 x.2.2.2.2.1 x.2.2.2.2.2.1) t53_0 (loopsOK_all [] (by kernel_rfl) trivial)
theorem ok53 : SuOK Try.prog 53 s53 :=
  fn_ok (E := E53) (hTT hT) hga53 hmix (fn := Try.f53) (c := (bodyOf Try.f53)) (by kernel_rfl) (by kernel_rfl) (by kernel_rfl) rfl (loopsOK_all [(0, .loop (loopOf 0 (bodyOf Try.f53)))] (by kernel_rfl) ⟨semL rfl L53_0, trivial⟩) fun x y h => ⟨y.1, fun _ => rfl, (t53 x).trans h⟩
noncomputable def g31 (p0 : ((List R68) × Unit)) : Option (Unit × (((List R68) × Unit) × Unit)) :=
  Option.bind (g53 p0) fun y1 =>
  some ((), (y1.2.1, ()))
noncomputable def s31 : Su := ⟨[.c true [.sl 68 kk68]], [(true, [.sl 68 kk68])], true, .inl fun x => g31 x.1⟩
def rh31 : List SE := []
noncomputable def lo31 : Nat → Option (Lo rh31)
  | _ => none
noncomputable def ga31 : List (Nat × Su) := [(53, s53)]
noncomputable def E31 : En := ⟨5, tt, gaOf ga31, rh31, lo31, [], fun _ => none⟩
theorem t31 (x : PT s31.ps) : (fnT E31 (bodyOf Try.f31) Try.f31.results.toList s31.ps s31.rs true x).run = g31 x.1 := by kernel_rfl
theorem hga31 : GAok Try.prog E31 := gaok_of (l := ga31) ⟨ok53, trivial⟩
theorem ok31 : SuOK Try.prog 31 s31 :=
  fn_ok (E := E31) (hTT hT) hga31 hmix (fn := Try.f31) (c := (bodyOf Try.f31)) (by kernel_rfl) (by kernel_rfl) (by kernel_rfl) rfl (loopsOK_all [] (by kernel_rfl) trivial) fun x y h => ⟨y.1, fun _ => rfl, (t31 x).trans h⟩
noncomputable def r18_0 (t7 : (List R62)) (t8 : Int) (t9 : Int) (b2 : ((List R68) × Unit)) (b3 : ((List R68) × Unit)) : Option (Sum ((List R62) × Int × Int × ((List R68) × Unit) × ((List R68) × Unit) × Unit) (Sum ((List R62) × Int × Int × ((List R68) × Unit) × ((List R68) × Unit) × Unit) Unit)) :=
  cond (ltI t9 t8) (
    cond (inB t9 t7) (
    Option.bind (g31 ((gt d62 t7 t9).2.1, ())) fun y1 =>
    cond (fitB 160 b3.1 y1.2.1.1) (
    some (.inl (t7, t8, (addW .i64 t9 1), b2, ((apL b3.1 y1.2.1.1), ()), ()))
    ) none
    ) none
  ) (
    some (.inr (.inl (t7, t8, t9, b2, b3, ())))
  )
noncomputable def l18_0 (t7 : (List R62)) (t8 : Int) (t9 : Int) (b2 : ((List R68) × Unit)) (b3 : ((List R68) × Unit)) : Option (Sum ((List R62) × Int × Int × ((List R68) × Unit) × ((List R68) × Unit) × Unit) Unit) := loopF (fun (x : ((List R62) × Int × Int × ((List R68) × Unit) × ((List R68) × Unit) × Unit)) => r18_0 x.1 x.2.1 x.2.2.1 x.2.2.2.1 x.2.2.2.2.1) (t7, t8, t9, b2, b3, ())
noncomputable def g18 (p0 : (List R62)) : Option (Unit × (((List R68) × Unit) × Unit)) :=
  Option.bind (l18_0 p0 (lenI p0) 0 ([], ()) ([], ())) (Sum.elim (fun y1 =>
    Option.bind (g32 y1.2.2.2.2.1.1) fun y2 =>
    some ((), (y2.1.1, ()))
  ) (fun y1 =>
    none
  ))
noncomputable def s18 : Su := ⟨[.c false [.sl 62 kk62]], [(true, [.sl 68 kk68])], true, .inl fun x => g18 x.1.1⟩
def sg18_0 : List SE := [.d 7 (.sl 62 kk62), .d 8 (.int .i64), .d 9 (.int .i64), .box 2 [(true, .sl 68 kk68)], .box 3 [(true, .sl 68 kk68)]]
def rh18 : List SE := []
noncomputable def lo18 : Nat → Option (Lo rh18)
  | 0 => some ⟨sg18_0, fun x => l18_0 x.1 x.2.1 x.2.2.1 x.2.2.2.1 x.2.2.2.2.1⟩
  | _ => none
noncomputable def ga18 : List (Nat × Su) := [(32, s32), (31, s31)]
noncomputable def E18 : En := ⟨27, tt, gaOf ga18, rh18, lo18, [], fun _ => none⟩
theorem t18_0 (x : SigT sg18_0) : (roundT E18 0 sg18_0 (loopOf 0 (bodyOf Try.f18)) x).run = r18_0 x.1 x.2.1 x.2.2.1 x.2.2.2.1 x.2.2.2.2.1 := by kernel_rfl
theorem t18 (x : PT s18.ps) : (fnT E18 (bodyOf Try.f18) Try.f18.results.toList s18.ps s18.rs true x).run = g18 x.1.1 := by kernel_rfl
theorem hga18 : GAok Try.prog E18 := gaok_of (l := ga18) ⟨ok32, ok31, trivial⟩
theorem L18_0 : LoopSem Try.prog E18 0 (.loop (loopOf 0 (bodyOf Try.f18))) ⟨sg18_0, fun x => l18_0 x.1 x.2.1 x.2.2.1 x.2.2.2.1 x.2.2.2.2.1⟩ :=
  sem_of (hTT hT) hga18 hmix (step := fun (x : SigT sg18_0) => r18_0 x.1 x.2.1 x.2.2.1 x.2.2.2.1 x.2.2.2.2.1) t18_0 (loopsOK_all [] (by kernel_rfl) trivial)
theorem ok18 : SuOK Try.prog 18 s18 :=
  fn_ok (E := E18) (hTT hT) hga18 hmix (fn := Try.f18) (c := (bodyOf Try.f18)) (by kernel_rfl) (by kernel_rfl) (by kernel_rfl) rfl (loopsOK_all [(0, .loop (loopOf 0 (bodyOf Try.f18)))] (by kernel_rfl) ⟨semL rfl L18_0, trivial⟩) fun x y h => ⟨y.1, fun _ => rfl, (t18 x).trans h⟩
noncomputable def g7 (p0 : ((List R62) × Int × Int × (List R71) × Unit)) : Option (Unit × (((List R68) × Unit) × Unit)) :=
  Option.bind (g18 p0.1) fun y1 =>
  some ((), (y1.2.1, ()))
noncomputable def s7 : Su := ⟨[.c true [.sl 62 kk62, .int .i64, .int .i64, .sl 71 kk71]], [(true, [.sl 68 kk68])], true, .inl fun x => g7 x.1⟩
def rh7 : List SE := []
noncomputable def lo7 : Nat → Option (Lo rh7)
  | _ => none
noncomputable def ga7 : List (Nat × Su) := [(18, s18)]
noncomputable def E7 : En := ⟨6, tt, gaOf ga7, rh7, lo7, [], fun _ => none⟩
theorem t7 (x : PT s7.ps) : (fnT E7 (bodyOf Try.f7) Try.f7.results.toList s7.ps s7.rs true x).run = g7 x.1 := by kernel_rfl
theorem hga7 : GAok Try.prog E7 := gaok_of (l := ga7) ⟨ok18, trivial⟩
theorem ok7 : SuOK Try.prog 7 s7 :=
  fn_ok (E := E7) (hTT hT) hga7 hmix (fn := Try.f7) (c := (bodyOf Try.f7)) (by kernel_rfl) (by kernel_rfl) (by kernel_rfl) rfl (loopsOK_all [] (by kernel_rfl) trivial) fun x y h => ⟨y.1, fun _ => rfl, (t7 x).trans h⟩
noncomputable def g69 (p0 : ((List UInt8) × Int × Int × Unit)) (p1 : ((List UInt8) × Int × Int × Unit)) : Option (Unit × ((Bool × Unit) × Unit)) :=
  cond (!(eqS p0.1 p1.1)) (
    some ((), ((false, ()), ()))
  ) (
    cond (!(eqI p0.2.1 p1.2.1)) (
      some ((), ((false, ()), ()))
    ) (
      cond (!(eqI p0.2.2.1 p1.2.2.1)) (
        some ((), ((false, ()), ()))
      ) (
        some ((), ((true, ()), ()))
      )
    )
  )
noncomputable def s69 : Su := ⟨[.c true [.str, .int .i64, .int .i64], .c true [.str, .int .i64, .int .i64]], [(false, [.bool])], true, .inl fun x => g69 x.1 x.2.1⟩
def rh69 : List SE := []
noncomputable def lo69 : Nat → Option (Lo rh69)
  | _ => none
noncomputable def ga69 : List (Nat × Su) := []
noncomputable def E69 : En := ⟨20, tt, gaOf ga69, rh69, lo69, [], fun _ => none⟩
theorem t69 (x : PT s69.ps) : (fnT E69 (bodyOf Try.f69) Try.f69.results.toList s69.ps s69.rs true x).run = g69 x.1 x.2.1 := by kernel_rfl
theorem hga69 : GAok Try.prog E69 := gaok_of (l := ga69) trivial
theorem ok69 : SuOK Try.prog 69 s69 :=
  fn_ok (E := E69) (hTT hT) hga69 hmix (fn := Try.f69) (c := (bodyOf Try.f69)) (by kernel_rfl) (by kernel_rfl) (by kernel_rfl) rfl (loopsOK_all [] (by kernel_rfl) trivial) fun x y h => ⟨y.1, fun _ => rfl, (t69 x).trans h⟩
noncomputable def r56_0 (t0 : (List R99)) (t1 : (List R99)) (t5 : Int) : Option (Sum ((List R99) × (List R99) × Int × Unit) (Sum ((List R99) × (List R99) × Int × Unit) (Bool × Unit))) :=
  cond (ltI t5 (lenI t0)) (
    cond (inB t5 t0) (
    cond (inB t5 t1) (
    Option.bind (g69 (gt d99 t0 t5) (gt d99 t1 t5)) fun y1 =>
    cond (!y1.2.1.1) (
      some (.inr (.inr (false, ())))
    ) (
      some (.inl (t0, t1, (addW .i64 t5 1), ()))
    )
    ) none
    ) none
  ) (
    some (.inr (.inl (t0, t1, t5, ())))
  )
noncomputable def l56_0 (t0 : (List R99)) (t1 : (List R99)) (t5 : Int) : Option (Sum ((List R99) × (List R99) × Int × Unit) (Bool × Unit)) := loopF (fun (x : ((List R99) × (List R99) × Int × Unit)) => r56_0 x.1 x.2.1 x.2.2.1) (t0, t1, t5, ())
noncomputable def g56 (p0 : (List R99)) (p1 : (List R99)) : Option (Unit × ((Bool × Unit) × Unit)) :=
  cond (!(eqI (lenI p0) (lenI p1))) (
    some ((), ((false, ()), ()))
  ) (
    Option.bind (l56_0 p0 p1 0) (Sum.elim (fun y1 =>
      some ((), ((true, ()), ()))
    ) (fun y1 =>
      some ((), (y1, ()))
    ))
  )
noncomputable def s56 : Su := ⟨[.c false [.sl 99 kk99], .c false [.sl 99 kk99]], [(false, [.bool])], true, .inl fun x => g56 x.1.1 x.2.1.1⟩
def sg56_0 : List SE := [.d 0 (.sl 99 kk99), .d 1 (.sl 99 kk99), .d 5 (.int .i64)]
def rh56 : List SE := [.d 4 (.bool)]
noncomputable def lo56 : Nat → Option (Lo rh56)
  | 0 => some ⟨sg56_0, fun x => l56_0 x.1 x.2.1 x.2.2.1⟩
  | _ => none
noncomputable def ga56 : List (Nat × Su) := [(69, s69)]
noncomputable def E56 : En := ⟨27, tt, gaOf ga56, rh56, lo56, [], fun _ => none⟩
theorem t56_0 (x : SigT sg56_0) : (roundT E56 0 sg56_0 (loopOf 0 (bodyOf Try.f56)) x).run = r56_0 x.1 x.2.1 x.2.2.1 := by kernel_rfl
theorem t56 (x : PT s56.ps) : (fnT E56 (bodyOf Try.f56) Try.f56.results.toList s56.ps s56.rs true x).run = g56 x.1.1 x.2.1.1 := by kernel_rfl
theorem hga56 : GAok Try.prog E56 := gaok_of (l := ga56) ⟨ok69, trivial⟩
theorem L56_0 : LoopSem Try.prog E56 0 (.loop (loopOf 0 (bodyOf Try.f56))) ⟨sg56_0, fun x => l56_0 x.1 x.2.1 x.2.2.1⟩ :=
  sem_of (hTT hT) hga56 hmix (step := fun (x : SigT sg56_0) => r56_0 x.1 x.2.1 x.2.2.1) t56_0 (loopsOK_all [] (by kernel_rfl) trivial)
theorem ok56 : SuOK Try.prog 56 s56 :=
  fn_ok (E := E56) (hTT hT) hga56 hmix (fn := Try.f56) (c := (bodyOf Try.f56)) (by kernel_rfl) (by kernel_rfl) (by kernel_rfl) rfl (loopsOK_all [(0, .loop (loopOf 0 (bodyOf Try.f56)))] (by kernel_rfl) ⟨semL rfl L56_0, trivial⟩) fun x y h => ⟨y.1, fun _ => rfl, (t56 x).trans h⟩
noncomputable def r60_0 (t0 : (List R3)) (t1 : (List R3)) (t5 : Int) : Option (Sum ((List R3) × (List R3) × Int × Unit) (Sum ((List R3) × (List R3) × Int × Unit) (Bool × Unit))) :=
  cond (ltI t5 (lenI t0)) (
    cond (inB t5 t0) (
    cond (inB t5 t1) (
    cond (!(eqI (gt d3 t0 t5).1 (gt d3 t1 t5).1)) (
      some (.inr (.inr (false, ())))
    ) (
      some (.inl (t0, t1, (addW .i64 t5 1), ()))
    )
    ) none
    ) none
  ) (
    some (.inr (.inl (t0, t1, t5, ())))
  )
noncomputable def l60_0 (t0 : (List R3)) (t1 : (List R3)) (t5 : Int) : Option (Sum ((List R3) × (List R3) × Int × Unit) (Bool × Unit)) := loopF (fun (x : ((List R3) × (List R3) × Int × Unit)) => r60_0 x.1 x.2.1 x.2.2.1) (t0, t1, t5, ())
noncomputable def g60 (p0 : (List R3)) (p1 : (List R3)) : Option (Unit × ((Bool × Unit) × Unit)) :=
  cond (!(eqI (lenI p0) (lenI p1))) (
    some ((), ((false, ()), ()))
  ) (
    Option.bind (l60_0 p0 p1 0) (Sum.elim (fun y1 =>
      some ((), ((true, ()), ()))
    ) (fun y1 =>
      some ((), (y1, ()))
    ))
  )
noncomputable def s60 : Su := ⟨[.c false [.sl 3 kk3], .c false [.sl 3 kk3]], [(false, [.bool])], true, .inl fun x => g60 x.1.1 x.2.1.1⟩
def sg60_0 : List SE := [.d 0 (.sl 3 kk3), .d 1 (.sl 3 kk3), .d 5 (.int .i64)]
def rh60 : List SE := [.d 4 (.bool)]
noncomputable def lo60 : Nat → Option (Lo rh60)
  | 0 => some ⟨sg60_0, fun x => l60_0 x.1 x.2.1 x.2.2.1⟩
  | _ => none
noncomputable def ga60 : List (Nat × Su) := []
noncomputable def E60 : En := ⟨26, tt, gaOf ga60, rh60, lo60, [], fun _ => none⟩
theorem t60_0 (x : SigT sg60_0) : (roundT E60 0 sg60_0 (loopOf 0 (bodyOf Try.f60)) x).run = r60_0 x.1 x.2.1 x.2.2.1 := by kernel_rfl
theorem t60 (x : PT s60.ps) : (fnT E60 (bodyOf Try.f60) Try.f60.results.toList s60.ps s60.rs true x).run = g60 x.1.1 x.2.1.1 := by kernel_rfl
theorem hga60 : GAok Try.prog E60 := gaok_of (l := ga60) trivial
theorem L60_0 : LoopSem Try.prog E60 0 (.loop (loopOf 0 (bodyOf Try.f60))) ⟨sg60_0, fun x => l60_0 x.1 x.2.1 x.2.2.1⟩ :=
  sem_of (hTT hT) hga60 hmix (step := fun (x : SigT sg60_0) => r60_0 x.1 x.2.1 x.2.2.1) t60_0 (loopsOK_all [] (by kernel_rfl) trivial)
theorem ok60 : SuOK Try.prog 60 s60 :=
  fn_ok (E := E60) (hTT hT) hga60 hmix (fn := Try.f60) (c := (bodyOf Try.f60)) (by kernel_rfl) (by kernel_rfl) (by kernel_rfl) rfl (loopsOK_all [(0, .loop (loopOf 0 (bodyOf Try.f60)))] (by kernel_rfl) ⟨semL rfl L60_0, trivial⟩) fun x y h => ⟨y.1, fun _ => rfl, (t60 x).trans h⟩
noncomputable def g57 (p0 : (Int × Int × (List R3) × (List R3) × Unit)) (p1 : (Int × Int × (List R3) × (List R3) × Unit)) : Option (Unit × ((Bool × Unit) × Unit)) :=
  cond (!(eqI p0.1 p1.1)) (
    some ((), ((false, ()), ()))
  ) (
    cond (!(eqI p0.2.1 p1.2.1)) (
      some ((), ((false, ()), ()))
    ) (
      Option.bind (g60 p0.2.2.1 p1.2.2.1) fun y1 =>
      cond (!y1.2.1.1) (
        some ((), ((false, ()), ()))
      ) (
        Option.bind (g60 p0.2.2.2.1 p1.2.2.2.1) fun y2 =>
        cond (!y2.2.1.1) (
          some ((), ((false, ()), ()))
        ) (
          some ((), ((true, ()), ()))
        )
      )
    )
  )
noncomputable def s57 : Su := ⟨[.c true [.int .i64, .int .i64, .sl 3 kk3, .sl 3 kk3], .c true [.int .i64, .int .i64, .sl 3 kk3, .sl 3 kk3]], [(false, [.bool])], true, .inl fun x => g57 x.1 x.2.1⟩
def rh57 : List SE := []
noncomputable def lo57 : Nat → Option (Lo rh57)
  | _ => none
noncomputable def ga57 : List (Nat × Su) := [(60, s60)]
noncomputable def E57 : En := ⟨27, tt, gaOf ga57, rh57, lo57, [], fun _ => none⟩
theorem t57 (x : PT s57.ps) : (fnT E57 (bodyOf Try.f57) Try.f57.results.toList s57.ps s57.rs true x).run = g57 x.1 x.2.1 := by kernel_rfl
theorem hga57 : GAok Try.prog E57 := gaok_of (l := ga57) ⟨ok60, trivial⟩
theorem ok57 : SuOK Try.prog 57 s57 :=
  fn_ok (E := E57) (hTT hT) hga57 hmix (fn := Try.f57) (c := (bodyOf Try.f57)) (by kernel_rfl) (by kernel_rfl) (by kernel_rfl) rfl (loopsOK_all [] (by kernel_rfl) trivial) fun x y h => ⟨y.1, fun _ => rfl, (t57 x).trans h⟩
noncomputable def r59_0 (t0 : (List R5)) (t1 : (List R5)) (t5 : Int) : Option (Sum ((List R5) × (List R5) × Int × Unit) (Sum ((List R5) × (List R5) × Int × Unit) (Bool × Unit))) :=
  cond (ltI t5 (lenI t0)) (
    cond (inB t5 t0) (
    cond (inB t5 t1) (
    cond (!(eqI (gt d5 t0 t5).1 (gt d5 t1 t5).1)) (
      some (.inr (.inr (false, ())))
    ) (
      some (.inl (t0, t1, (addW .i64 t5 1), ()))
    )
    ) none
    ) none
  ) (
    some (.inr (.inl (t0, t1, t5, ())))
  )
noncomputable def l59_0 (t0 : (List R5)) (t1 : (List R5)) (t5 : Int) : Option (Sum ((List R5) × (List R5) × Int × Unit) (Bool × Unit)) := loopF (fun (x : ((List R5) × (List R5) × Int × Unit)) => r59_0 x.1 x.2.1 x.2.2.1) (t0, t1, t5, ())
noncomputable def g59 (p0 : (List R5)) (p1 : (List R5)) : Option (Unit × ((Bool × Unit) × Unit)) :=
  cond (!(eqI (lenI p0) (lenI p1))) (
    some ((), ((false, ()), ()))
  ) (
    Option.bind (l59_0 p0 p1 0) (Sum.elim (fun y1 =>
      some ((), ((true, ()), ()))
    ) (fun y1 =>
      some ((), (y1, ()))
    ))
  )
noncomputable def s59 : Su := ⟨[.c false [.sl 5 kk5], .c false [.sl 5 kk5]], [(false, [.bool])], true, .inl fun x => g59 x.1.1 x.2.1.1⟩
def sg59_0 : List SE := [.d 0 (.sl 5 kk5), .d 1 (.sl 5 kk5), .d 5 (.int .i64)]
def rh59 : List SE := [.d 4 (.bool)]
noncomputable def lo59 : Nat → Option (Lo rh59)
  | 0 => some ⟨sg59_0, fun x => l59_0 x.1 x.2.1 x.2.2.1⟩
  | _ => none
noncomputable def ga59 : List (Nat × Su) := []
noncomputable def E59 : En := ⟨26, tt, gaOf ga59, rh59, lo59, [], fun _ => none⟩
theorem t59_0 (x : SigT sg59_0) : (roundT E59 0 sg59_0 (loopOf 0 (bodyOf Try.f59)) x).run = r59_0 x.1 x.2.1 x.2.2.1 := by kernel_rfl
theorem t59 (x : PT s59.ps) : (fnT E59 (bodyOf Try.f59) Try.f59.results.toList s59.ps s59.rs true x).run = g59 x.1.1 x.2.1.1 := by kernel_rfl
theorem hga59 : GAok Try.prog E59 := gaok_of (l := ga59) trivial
theorem L59_0 : LoopSem Try.prog E59 0 (.loop (loopOf 0 (bodyOf Try.f59))) ⟨sg59_0, fun x => l59_0 x.1 x.2.1 x.2.2.1⟩ :=
  sem_of (hTT hT) hga59 hmix (step := fun (x : SigT sg59_0) => r59_0 x.1 x.2.1 x.2.2.1) t59_0 (loopsOK_all [] (by kernel_rfl) trivial)
theorem ok59 : SuOK Try.prog 59 s59 :=
  fn_ok (E := E59) (hTT hT) hga59 hmix (fn := Try.f59) (c := (bodyOf Try.f59)) (by kernel_rfl) (by kernel_rfl) (by kernel_rfl) rfl (loopsOK_all [(0, .loop (loopOf 0 (bodyOf Try.f59)))] (by kernel_rfl) ⟨semL rfl L59_0, trivial⟩) fun x y h => ⟨y.1, fun _ => rfl, (t59 x).trans h⟩
noncomputable def g70 (p0 : ((List UInt8) × (List UInt8) × (List R5) × Unit)) (p1 : ((List UInt8) × (List UInt8) × (List R5) × Unit)) : Option (Unit × ((Bool × Unit) × Unit)) :=
  cond (!(eqS p0.1 p1.1)) (
    some ((), ((false, ()), ()))
  ) (
    cond (!(eqS p0.2.1 p1.2.1)) (
      some ((), ((false, ()), ()))
    ) (
      Option.bind (g59 p0.2.2.1 p1.2.2.1) fun y1 =>
      cond (!y1.2.1.1) (
        some ((), ((false, ()), ()))
      ) (
        some ((), ((true, ()), ()))
      )
    )
  )
noncomputable def s70 : Su := ⟨[.c true [.str, .str, .sl 5 kk5], .c true [.str, .str, .sl 5 kk5]], [(false, [.bool])], true, .inl fun x => g70 x.1 x.2.1⟩
def rh70 : List SE := []
noncomputable def lo70 : Nat → Option (Lo rh70)
  | _ => none
noncomputable def ga70 : List (Nat × Su) := [(59, s59)]
noncomputable def E70 : En := ⟨21, tt, gaOf ga70, rh70, lo70, [], fun _ => none⟩
theorem t70 (x : PT s70.ps) : (fnT E70 (bodyOf Try.f70) Try.f70.results.toList s70.ps s70.rs true x).run = g70 x.1 x.2.1 := by kernel_rfl
theorem hga70 : GAok Try.prog E70 := gaok_of (l := ga70) ⟨ok59, trivial⟩
theorem ok70 : SuOK Try.prog 70 s70 :=
  fn_ok (E := E70) (hTT hT) hga70 hmix (fn := Try.f70) (c := (bodyOf Try.f70)) (by kernel_rfl) (by kernel_rfl) (by kernel_rfl) rfl (loopsOK_all [] (by kernel_rfl) trivial) fun x y h => ⟨y.1, fun _ => rfl, (t70 x).trans h⟩
noncomputable def r58_0 (t0 : (List R101)) (t1 : (List R101)) (t5 : Int) : Option (Sum ((List R101) × (List R101) × Int × Unit) (Sum ((List R101) × (List R101) × Int × Unit) (Bool × Unit))) :=
  cond (ltI t5 (lenI t0)) (
    cond (inB t5 t0) (
    cond (inB t5 t1) (
    Option.bind (g70 (gt d101 t0 t5) (gt d101 t1 t5)) fun y1 =>
    cond (!y1.2.1.1) (
      some (.inr (.inr (false, ())))
    ) (
      some (.inl (t0, t1, (addW .i64 t5 1), ()))
    )
    ) none
    ) none
  ) (
    some (.inr (.inl (t0, t1, t5, ())))
  )
noncomputable def l58_0 (t0 : (List R101)) (t1 : (List R101)) (t5 : Int) : Option (Sum ((List R101) × (List R101) × Int × Unit) (Bool × Unit)) := loopF (fun (x : ((List R101) × (List R101) × Int × Unit)) => r58_0 x.1 x.2.1 x.2.2.1) (t0, t1, t5, ())
noncomputable def g58 (p0 : (List R101)) (p1 : (List R101)) : Option (Unit × ((Bool × Unit) × Unit)) :=
  cond (!(eqI (lenI p0) (lenI p1))) (
    some ((), ((false, ()), ()))
  ) (
    Option.bind (l58_0 p0 p1 0) (Sum.elim (fun y1 =>
      some ((), ((true, ()), ()))
    ) (fun y1 =>
      some ((), (y1, ()))
    ))
  )
noncomputable def s58 : Su := ⟨[.c false [.sl 101 kk101], .c false [.sl 101 kk101]], [(false, [.bool])], true, .inl fun x => g58 x.1.1 x.2.1.1⟩
def sg58_0 : List SE := [.d 0 (.sl 101 kk101), .d 1 (.sl 101 kk101), .d 5 (.int .i64)]
def rh58 : List SE := [.d 4 (.bool)]
noncomputable def lo58 : Nat → Option (Lo rh58)
  | 0 => some ⟨sg58_0, fun x => l58_0 x.1 x.2.1 x.2.2.1⟩
  | _ => none
noncomputable def ga58 : List (Nat × Su) := [(70, s70)]
noncomputable def E58 : En := ⟨27, tt, gaOf ga58, rh58, lo58, [], fun _ => none⟩
theorem t58_0 (x : SigT sg58_0) : (roundT E58 0 sg58_0 (loopOf 0 (bodyOf Try.f58)) x).run = r58_0 x.1 x.2.1 x.2.2.1 := by kernel_rfl
theorem t58 (x : PT s58.ps) : (fnT E58 (bodyOf Try.f58) Try.f58.results.toList s58.ps s58.rs true x).run = g58 x.1.1 x.2.1.1 := by kernel_rfl
theorem hga58 : GAok Try.prog E58 := gaok_of (l := ga58) ⟨ok70, trivial⟩
theorem L58_0 : LoopSem Try.prog E58 0 (.loop (loopOf 0 (bodyOf Try.f58))) ⟨sg58_0, fun x => l58_0 x.1 x.2.1 x.2.2.1⟩ :=
  sem_of (hTT hT) hga58 hmix (step := fun (x : SigT sg58_0) => r58_0 x.1 x.2.1 x.2.2.1) t58_0 (loopsOK_all [] (by kernel_rfl) trivial)
theorem ok58 : SuOK Try.prog 58 s58 :=
  fn_ok (E := E58) (hTT hT) hga58 hmix (fn := Try.f58) (c := (bodyOf Try.f58)) (by kernel_rfl) (by kernel_rfl) (by kernel_rfl) rfl (loopsOK_all [(0, .loop (loopOf 0 (bodyOf Try.f58)))] (by kernel_rfl) ⟨semL rfl L58_0, trivial⟩) fun x y h => ⟨y.1, fun _ => rfl, (t58 x).trans h⟩
noncomputable def g34 (p0 : ((List UInt8) × Int × Int × Int × Int × (List R99) × Int × Int × (List R3) × (List R3) × (List R101) × Unit)) (p1 : ((List UInt8) × Int × Int × Int × Int × (List R99) × Int × Int × (List R3) × (List R3) × (List R101) × Unit)) : Option (Unit × ((Bool × Unit) × Unit)) :=
  cond (!(eqS p0.1 p1.1)) (
    some ((), ((false, ()), ()))
  ) (
    cond (!(eqI p0.2.1 p1.2.1)) (
      some ((), ((false, ()), ()))
    ) (
      cond (!(eqI p0.2.2.1 p1.2.2.1)) (
        some ((), ((false, ()), ()))
      ) (
        cond (!(eqI p0.2.2.2.1 p1.2.2.2.1)) (
          some ((), ((false, ()), ()))
        ) (
          cond (!(eqI p0.2.2.2.2.1 p1.2.2.2.2.1)) (
            some ((), ((false, ()), ()))
          ) (
            Option.bind (g56 p0.2.2.2.2.2.1 p1.2.2.2.2.2.1) fun y1 =>
            cond (!y1.2.1.1) (
              some ((), ((false, ()), ()))
            ) (
              Option.bind (g57 (p0.2.2.2.2.2.2.1, p0.2.2.2.2.2.2.2.1, p0.2.2.2.2.2.2.2.2.1, p0.2.2.2.2.2.2.2.2.2.1, ()) (p1.2.2.2.2.2.2.1, p1.2.2.2.2.2.2.2.1, p1.2.2.2.2.2.2.2.2.1, p1.2.2.2.2.2.2.2.2.2.1, ())) fun y2 =>
              cond (!y2.2.1.1) (
                some ((), ((false, ()), ()))
              ) (
                Option.bind (g58 p0.2.2.2.2.2.2.2.2.2.2.1 p1.2.2.2.2.2.2.2.2.2.2.1) fun y3 =>
                cond (!y3.2.1.1) (
                  some ((), ((false, ()), ()))
                ) (
                  some ((), ((true, ()), ()))
                )
              )
            )
          )
        )
      )
    )
  )
noncomputable def s34 : Su := ⟨[.c true [.str, .int .i64, .int .i64, .int .i64, .int .i64, .sl 99 kk99, .int .i64, .int .i64, .sl 3 kk3, .sl 3 kk3, .sl 101 kk101], .c true [.str, .int .i64, .int .i64, .int .i64, .int .i64, .sl 99 kk99, .int .i64, .int .i64, .sl 3 kk3, .sl 3 kk3, .sl 101 kk101]], [(false, [.bool])], true, .inl fun x => g34 x.1 x.2.1⟩
def rh34 : List SE := []
noncomputable def lo34 : Nat → Option (Lo rh34)
  | _ => none
noncomputable def ga34 : List (Nat × Su) := [(56, s56), (57, s57), (58, s58)]
noncomputable def E34 : En := ⟨48, tt, gaOf ga34, rh34, lo34, [], fun _ => none⟩
theorem t34 (x : PT s34.ps) : (fnT E34 (bodyOf Try.f34) Try.f34.results.toList s34.ps s34.rs true x).run = g34 x.1 x.2.1 := by kernel_rfl
theorem hga34 : GAok Try.prog E34 := gaok_of (l := ga34) ⟨ok56, ok57, ok58, trivial⟩
theorem ok34 : SuOK Try.prog 34 s34 :=
  fn_ok (E := E34) (hTT hT) hga34 hmix (fn := Try.f34) (c := (bodyOf Try.f34)) (by kernel_rfl) (by kernel_rfl) (by kernel_rfl) rfl (loopsOK_all [] (by kernel_rfl) trivial) fun x y h => ⟨y.1, fun _ => rfl, (t34 x).trans h⟩
noncomputable def r19_0 (t0 : (List R68)) (t1 : (List R68)) (t5 : Int) : Option (Sum ((List R68) × (List R68) × Int × Unit) (Sum ((List R68) × (List R68) × Int × Unit) (Bool × Unit))) :=
  cond (ltI t5 (lenI t0)) (
    cond (inB t5 t0) (
    cond (inB t5 t1) (
    Option.bind (g34 (gt d68 t0 t5) (gt d68 t1 t5)) fun y1 =>
    cond (!y1.2.1.1) (
      some (.inr (.inr (false, ())))
    ) (
      some (.inl (t0, t1, (addW .i64 t5 1), ()))
    )
    ) none
    ) none
  ) (
    some (.inr (.inl (t0, t1, t5, ())))
  )
noncomputable def l19_0 (t0 : (List R68)) (t1 : (List R68)) (t5 : Int) : Option (Sum ((List R68) × (List R68) × Int × Unit) (Bool × Unit)) := loopF (fun (x : ((List R68) × (List R68) × Int × Unit)) => r19_0 x.1 x.2.1 x.2.2.1) (t0, t1, t5, ())
noncomputable def g19 (p0 : (List R68)) (p1 : (List R68)) : Option (Unit × ((Bool × Unit) × Unit)) :=
  cond (!(eqI (lenI p0) (lenI p1))) (
    some ((), ((false, ()), ()))
  ) (
    Option.bind (l19_0 p0 p1 0) (Sum.elim (fun y1 =>
      some ((), ((true, ()), ()))
    ) (fun y1 =>
      some ((), (y1, ()))
    ))
  )
noncomputable def s19 : Su := ⟨[.c false [.sl 68 kk68], .c false [.sl 68 kk68]], [(false, [.bool])], true, .inl fun x => g19 x.1.1 x.2.1.1⟩
def sg19_0 : List SE := [.d 0 (.sl 68 kk68), .d 1 (.sl 68 kk68), .d 5 (.int .i64)]
def rh19 : List SE := [.d 4 (.bool)]
noncomputable def lo19 : Nat → Option (Lo rh19)
  | 0 => some ⟨sg19_0, fun x => l19_0 x.1 x.2.1 x.2.2.1⟩
  | _ => none
noncomputable def ga19 : List (Nat × Su) := [(34, s34)]
noncomputable def E19 : En := ⟨27, tt, gaOf ga19, rh19, lo19, [], fun _ => none⟩
theorem t19_0 (x : SigT sg19_0) : (roundT E19 0 sg19_0 (loopOf 0 (bodyOf Try.f19)) x).run = r19_0 x.1 x.2.1 x.2.2.1 := by kernel_rfl
theorem t19 (x : PT s19.ps) : (fnT E19 (bodyOf Try.f19) Try.f19.results.toList s19.ps s19.rs true x).run = g19 x.1.1 x.2.1.1 := by kernel_rfl
theorem hga19 : GAok Try.prog E19 := gaok_of (l := ga19) ⟨ok34, trivial⟩
theorem L19_0 : LoopSem Try.prog E19 0 (.loop (loopOf 0 (bodyOf Try.f19))) ⟨sg19_0, fun x => l19_0 x.1 x.2.1 x.2.2.1⟩ :=
  sem_of (hTT hT) hga19 hmix (step := fun (x : SigT sg19_0) => r19_0 x.1 x.2.1 x.2.2.1) t19_0 (loopsOK_all [] (by kernel_rfl) trivial)
theorem ok19 : SuOK Try.prog 19 s19 :=
  fn_ok (E := E19) (hTT hT) hga19 hmix (fn := Try.f19) (c := (bodyOf Try.f19)) (by kernel_rfl) (by kernel_rfl) (by kernel_rfl) rfl (loopsOK_all [(0, .loop (loopOf 0 (bodyOf Try.f19)))] (by kernel_rfl) ⟨semL rfl L19_0, trivial⟩) fun x y h => ⟨y.1, fun _ => rfl, (t19 x).trans h⟩
noncomputable def g8 (p0 : ((List R68) × Unit)) (p1 : ((List R68) × Unit)) : Option (Unit × ((Bool × Unit) × Unit)) :=
  Option.bind (g19 p0.1 p1.1) fun y1 =>
  cond (!y1.2.1.1) (
    some ((), ((false, ()), ()))
  ) (
    some ((), ((true, ()), ()))
  )
noncomputable def s8 : Su := ⟨[.c true [.sl 68 kk68], .c true [.sl 68 kk68]], [(false, [.bool])], true, .inl fun x => g8 x.1 x.2.1⟩
def rh8 : List SE := []
noncomputable def lo8 : Nat → Option (Lo rh8)
  | _ => none
noncomputable def ga8 : List (Nat × Su) := [(19, s19)]
noncomputable def E8 : En := ⟨11, tt, gaOf ga8, rh8, lo8, [], fun _ => none⟩
theorem t8 (x : PT s8.ps) : (fnT E8 (bodyOf Try.f8) Try.f8.results.toList s8.ps s8.rs true x).run = g8 x.1 x.2.1 := by kernel_rfl
theorem hga8 : GAok Try.prog E8 := gaok_of (l := ga8) ⟨ok19, trivial⟩
theorem ok8 : SuOK Try.prog 8 s8 :=
  fn_ok (E := E8) (hTT hT) hga8 hmix (fn := Try.f8) (c := (bodyOf Try.f8)) (by kernel_rfl) (by kernel_rfl) (by kernel_rfl) rfl (loopsOK_all [] (by kernel_rfl) trivial) fun x y h => ⟨y.1, fun _ => rfl, (t8 x).trans h⟩
noncomputable def g35 (p0 : (Int × (List R68) × Unit)) (p1 : (Int × (List R68) × Unit)) : Option (Unit × ((Bool × Unit) × Unit)) :=
  cond (!(eqI p0.1 p1.1)) (
    some ((), ((false, ()), ()))
  ) (
    Option.bind (g19 p0.2.1 p1.2.1) fun y1 =>
    cond (!y1.2.1.1) (
      some ((), ((false, ()), ()))
    ) (
      some ((), ((true, ()), ()))
    )
  )
noncomputable def s35 : Su := ⟨[.c true [.int .i64, .sl 68 kk68], .c true [.int .i64, .sl 68 kk68]], [(false, [.bool])], true, .inl fun x => g35 x.1 x.2.1⟩
def rh35 : List SE := []
noncomputable def lo35 : Nat → Option (Lo rh35)
  | _ => none
noncomputable def ga35 : List (Nat × Su) := [(19, s19)]
noncomputable def E35 : En := ⟨16, tt, gaOf ga35, rh35, lo35, [], fun _ => none⟩
theorem t35 (x : PT s35.ps) : (fnT E35 (bodyOf Try.f35) Try.f35.results.toList s35.ps s35.rs true x).run = g35 x.1 x.2.1 := by kernel_rfl
theorem hga35 : GAok Try.prog E35 := gaok_of (l := ga35) ⟨ok19, trivial⟩
theorem ok35 : SuOK Try.prog 35 s35 :=
  fn_ok (E := E35) (hTT hT) hga35 hmix (fn := Try.f35) (c := (bodyOf Try.f35)) (by kernel_rfl) (by kernel_rfl) (by kernel_rfl) rfl (loopsOK_all [] (by kernel_rfl) trivial) fun x y h => ⟨y.1, fun _ => rfl, (t35 x).trans h⟩
noncomputable def r20_0 (t0 : (List R62)) (t1 : (List R62)) (t5 : Int) : Option (Sum ((List R62) × (List R62) × Int × Unit) (Sum ((List R62) × (List R62) × Int × Unit) (Bool × Unit))) :=
  cond (ltI t5 (lenI t0)) (
    cond (inB t5 t0) (
    cond (inB t5 t1) (
    Option.bind (g35 (gt d62 t0 t5) (gt d62 t1 t5)) fun y1 =>
    cond (!y1.2.1.1) (
      some (.inr (.inr (false, ())))
    ) (
      some (.inl (t0, t1, (addW .i64 t5 1), ()))
    )
    ) none
    ) none
  ) (
    some (.inr (.inl (t0, t1, t5, ())))
  )
noncomputable def l20_0 (t0 : (List R62)) (t1 : (List R62)) (t5 : Int) : Option (Sum ((List R62) × (List R62) × Int × Unit) (Bool × Unit)) := loopF (fun (x : ((List R62) × (List R62) × Int × Unit)) => r20_0 x.1 x.2.1 x.2.2.1) (t0, t1, t5, ())
noncomputable def g20 (p0 : (List R62)) (p1 : (List R62)) : Option (Unit × ((Bool × Unit) × Unit)) :=
  cond (!(eqI (lenI p0) (lenI p1))) (
    some ((), ((false, ()), ()))
  ) (
    Option.bind (l20_0 p0 p1 0) (Sum.elim (fun y1 =>
      some ((), ((true, ()), ()))
    ) (fun y1 =>
      some ((), (y1, ()))
    ))
  )
noncomputable def s20 : Su := ⟨[.c false [.sl 62 kk62], .c false [.sl 62 kk62]], [(false, [.bool])], true, .inl fun x => g20 x.1.1 x.2.1.1⟩
def sg20_0 : List SE := [.d 0 (.sl 62 kk62), .d 1 (.sl 62 kk62), .d 5 (.int .i64)]
def rh20 : List SE := [.d 4 (.bool)]
noncomputable def lo20 : Nat → Option (Lo rh20)
  | 0 => some ⟨sg20_0, fun x => l20_0 x.1 x.2.1 x.2.2.1⟩
  | _ => none
noncomputable def ga20 : List (Nat × Su) := [(35, s35)]
noncomputable def E20 : En := ⟨27, tt, gaOf ga20, rh20, lo20, [], fun _ => none⟩
theorem t20_0 (x : SigT sg20_0) : (roundT E20 0 sg20_0 (loopOf 0 (bodyOf Try.f20)) x).run = r20_0 x.1 x.2.1 x.2.2.1 := by kernel_rfl
theorem t20 (x : PT s20.ps) : (fnT E20 (bodyOf Try.f20) Try.f20.results.toList s20.ps s20.rs true x).run = g20 x.1.1 x.2.1.1 := by kernel_rfl
theorem hga20 : GAok Try.prog E20 := gaok_of (l := ga20) ⟨ok35, trivial⟩
theorem L20_0 : LoopSem Try.prog E20 0 (.loop (loopOf 0 (bodyOf Try.f20))) ⟨sg20_0, fun x => l20_0 x.1 x.2.1 x.2.2.1⟩ :=
  sem_of (hTT hT) hga20 hmix (step := fun (x : SigT sg20_0) => r20_0 x.1 x.2.1 x.2.2.1) t20_0 (loopsOK_all [] (by kernel_rfl) trivial)
theorem ok20 : SuOK Try.prog 20 s20 :=
  fn_ok (E := E20) (hTT hT) hga20 hmix (fn := Try.f20) (c := (bodyOf Try.f20)) (by kernel_rfl) (by kernel_rfl) (by kernel_rfl) rfl (loopsOK_all [(0, .loop (loopOf 0 (bodyOf Try.f20)))] (by kernel_rfl) ⟨semL rfl L20_0, trivial⟩) fun x y h => ⟨y.1, fun _ => rfl, (t20 x).trans h⟩
noncomputable def g36 (p0 : ((List R5) × Int × (List R3) × Int × Int × Int × Int × Int × (List R5) × Unit)) (p1 : ((List R5) × Int × (List R3) × Int × Int × Int × Int × Int × (List R5) × Unit)) : Option (Unit × ((Bool × Unit) × Unit)) :=
  Option.bind (g59 p0.1 p1.1) fun y1 =>
  cond (!y1.2.1.1) (
    some ((), ((false, ()), ()))
  ) (
    cond (!(eqI p0.2.1 p1.2.1)) (
      some ((), ((false, ()), ()))
    ) (
      Option.bind (g60 p0.2.2.1 p1.2.2.1) fun y2 =>
      cond (!y2.2.1.1) (
        some ((), ((false, ()), ()))
      ) (
        cond (!(eqI p0.2.2.2.1 p1.2.2.2.1)) (
          some ((), ((false, ()), ()))
        ) (
          cond (!(eqI p0.2.2.2.2.1 p1.2.2.2.2.1)) (
            some ((), ((false, ()), ()))
          ) (
            cond (!(eqI p0.2.2.2.2.2.1 p1.2.2.2.2.2.1)) (
              some ((), ((false, ()), ()))
            ) (
              cond (!(eqI p0.2.2.2.2.2.2.1 p1.2.2.2.2.2.2.1)) (
                some ((), ((false, ()), ()))
              ) (
                cond (!(eqI p0.2.2.2.2.2.2.2.1 p1.2.2.2.2.2.2.2.1)) (
                  some ((), ((false, ()), ()))
                ) (
                  Option.bind (g59 p0.2.2.2.2.2.2.2.2.1 p1.2.2.2.2.2.2.2.2.1) fun y3 =>
                  cond (!y3.2.1.1) (
                    some ((), ((false, ()), ()))
                  ) (
                    some ((), ((true, ()), ()))
                  )
                )
              )
            )
          )
        )
      )
    )
  )
noncomputable def s36 : Su := ⟨[.c true [.sl 5 kk5, .int .i64, .sl 3 kk3, .int .i64, .int .i64, .int .i64, .int .i64, .int .i64, .sl 5 kk5], .c true [.sl 5 kk5, .int .i64, .sl 3 kk3, .int .i64, .int .i64, .int .i64, .int .i64, .int .i64, .sl 5 kk5]], [(false, [.bool])], true, .inl fun x => g36 x.1 x.2.1⟩
def rh36 : List SE := []
noncomputable def lo36 : Nat → Option (Lo rh36)
  | _ => none
noncomputable def ga36 : List (Nat × Su) := [(60, s60), (59, s59)]
noncomputable def E36 : En := ⟨53, tt, gaOf ga36, rh36, lo36, [], fun _ => none⟩
theorem t36 (x : PT s36.ps) : (fnT E36 (bodyOf Try.f36) Try.f36.results.toList s36.ps s36.rs true x).run = g36 x.1 x.2.1 := by kernel_rfl
theorem hga36 : GAok Try.prog E36 := gaok_of (l := ga36) ⟨ok60, ok59, trivial⟩
theorem ok36 : SuOK Try.prog 36 s36 :=
  fn_ok (E := E36) (hTT hT) hga36 hmix (fn := Try.f36) (c := (bodyOf Try.f36)) (by kernel_rfl) (by kernel_rfl) (by kernel_rfl) rfl (loopsOK_all [] (by kernel_rfl) trivial) fun x y h => ⟨y.1, fun _ => rfl, (t36 x).trans h⟩
noncomputable def r21_0 (t0 : (List R71)) (t1 : (List R71)) (t5 : Int) : Option (Sum ((List R71) × (List R71) × Int × Unit) (Sum ((List R71) × (List R71) × Int × Unit) (Bool × Unit))) :=
  cond (ltI t5 (lenI t0)) (
    cond (inB t5 t0) (
    cond (inB t5 t1) (
    Option.bind (g36 (gt d71 t0 t5) (gt d71 t1 t5)) fun y1 =>
    cond (!y1.2.1.1) (
      some (.inr (.inr (false, ())))
    ) (
      some (.inl (t0, t1, (addW .i64 t5 1), ()))
    )
    ) none
    ) none
  ) (
    some (.inr (.inl (t0, t1, t5, ())))
  )
noncomputable def l21_0 (t0 : (List R71)) (t1 : (List R71)) (t5 : Int) : Option (Sum ((List R71) × (List R71) × Int × Unit) (Bool × Unit)) := loopF (fun (x : ((List R71) × (List R71) × Int × Unit)) => r21_0 x.1 x.2.1 x.2.2.1) (t0, t1, t5, ())
noncomputable def g21 (p0 : (List R71)) (p1 : (List R71)) : Option (Unit × ((Bool × Unit) × Unit)) :=
  cond (!(eqI (lenI p0) (lenI p1))) (
    some ((), ((false, ()), ()))
  ) (
    Option.bind (l21_0 p0 p1 0) (Sum.elim (fun y1 =>
      some ((), ((true, ()), ()))
    ) (fun y1 =>
      some ((), (y1, ()))
    ))
  )
noncomputable def s21 : Su := ⟨[.c false [.sl 71 kk71], .c false [.sl 71 kk71]], [(false, [.bool])], true, .inl fun x => g21 x.1.1 x.2.1.1⟩
def sg21_0 : List SE := [.d 0 (.sl 71 kk71), .d 1 (.sl 71 kk71), .d 5 (.int .i64)]
def rh21 : List SE := [.d 4 (.bool)]
noncomputable def lo21 : Nat → Option (Lo rh21)
  | 0 => some ⟨sg21_0, fun x => l21_0 x.1 x.2.1 x.2.2.1⟩
  | _ => none
noncomputable def ga21 : List (Nat × Su) := [(36, s36)]
noncomputable def E21 : En := ⟨27, tt, gaOf ga21, rh21, lo21, [], fun _ => none⟩
theorem t21_0 (x : SigT sg21_0) : (roundT E21 0 sg21_0 (loopOf 0 (bodyOf Try.f21)) x).run = r21_0 x.1 x.2.1 x.2.2.1 := by kernel_rfl
theorem t21 (x : PT s21.ps) : (fnT E21 (bodyOf Try.f21) Try.f21.results.toList s21.ps s21.rs true x).run = g21 x.1.1 x.2.1.1 := by kernel_rfl
theorem hga21 : GAok Try.prog E21 := gaok_of (l := ga21) ⟨ok36, trivial⟩
theorem L21_0 : LoopSem Try.prog E21 0 (.loop (loopOf 0 (bodyOf Try.f21))) ⟨sg21_0, fun x => l21_0 x.1 x.2.1 x.2.2.1⟩ :=
  sem_of (hTT hT) hga21 hmix (step := fun (x : SigT sg21_0) => r21_0 x.1 x.2.1 x.2.2.1) t21_0 (loopsOK_all [] (by kernel_rfl) trivial)
theorem ok21 : SuOK Try.prog 21 s21 :=
  fn_ok (E := E21) (hTT hT) hga21 hmix (fn := Try.f21) (c := (bodyOf Try.f21)) (by kernel_rfl) (by kernel_rfl) (by kernel_rfl) rfl (loopsOK_all [(0, .loop (loopOf 0 (bodyOf Try.f21)))] (by kernel_rfl) ⟨semL rfl L21_0, trivial⟩) fun x y h => ⟨y.1, fun _ => rfl, (t21 x).trans h⟩
noncomputable def g9 (p0 : ((List R62) × Int × Int × (List R71) × Unit)) (p1 : ((List R62) × Int × Int × (List R71) × Unit)) : Option (Unit × ((Bool × Unit) × Unit)) :=
  Option.bind (g20 p0.1 p1.1) fun y1 =>
  cond (!y1.2.1.1) (
    some ((), ((false, ()), ()))
  ) (
    cond (!(eqI p0.2.1 p1.2.1)) (
      some ((), ((false, ()), ()))
    ) (
      cond (!(eqI p0.2.2.1 p1.2.2.1)) (
        some ((), ((false, ()), ()))
      ) (
        Option.bind (g21 p0.2.2.2.1 p1.2.2.2.1) fun y2 =>
        cond (!y2.2.1.1) (
          some ((), ((false, ()), ()))
        ) (
          some ((), ((true, ()), ()))
        )
      )
    )
  )
noncomputable def s9 : Su := ⟨[.c true [.sl 62 kk62, .int .i64, .int .i64, .sl 71 kk71], .c true [.sl 62 kk62, .int .i64, .int .i64, .sl 71 kk71]], [(false, [.bool])], true, .inl fun x => g9 x.1 x.2.1⟩
def rh9 : List SE := []
noncomputable def lo9 : Nat → Option (Lo rh9)
  | _ => none
noncomputable def ga9 : List (Nat × Su) := [(20, s20), (21, s21)]
noncomputable def E9 : En := ⟨27, tt, gaOf ga9, rh9, lo9, [], fun _ => none⟩
theorem t9 (x : PT s9.ps) : (fnT E9 (bodyOf Try.f9) Try.f9.results.toList s9.ps s9.rs true x).run = g9 x.1 x.2.1 := by kernel_rfl
theorem hga9 : GAok Try.prog E9 := gaok_of (l := ga9) ⟨ok20, ok21, trivial⟩
theorem ok9 : SuOK Try.prog 9 s9 :=
  fn_ok (E := E9) (hTT hT) hga9 hmix (fn := Try.f9) (c := (bodyOf Try.f9)) (by kernel_rfl) (by kernel_rfl) (by kernel_rfl) rfl (loopsOK_all [] (by kernel_rfl) trivial) fun x y h => ⟨y.1, fun _ => rfl, (t9 x).trans h⟩
noncomputable def r39_0 (t0 : Int) (t3 : (List UInt8)) : Option (Sum (Int × (List UInt8) × Unit) (Sum (Int × (List UInt8) × Unit) Unit)) :=
  cond (ltI 0 t0) (
    let u1 := (strOf [((cvtW .u8 (addW .i64 48 (remI t0 10))), ())])
    cond (fitS u1 t3) (
    some (.inl ((quoW .i64 t0 10), (apS u1 t3), ()))
    ) none
  ) (
    some (.inr (.inl (t0, t3, ())))
  )
noncomputable def l39_0 (t0 : Int) (t3 : (List UInt8)) : Option (Sum (Int × (List UInt8) × Unit) Unit) := loopF (fun (x : (Int × (List UInt8) × Unit)) => r39_0 x.1 x.2.1) (t0, t3, ())
noncomputable def g39 (p0 : Int) : Option (Unit × (((List UInt8) × Unit) × Unit)) :=
  cond (leI p0 0) (
    some ((), (([109, 48], ()), ()))
  ) (
    Option.bind (l39_0 p0 []) (Sum.elim (fun y1 =>
      cond (fitS [109] y1.2.1) (
      some ((), (((apS [109] y1.2.1), ()), ()))
      ) none
    ) (fun y1 =>
      none
    ))
  )
noncomputable def s39 : Su := ⟨[.c false [.int .i64]], [(false, [.str])], true, .inl fun x => g39 x.1.1⟩
def sg39_0 : List SE := [.d 0 (.int .i64), .d 3 (.str)]
def rh39 : List SE := []
noncomputable def lo39 : Nat → Option (Lo rh39)
  | 0 => some ⟨sg39_0, fun x => l39_0 x.1 x.2.1⟩
  | _ => none
noncomputable def ga39 : List (Nat × Su) := []
noncomputable def E39 : En := ⟨20, tt, gaOf ga39, rh39, lo39, [], fun _ => none⟩
theorem t39_0 (x : SigT sg39_0) : (roundT E39 0 sg39_0 (loopOf 0 (bodyOf Try.f39)) x).run = r39_0 x.1 x.2.1 := by kernel_rfl
theorem t39 (x : PT s39.ps) : (fnT E39 (bodyOf Try.f39) Try.f39.results.toList s39.ps s39.rs true x).run = g39 x.1.1 := by kernel_rfl
theorem hga39 : GAok Try.prog E39 := gaok_of (l := ga39) trivial
theorem L39_0 : LoopSem Try.prog E39 0 (.loop (loopOf 0 (bodyOf Try.f39))) ⟨sg39_0, fun x => l39_0 x.1 x.2.1⟩ :=
  sem_of (hTT hT) hga39 hmix (step := fun (x : SigT sg39_0) => r39_0 x.1 x.2.1) t39_0 (loopsOK_all [] (by kernel_rfl) trivial)
theorem ok39 : SuOK Try.prog 39 s39 :=
  fn_ok (E := E39) (hTT hT) hga39 hmix (fn := Try.f39) (c := (bodyOf Try.f39)) (by kernel_rfl) (by kernel_rfl) (by kernel_rfl) rfl (loopsOK_all [(0, .loop (loopOf 0 (bodyOf Try.f39)))] (by kernel_rfl) ⟨semL rfl L39_0, trivial⟩) fun x y h => ⟨y.1, fun _ => rfl, (t39 x).trans h⟩
noncomputable def r40_0 (t0 : (List R99)) (t1 : Int) (t5 : Int) : Option (Sum ((List R99) × Int × Int × Unit) (Sum ((List R99) × Int × Int × Unit) Unit)) :=
  cond (ltI t5 (lenI t0)) (
    Option.bind (g39 t1) fun y1 =>
    cond (inB t5 t0) (
    let u1 := (gt d99 t0 t5)
    let u2 := (stI t0 t5 (y1.2.1.1, u1.2.1, u1.2.2.1, ()))
    cond (inB t5 u2) (
    let u3 := (gt d99 u2 t5)
    let u4 := (addW .i64 t1 1)
    let u5 := (stI u2 t5 (u3.1, u4, u3.2.2.1, ()))
    cond (inB t5 u5) (
    let u6 := (gt d99 u5 t5)
    let u7 := (addW .i64 u4 1)
    some (.inl ((stI u5 t5 (u6.1, u6.2.1, u7, ())), (addW .i64 u7 1), (addW .i64 t5 1), ()))
    ) none
    ) none
    ) none
  ) (
    some (.inr (.inl (t0, t1, t5, ())))
  )
noncomputable def l40_0 (t0 : (List R99)) (t1 : Int) (t5 : Int) : Option (Sum ((List R99) × Int × Int × Unit) Unit) := loopF (fun (x : ((List R99) × Int × Int × Unit)) => r40_0 x.1 x.2.1 x.2.2.1) (t0, t1, t5, ())
noncomputable def g40 (p0 : (List R99)) (p1 : Int) : Option ((((List R99) × Unit) × Unit) × ((Int × Unit) × Unit)) :=
  Option.bind (l40_0 p0 p1 0) (Sum.elim (fun y1 =>
    some (((y1.1, ()), ()), ((y1.2.1, ()), ()))
  ) (fun y1 =>
    none
  ))
noncomputable def s40 : Su := ⟨[.io false [.sl 99 kk99], .c false [.int .i64]], [(false, [.int .i64])], true, .inl fun x => g40 x.1.1 x.2.1.1⟩
def sg40_0 : List SE := [.own 0 (.sl 99 kk99), .d 1 (.int .i64), .d 5 (.int .i64)]
def rh40 : List SE := []
noncomputable def lo40 : Nat → Option (Lo rh40)
  | 0 => some ⟨sg40_0, fun x => l40_0 x.1 x.2.1 x.2.2.1⟩
  | _ => none
noncomputable def ga40 : List (Nat × Su) := [(39, s39)]
noncomputable def E40 : En := ⟨35, tt, gaOf ga40, rh40, lo40, [0], fun _ => none⟩
theorem t40_0 (x : SigT sg40_0) : (roundT E40 0 sg40_0 (loopOf 0 (bodyOf Try.f40)) x).run = r40_0 x.1 x.2.1 x.2.2.1 := by kernel_rfl
theorem t40 (x : PT s40.ps) : (fnT E40 (bodyOf Try.f40) Try.f40.results.toList s40.ps s40.rs true x).run = g40 x.1.1 x.2.1.1 := by kernel_rfl
theorem hga40 : GAok Try.prog E40 := gaok_of (l := ga40) ⟨ok39, trivial⟩
theorem L40_0 : LoopSem Try.prog E40 0 (.loop (loopOf 0 (bodyOf Try.f40))) ⟨sg40_0, fun x => l40_0 x.1 x.2.1 x.2.2.1⟩ :=
  sem_of (hTT hT) hga40 hmix (step := fun (x : SigT sg40_0) => r40_0 x.1 x.2.1 x.2.2.1) t40_0 (loopsOK_all [] (by kernel_rfl) trivial)
theorem ok40 : SuOK Try.prog 40 s40 :=
  fn_ok (E := E40) (hTT hT) hga40 hmix (fn := Try.f40) (c := (bodyOf Try.f40)) (by kernel_rfl) (by kernel_rfl) (by kernel_rfl) rfl (loopsOK_all [(0, .loop (loopOf 0 (bodyOf Try.f40)))] (by kernel_rfl) ⟨semL rfl L40_0, trivial⟩) fun x y h => ⟨y.1, fun _ => rfl, (t40 x).trans h⟩
noncomputable def r38_0 (t0 : (List R3)) (t1 : Int) (t5 : Int) : Option (Sum ((List R3) × Int × Int × Unit) (Sum ((List R3) × Int × Int × Unit) Unit)) :=
  cond (ltI t5 (lenI t0)) (
    cond (inB t5 t0) (
    some (.inl ((stI t0 t5 (t1, ())), (addW .i64 t1 1), (addW .i64 t5 1), ()))
    ) none
  ) (
    some (.inr (.inl (t0, t1, t5, ())))
  )
noncomputable def l38_0 (t0 : (List R3)) (t1 : Int) (t5 : Int) : Option (Sum ((List R3) × Int × Int × Unit) Unit) := loopF (fun (x : ((List R3) × Int × Int × Unit)) => r38_0 x.1 x.2.1 x.2.2.1) (t0, t1, t5, ())
noncomputable def g38 (p0 : (List R3)) (p1 : Int) : Option ((((List R3) × Unit) × Unit) × ((Int × Unit) × Unit)) :=
  Option.bind (l38_0 p0 p1 0) (Sum.elim (fun y1 =>
    some (((y1.1, ()), ()), ((y1.2.1, ()), ()))
  ) (fun y1 =>
    none
  ))
noncomputable def s38 : Su := ⟨[.io false [.sl 3 kk3], .c false [.int .i64]], [(false, [.int .i64])], true, .inl fun x => g38 x.1.1 x.2.1.1⟩
def sg38_0 : List SE := [.own 0 (.sl 3 kk3), .d 1 (.int .i64), .d 5 (.int .i64)]
def rh38 : List SE := []
noncomputable def lo38 : Nat → Option (Lo rh38)
  | 0 => some ⟨sg38_0, fun x => l38_0 x.1 x.2.1 x.2.2.1⟩
  | _ => none
noncomputable def ga38 : List (Nat × Su) := []
noncomputable def E38 : En := ⟨19, tt, gaOf ga38, rh38, lo38, [0], fun _ => none⟩
theorem t38_0 (x : SigT sg38_0) : (roundT E38 0 sg38_0 (loopOf 0 (bodyOf Try.f38)) x).run = r38_0 x.1 x.2.1 x.2.2.1 := by kernel_rfl
theorem t38 (x : PT s38.ps) : (fnT E38 (bodyOf Try.f38) Try.f38.results.toList s38.ps s38.rs true x).run = g38 x.1.1 x.2.1.1 := by kernel_rfl
theorem hga38 : GAok Try.prog E38 := gaok_of (l := ga38) trivial
theorem L38_0 : LoopSem Try.prog E38 0 (.loop (loopOf 0 (bodyOf Try.f38))) ⟨sg38_0, fun x => l38_0 x.1 x.2.1 x.2.2.1⟩ :=
  sem_of (hTT hT) hga38 hmix (step := fun (x : SigT sg38_0) => r38_0 x.1 x.2.1 x.2.2.1) t38_0 (loopsOK_all [] (by kernel_rfl) trivial)
theorem ok38 : SuOK Try.prog 38 s38 :=
  fn_ok (E := E38) (hTT hT) hga38 hmix (fn := Try.f38) (c := (bodyOf Try.f38)) (by kernel_rfl) (by kernel_rfl) (by kernel_rfl) rfl (loopsOK_all [(0, .loop (loopOf 0 (bodyOf Try.f38)))] (by kernel_rfl) ⟨semL rfl L38_0, trivial⟩) fun x y h => ⟨y.1, fun _ => rfl, (t38 x).trans h⟩
noncomputable def r37_0 (t0 : (List R5)) (t1 : Int) (t5 : Int) : Option (Sum ((List R5) × Int × Int × Unit) (Sum ((List R5) × Int × Int × Unit) Unit)) :=
  cond (ltI t5 (lenI t0)) (
    cond (inB t5 t0) (
    some (.inl ((stI t0 t5 ((cvtW .u8 t1), ())), (addW .i64 t1 1), (addW .i64 t5 1), ()))
    ) none
  ) (
    some (.inr (.inl (t0, t1, t5, ())))
  )
noncomputable def l37_0 (t0 : (List R5)) (t1 : Int) (t5 : Int) : Option (Sum ((List R5) × Int × Int × Unit) Unit) := loopF (fun (x : ((List R5) × Int × Int × Unit)) => r37_0 x.1 x.2.1 x.2.2.1) (t0, t1, t5, ())
noncomputable def g37 (p0 : (List R5)) (p1 : Int) : Option ((((List R5) × Unit) × Unit) × ((Int × Unit) × Unit)) :=
  Option.bind (l37_0 p0 p1 0) (Sum.elim (fun y1 =>
    some (((y1.1, ()), ()), ((y1.2.1, ()), ()))
  ) (fun y1 =>
    none
  ))
noncomputable def s37 : Su := ⟨[.io false [.sl 5 kk5], .c false [.int .i64]], [(false, [.int .i64])], true, .inl fun x => g37 x.1.1 x.2.1.1⟩
def sg37_0 : List SE := [.own 0 (.sl 5 kk5), .d 1 (.int .i64), .d 5 (.int .i64)]
def rh37 : List SE := []
noncomputable def lo37 : Nat → Option (Lo rh37)
  | 0 => some ⟨sg37_0, fun x => l37_0 x.1 x.2.1 x.2.2.1⟩
  | _ => none
noncomputable def ga37 : List (Nat × Su) := []
noncomputable def E37 : En := ⟨20, tt, gaOf ga37, rh37, lo37, [0], fun _ => none⟩
theorem t37_0 (x : SigT sg37_0) : (roundT E37 0 sg37_0 (loopOf 0 (bodyOf Try.f37)) x).run = r37_0 x.1 x.2.1 x.2.2.1 := by kernel_rfl
theorem t37 (x : PT s37.ps) : (fnT E37 (bodyOf Try.f37) Try.f37.results.toList s37.ps s37.rs true x).run = g37 x.1.1 x.2.1.1 := by kernel_rfl
theorem hga37 : GAok Try.prog E37 := gaok_of (l := ga37) trivial
theorem L37_0 : LoopSem Try.prog E37 0 (.loop (loopOf 0 (bodyOf Try.f37))) ⟨sg37_0, fun x => l37_0 x.1 x.2.1 x.2.2.1⟩ :=
  sem_of (hTT hT) hga37 hmix (step := fun (x : SigT sg37_0) => r37_0 x.1 x.2.1 x.2.2.1) t37_0 (loopsOK_all [] (by kernel_rfl) trivial)
theorem ok37 : SuOK Try.prog 37 s37 :=
  fn_ok (E := E37) (hTT hT) hga37 hmix (fn := Try.f37) (c := (bodyOf Try.f37)) (by kernel_rfl) (by kernel_rfl) (by kernel_rfl) rfl (loopsOK_all [(0, .loop (loopOf 0 (bodyOf Try.f37)))] (by kernel_rfl) ⟨semL rfl L37_0, trivial⟩) fun x y h => ⟨y.1, fun _ => rfl, (t37 x).trans h⟩
noncomputable def r41_0 (t0 : (List R101)) (t1 : Int) (t5 : Int) : Option (Sum ((List R101) × Int × Int × Unit) (Sum ((List R101) × Int × Int × Unit) Unit)) :=
  cond (ltI t5 (lenI t0)) (
    Option.bind (g39 t1) fun y1 =>
    cond (inB t5 t0) (
    let u1 := (addW .i64 t1 1)
    Option.bind (g39 u1) fun y2 =>
    let u2 := (gt d101 t0 t5)
    let u3 := (stI t0 t5 (y1.2.1.1, u2.2.1, u2.2.2.1, ()))
    cond (inB t5 u3) (
    let u4 := (gt d101 u3 t5)
    let u5 := (stI u3 t5 (u4.1, y2.2.1.1, u4.2.2.1, ()))
    cond (inB t5 u5) (
    let u6 := (gt d101 u5 t5)
    Option.bind (g37 u6.2.2.1 (addW .i64 u1 1)) fun y3 =>
    some (.inl ((stI u5 t5 (u6.1, u6.2.1, y3.1.1.1, ())), y3.2.1.1, (addW .i64 t5 1), ()))
    ) none
    ) none
    ) none
  ) (
    some (.inr (.inl (t0, t1, t5, ())))
  )
noncomputable def l41_0 (t0 : (List R101)) (t1 : Int) (t5 : Int) : Option (Sum ((List R101) × Int × Int × Unit) Unit) := loopF (fun (x : ((List R101) × Int × Int × Unit)) => r41_0 x.1 x.2.1 x.2.2.1) (t0, t1, t5, ())
noncomputable def g41 (p0 : (List R101)) (p1 : Int) : Option ((((List R101) × Unit) × Unit) × ((Int × Unit) × Unit)) :=
  Option.bind (l41_0 p0 p1 0) (Sum.elim (fun y1 =>
    some (((y1.1, ()), ()), ((y1.2.1, ()), ()))
  ) (fun y1 =>
    none
  ))
noncomputable def s41 : Su := ⟨[.io false [.sl 101 kk101], .c false [.int .i64]], [(false, [.int .i64])], true, .inl fun x => g41 x.1.1 x.2.1.1⟩
def sg41_0 : List SE := [.own 0 (.sl 101 kk101), .d 1 (.int .i64), .d 5 (.int .i64)]
def rh41 : List SE := []
noncomputable def lo41 : Nat → Option (Lo rh41)
  | 0 => some ⟨sg41_0, fun x => l41_0 x.1 x.2.1 x.2.2.1⟩
  | _ => none
noncomputable def ga41 : List (Nat × Su) := [(39, s39), (37, s37)]
noncomputable def E41 : En := ⟨36, tt, gaOf ga41, rh41, lo41, [0], fun _ => none⟩
theorem t41_0 (x : SigT sg41_0) : (roundT E41 0 sg41_0 (loopOf 0 (bodyOf Try.f41)) x).run = r41_0 x.1 x.2.1 x.2.2.1 := by kernel_rfl
theorem t41 (x : PT s41.ps) : (fnT E41 (bodyOf Try.f41) Try.f41.results.toList s41.ps s41.rs true x).run = g41 x.1.1 x.2.1.1 := by kernel_rfl
theorem hga41 : GAok Try.prog E41 := gaok_of (l := ga41) ⟨ok39, ok37, trivial⟩
theorem L41_0 : LoopSem Try.prog E41 0 (.loop (loopOf 0 (bodyOf Try.f41))) ⟨sg41_0, fun x => l41_0 x.1 x.2.1 x.2.2.1⟩ :=
  sem_of (hTT hT) hga41 hmix (step := fun (x : SigT sg41_0) => r41_0 x.1 x.2.1 x.2.2.1) t41_0 (loopsOK_all [] (by kernel_rfl) trivial)
theorem ok41 : SuOK Try.prog 41 s41 :=
  fn_ok (E := E41) (hTT hT) hga41 hmix (fn := Try.f41) (c := (bodyOf Try.f41)) (by kernel_rfl) (by kernel_rfl) (by kernel_rfl) rfl (loopsOK_all [(0, .loop (loopOf 0 (bodyOf Try.f41)))] (by kernel_rfl) ⟨semL rfl L41_0, trivial⟩) fun x y h => ⟨y.1, fun _ => rfl, (t41 x).trans h⟩
noncomputable def r24_0 (t0 : (List R68)) (t1 : Int) (t5 : Int) : Option (Sum ((List R68) × Int × Int × Unit) (Sum ((List R68) × Int × Int × Unit) Unit)) :=
  cond (ltI t5 (lenI t0)) (
    Option.bind (g39 t1) fun y1 =>
    cond (inB t5 t0) (
    let u1 := (gt d68 t0 t5)
    let u2 := (stI t0 t5 (y1.2.1.1, u1.2.1, u1.2.2.1, u1.2.2.2.1, u1.2.2.2.2.1, u1.2.2.2.2.2.1, u1.2.2.2.2.2.2.1, u1.2.2.2.2.2.2.2.1, u1.2.2.2.2.2.2.2.2.1, u1.2.2.2.2.2.2.2.2.2.1, u1.2.2.2.2.2.2.2.2.2.2.1, ()))
    cond (inB t5 u2) (
    let u3 := (gt d68 u2 t5)
    let u4 := (addW .i64 t1 1)
    let u5 := (stI u2 t5 (u3.1, u4, u3.2.2.1, u3.2.2.2.1, u3.2.2.2.2.1, u3.2.2.2.2.2.1, u3.2.2.2.2.2.2.1, u3.2.2.2.2.2.2.2.1, u3.2.2.2.2.2.2.2.2.1, u3.2.2.2.2.2.2.2.2.2.1, u3.2.2.2.2.2.2.2.2.2.2.1, ()))
    cond (inB t5 u5) (
    let u6 := (gt d68 u5 t5)
    let u7 := (addW .i64 u4 1)
    let u8 := (stI u5 t5 (u6.1, u6.2.1, u7, u6.2.2.2.1, u6.2.2.2.2.1, u6.2.2.2.2.2.1, u6.2.2.2.2.2.2.1, u6.2.2.2.2.2.2.2.1, u6.2.2.2.2.2.2.2.2.1, u6.2.2.2.2.2.2.2.2.2.1, u6.2.2.2.2.2.2.2.2.2.2.1, ()))
    cond (inB t5 u8) (
    let u9 := (gt d68 u8 t5)
    let u10 := (addW .i64 u7 1)
    let u11 := (stI u8 t5 (u9.1, u9.2.1, u9.2.2.1, u10, u9.2.2.2.2.1, u9.2.2.2.2.2.1, u9.2.2.2.2.2.2.1, u9.2.2.2.2.2.2.2.1, u9.2.2.2.2.2.2.2.2.1, u9.2.2.2.2.2.2.2.2.2.1, u9.2.2.2.2.2.2.2.2.2.2.1, ()))
    cond (inB t5 u11) (
    let u12 := (gt d68 u11 t5)
    let u13 := (addW .i64 u10 1)
    let u14 := (stI u11 t5 (u12.1, u12.2.1, u12.2.2.1, u12.2.2.2.1, u13, u12.2.2.2.2.2.1, u12.2.2.2.2.2.2.1, u12.2.2.2.2.2.2.2.1, u12.2.2.2.2.2.2.2.2.1, u12.2.2.2.2.2.2.2.2.2.1, u12.2.2.2.2.2.2.2.2.2.2.1, ()))
    cond (inB t5 u14) (
    let u15 := (gt d68 u14 t5)
    Option.bind (g40 u15.2.2.2.2.2.1 (addW .i64 u13 1)) fun y2 =>
    let u16 := (stI u14 t5 (u15.1, u15.2.1, u15.2.2.1, u15.2.2.2.1, u15.2.2.2.2.1, y2.1.1.1, u15.2.2.2.2.2.2.1, u15.2.2.2.2.2.2.2.1, u15.2.2.2.2.2.2.2.2.1, u15.2.2.2.2.2.2.2.2.2.1, u15.2.2.2.2.2.2.2.2.2.2.1, ()))
    cond (inB t5 u16) (
    let u17 := (gt d68 u16 t5)
    let u18 := (stI u16 t5 (u17.1, u17.2.1, u17.2.2.1, u17.2.2.2.1, u17.2.2.2.2.1, u17.2.2.2.2.2.1, y2.2.1.1, u17.2.2.2.2.2.2.2.1, u17.2.2.2.2.2.2.2.2.1, u17.2.2.2.2.2.2.2.2.2.1, u17.2.2.2.2.2.2.2.2.2.2.1, ()))
    cond (inB t5 u18) (
    let u19 := (gt d68 u18 t5)
    let u20 := (addW .i64 y2.2.1.1 1)
    let u21 := (stI u18 t5 (u19.1, u19.2.1, u19.2.2.1, u19.2.2.2.1, u19.2.2.2.2.1, u19.2.2.2.2.2.1, u19.2.2.2.2.2.2.1, u20, u19.2.2.2.2.2.2.2.2.1, u19.2.2.2.2.2.2.2.2.2.1, u19.2.2.2.2.2.2.2.2.2.2.1, ()))
    cond (inB t5 u21) (
    let u22 := (gt d68 u21 t5)
    Option.bind (g38 u22.2.2.2.2.2.2.2.2.1 (addW .i64 u20 1)) fun y3 =>
    let u23 := (stI u21 t5 (u22.1, u22.2.1, u22.2.2.1, u22.2.2.2.1, u22.2.2.2.2.1, u22.2.2.2.2.2.1, u22.2.2.2.2.2.2.1, u22.2.2.2.2.2.2.2.1, y3.1.1.1, u22.2.2.2.2.2.2.2.2.2.1, u22.2.2.2.2.2.2.2.2.2.2.1, ()))
    cond (inB t5 u23) (
    let u24 := (gt d68 u23 t5)
    Option.bind (g38 u24.2.2.2.2.2.2.2.2.2.1 y3.2.1.1) fun y4 =>
    let u25 := (stI u23 t5 (u24.1, u24.2.1, u24.2.2.1, u24.2.2.2.1, u24.2.2.2.2.1, u24.2.2.2.2.2.1, u24.2.2.2.2.2.2.1, u24.2.2.2.2.2.2.2.1, u24.2.2.2.2.2.2.2.2.1, y4.1.1.1, u24.2.2.2.2.2.2.2.2.2.2.1, ()))
    cond (inB t5 u25) (
    let u26 := (gt d68 u25 t5)
    Option.bind (g41 u26.2.2.2.2.2.2.2.2.2.2.1 y4.2.1.1) fun y5 =>
    some (.inl ((stI u25 t5 (u26.1, u26.2.1, u26.2.2.1, u26.2.2.2.1, u26.2.2.2.2.1, u26.2.2.2.2.2.1, u26.2.2.2.2.2.2.1, u26.2.2.2.2.2.2.2.1, u26.2.2.2.2.2.2.2.2.1, u26.2.2.2.2.2.2.2.2.2.1, y5.1.1.1, ())), y5.2.1.1, (addW .i64 t5 1), ()))
    ) none
    ) none
    ) none
    ) none
    ) none
    ) none
    ) none
    ) none
    ) none
    ) none
    ) none
  ) (
    some (.inr (.inl (t0, t1, t5, ())))
  )
noncomputable def l24_0 (t0 : (List R68)) (t1 : Int) (t5 : Int) : Option (Sum ((List R68) × Int × Int × Unit) Unit) := loopF (fun (x : ((List R68) × Int × Int × Unit)) => r24_0 x.1 x.2.1 x.2.2.1) (t0, t1, t5, ())
noncomputable def g24 (p0 : (List R68)) (p1 : Int) : Option ((((List R68) × Unit) × Unit) × ((Int × Unit) × Unit)) :=
  Option.bind (l24_0 p0 p1 0) (Sum.elim (fun y1 =>
    some (((y1.1, ()), ()), ((y1.2.1, ()), ()))
  ) (fun y1 =>
    none
  ))
noncomputable def s24 : Su := ⟨[.io false [.sl 68 kk68], .c false [.int .i64]], [(false, [.int .i64])], true, .inl fun x => g24 x.1.1 x.2.1.1⟩
def sg24_0 : List SE := [.own 0 (.sl 68 kk68), .d 1 (.int .i64), .d 5 (.int .i64)]
def rh24 : List SE := []
noncomputable def lo24 : Nat → Option (Lo rh24)
  | 0 => some ⟨sg24_0, fun x => l24_0 x.1 x.2.1 x.2.2.1⟩
  | _ => none
noncomputable def ga24 : List (Nat × Su) := [(39, s39), (40, s40), (38, s38), (41, s41)]
noncomputable def E24 : En := ⟨95, tt, gaOf ga24, rh24, lo24, [0], fun _ => none⟩
theorem t24_0 (x : SigT sg24_0) : (roundT E24 0 sg24_0 (loopOf 0 (bodyOf Try.f24)) x).run = r24_0 x.1 x.2.1 x.2.2.1 := by kernel_rfl
theorem t24 (x : PT s24.ps) : (fnT E24 (bodyOf Try.f24) Try.f24.results.toList s24.ps s24.rs true x).run = g24 x.1.1 x.2.1.1 := by kernel_rfl
theorem hga24 : GAok Try.prog E24 := gaok_of (l := ga24) ⟨ok39, ok40, ok38, ok41, trivial⟩
theorem L24_0 : LoopSem Try.prog E24 0 (.loop (loopOf 0 (bodyOf Try.f24))) ⟨sg24_0, fun x => l24_0 x.1 x.2.1 x.2.2.1⟩ :=
  sem_of (hTT hT) hga24 hmix (step := fun (x : SigT sg24_0) => r24_0 x.1 x.2.1 x.2.2.1) t24_0 (loopsOK_all [] (by kernel_rfl) trivial)
theorem ok24 : SuOK Try.prog 24 s24 :=
  fn_ok (E := E24) (hTT hT) hga24 hmix (fn := Try.f24) (c := (bodyOf Try.f24)) (by kernel_rfl) (by kernel_rfl) (by kernel_rfl) rfl (loopsOK_all [(0, .loop (loopOf 0 (bodyOf Try.f24)))] (by kernel_rfl) ⟨semL rfl L24_0, trivial⟩) fun x y h => ⟨y.1, fun _ => rfl, (t24 x).trans h⟩
noncomputable def r22_0 (t0 : (List R62)) (t1 : Int) (t5 : Int) : Option (Sum ((List R62) × Int × Int × Unit) (Sum ((List R62) × Int × Int × Unit) Unit)) :=
  cond (ltI t5 (lenI t0)) (
    cond (inB t5 t0) (
    let u1 := (stI t0 t5 (t1, (gt d62 t0 t5).2.1, ()))
    cond (inB t5 u1) (
    let u2 := (gt d62 u1 t5)
    Option.bind (g24 u2.2.1 (addW .i64 t1 1)) fun y1 =>
    some (.inl ((stI u1 t5 (u2.1, y1.1.1.1, ())), y1.2.1.1, (addW .i64 t5 1), ()))
    ) none
    ) none
  ) (
    some (.inr (.inl (t0, t1, t5, ())))
  )
noncomputable def l22_0 (t0 : (List R62)) (t1 : Int) (t5 : Int) : Option (Sum ((List R62) × Int × Int × Unit) Unit) := loopF (fun (x : ((List R62) × Int × Int × Unit)) => r22_0 x.1 x.2.1 x.2.2.1) (t0, t1, t5, ())
noncomputable def g22 (p0 : (List R62)) (p1 : Int) : Option ((((List R62) × Unit) × Unit) × ((Int × Unit) × Unit)) :=
  Option.bind (l22_0 p0 p1 0) (Sum.elim (fun y1 =>
    some (((y1.1, ()), ()), ((y1.2.1, ()), ()))
  ) (fun y1 =>
    none
  ))
noncomputable def s22 : Su := ⟨[.io false [.sl 62 kk62], .c false [.int .i64]], [(false, [.int .i64])], true, .inl fun x => g22 x.1.1 x.2.1.1⟩
def sg22_0 : List SE := [.own 0 (.sl 62 kk62), .d 1 (.int .i64), .d 5 (.int .i64)]
def rh22 : List SE := []
noncomputable def lo22 : Nat → Option (Lo rh22)
  | 0 => some ⟨sg22_0, fun x => l22_0 x.1 x.2.1 x.2.2.1⟩
  | _ => none
noncomputable def ga22 : List (Nat × Su) := [(24, s24)]
noncomputable def E22 : En := ⟨27, tt, gaOf ga22, rh22, lo22, [0], fun _ => none⟩
theorem t22_0 (x : SigT sg22_0) : (roundT E22 0 sg22_0 (loopOf 0 (bodyOf Try.f22)) x).run = r22_0 x.1 x.2.1 x.2.2.1 := by kernel_rfl
theorem t22 (x : PT s22.ps) : (fnT E22 (bodyOf Try.f22) Try.f22.results.toList s22.ps s22.rs true x).run = g22 x.1.1 x.2.1.1 := by kernel_rfl
theorem hga22 : GAok Try.prog E22 := gaok_of (l := ga22) ⟨ok24, trivial⟩
theorem L22_0 : LoopSem Try.prog E22 0 (.loop (loopOf 0 (bodyOf Try.f22))) ⟨sg22_0, fun x => l22_0 x.1 x.2.1 x.2.2.1⟩ :=
  sem_of (hTT hT) hga22 hmix (step := fun (x : SigT sg22_0) => r22_0 x.1 x.2.1 x.2.2.1) t22_0 (loopsOK_all [] (by kernel_rfl) trivial)
theorem ok22 : SuOK Try.prog 22 s22 :=
  fn_ok (E := E22) (hTT hT) hga22 hmix (fn := Try.f22) (c := (bodyOf Try.f22)) (by kernel_rfl) (by kernel_rfl) (by kernel_rfl) rfl (loopsOK_all [(0, .loop (loopOf 0 (bodyOf Try.f22)))] (by kernel_rfl) ⟨semL rfl L22_0, trivial⟩) fun x y h => ⟨y.1, fun _ => rfl, (t22 x).trans h⟩
noncomputable def r23_0 (t0 : (List R71)) (t1 : Int) (t5 : Int) : Option (Sum ((List R71) × Int × Int × Unit) (Sum ((List R71) × Int × Int × Unit) Unit)) :=
  cond (ltI t5 (lenI t0)) (
    cond (inB t5 t0) (
    let u1 := (gt d71 t0 t5)
    Option.bind (g37 u1.1 t1) fun y1 =>
    let u2 := (stI t0 t5 (y1.1.1.1, u1.2.1, u1.2.2.1, u1.2.2.2.1, u1.2.2.2.2.1, u1.2.2.2.2.2.1, u1.2.2.2.2.2.2.1, u1.2.2.2.2.2.2.2.1, u1.2.2.2.2.2.2.2.2.1, ()))
    cond (inB t5 u2) (
    let u3 := (gt d71 u2 t5)
    let u4 := (stI u2 t5 (u3.1, y1.2.1.1, u3.2.2.1, u3.2.2.2.1, u3.2.2.2.2.1, u3.2.2.2.2.2.1, u3.2.2.2.2.2.2.1, u3.2.2.2.2.2.2.2.1, u3.2.2.2.2.2.2.2.2.1, ()))
    cond (inB t5 u4) (
    let u5 := (gt d71 u4 t5)
    Option.bind (g38 u5.2.2.1 (addW .i64 y1.2.1.1 1)) fun y2 =>
    let u6 := (stI u4 t5 (u5.1, u5.2.1, y2.1.1.1, u5.2.2.2.1, u5.2.2.2.2.1, u5.2.2.2.2.2.1, u5.2.2.2.2.2.2.1, u5.2.2.2.2.2.2.2.1, u5.2.2.2.2.2.2.2.2.1, ()))
    cond (inB t5 u6) (
    let u7 := (gt d71 u6 t5)
    let u8 := (stI u6 t5 (u7.1, u7.2.1, u7.2.2.1, y2.2.1.1, u7.2.2.2.2.1, u7.2.2.2.2.2.1, u7.2.2.2.2.2.2.1, u7.2.2.2.2.2.2.2.1, u7.2.2.2.2.2.2.2.2.1, ()))
    cond (inB t5 u8) (
    let u9 := (gt d71 u8 t5)
    let u10 := (addW .i64 y2.2.1.1 1)
    let u11 := (stI u8 t5 (u9.1, u9.2.1, u9.2.2.1, u9.2.2.2.1, u10, u9.2.2.2.2.2.1, u9.2.2.2.2.2.2.1, u9.2.2.2.2.2.2.2.1, u9.2.2.2.2.2.2.2.2.1, ()))
    cond (inB t5 u11) (
    let u12 := (gt d71 u11 t5)
    let u13 := (addW .i64 u10 1)
    let u14 := (stI u11 t5 (u12.1, u12.2.1, u12.2.2.1, u12.2.2.2.1, u12.2.2.2.2.1, u13, u12.2.2.2.2.2.2.1, u12.2.2.2.2.2.2.2.1, u12.2.2.2.2.2.2.2.2.1, ()))
    cond (inB t5 u14) (
    let u15 := (gt d71 u14 t5)
    let u16 := (addW .i64 u13 1)
    let u17 := (stI u14 t5 (u15.1, u15.2.1, u15.2.2.1, u15.2.2.2.1, u15.2.2.2.2.1, u15.2.2.2.2.2.1, u16, u15.2.2.2.2.2.2.2.1, u15.2.2.2.2.2.2.2.2.1, ()))
    cond (inB t5 u17) (
    let u18 := (gt d71 u17 t5)
    let u19 := (addW .i64 u16 1)
    let u20 := (stI u17 t5 (u18.1, u18.2.1, u18.2.2.1, u18.2.2.2.1, u18.2.2.2.2.1, u18.2.2.2.2.2.1, u18.2.2.2.2.2.2.1, u19, u18.2.2.2.2.2.2.2.2.1, ()))
    cond (inB t5 u20) (
    let u21 := (gt d71 u20 t5)
    Option.bind (g37 u21.2.2.2.2.2.2.2.2.1 (addW .i64 u19 1)) fun y3 =>
    some (.inl ((stI u20 t5 (u21.1, u21.2.1, u21.2.2.1, u21.2.2.2.1, u21.2.2.2.2.1, u21.2.2.2.2.2.1, u21.2.2.2.2.2.2.1, u21.2.2.2.2.2.2.2.1, y3.1.1.1, ())), y3.2.1.1, (addW .i64 t5 1), ()))
    ) none
    ) none
    ) none
    ) none
    ) none
    ) none
    ) none
    ) none
    ) none
  ) (
    some (.inr (.inl (t0, t1, t5, ())))
  )
noncomputable def l23_0 (t0 : (List R71)) (t1 : Int) (t5 : Int) : Option (Sum ((List R71) × Int × Int × Unit) Unit) := loopF (fun (x : ((List R71) × Int × Int × Unit)) => r23_0 x.1 x.2.1 x.2.2.1) (t0, t1, t5, ())
noncomputable def g23 (p0 : (List R71)) (p1 : Int) : Option ((((List R71) × Unit) × Unit) × ((Int × Unit) × Unit)) :=
  Option.bind (l23_0 p0 p1 0) (Sum.elim (fun y1 =>
    some (((y1.1, ()), ()), ((y1.2.1, ()), ()))
  ) (fun y1 =>
    none
  ))
noncomputable def s23 : Su := ⟨[.io false [.sl 71 kk71], .c false [.int .i64]], [(false, [.int .i64])], true, .inl fun x => g23 x.1.1 x.2.1.1⟩
def sg23_0 : List SE := [.own 0 (.sl 71 kk71), .d 1 (.int .i64), .d 5 (.int .i64)]
def rh23 : List SE := []
noncomputable def lo23 : Nat → Option (Lo rh23)
  | 0 => some ⟨sg23_0, fun x => l23_0 x.1 x.2.1 x.2.2.1⟩
  | _ => none
noncomputable def ga23 : List (Nat × Su) := [(38, s38), (37, s37)]
noncomputable def E23 : En := ⟨76, tt, gaOf ga23, rh23, lo23, [0], fun _ => none⟩
theorem t23_0 (x : SigT sg23_0) : (roundT E23 0 sg23_0 (loopOf 0 (bodyOf Try.f23)) x).run = r23_0 x.1 x.2.1 x.2.2.1 := by kernel_rfl
theorem t23 (x : PT s23.ps) : (fnT E23 (bodyOf Try.f23) Try.f23.results.toList s23.ps s23.rs true x).run = g23 x.1.1 x.2.1.1 := by kernel_rfl
theorem hga23 : GAok Try.prog E23 := gaok_of (l := ga23) ⟨ok38, ok37, trivial⟩
theorem L23_0 : LoopSem Try.prog E23 0 (.loop (loopOf 0 (bodyOf Try.f23))) ⟨sg23_0, fun x => l23_0 x.1 x.2.1 x.2.2.1⟩ :=
  sem_of (hTT hT) hga23 hmix (step := fun (x : SigT sg23_0) => r23_0 x.1 x.2.1 x.2.2.1) t23_0 (loopsOK_all [] (by kernel_rfl) trivial)
theorem ok23 : SuOK Try.prog 23 s23 :=
  fn_ok (E := E23) (hTT hT) hga23 hmix (fn := Try.f23) (c := (bodyOf Try.f23)) (by kernel_rfl) (by kernel_rfl) (by kernel_rfl) rfl (loopsOK_all [(0, .loop (loopOf 0 (bodyOf Try.f23)))] (by kernel_rfl) ⟨semL rfl L23_0, trivial⟩) fun x y h => ⟨y.1, fun _ => rfl, (t23 x).trans h⟩
noncomputable def g10 (p0 : ((List R62) × Int × Int × (List R71) × Unit)) (p1 : Int) : Option ((((List R62) × Int × Int × (List R71) × Unit) × Unit) × ((Int × Unit) × Unit)) :=
  Option.bind (g22 p0.1 p1) fun y1 =>
  Option.bind (g23 p0.2.2.2.1 y1.2.1.1) fun y2 =>
  some (((y1.1.1.1, p0.2.1, p0.2.2.1, y2.1.1.1, ()), ()), (y2.2.1, ()))
noncomputable def s10 : Su := ⟨[.io true [.sl 62 kk62, .int .i64, .int .i64, .sl 71 kk71], .c false [.int .i64]], [(false, [.int .i64])], true, .inl fun x => g10 x.1 x.2.1.1⟩
def rh10 : List SE := []
noncomputable def lo10 : Nat → Option (Lo rh10)
  | _ => none
noncomputable def ga10 : List (Nat × Su) := [(22, s22), (23, s23)]
noncomputable def E10 : En := ⟨14, tt, gaOf ga10, rh10, lo10, [0], fun _ => none⟩
theorem t10 (x : PT s10.ps) : (fnT E10 (bodyOf Try.f10) Try.f10.results.toList s10.ps s10.rs true x).run = g10 x.1 x.2.1.1 := by kernel_rfl
theorem hga10 : GAok Try.prog E10 := gaok_of (l := ga10) ⟨ok22, ok23, trivial⟩
theorem ok10 : SuOK Try.prog 10 s10 :=
  fn_ok (E := E10) (hTT hT) hga10 hmix (fn := Try.f10) (c := (bodyOf Try.f10)) (by kernel_rfl) (by kernel_rfl) (by kernel_rfl) rfl (loopsOK_all [] (by kernel_rfl) trivial) fun x y h => ⟨y.1, fun _ => rfl, (t10 x).trans h⟩
noncomputable def g11 (p0 : ((List R68) × Unit)) (p1 : Int) : Option ((((List R68) × Unit) × Unit) × ((Int × Unit) × Unit)) :=
  Option.bind (g24 p0.1 p1) fun y1 =>
  some ((y1.1.1, ()), (y1.2.1, ()))
noncomputable def s11 : Su := ⟨[.io true [.sl 68 kk68], .c false [.int .i64]], [(false, [.int .i64])], true, .inl fun x => g11 x.1 x.2.1.1⟩
def rh11 : List SE := []
noncomputable def lo11 : Nat → Option (Lo rh11)
  | _ => none
noncomputable def ga11 : List (Nat × Su) := [(24, s24)]
noncomputable def E11 : En := ⟨10, tt, gaOf ga11, rh11, lo11, [0], fun _ => none⟩
theorem t11 (x : PT s11.ps) : (fnT E11 (bodyOf Try.f11) Try.f11.results.toList s11.ps s11.rs true x).run = g11 x.1 x.2.1.1 := by kernel_rfl
theorem hga11 : GAok Try.prog E11 := gaok_of (l := ga11) ⟨ok24, trivial⟩
theorem ok11 : SuOK Try.prog 11 s11 :=
  fn_ok (E := E11) (hTT hT) hga11 hmix (fn := Try.f11) (c := (bodyOf Try.f11)) (by kernel_rfl) (by kernel_rfl) (by kernel_rfl) rfl (loopsOK_all [] (by kernel_rfl) trivial) fun x y h => ⟨y.1, fun _ => rfl, (t11 x).trans h⟩
noncomputable def r42_0 (t0 : (List R99)) (t1 : Int) (t5 : Int) : Option (Sum ((List R99) × Int × Int × Unit) (Sum ((List R99) × Int × Int × Unit) (Int × Unit))) :=
  cond (ltI t5 (lenI t0)) (
    cond (inB t5 t0) (
    Option.bind (g39 t1) fun y1 =>
    let u1 := (gt d99 t0 t5)
    cond (!(eqS u1.1 y1.2.1.1)) (
      some (.inr (.inr ((-1), ())))
    ) (
      cond (inB t5 t0) (
      let u2 := (addW .i64 t1 1)
      cond (!(eqI u1.2.1 u2)) (
        some (.inr (.inr ((-1), ())))
      ) (
        cond (inB t5 t0) (
        let u3 := (addW .i64 u2 1)
        cond (!(eqI u1.2.2.1 u3)) (
          some (.inr (.inr ((-1), ())))
        ) (
          some (.inl (t0, (addW .i64 u3 1), (addW .i64 t5 1), ()))
        )
        ) none
      )
      ) none
    )
    ) none
  ) (
    some (.inr (.inl (t0, t1, t5, ())))
  )
noncomputable def l42_0 (t0 : (List R99)) (t1 : Int) (t5 : Int) : Option (Sum ((List R99) × Int × Int × Unit) (Int × Unit)) := loopF (fun (x : ((List R99) × Int × Int × Unit)) => r42_0 x.1 x.2.1 x.2.2.1) (t0, t1, t5, ())
noncomputable def g42 (p0 : (List R99)) (p1 : Int) : Option (Unit × ((Int × Unit) × Unit)) :=
  Option.bind (l42_0 p0 p1 0) (Sum.elim (fun y1 =>
    some ((), ((y1.2.1, ()), ()))
  ) (fun y1 =>
    some ((), (y1, ()))
  ))
noncomputable def s42 : Su := ⟨[.c false [.sl 99 kk99], .c false [.int .i64]], [(false, [.int .i64])], true, .inl fun x => g42 x.1.1 x.2.1.1⟩
def sg42_0 : List SE := [.d 0 (.sl 99 kk99), .d 1 (.int .i64), .d 5 (.int .i64)]
def rh42 : List SE := [.d 4 (.int .i64)]
noncomputable def lo42 : Nat → Option (Lo rh42)
  | 0 => some ⟨sg42_0, fun x => l42_0 x.1 x.2.1 x.2.2.1⟩
  | _ => none
noncomputable def ga42 : List (Nat × Su) := [(39, s39)]
noncomputable def E42 : En := ⟨41, tt, gaOf ga42, rh42, lo42, [], fun _ => none⟩
theorem t42_0 (x : SigT sg42_0) : (roundT E42 0 sg42_0 (loopOf 0 (bodyOf Try.f42)) x).run = r42_0 x.1 x.2.1 x.2.2.1 := by kernel_rfl
theorem t42 (x : PT s42.ps) : (fnT E42 (bodyOf Try.f42) Try.f42.results.toList s42.ps s42.rs true x).run = g42 x.1.1 x.2.1.1 := by kernel_rfl
theorem hga42 : GAok Try.prog E42 := gaok_of (l := ga42) ⟨ok39, trivial⟩
theorem L42_0 : LoopSem Try.prog E42 0 (.loop (loopOf 0 (bodyOf Try.f42))) ⟨sg42_0, fun x => l42_0 x.1 x.2.1 x.2.2.1⟩ :=
  sem_of (hTT hT) hga42 hmix (step := fun (x : SigT sg42_0) => r42_0 x.1 x.2.1 x.2.2.1) t42_0 (loopsOK_all [] (by kernel_rfl) trivial)
theorem ok42 : SuOK Try.prog 42 s42 :=
  fn_ok (E := E42) (hTT hT) hga42 hmix (fn := Try.f42) (c := (bodyOf Try.f42)) (by kernel_rfl) (by kernel_rfl) (by kernel_rfl) rfl (loopsOK_all [(0, .loop (loopOf 0 (bodyOf Try.f42)))] (by kernel_rfl) ⟨semL rfl L42_0, trivial⟩) fun x y h => ⟨y.1, fun _ => rfl, (t42 x).trans h⟩
noncomputable def r43_0 (t0 : (List R3)) (t1 : Int) (t5 : Int) : Option (Sum ((List R3) × Int × Int × Unit) (Sum ((List R3) × Int × Int × Unit) (Int × Unit))) :=
  cond (ltI t5 (lenI t0)) (
    cond (inB t5 t0) (
    cond (!(eqI (gt d3 t0 t5).1 t1)) (
      some (.inr (.inr ((-1), ())))
    ) (
      some (.inl (t0, (addW .i64 t1 1), (addW .i64 t5 1), ()))
    )
    ) none
  ) (
    some (.inr (.inl (t0, t1, t5, ())))
  )
noncomputable def l43_0 (t0 : (List R3)) (t1 : Int) (t5 : Int) : Option (Sum ((List R3) × Int × Int × Unit) (Int × Unit)) := loopF (fun (x : ((List R3) × Int × Int × Unit)) => r43_0 x.1 x.2.1 x.2.2.1) (t0, t1, t5, ())
noncomputable def g43 (p0 : (List R3)) (p1 : Int) : Option (Unit × ((Int × Unit) × Unit)) :=
  Option.bind (l43_0 p0 p1 0) (Sum.elim (fun y1 =>
    some ((), ((y1.2.1, ()), ()))
  ) (fun y1 =>
    some ((), (y1, ()))
  ))
noncomputable def s43 : Su := ⟨[.c false [.sl 3 kk3], .c false [.int .i64]], [(false, [.int .i64])], true, .inl fun x => g43 x.1.1 x.2.1.1⟩
def sg43_0 : List SE := [.d 0 (.sl 3 kk3), .d 1 (.int .i64), .d 5 (.int .i64)]
def rh43 : List SE := [.d 4 (.int .i64)]
noncomputable def lo43 : Nat → Option (Lo rh43)
  | 0 => some ⟨sg43_0, fun x => l43_0 x.1 x.2.1 x.2.2.1⟩
  | _ => none
noncomputable def ga43 : List (Nat × Su) := []
noncomputable def E43 : En := ⟨21, tt, gaOf ga43, rh43, lo43, [], fun _ => none⟩
theorem t43_0 (x : SigT sg43_0) : (roundT E43 0 sg43_0 (loopOf 0 (bodyOf Try.f43)) x).run = r43_0 x.1 x.2.1 x.2.2.1 := by kernel_rfl
theorem t43 (x : PT s43.ps) : (fnT E43 (bodyOf Try.f43) Try.f43.results.toList s43.ps s43.rs true x).run = g43 x.1.1 x.2.1.1 := by kernel_rfl
theorem hga43 : GAok Try.prog E43 := gaok_of (l := ga43) trivial
theorem L43_0 : LoopSem Try.prog E43 0 (.loop (loopOf 0 (bodyOf Try.f43))) ⟨sg43_0, fun x => l43_0 x.1 x.2.1 x.2.2.1⟩ :=
  sem_of (hTT hT) hga43 hmix (step := fun (x : SigT sg43_0) => r43_0 x.1 x.2.1 x.2.2.1) t43_0 (loopsOK_all [] (by kernel_rfl) trivial)
theorem ok43 : SuOK Try.prog 43 s43 :=
  fn_ok (E := E43) (hTT hT) hga43 hmix (fn := Try.f43) (c := (bodyOf Try.f43)) (by kernel_rfl) (by kernel_rfl) (by kernel_rfl) rfl (loopsOK_all [(0, .loop (loopOf 0 (bodyOf Try.f43)))] (by kernel_rfl) ⟨semL rfl L43_0, trivial⟩) fun x y h => ⟨y.1, fun _ => rfl, (t43 x).trans h⟩
noncomputable def r61_0 (t0 : (List R5)) (t1 : Int) (t5 : Int) : Option (Sum ((List R5) × Int × Int × Unit) (Sum ((List R5) × Int × Int × Unit) (Int × Unit))) :=
  cond (ltI t5 (lenI t0)) (
    cond (inB t5 t0) (
    cond (!(eqI (gt d5 t0 t5).1 (cvtW .u8 t1))) (
      some (.inr (.inr ((-1), ())))
    ) (
      some (.inl (t0, (addW .i64 t1 1), (addW .i64 t5 1), ()))
    )
    ) none
  ) (
    some (.inr (.inl (t0, t1, t5, ())))
  )
noncomputable def l61_0 (t0 : (List R5)) (t1 : Int) (t5 : Int) : Option (Sum ((List R5) × Int × Int × Unit) (Int × Unit)) := loopF (fun (x : ((List R5) × Int × Int × Unit)) => r61_0 x.1 x.2.1 x.2.2.1) (t0, t1, t5, ())
noncomputable def g61 (p0 : (List R5)) (p1 : Int) : Option (Unit × ((Int × Unit) × Unit)) :=
  Option.bind (l61_0 p0 p1 0) (Sum.elim (fun y1 =>
    some ((), ((y1.2.1, ()), ()))
  ) (fun y1 =>
    some ((), (y1, ()))
  ))
noncomputable def s61 : Su := ⟨[.c false [.sl 5 kk5], .c false [.int .i64]], [(false, [.int .i64])], true, .inl fun x => g61 x.1.1 x.2.1.1⟩
def sg61_0 : List SE := [.d 0 (.sl 5 kk5), .d 1 (.int .i64), .d 5 (.int .i64)]
def rh61 : List SE := [.d 4 (.int .i64)]
noncomputable def lo61 : Nat → Option (Lo rh61)
  | 0 => some ⟨sg61_0, fun x => l61_0 x.1 x.2.1 x.2.2.1⟩
  | _ => none
noncomputable def ga61 : List (Nat × Su) := []
noncomputable def E61 : En := ⟨22, tt, gaOf ga61, rh61, lo61, [], fun _ => none⟩
theorem t61_0 (x : SigT sg61_0) : (roundT E61 0 sg61_0 (loopOf 0 (bodyOf Try.f61)) x).run = r61_0 x.1 x.2.1 x.2.2.1 := by kernel_rfl
theorem t61 (x : PT s61.ps) : (fnT E61 (bodyOf Try.f61) Try.f61.results.toList s61.ps s61.rs true x).run = g61 x.1.1 x.2.1.1 := by kernel_rfl
theorem hga61 : GAok Try.prog E61 := gaok_of (l := ga61) trivial
theorem L61_0 : LoopSem Try.prog E61 0 (.loop (loopOf 0 (bodyOf Try.f61))) ⟨sg61_0, fun x => l61_0 x.1 x.2.1 x.2.2.1⟩ :=
  sem_of (hTT hT) hga61 hmix (step := fun (x : SigT sg61_0) => r61_0 x.1 x.2.1 x.2.2.1) t61_0 (loopsOK_all [] (by kernel_rfl) trivial)
theorem ok61 : SuOK Try.prog 61 s61 :=
  fn_ok (E := E61) (hTT hT) hga61 hmix (fn := Try.f61) (c := (bodyOf Try.f61)) (by kernel_rfl) (by kernel_rfl) (by kernel_rfl) rfl (loopsOK_all [(0, .loop (loopOf 0 (bodyOf Try.f61)))] (by kernel_rfl) ⟨semL rfl L61_0, trivial⟩) fun x y h => ⟨y.1, fun _ => rfl, (t61 x).trans h⟩
noncomputable def r44_0 (t0 : (List R101)) (t1 : Int) (t5 : Int) : Option (Sum ((List R101) × Int × Int × Unit) (Sum ((List R101) × Int × Int × Unit) (Int × Unit))) :=
  cond (ltI t5 (lenI t0)) (
    cond (inB t5 t0) (
    Option.bind (g39 t1) fun y1 =>
    let u1 := (gt d101 t0 t5)
    cond (!(eqS u1.1 y1.2.1.1)) (
      some (.inr (.inr ((-1), ())))
    ) (
      cond (inB t5 t0) (
      let u2 := (addW .i64 t1 1)
      Option.bind (g39 u2) fun y2 =>
      cond (!(eqS u1.2.1 y2.2.1.1)) (
        some (.inr (.inr ((-1), ())))
      ) (
        cond (inB t5 t0) (
        Option.bind (g61 u1.2.2.1 (addW .i64 u2 1)) fun y3 =>
        cond (ltI y3.2.1.1 0) (
          some (.inr (.inr ((-1), ())))
        ) (
          some (.inl (t0, y3.2.1.1, (addW .i64 t5 1), ()))
        )
        ) none
      )
      ) none
    )
    ) none
  ) (
    some (.inr (.inl (t0, t1, t5, ())))
  )
noncomputable def l44_0 (t0 : (List R101)) (t1 : Int) (t5 : Int) : Option (Sum ((List R101) × Int × Int × Unit) (Int × Unit)) := loopF (fun (x : ((List R101) × Int × Int × Unit)) => r44_0 x.1 x.2.1 x.2.2.1) (t0, t1, t5, ())
noncomputable def g44 (p0 : (List R101)) (p1 : Int) : Option (Unit × ((Int × Unit) × Unit)) :=
  Option.bind (l44_0 p0 p1 0) (Sum.elim (fun y1 =>
    some ((), ((y1.2.1, ()), ()))
  ) (fun y1 =>
    some ((), (y1, ()))
  ))
noncomputable def s44 : Su := ⟨[.c false [.sl 101 kk101], .c false [.int .i64]], [(false, [.int .i64])], true, .inl fun x => g44 x.1.1 x.2.1.1⟩
def sg44_0 : List SE := [.d 0 (.sl 101 kk101), .d 1 (.int .i64), .d 5 (.int .i64)]
def rh44 : List SE := [.d 4 (.int .i64)]
noncomputable def lo44 : Nat → Option (Lo rh44)
  | 0 => some ⟨sg44_0, fun x => l44_0 x.1 x.2.1 x.2.2.1⟩
  | _ => none
noncomputable def ga44 : List (Nat × Su) := [(39, s39), (61, s61)]
noncomputable def E44 : En := ⟨42, tt, gaOf ga44, rh44, lo44, [], fun _ => none⟩
theorem t44_0 (x : SigT sg44_0) : (roundT E44 0 sg44_0 (loopOf 0 (bodyOf Try.f44)) x).run = r44_0 x.1 x.2.1 x.2.2.1 := by kernel_rfl
theorem t44 (x : PT s44.ps) : (fnT E44 (bodyOf Try.f44) Try.f44.results.toList s44.ps s44.rs true x).run = g44 x.1.1 x.2.1.1 := by kernel_rfl
theorem hga44 : GAok Try.prog E44 := gaok_of (l := ga44) ⟨ok39, ok61, trivial⟩
theorem L44_0 : LoopSem Try.prog E44 0 (.loop (loopOf 0 (bodyOf Try.f44))) ⟨sg44_0, fun x => l44_0 x.1 x.2.1 x.2.2.1⟩ :=
  sem_of (hTT hT) hga44 hmix (step := fun (x : SigT sg44_0) => r44_0 x.1 x.2.1 x.2.2.1) t44_0 (loopsOK_all [] (by kernel_rfl) trivial)
theorem ok44 : SuOK Try.prog 44 s44 :=
  fn_ok (E := E44) (hTT hT) hga44 hmix (fn := Try.f44) (c := (bodyOf Try.f44)) (by kernel_rfl) (by kernel_rfl) (by kernel_rfl) rfl (loopsOK_all [(0, .loop (loopOf 0 (bodyOf Try.f44)))] (by kernel_rfl) ⟨semL rfl L44_0, trivial⟩) fun x y h => ⟨y.1, fun _ => rfl, (t44 x).trans h⟩
noncomputable def r25_0 (t0 : (List R68)) (t1 : Int) (t5 : Int) : Option (Sum ((List R68) × Int × Int × Unit) (Sum ((List R68) × Int × Int × Unit) (Int × Unit))) :=
  cond (ltI t5 (lenI t0)) (
    cond (inB t5 t0) (
    Option.bind (g39 t1) fun y1 =>
    let u1 := (gt d68 t0 t5)
    cond (!(eqS u1.1 y1.2.1.1)) (
      some (.inr (.inr ((-1), ())))
    ) (
      cond (inB t5 t0) (
      let u2 := (addW .i64 t1 1)
      cond (!(eqI u1.2.1 u2)) (
        some (.inr (.inr ((-1), ())))
      ) (
        cond (inB t5 t0) (
        let u3 := (addW .i64 u2 1)
        cond (!(eqI u1.2.2.1 u3)) (
          some (.inr (.inr ((-1), ())))
        ) (
          cond (inB t5 t0) (
          let u4 := (addW .i64 u3 1)
          cond (!(eqI u1.2.2.2.1 u4)) (
            some (.inr (.inr ((-1), ())))
          ) (
            cond (inB t5 t0) (
            let u5 := (addW .i64 u4 1)
            cond (!(eqI u1.2.2.2.2.1 u5)) (
              some (.inr (.inr ((-1), ())))
            ) (
              cond (inB t5 t0) (
              Option.bind (g42 u1.2.2.2.2.2.1 (addW .i64 u5 1)) fun y2 =>
              cond (ltI y2.2.1.1 0) (
                some (.inr (.inr ((-1), ())))
              ) (
                cond (inB t5 t0) (
                cond (!(eqI u1.2.2.2.2.2.2.1 y2.2.1.1)) (
                  some (.inr (.inr ((-1), ())))
                ) (
                  cond (inB t5 t0) (
                  let u6 := (addW .i64 y2.2.1.1 1)
                  cond (!(eqI u1.2.2.2.2.2.2.2.1 u6)) (
                    some (.inr (.inr ((-1), ())))
                  ) (
                    cond (inB t5 t0) (
                    Option.bind (g43 u1.2.2.2.2.2.2.2.2.1 (addW .i64 u6 1)) fun y3 =>
                    cond (ltI y3.2.1.1 0) (
                      some (.inr (.inr ((-1), ())))
                    ) (
                      cond (inB t5 t0) (
                      Option.bind (g43 u1.2.2.2.2.2.2.2.2.2.1 y3.2.1.1) fun y4 =>
                      cond (ltI y4.2.1.1 0) (
                        some (.inr (.inr ((-1), ())))
                      ) (
                        cond (inB t5 t0) (
                        Option.bind (g44 u1.2.2.2.2.2.2.2.2.2.2.1 y4.2.1.1) fun y5 =>
                        cond (ltI y5.2.1.1 0) (
                          some (.inr (.inr ((-1), ())))
                        ) (
                          some (.inl (t0, y5.2.1.1, (addW .i64 t5 1), ()))
                        )
                        ) none
                      )
                      ) none
                    )
                    ) none
                  )
                  ) none
                )
                ) none
              )
              ) none
            )
            ) none
          )
          ) none
        )
        ) none
      )
      ) none
    )
    ) none
  ) (
    some (.inr (.inl (t0, t1, t5, ())))
  )
noncomputable def l25_0 (t0 : (List R68)) (t1 : Int) (t5 : Int) : Option (Sum ((List R68) × Int × Int × Unit) (Int × Unit)) := loopF (fun (x : ((List R68) × Int × Int × Unit)) => r25_0 x.1 x.2.1 x.2.2.1) (t0, t1, t5, ())
noncomputable def g25 (p0 : (List R68)) (p1 : Int) : Option (Unit × ((Int × Unit) × Unit)) :=
  Option.bind (l25_0 p0 p1 0) (Sum.elim (fun y1 =>
    some ((), ((y1.2.1, ()), ()))
  ) (fun y1 =>
    some ((), (y1, ()))
  ))
noncomputable def s25 : Su := ⟨[.c false [.sl 68 kk68], .c false [.int .i64]], [(false, [.int .i64])], true, .inl fun x => g25 x.1.1 x.2.1.1⟩
def sg25_0 : List SE := [.d 0 (.sl 68 kk68), .d 1 (.int .i64), .d 5 (.int .i64)]
def rh25 : List SE := [.d 4 (.int .i64)]
noncomputable def lo25 : Nat → Option (Lo rh25)
  | 0 => some ⟨sg25_0, fun x => l25_0 x.1 x.2.1 x.2.2.1⟩
  | _ => none
noncomputable def ga25 : List (Nat × Su) := [(39, s39), (42, s42), (43, s43), (44, s44)]
noncomputable def E25 : En := ⟨117, tt, gaOf ga25, rh25, lo25, [], fun _ => none⟩
theorem t25_0 (x : SigT sg25_0) : (roundT E25 0 sg25_0 (loopOf 0 (bodyOf Try.f25)) x).run = r25_0 x.1 x.2.1 x.2.2.1 := by kernel_rfl
theorem t25 (x : PT s25.ps) : (fnT E25 (bodyOf Try.f25) Try.f25.results.toList s25.ps s25.rs true x).run = g25 x.1.1 x.2.1.1 := by kernel_rfl
theorem hga25 : GAok Try.prog E25 := gaok_of (l := ga25) ⟨ok39, ok42, ok43, ok44, trivial⟩
theorem L25_0 : LoopSem Try.prog E25 0 (.loop (loopOf 0 (bodyOf Try.f25))) ⟨sg25_0, fun x => l25_0 x.1 x.2.1 x.2.2.1⟩ :=
  sem_of (hTT hT) hga25 hmix (step := fun (x : SigT sg25_0) => r25_0 x.1 x.2.1 x.2.2.1) t25_0 (loopsOK_all [] (by kernel_rfl) trivial)
theorem ok25 : SuOK Try.prog 25 s25 :=
  fn_ok (E := E25) (hTT hT) hga25 hmix (fn := Try.f25) (c := (bodyOf Try.f25)) (by kernel_rfl) (by kernel_rfl) (by kernel_rfl) rfl (loopsOK_all [(0, .loop (loopOf 0 (bodyOf Try.f25)))] (by kernel_rfl) ⟨semL rfl L25_0, trivial⟩) fun x y h => ⟨y.1, fun _ => rfl, (t25 x).trans h⟩
noncomputable def g12 (p0 : ((List R68) × Unit)) (p1 : Int) : Option (Unit × ((Int × Unit) × Unit)) :=
  Option.bind (g25 p0.1 p1) fun y1 =>
  cond (ltI y1.2.1.1 0) (
    some ((), (((-1), ()), ()))
  ) (
    some ((), (y1.2.1, ()))
  )
noncomputable def s12 : Su := ⟨[.c true [.sl 68 kk68], .c false [.int .i64]], [(false, [.int .i64])], true, .inl fun x => g12 x.1 x.2.1.1⟩
def rh12 : List SE := []
noncomputable def lo12 : Nat → Option (Lo rh12)
  | _ => none
noncomputable def ga12 : List (Nat × Su) := [(25, s25)]
noncomputable def E12 : En := ⟨12, tt, gaOf ga12, rh12, lo12, [], fun _ => none⟩
theorem t12 (x : PT s12.ps) : (fnT E12 (bodyOf Try.f12) Try.f12.results.toList s12.ps s12.rs true x).run = g12 x.1 x.2.1.1 := by kernel_rfl
theorem hga12 : GAok Try.prog E12 := gaok_of (l := ga12) ⟨ok25, trivial⟩
theorem ok12 : SuOK Try.prog 12 s12 :=
  fn_ok (E := E12) (hTT hT) hga12 hmix (fn := Try.f12) (c := (bodyOf Try.f12)) (by kernel_rfl) (by kernel_rfl) (by kernel_rfl) rfl (loopsOK_all [] (by kernel_rfl) trivial) fun x y h => ⟨y.1, fun _ => rfl, (t12 x).trans h⟩
noncomputable def g3 (p0 : ((List R55) × Int × Int × (List R60) × Unit)) : Option (Unit × ((Bool × Unit) × Unit)) :=
  Option.bind (g4 p0 1048576) fun y1 =>
  cond (ltI y1.2.1.1 0) (
    some ((), ((true, ()), ()))
  ) (
    let u1 := (g6 p0)
    Option.bind u1 fun y2 =>
    Option.bind (g5 y2.2.1) fun y3 =>
    Option.bind u1 fun y4 =>
    Option.bind (g7 y4.2.1) fun y5 =>
    let u2 := (g8 y5.2.1 y3.2.1)
    Option.bind u2 fun y6 =>
    cond (!y6.2.1.1) (
      some ((), ((false, ()), ()))
    ) (
      Option.bind u1 fun y7 =>
      Option.bind (g9 y4.2.1 y7.2.1) fun y8 =>
      cond (!y8.2.1.1) (
        some ((), ((false, ()), ()))
      ) (
        Option.bind (g10 y4.2.1 1) fun y9 =>
        cond (ltI y9.2.1.1 0) (
          some ((), ((false, ()), ()))
        ) (
          Option.bind u2 fun y10 =>
          cond (!y10.2.1.1) (
            some ((), ((false, ()), ()))
          ) (
            Option.bind (g11 y5.2.1 1) fun y11 =>
            let u3 := (g12 y11.1.1 1)
            Option.bind u3 fun y12 =>
            cond (ltI y12.2.1.1 0) (
              some ((), ((false, ()), ()))
            ) (
              cond (!(eqI y12.2.1.1 y11.2.1.1)) (
                some ((), ((false, ()), ()))
              ) (
                Option.bind u1 fun y13 =>
                Option.bind (g7 y13.2.1) fun y14 =>
                Option.bind (g8 y14.2.1 y3.2.1) fun y15 =>
                cond (!y15.2.1.1) (
                  some ((), ((false, ()), ()))
                ) (
                  Option.bind u3 fun y16 =>
                  cond (ltI y16.2.1.1 0) (
                    some ((), ((false, ()), ()))
                  ) (
                    cond (!(eqI y16.2.1.1 y11.2.1.1)) (
                      some ((), ((false, ()), ()))
                    ) (
                      some ((), ((true, ()), ()))
                    )
                  )
                )
              )
            )
          )
        )
      )
    )
  )
noncomputable def s3 : Su := ⟨[.c true [.sl 55 kk55, .int .i64, .int .i64, .sl 60 kk60]], [(false, [.bool])], true, .inl fun x => g3 x.1⟩
def rh3 : List SE := []
noncomputable def lo3 : Nat → Option (Lo rh3)
  | _ => none
noncomputable def ga3 : List (Nat × Su) := [(4, s4), (6, s6), (5, s5), (7, s7), (8, s8), (9, s9), (10, s10), (11, s11), (12, s12)]
noncomputable def E3 : En := ⟨69, tt, gaOf ga3, rh3, lo3, [], fun _ => none⟩
theorem t3 (x : PT s3.ps) : (fnT E3 (bodyOf Try.f3) Try.f3.results.toList s3.ps s3.rs true x).run = g3 x.1 := by kernel_rfl
theorem hga3 : GAok Try.prog E3 := gaok_of (l := ga3) ⟨ok4, ok6, ok5, ok7, ok8, ok9, ok10, ok11, ok12, trivial⟩
theorem ok3 : SuOK Try.prog 3 s3 :=
  fn_ok (E := E3) (hTT hT) hga3 hmix (fn := Try.f3) (c := (bodyOf Try.f3)) (by kernel_rfl) (by kernel_rfl) (by kernel_rfl) rfl (loopsOK_all [] (by kernel_rfl) trivial) fun x y h => ⟨y.1, fun _ => rfl, (t3 x).trans h⟩
end Go.Av
