/- Part of a proof that the law FnExactAsk answers true for every input: the printed functions of this program and their plain laws. No conditions beyond the statement. -/
import Derived.Test.YtjflhhoafpgfhaaGreatDoorFw3
import Derived.WalkKit
import Derived.Lib.Walk
import Derived.Lib.SliceRun
import Derived.Shelf.Spec.SlicesInsert
import Derived.Test.YtjflhhoafpgfhaaGreatDoorProg
set_option maxRecDepth 100000
namespace Go.Av
open Go.Proofs
def kk93 : List K := [.str, .int .i64, .int .i64]
def kk3 : List K := [.int .i64]
def kk5 : List K := [.int .u8]
def kk98 : List K := [.str, .str, .sl 5 kk5]
def kk108 : List K := [.str, .int .i64, .int .i64]
def kk111 : List K := [.str, .str, .sl 5 kk5]
def kk28 : List K := [.str, .int .i64, .int .i64, .int .i64, .int .i64, .sl 93 kk93, .int .i64, .int .i64, .sl 3 kk3, .sl 3 kk3, .sl 98 kk98]
def kk36 : List K := [.str, .int .i64, .int .i64, .int .i64, .int .i64, .sl 108 kk108, .int .i64, .int .i64, .sl 3 kk3, .sl 3 kk3, .sl 111 kk111]
def kk9 : List K := [.str]
def kk121 : List K := [.str, .str, .str, .sl 3 kk3]
def kk23 : List K := [.sl 3 kk3]
abbrev R93 := ((List UInt8) × Int × Int × Unit)
def d93 : R93 := ([], 0, 0, ())
abbrev R3 := (Int × Unit)
def d3 : R3 := (0, ())
abbrev R5 := (Int × Unit)
def d5 : R5 := (0, ())
abbrev R98 := ((List UInt8) × (List UInt8) × (List R5) × Unit)
def d98 : R98 := ([], [], [], ())
abbrev R108 := ((List UInt8) × Int × Int × Unit)
def d108 : R108 := ([], 0, 0, ())
abbrev R111 := ((List UInt8) × (List UInt8) × (List R5) × Unit)
def d111 : R111 := ([], [], [], ())
abbrev R23 := ((List R3) × Unit)
def d23 : R23 := ([], ())
def tt : List (Nat × TI) := [(2, ⟨false, [.int .i64], 0, 8, []⟩),
  (3, ⟨false, [.int .i64], 0, 8, []⟩),
  (4, ⟨false, [.bool], 0, 1, []⟩),
  (5, ⟨false, [.int .u8], 0, 1, []⟩),
  (6, ⟨false, [.int .u8], 0, 1, []⟩),
  (7, ⟨true, [.int .i64, .int .i64, .bool, .int .u8], 0, 24, [(0, 2), (1, 3), (2, 4), (3, 6)]⟩),
  (8, ⟨true, [.int .i64, .int .i64, .bool, .int .u8], 0, 24, [(0, 2), (1, 3), (2, 4), (3, 6)]⟩),
  (9, ⟨false, [.str], 0, 16, []⟩),
  (10, ⟨false, [.str], 0, 16, []⟩),
  (11, ⟨false, [.str], 0, 16, []⟩),
  (12, ⟨false, [.int .u64], 0, 8, []⟩),
  (13, ⟨true, [.str, .int .u64], 0, 24, [(0, 9), (1, 12)]⟩),
  (14, ⟨true, [.str, .int .u64], 0, 24, [(0, 9), (1, 12)]⟩),
  (21, ⟨false, [.int .i32], 0, 4, []⟩),
  (22, ⟨false, [.sl 93 kk93], 93, 24, []⟩),
  (23, ⟨false, [.sl 3 kk3], 3, 24, []⟩),
  (24, ⟨true, [.int .i64, .int .i64, .sl 3 kk3, .sl 3 kk3], 0, 64, [(0, 3), (1, 3), (2, 23), (3, 23)]⟩),
  (25, ⟨true, [.int .i64, .int .i64, .sl 3 kk3, .sl 3 kk3], 0, 64, [(0, 3), (1, 3), (2, 23), (3, 23)]⟩),
  (26, ⟨false, [.sl 98 kk98], 98, 24, []⟩),
  (27, ⟨true, [.str, .int .i64, .int .i64, .int .i64, .int .i64, .sl 93 kk93, .int .i64, .int .i64, .sl 3 kk3, .sl 3 kk3, .sl 98 kk98], 0, 160, [(0, 9), (1, 3), (2, 3), (3, 3), (4, 3), (5, 22), (6, 25), (10, 26)]⟩),
  (28, ⟨true, [.str, .int .i64, .int .i64, .int .i64, .int .i64, .sl 93 kk93, .int .i64, .int .i64, .sl 3 kk3, .sl 3 kk3, .sl 98 kk98], 0, 160, [(0, 9), (1, 3), (2, 3), (3, 3), (4, 3), (5, 22), (6, 25), (10, 26)]⟩),
  (32, ⟨false, [.sl 108 kk108], 108, 24, []⟩),
  (33, ⟨true, [.int .i64, .int .i64, .sl 3 kk3, .sl 3 kk3], 0, 64, [(0, 3), (1, 3), (2, 23), (3, 23)]⟩),
  (34, ⟨false, [.sl 111 kk111], 111, 24, []⟩),
  (35, ⟨true, [.str, .int .i64, .int .i64, .int .i64, .int .i64, .sl 108 kk108, .int .i64, .int .i64, .sl 3 kk3, .sl 3 kk3, .sl 111 kk111], 0, 160, [(0, 9), (1, 3), (2, 3), (3, 3), (4, 3), (5, 32), (6, 33), (10, 34)]⟩),
  (36, ⟨true, [.str, .int .i64, .int .i64, .int .i64, .int .i64, .sl 108 kk108, .int .i64, .int .i64, .sl 3 kk3, .sl 3 kk3, .sl 111 kk111], 0, 160, [(0, 9), (1, 3), (2, 3), (3, 3), (4, 3), (5, 32), (6, 33), (10, 34)]⟩),
  (40, ⟨false, [.sl 28 kk28], 28, 24, []⟩),
  (41, ⟨true, [.sl 28 kk28], 0, 24, [(0, 40)]⟩),
  (42, ⟨true, [.sl 28 kk28], 0, 24, [(0, 40)]⟩),
  (43, ⟨true, [.int .i64, .str, .str, .str, .str, .str, .int .i64, .int .i64], 0, 104, [(0, 3), (1, 9), (2, 9), (3, 9), (4, 9), (5, 9), (6, 3), (7, 3)]⟩),
  (44, ⟨true, [.int .i64, .str, .str, .str, .str, .str, .int .i64, .int .i64], 0, 104, [(0, 3), (1, 9), (2, 9), (3, 9), (4, 9), (5, 9), (6, 3), (7, 3)]⟩),
  (47, ⟨false, [.sl 36 kk36], 36, 24, []⟩),
  (48, ⟨true, [.sl 36 kk36], 0, 24, [(0, 47)]⟩),
  (49, ⟨true, [.sl 36 kk36], 0, 24, [(0, 47)]⟩),
  (53, ⟨true, [.int .i64, .str, .str, .str, .str, .str, .int .i64, .int .i64], 0, 104, [(0, 3), (1, 9), (2, 9), (3, 9), (4, 9), (5, 9), (6, 3), (7, 3)]⟩),
  (92, ⟨true, [.str, .int .i64, .int .i64], 0, 32, [(0, 9), (1, 3), (2, 3)]⟩),
  (93, ⟨true, [.str, .int .i64, .int .i64], 0, 32, [(0, 9), (1, 3), (2, 3)]⟩),
  (96, ⟨false, [.sl 5 kk5], 5, 24, []⟩),
  (97, ⟨true, [.str, .str, .sl 5 kk5], 0, 56, [(0, 9), (1, 9), (2, 96)]⟩),
  (98, ⟨true, [.str, .str, .sl 5 kk5], 0, 56, [(0, 9), (1, 9), (2, 96)]⟩),
  (108, ⟨true, [.str, .int .i64, .int .i64], 0, 32, [(0, 9), (1, 3), (2, 3)]⟩),
  (111, ⟨true, [.str, .str, .sl 5 kk5], 0, 56, [(0, 9), (1, 9), (2, 96)]⟩),
  (120, ⟨true, [.str, .str, .str, .sl 3 kk3], 0, 72, [(0, 9), (1, 9), (2, 9), (3, 23)]⟩),
  (121, ⟨true, [.str, .str, .str, .sl 3 kk3], 0, 72, [(0, 9), (1, 9), (2, 9), (3, 23)]⟩),
  (145, ⟨false, [.int .u64], 0, 8, []⟩),
  (160, ⟨false, [.sl 9 kk9], 9, 24, []⟩),
  (163, ⟨false, [.sl 121 kk121], 121, 24, []⟩),
  (178, ⟨false, [.int .u32], 0, 4, []⟩),
  (181, ⟨false, [.int .u64], 0, 8, []⟩),
  (188, ⟨false, [.sl 23 kk23], 23, 24, []⟩),
  (213, ⟨false, [.int .u8], 0, 1, []⟩),
  (214, ⟨false, [.int .u8], 0, 1, []⟩),
  (216, ⟨false, [.int .i32], 0, 4, []⟩),
  (217, ⟨false, [.int .i32], 0, 4, []⟩)]
noncomputable def E0 : En := ⟨0, tt, fun _ => [], [], fun _ => none, [], fun _ => none⟩
theorem hT : TTok Tryz.prog E0 := ttok_of (by kernel_rfl)
theorem hmix : Tryz.prog.follows .mixedOrders = true := by kernel_rfl
set_option maxHeartbeats 4000000
section
open Go.Shelf Go.RowKit Go.Lib
def sρ : Ren := ⟨fun | 99 => 135 | 105 => 77 | 129 => 203 | 165 => 136 | 166 => 137 | 169 => 139 | 170 => 138 | 171 => 75 | 206 => 177 | 212 => 134 | 240 => 178 | 241 => 179 | 243 => 133 | 246 => 174 | 263 => 175 | 264 => 176 | 276 => 198 | 277 => 199 | 283 => 194 | 284 => 195 | 285 => 196 | 286 => 197 | 317 => 202 | 318 => 204 | 319 => 205 | 320 => 206 | 337 => 208 | 338 => 209 | n => n, fun | 0 => 0 | 2 => 2 | 3 => 3 | 4 => 4 | 5 => 5 | 9 => 9 | 20 => 20 | 37 => 96 | 46 => 145 | 51 => 178 | 53 => 181 | 70 => 149 | 72 => 151 | 75 => 154 | 76 => 155 | 80 => 158 | 109 => 146 | 127 => 184 | 146 => 179 | 148 => 182 | 164 => 195 | 171 => 190 | 173 => 193 | 212 => 201 | 213 => 202 | 232 => 206 | 233 => 207 | n => n, fun | 17 => 0 | 18 => 2 | 19 => 3 | n => n⟩
theorem lay_LaysM_n171 : LaysM.n171 Tryz.prog sρ := { mixed := by kernel_rfl, f129 := by kernel_rfl, f171 := by kernel_rfl, f243 := by kernel_rfl, f246 := by kernel_rfl, f283 := by kernel_rfl, f284 := by kernel_rfl, f285 := by kernel_rfl, f286 := by kernel_rfl, f317 := by kernel_rfl, f318 := by kernel_rfl, f319 := by kernel_rfl, f320 := by kernel_rfl, f337 := by kernel_rfl, f338 := by kernel_rfl, t0 := by kernel_rfl, a0 := fun _ => by kernel_rfl, z0 := fun _ => by kernel_rfl, v0 := fun _ => by kernel_rfl, t2 := by kernel_rfl, a2 := fun _ => by kernel_rfl, z2 := fun _ => by kernel_rfl, v2 := fun _ => by kernel_rfl, t3 := by kernel_rfl, a3 := fun _ => by kernel_rfl, z3 := fun _ => by kernel_rfl, v3 := fun _ => by kernel_rfl, t4 := by kernel_rfl, a4 := fun _ => by kernel_rfl, z4 := fun _ => by kernel_rfl, v4 := fun _ => by kernel_rfl, t5 := by kernel_rfl, a5 := fun _ => by kernel_rfl, z5 := fun _ => by kernel_rfl, v5 := fun _ => by kernel_rfl, t9 := by kernel_rfl, a9 := fun _ => by kernel_rfl, z9 := fun _ => by kernel_rfl, v9 := fun _ => by kernel_rfl, t20 := by kernel_rfl, a20 := fun _ => by kernel_rfl, z20 := fun _ => by kernel_rfl, v20 := fun _ => by kernel_rfl, t37 := by kernel_rfl, a37 := fun _ => by kernel_rfl, z37 := fun _ => by kernel_rfl, v37 := fun _ => by kernel_rfl, t46 := by kernel_rfl, a46 := fun _ => by kernel_rfl, z46 := fun _ => by kernel_rfl, v46 := fun _ => by kernel_rfl, t51 := by kernel_rfl, a51 := fun _ => by kernel_rfl, z51 := fun _ => by kernel_rfl, v51 := fun _ => by kernel_rfl, t53 := by kernel_rfl, a53 := fun _ => by kernel_rfl, z53 := fun _ => by kernel_rfl, v53 := fun _ => by kernel_rfl, t171 := by kernel_rfl, a171 := fun _ => by kernel_rfl, z171 := fun _ => by kernel_rfl, v171 := fun _ => by kernel_rfl, t173 := by kernel_rfl, a173 := fun _ => by kernel_rfl, z173 := fun _ => by kernel_rfl, v173 := fun _ => by kernel_rfl, t212 := by kernel_rfl, a212 := fun _ => by kernel_rfl, z212 := fun _ => by kernel_rfl, v212 := fun _ => by kernel_rfl, t213 := by kernel_rfl, a213 := fun _ => by kernel_rfl, z213 := fun _ => by kernel_rfl, t232 := by kernel_rfl, a232 := fun _ => by kernel_rfl, z232 := fun _ => by kernel_rfl, v232 := fun _ => by kernel_rfl, t233 := by kernel_rfl, a233 := fun _ => by kernel_rfl, z233 := fun _ => by kernel_rfl, v233 := fun _ => by kernel_rfl, g17 := by kernel_rfl, g18 := by kernel_rfl, g19 := by kernel_rfl, i0 := by kernel_rfl, i2 := by kernel_rfl, i3 := by kernel_rfl, i4 := by kernel_rfl, i5 := by kernel_rfl, i9 := by kernel_rfl, i20 := by kernel_rfl, i37 := by kernel_rfl, i46 := by kernel_rfl, i51 := by kernel_rfl, i53 := by kernel_rfl, i171 := by kernel_rfl, i173 := by kernel_rfl, i212 := by kernel_rfl, i232 := by kernel_rfl, i233 := by kernel_rfl, m17 := by kernel_rfl, m18 := by kernel_rfl, m19 := by kernel_rfl }
theorem lay_Lays_n105 : Lays.n105 Tryz.prog sρ := { mixed := by kernel_rfl, f99 := by kernel_rfl, f105 := by kernel_rfl, f165 := by kernel_rfl, f166 := by kernel_rfl, f169 := by kernel_rfl, f170 := by kernel_rfl, f206 := by kernel_rfl, f212 := by kernel_rfl, f240 := by kernel_rfl, f241 := by kernel_rfl, f263 := by kernel_rfl, f264 := by kernel_rfl, f276 := by kernel_rfl, f277 := by kernel_rfl, t0 := by kernel_rfl, a0 := fun _ => by kernel_rfl, z0 := fun _ => by kernel_rfl, v0 := fun _ => by kernel_rfl, t3 := by kernel_rfl, a3 := fun _ => by kernel_rfl, z3 := fun _ => by kernel_rfl, v3 := fun _ => by kernel_rfl, t4 := by kernel_rfl, a4 := fun _ => by kernel_rfl, z4 := fun _ => by kernel_rfl, v4 := fun _ => by kernel_rfl, t5 := by kernel_rfl, a5 := fun _ => by kernel_rfl, z5 := fun _ => by kernel_rfl, v5 := fun _ => by kernel_rfl, t9 := by kernel_rfl, a9 := fun _ => by kernel_rfl, z9 := fun _ => by kernel_rfl, v9 := fun _ => by kernel_rfl, t20 := by kernel_rfl, a20 := fun _ => by kernel_rfl, z20 := fun _ => by kernel_rfl, v20 := fun _ => by kernel_rfl, t37 := by kernel_rfl, a37 := fun _ => by kernel_rfl, z37 := fun _ => by kernel_rfl, v37 := fun _ => by kernel_rfl, t46 := by kernel_rfl, a46 := fun _ => by kernel_rfl, z46 := fun _ => by kernel_rfl, v46 := fun _ => by kernel_rfl, t51 := by kernel_rfl, a51 := fun _ => by kernel_rfl, z51 := fun _ => by kernel_rfl, v51 := fun _ => by kernel_rfl, t53 := by kernel_rfl, a53 := fun _ => by kernel_rfl, z53 := fun _ => by kernel_rfl, v53 := fun _ => by kernel_rfl, t70 := by kernel_rfl, a70 := fun _ => by kernel_rfl, z70 := fun _ => by kernel_rfl, v70 := fun _ => by kernel_rfl, t72 := by kernel_rfl, a72 := fun _ => by kernel_rfl, z72 := fun _ => by kernel_rfl, v72 := fun _ => by kernel_rfl, t75 := by kernel_rfl, a75 := fun _ => by kernel_rfl, z75 := fun _ => by kernel_rfl, v75 := fun _ => by kernel_rfl, t76 := by kernel_rfl, a76 := fun _ => by kernel_rfl, z76 := fun _ => by kernel_rfl, v76 := fun _ => by kernel_rfl, t109 := by kernel_rfl, a109 := fun _ => by kernel_rfl, z109 := fun _ => by kernel_rfl, v109 := fun _ => by kernel_rfl, t127 := by kernel_rfl, a127 := fun _ => by kernel_rfl, z127 := fun _ => by kernel_rfl, v127 := fun _ => by kernel_rfl, t146 := by kernel_rfl, a146 := fun _ => by kernel_rfl, z146 := fun _ => by kernel_rfl, v146 := fun _ => by kernel_rfl, t148 := by kernel_rfl, a148 := fun _ => by kernel_rfl, z148 := fun _ => by kernel_rfl, v148 := fun _ => by kernel_rfl, t164 := by kernel_rfl, a164 := fun _ => by kernel_rfl, z164 := fun _ => by kernel_rfl, v164 := fun _ => by kernel_rfl }
theorem lay_Builder_Extra : Builder.Extra Tryz.prog sρ := { sizeBuilder := by kernel_rfl, liesBuilder := by kernel_rfl, t5 := by kernel_rfl, a5 := fun _ => by kernel_rfl, z5 := fun _ => by kernel_rfl, v5 := fun _ => by kernel_rfl, infoByte := by kernel_rfl, cellsByte := by kernel_rfl, sizeByte := by kernel_rfl, neB5 := by decide }
end
noncomputable def g57 (p0 : ((List UInt8) × Int × Int × Unit)) (p1 : Int) : Option (Unit × ((Int × Unit) × Unit)) :=
  let u1 := (subW .i64 p1 (lenI p0.1))
  cond (ltI u1 0) (
    some ((), (((-1), ()), ()))
  ) (
    some ((), ((u1, ()), ()))
  )
noncomputable def s57 : Su := ⟨[.c true [.str, .int .i64, .int .i64], .c false [.int .i64]], [(false, [.int .i64])], true, .inl fun x => g57 x.1 x.2.1.1⟩
def rh57 : List SE := []
noncomputable def lo57 : Nat → Option (Lo rh57)
  | _ => none
noncomputable def ga57 : List (Nat × Su) := []
noncomputable def E57 : En := ⟨13, tt, gaOf ga57, rh57, lo57, [], fun _ => none⟩
theorem t57 (x : PT s57.ps) : (fnT E57 (bodyOf Tryz.f57) Tryz.f57.results.toList s57.ps s57.rs true x).run = g57 x.1 x.2.1.1 := by kernel_rfl
theorem hga57 : GAok Tryz.prog E57 := gaok_of (l := ga57) trivial
theorem ok57 : SuOK Tryz.prog 57 s57 :=
  fn_ok (E := E57) (hTT hT) hga57 hmix (fn := Tryz.f57) (c := (bodyOf Tryz.f57)) (by kernel_rfl) (by kernel_rfl) (by kernel_rfl) rfl (loopsOK_all [] (by kernel_rfl) trivial) fun x y h => ⟨y.1, fun _ => rfl, (t57 x).trans h⟩
noncomputable def r19_0 (t0 : (List R93)) (t1 : Int) (t5 : Int) : Option (Sum ((List R93) × Int × Int × Unit) (Sum ((List R93) × Int × Int × Unit) (Int × Unit))) :=
  cond (ltI t5 (lenI t0)) (
    cond (inB t5 t0) (
    Option.bind (g57 (gt d93 t0 t5) t1) fun y1 =>
    cond (ltI y1.2.1.1 0) (
      some (.inr (.inr ((-1), ())))
    ) (
      some (.inl (t0, y1.2.1.1, (addW .i64 t5 1), ()))
    )
    ) none
  ) (
    some (.inr (.inl (t0, t1, t5, ())))
  )
noncomputable def l19_0 (t0 : (List R93)) (t1 : Int) (t5 : Int) : Option (Sum ((List R93) × Int × Int × Unit) (Int × Unit)) := loopF (fun (x : ((List R93) × Int × Int × Unit)) => r19_0 x.1 x.2.1 x.2.2.1) (t0, t1, t5, ())
noncomputable def g19 (p0 : (List R93)) (p1 : Int) : Option (Unit × ((Int × Unit) × Unit)) :=
  let u1 := (subW .i64 p1 (lenI p0))
  cond (ltI u1 0) (
    some ((), (((-1), ()), ()))
  ) (
    Option.bind (l19_0 p0 u1 0) (Sum.elim (fun y1 =>
      some ((), ((y1.2.1, ()), ()))
    ) (fun y1 =>
      some ((), (y1, ()))
    ))
  )
noncomputable def s19 : Su := ⟨[.c false [.sl 93 kk93], .c false [.int .i64]], [(false, [.int .i64])], true, .inl fun x => g19 x.1.1 x.2.1.1⟩
def sg19_0 : List SE := [.d 0 (.sl 93 kk93), .d 1 (.int .i64), .d 5 (.int .i64)]
def rh19 : List SE := [.d 4 (.int .i64)]
noncomputable def lo19 : Nat → Option (Lo rh19)
  | 0 => some ⟨sg19_0, fun x => l19_0 x.1 x.2.1 x.2.2.1⟩
  | _ => none
noncomputable def ga19 : List (Nat × Su) := [(57, s57)]
noncomputable def E19 : En := ⟨27, tt, gaOf ga19, rh19, lo19, [], fun _ => none⟩
theorem t19_0 (x : SigT sg19_0) : (roundT E19 0 sg19_0 (loopOf 0 (bodyOf Tryz.f19)) x).run = r19_0 x.1 x.2.1 x.2.2.1 := by kernel_rfl
theorem t19 (x : PT s19.ps) : (fnT E19 (bodyOf Tryz.f19) Tryz.f19.results.toList s19.ps s19.rs true x).run = g19 x.1.1 x.2.1.1 := by kernel_rfl
theorem hga19 : GAok Tryz.prog E19 := gaok_of (l := ga19) ⟨ok57, trivial⟩
theorem L19_0 : LoopSem Tryz.prog E19 0 (.loop (loopOf 0 (bodyOf Tryz.f19))) ⟨sg19_0, fun x => l19_0 x.1 x.2.1 x.2.2.1⟩ :=
  sem_of (hTT hT) hga19 hmix (step := fun (x : SigT sg19_0) => r19_0 x.1 x.2.1 x.2.2.1) t19_0 (loopsOK_all [] (by kernel_rfl) trivial)
theorem ok19 : SuOK Tryz.prog 19 s19 :=
  fn_ok (E := E19) (hTT hT) hga19 hmix (fn := Tryz.f19) (c := (bodyOf Tryz.f19)) (by kernel_rfl) (by kernel_rfl) (by kernel_rfl) rfl (loopsOK_all [(0, .loop (loopOf 0 (bodyOf Tryz.f19)))] (by kernel_rfl) ⟨semL rfl L19_0, trivial⟩) fun x y h => ⟨y.1, fun _ => rfl, (t19 x).trans h⟩
noncomputable def g58 (p0 : (List R3)) (p1 : Int) : Option (Unit × ((Int × Unit) × Unit)) :=
  let u1 := (subW .i64 p1 (lenI p0))
  cond (ltI u1 0) (
    some ((), (((-1), ()), ()))
  ) (
    some ((), ((u1, ()), ()))
  )
noncomputable def s58 : Su := ⟨[.c false [.sl 3 kk3], .c false [.int .i64]], [(false, [.int .i64])], true, .inl fun x => g58 x.1.1 x.2.1.1⟩
def rh58 : List SE := []
noncomputable def lo58 : Nat → Option (Lo rh58)
  | _ => none
noncomputable def ga58 : List (Nat × Su) := []
noncomputable def E58 : En := ⟨12, tt, gaOf ga58, rh58, lo58, [], fun _ => none⟩
theorem t58 (x : PT s58.ps) : (fnT E58 (bodyOf Tryz.f58) Tryz.f58.results.toList s58.ps s58.rs true x).run = g58 x.1.1 x.2.1.1 := by kernel_rfl
theorem hga58 : GAok Tryz.prog E58 := gaok_of (l := ga58) trivial
theorem ok58 : SuOK Tryz.prog 58 s58 :=
  fn_ok (E := E58) (hTT hT) hga58 hmix (fn := Tryz.f58) (c := (bodyOf Tryz.f58)) (by kernel_rfl) (by kernel_rfl) (by kernel_rfl) rfl (loopsOK_all [] (by kernel_rfl) trivial) fun x y h => ⟨y.1, fun _ => rfl, (t58 x).trans h⟩
noncomputable def g20 (p0 : (Int × Int × (List R3) × (List R3) × Unit)) (p1 : Int) : Option (Unit × ((Int × Unit) × Unit)) :=
  Option.bind (g58 p0.2.2.1 p1) fun y1 =>
  cond (ltI y1.2.1.1 0) (
    some ((), (((-1), ()), ()))
  ) (
    Option.bind (g58 p0.2.2.2.1 y1.2.1.1) fun y2 =>
    cond (ltI y2.2.1.1 0) (
      some ((), (((-1), ()), ()))
    ) (
      some ((), (y2.2.1, ()))
    )
  )
noncomputable def s20 : Su := ⟨[.c true [.int .i64, .int .i64, .sl 3 kk3, .sl 3 kk3], .c false [.int .i64]], [(false, [.int .i64])], true, .inl fun x => g20 x.1 x.2.1.1⟩
def rh20 : List SE := []
noncomputable def lo20 : Nat → Option (Lo rh20)
  | _ => none
noncomputable def ga20 : List (Nat × Su) := [(58, s58)]
noncomputable def E20 : En := ⟨18, tt, gaOf ga20, rh20, lo20, [], fun _ => none⟩
theorem t20 (x : PT s20.ps) : (fnT E20 (bodyOf Tryz.f20) Tryz.f20.results.toList s20.ps s20.rs true x).run = g20 x.1 x.2.1.1 := by kernel_rfl
theorem hga20 : GAok Tryz.prog E20 := gaok_of (l := ga20) ⟨ok58, trivial⟩
theorem ok20 : SuOK Tryz.prog 20 s20 :=
  fn_ok (E := E20) (hTT hT) hga20 hmix (fn := Tryz.f20) (c := (bodyOf Tryz.f20)) (by kernel_rfl) (by kernel_rfl) (by kernel_rfl) rfl (loopsOK_all [] (by kernel_rfl) trivial) fun x y h => ⟨y.1, fun _ => rfl, (t20 x).trans h⟩
noncomputable def g118 (p0 : (List R5)) (p1 : Int) : Option (Unit × ((Int × Unit) × Unit)) :=
  let u1 := (subW .i64 p1 (lenI p0))
  cond (ltI u1 0) (
    some ((), (((-1), ()), ()))
  ) (
    some ((), ((u1, ()), ()))
  )
noncomputable def s118 : Su := ⟨[.c false [.sl 5 kk5], .c false [.int .i64]], [(false, [.int .i64])], true, .inl fun x => g118 x.1.1 x.2.1.1⟩
def rh118 : List SE := []
noncomputable def lo118 : Nat → Option (Lo rh118)
  | _ => none
noncomputable def ga118 : List (Nat × Su) := []
noncomputable def E118 : En := ⟨12, tt, gaOf ga118, rh118, lo118, [], fun _ => none⟩
theorem t118 (x : PT s118.ps) : (fnT E118 (bodyOf Tryz.f118) Tryz.f118.results.toList s118.ps s118.rs true x).run = g118 x.1.1 x.2.1.1 := by kernel_rfl
theorem hga118 : GAok Tryz.prog E118 := gaok_of (l := ga118) trivial
theorem ok118 : SuOK Tryz.prog 118 s118 :=
  fn_ok (E := E118) (hTT hT) hga118 hmix (fn := Tryz.f118) (c := (bodyOf Tryz.f118)) (by kernel_rfl) (by kernel_rfl) (by kernel_rfl) rfl (loopsOK_all [] (by kernel_rfl) trivial) fun x y h => ⟨y.1, fun _ => rfl, (t118 x).trans h⟩
noncomputable def g59 (p0 : ((List UInt8) × (List UInt8) × (List R5) × Unit)) (p1 : Int) : Option (Unit × ((Int × Unit) × Unit)) :=
  let u1 := (subW .i64 p1 (lenI p0.1))
  cond (ltI u1 0) (
    some ((), (((-1), ()), ()))
  ) (
    let u2 := (subW .i64 u1 (lenI p0.2.1))
    cond (ltI u2 0) (
      some ((), (((-1), ()), ()))
    ) (
      Option.bind (g118 p0.2.2.1 u2) fun y1 =>
      cond (ltI y1.2.1.1 0) (
        some ((), (((-1), ()), ()))
      ) (
        some ((), (y1.2.1, ()))
      )
    )
  )
noncomputable def s59 : Su := ⟨[.c true [.str, .str, .sl 5 kk5], .c false [.int .i64]], [(false, [.int .i64])], true, .inl fun x => g59 x.1 x.2.1.1⟩
def rh59 : List SE := []
noncomputable def lo59 : Nat → Option (Lo rh59)
  | _ => none
noncomputable def ga59 : List (Nat × Su) := [(118, s118)]
noncomputable def E59 : En := ⟨26, tt, gaOf ga59, rh59, lo59, [], fun _ => none⟩
theorem t59 (x : PT s59.ps) : (fnT E59 (bodyOf Tryz.f59) Tryz.f59.results.toList s59.ps s59.rs true x).run = g59 x.1 x.2.1.1 := by kernel_rfl
theorem hga59 : GAok Tryz.prog E59 := gaok_of (l := ga59) ⟨ok118, trivial⟩
theorem ok59 : SuOK Tryz.prog 59 s59 :=
  fn_ok (E := E59) (hTT hT) hga59 hmix (fn := Tryz.f59) (c := (bodyOf Tryz.f59)) (by kernel_rfl) (by kernel_rfl) (by kernel_rfl) rfl (loopsOK_all [] (by kernel_rfl) trivial) fun x y h => ⟨y.1, fun _ => rfl, (t59 x).trans h⟩
noncomputable def r21_0 (t0 : (List R98)) (t1 : Int) (t5 : Int) : Option (Sum ((List R98) × Int × Int × Unit) (Sum ((List R98) × Int × Int × Unit) (Int × Unit))) :=
  cond (ltI t5 (lenI t0)) (
    cond (inB t5 t0) (
    Option.bind (g59 (gt d98 t0 t5) t1) fun y1 =>
    cond (ltI y1.2.1.1 0) (
      some (.inr (.inr ((-1), ())))
    ) (
      some (.inl (t0, y1.2.1.1, (addW .i64 t5 1), ()))
    )
    ) none
  ) (
    some (.inr (.inl (t0, t1, t5, ())))
  )
noncomputable def l21_0 (t0 : (List R98)) (t1 : Int) (t5 : Int) : Option (Sum ((List R98) × Int × Int × Unit) (Int × Unit)) := loopF (fun (x : ((List R98) × Int × Int × Unit)) => r21_0 x.1 x.2.1 x.2.2.1) (t0, t1, t5, ())
noncomputable def g21 (p0 : (List R98)) (p1 : Int) : Option (Unit × ((Int × Unit) × Unit)) :=
  let u1 := (subW .i64 p1 (lenI p0))
  cond (ltI u1 0) (
    some ((), (((-1), ()), ()))
  ) (
    Option.bind (l21_0 p0 u1 0) (Sum.elim (fun y1 =>
      some ((), ((y1.2.1, ()), ()))
    ) (fun y1 =>
      some ((), (y1, ()))
    ))
  )
noncomputable def s21 : Su := ⟨[.c false [.sl 98 kk98], .c false [.int .i64]], [(false, [.int .i64])], true, .inl fun x => g21 x.1.1 x.2.1.1⟩
def sg21_0 : List SE := [.d 0 (.sl 98 kk98), .d 1 (.int .i64), .d 5 (.int .i64)]
def rh21 : List SE := [.d 4 (.int .i64)]
noncomputable def lo21 : Nat → Option (Lo rh21)
  | 0 => some ⟨sg21_0, fun x => l21_0 x.1 x.2.1 x.2.2.1⟩
  | _ => none
noncomputable def ga21 : List (Nat × Su) := [(59, s59)]
noncomputable def E21 : En := ⟨27, tt, gaOf ga21, rh21, lo21, [], fun _ => none⟩
theorem t21_0 (x : SigT sg21_0) : (roundT E21 0 sg21_0 (loopOf 0 (bodyOf Tryz.f21)) x).run = r21_0 x.1 x.2.1 x.2.2.1 := by kernel_rfl
theorem t21 (x : PT s21.ps) : (fnT E21 (bodyOf Tryz.f21) Tryz.f21.results.toList s21.ps s21.rs true x).run = g21 x.1.1 x.2.1.1 := by kernel_rfl
theorem hga21 : GAok Tryz.prog E21 := gaok_of (l := ga21) ⟨ok59, trivial⟩
theorem L21_0 : LoopSem Tryz.prog E21 0 (.loop (loopOf 0 (bodyOf Tryz.f21))) ⟨sg21_0, fun x => l21_0 x.1 x.2.1 x.2.2.1⟩ :=
  sem_of (hTT hT) hga21 hmix (step := fun (x : SigT sg21_0) => r21_0 x.1 x.2.1 x.2.2.1) t21_0 (loopsOK_all [] (by kernel_rfl) trivial)
theorem ok21 : SuOK Tryz.prog 21 s21 :=
  fn_ok (E := E21) (hTT hT) hga21 hmix (fn := Tryz.f21) (c := (bodyOf Tryz.f21)) (by kernel_rfl) (by kernel_rfl) (by kernel_rfl) rfl (loopsOK_all [(0, .loop (loopOf 0 (bodyOf Tryz.f21)))] (by kernel_rfl) ⟨semL rfl L21_0, trivial⟩) fun x y h => ⟨y.1, fun _ => rfl, (t21 x).trans h⟩
noncomputable def g5 (p0 : ((List UInt8) × Int × Int × Int × Int × (List R93) × Int × Int × (List R3) × (List R3) × (List R98) × Unit)) (p1 : Int) : Option (Unit × ((Int × Unit) × Unit)) :=
  let u1 := (subW .i64 p1 (lenI p0.1))
  cond (ltI u1 0) (
    some ((), (((-1), ()), ()))
  ) (
    Option.bind (g19 p0.2.2.2.2.2.1 u1) fun y1 =>
    cond (ltI y1.2.1.1 0) (
      some ((), (((-1), ()), ()))
    ) (
      Option.bind (g20 (p0.2.2.2.2.2.2.1, p0.2.2.2.2.2.2.2.1, p0.2.2.2.2.2.2.2.2.1, p0.2.2.2.2.2.2.2.2.2.1, ()) y1.2.1.1) fun y2 =>
      cond (ltI y2.2.1.1 0) (
        some ((), (((-1), ()), ()))
      ) (
        Option.bind (g21 p0.2.2.2.2.2.2.2.2.2.2.1 y2.2.1.1) fun y3 =>
        cond (ltI y3.2.1.1 0) (
          some ((), (((-1), ()), ()))
        ) (
          some ((), (y3.2.1, ()))
        )
      )
    )
  )
noncomputable def s5 : Su := ⟨[.c true [.str, .int .i64, .int .i64, .int .i64, .int .i64, .sl 93 kk93, .int .i64, .int .i64, .sl 3 kk3, .sl 3 kk3, .sl 98 kk98], .c false [.int .i64]], [(false, [.int .i64])], true, .inl fun x => g5 x.1 x.2.1.1⟩
def rh5 : List SE := []
noncomputable def lo5 : Nat → Option (Lo rh5)
  | _ => none
noncomputable def ga5 : List (Nat × Su) := [(19, s19), (20, s20), (21, s21)]
noncomputable def E5 : En := ⟨31, tt, gaOf ga5, rh5, lo5, [], fun _ => none⟩
theorem t5 (x : PT s5.ps) : (fnT E5 (bodyOf Tryz.f5) Tryz.f5.results.toList s5.ps s5.rs true x).run = g5 x.1 x.2.1.1 := by kernel_rfl
theorem hga5 : GAok Tryz.prog E5 := gaok_of (l := ga5) ⟨ok19, ok20, ok21, trivial⟩
theorem ok5 : SuOK Tryz.prog 5 s5 :=
  fn_ok (E := E5) (hTT hT) hga5 hmix (fn := Tryz.f5) (c := (bodyOf Tryz.f5)) (by kernel_rfl) (by kernel_rfl) (by kernel_rfl) rfl (loopsOK_all [] (by kernel_rfl) trivial) fun x y h => ⟨y.1, fun _ => rfl, (t5 x).trans h⟩
noncomputable def g70 (p0 : ((List UInt8) × Int × Int × Unit)) : Option (Unit × (((List UInt8) × Int × Int × Unit) × Unit)) :=
  some ((), (p0, ()))
noncomputable def s70 : Su := ⟨[.c true [.str, .int .i64, .int .i64]], [(true, [.str, .int .i64, .int .i64])], true, .inl fun x => g70 x.1⟩
def rh70 : List SE := []
noncomputable def lo70 : Nat → Option (Lo rh70)
  | _ => none
noncomputable def ga70 : List (Nat × Su) := []
noncomputable def E70 : En := ⟨14, tt, gaOf ga70, rh70, lo70, [], fun _ => none⟩
theorem t70 (x : PT s70.ps) : (fnT E70 (bodyOf Tryz.f70) Tryz.f70.results.toList s70.ps s70.rs true x).run = g70 x.1 := by kernel_rfl
theorem hga70 : GAok Tryz.prog E70 := gaok_of (l := ga70) trivial
theorem ok70 : SuOK Tryz.prog 70 s70 :=
  fn_ok (E := E70) (hTT hT) hga70 hmix (fn := Tryz.f70) (c := (bodyOf Tryz.f70)) (by kernel_rfl) (by kernel_rfl) (by kernel_rfl) rfl (loopsOK_all [] (by kernel_rfl) trivial) fun x y h => ⟨y.1, fun _ => rfl, (t70 x).trans h⟩
noncomputable def r26_0 (t0 : (List R93)) (t3 : (List R108)) (t4 : Int) : Option (Sum ((List R93) × (List R108) × Int × Unit) (Sum ((List R93) × (List R108) × Int × Unit) Unit)) :=
  cond (ltI t4 (lenI t0)) (
    cond (inB t4 t0) (
    Option.bind (g70 (gt d93 t0 t4)) fun y1 =>
    cond (inB t4 t3) (
    let u1 := (gt d108 t3 t4)
    let u2 := (stI t3 t4 (y1.2.1.1, u1.2.1, u1.2.2.1, ()))
    let u3 := (gt d108 u2 t4)
    let u4 := (stI u2 t4 (u3.1, y1.2.1.2.1, u3.2.2.1, ()))
    let u5 := (gt d108 u4 t4)
    some (.inl (t0, (stI u4 t4 (u5.1, u5.2.1, y1.2.1.2.2.1, ())), (addW .i64 t4 1), ()))
    ) none
    ) none
  ) (
    some (.inr (.inl (t0, t3, t4, ())))
  )
noncomputable def l26_0 (t0 : (List R93)) (t3 : (List R108)) (t4 : Int) : Option (Sum ((List R93) × (List R108) × Int × Unit) Unit) := loopF (fun (x : ((List R93) × (List R108) × Int × Unit)) => r26_0 x.1 x.2.1 x.2.2.1) (t0, t3, t4, ())
noncomputable def g26 (p0 : (List R93)) : Option (Unit × (((List R108) × Unit) × Unit)) :=
  let u1 := (lenI p0)
  cond (mkB 32 u1) (
  Option.bind (l26_0 p0 (repI d108 u1) 0) (Sum.elim (fun y1 =>
    some ((), ((y1.2.1, ()), ()))
  ) (fun y1 =>
    none
  ))
  ) none
noncomputable def s26 : Su := ⟨[.c false [.sl 93 kk93]], [(false, [.sl 108 kk108])], true, .inl fun x => g26 x.1.1⟩
def sg26_0 : List SE := [.d 0 (.sl 93 kk93), .own 3 (.sl 108 kk108), .d 4 (.int .i64)]
def rh26 : List SE := []
noncomputable def lo26 : Nat → Option (Lo rh26)
  | 0 => some ⟨sg26_0, fun x => l26_0 x.1 x.2.1 x.2.2.1⟩
  | _ => none
noncomputable def ga26 : List (Nat × Su) := [(70, s70)]
noncomputable def E26 : En := ⟨23, tt, gaOf ga26, rh26, lo26, [], fun _ => none⟩
theorem t26_0 (x : SigT sg26_0) : (roundT E26 0 sg26_0 (loopOf 0 (bodyOf Tryz.f26)) x).run = r26_0 x.1 x.2.1 x.2.2.1 := by kernel_rfl
theorem t26 (x : PT s26.ps) : (fnT E26 (bodyOf Tryz.f26) Tryz.f26.results.toList s26.ps s26.rs true x).run = g26 x.1.1 := by kernel_rfl
theorem hga26 : GAok Tryz.prog E26 := gaok_of (l := ga26) ⟨ok70, trivial⟩
theorem L26_0 : LoopSem Tryz.prog E26 0 (.loop (loopOf 0 (bodyOf Tryz.f26))) ⟨sg26_0, fun x => l26_0 x.1 x.2.1 x.2.2.1⟩ :=
  sem_of (hTT hT) hga26 hmix (step := fun (x : SigT sg26_0) => r26_0 x.1 x.2.1 x.2.2.1) t26_0 (loopsOK_all [] (by kernel_rfl) trivial)
theorem ok26 : SuOK Tryz.prog 26 s26 :=
  fn_ok (E := E26) (hTT hT) hga26 hmix (fn := Tryz.f26) (c := (bodyOf Tryz.f26)) (by kernel_rfl) (by kernel_rfl) (by kernel_rfl) rfl (loopsOK_all [(0, .loop (loopOf 0 (bodyOf Tryz.f26)))] (by kernel_rfl) ⟨semL rfl L26_0, trivial⟩) fun x y h => ⟨y.1, fun _ => rfl, (t26 x).trans h⟩
noncomputable def r71_0 (t0 : (List R3)) (t3 : (List R3)) (t4 : Int) : Option (Sum ((List R3) × (List R3) × Int × Unit) (Sum ((List R3) × (List R3) × Int × Unit) Unit)) :=
  cond (ltI t4 (lenI t0)) (
    cond (inB t4 t0) (
    cond (inB t4 t3) (
    some (.inl (t0, (stI t3 t4 (gt d3 t0 t4)), (addW .i64 t4 1), ()))
    ) none
    ) none
  ) (
    some (.inr (.inl (t0, t3, t4, ())))
  )
noncomputable def l71_0 (t0 : (List R3)) (t3 : (List R3)) (t4 : Int) : Option (Sum ((List R3) × (List R3) × Int × Unit) Unit) := loopF (fun (x : ((List R3) × (List R3) × Int × Unit)) => r71_0 x.1 x.2.1 x.2.2.1) (t0, t3, t4, ())
noncomputable def g71 (p0 : (List R3)) : Option (Unit × (((List R3) × Unit) × Unit)) :=
  let u1 := (lenI p0)
  cond (mkB 8 u1) (
  Option.bind (l71_0 p0 (repI d3 u1) 0) (Sum.elim (fun y1 =>
    some ((), ((y1.2.1, ()), ()))
  ) (fun y1 =>
    none
  ))
  ) none
noncomputable def s71 : Su := ⟨[.c false [.sl 3 kk3]], [(false, [.sl 3 kk3])], true, .inl fun x => g71 x.1.1⟩
def sg71_0 : List SE := [.d 0 (.sl 3 kk3), .own 3 (.sl 3 kk3), .d 4 (.int .i64)]
def rh71 : List SE := []
noncomputable def lo71 : Nat → Option (Lo rh71)
  | 0 => some ⟨sg71_0, fun x => l71_0 x.1 x.2.1 x.2.2.1⟩
  | _ => none
noncomputable def ga71 : List (Nat × Su) := []
noncomputable def E71 : En := ⟨22, tt, gaOf ga71, rh71, lo71, [], fun _ => none⟩
theorem t71_0 (x : SigT sg71_0) : (roundT E71 0 sg71_0 (loopOf 0 (bodyOf Tryz.f71)) x).run = r71_0 x.1 x.2.1 x.2.2.1 := by kernel_rfl
theorem t71 (x : PT s71.ps) : (fnT E71 (bodyOf Tryz.f71) Tryz.f71.results.toList s71.ps s71.rs true x).run = g71 x.1.1 := by kernel_rfl
theorem hga71 : GAok Tryz.prog E71 := gaok_of (l := ga71) trivial
theorem L71_0 : LoopSem Tryz.prog E71 0 (.loop (loopOf 0 (bodyOf Tryz.f71))) ⟨sg71_0, fun x => l71_0 x.1 x.2.1 x.2.2.1⟩ :=
  sem_of (hTT hT) hga71 hmix (step := fun (x : SigT sg71_0) => r71_0 x.1 x.2.1 x.2.2.1) t71_0 (loopsOK_all [] (by kernel_rfl) trivial)
theorem ok71 : SuOK Tryz.prog 71 s71 :=
  fn_ok (E := E71) (hTT hT) hga71 hmix (fn := Tryz.f71) (c := (bodyOf Tryz.f71)) (by kernel_rfl) (by kernel_rfl) (by kernel_rfl) rfl (loopsOK_all [(0, .loop (loopOf 0 (bodyOf Tryz.f71)))] (by kernel_rfl) ⟨semL rfl L71_0, trivial⟩) fun x y h => ⟨y.1, fun _ => rfl, (t71 x).trans h⟩
noncomputable def g27 (p0 : (Int × Int × (List R3) × (List R3) × Unit)) : Option (Unit × ((Int × Int × (List R3) × (List R3) × Unit) × Unit)) :=
  Option.bind (g71 p0.2.2.1) fun y1 =>
  Option.bind (g71 p0.2.2.2.1) fun y2 =>
  some ((), ((p0.1, p0.2.1, y1.2.1.1, y2.2.1.1, ()), ()))
noncomputable def s27 : Su := ⟨[.c true [.int .i64, .int .i64, .sl 3 kk3, .sl 3 kk3]], [(true, [.int .i64, .int .i64, .sl 3 kk3, .sl 3 kk3])], true, .inl fun x => g27 x.1⟩
def rh27 : List SE := []
noncomputable def lo27 : Nat → Option (Lo rh27)
  | _ => none
noncomputable def ga27 : List (Nat × Su) := [(71, s71)]
noncomputable def E27 : En := ⟨19, tt, gaOf ga27, rh27, lo27, [], fun _ => none⟩
theorem t27 (x : PT s27.ps) : (fnT E27 (bodyOf Tryz.f27) Tryz.f27.results.toList s27.ps s27.rs true x).run = g27 x.1 := by kernel_rfl
theorem hga27 : GAok Tryz.prog E27 := gaok_of (l := ga27) ⟨ok71, trivial⟩
theorem ok27 : SuOK Tryz.prog 27 s27 :=
  fn_ok (E := E27) (hTT hT) hga27 hmix (fn := Tryz.f27) (c := (bodyOf Tryz.f27)) (by kernel_rfl) (by kernel_rfl) (by kernel_rfl) rfl (loopsOK_all [] (by kernel_rfl) trivial) fun x y h => ⟨y.1, fun _ => rfl, (t27 x).trans h⟩
noncomputable def r125_0 (t0 : (List R5)) (t3 : (List R5)) (t4 : Int) : Option (Sum ((List R5) × (List R5) × Int × Unit) (Sum ((List R5) × (List R5) × Int × Unit) Unit)) :=
  cond (ltI t4 (lenI t0)) (
    cond (inB t4 t0) (
    cond (inB t4 t3) (
    some (.inl (t0, (stI t3 t4 (gt d5 t0 t4)), (addW .i64 t4 1), ()))
    ) none
    ) none
  ) (
    some (.inr (.inl (t0, t3, t4, ())))
  )
noncomputable def l125_0 (t0 : (List R5)) (t3 : (List R5)) (t4 : Int) : Option (Sum ((List R5) × (List R5) × Int × Unit) Unit) := loopF (fun (x : ((List R5) × (List R5) × Int × Unit)) => r125_0 x.1 x.2.1 x.2.2.1) (t0, t3, t4, ())
noncomputable def g125 (p0 : (List R5)) : Option (Unit × (((List R5) × Unit) × Unit)) :=
  let u1 := (lenI p0)
  cond (mkB 1 u1) (
  Option.bind (l125_0 p0 (repI d5 u1) 0) (Sum.elim (fun y1 =>
    some ((), ((y1.2.1, ()), ()))
  ) (fun y1 =>
    none
  ))
  ) none
noncomputable def s125 : Su := ⟨[.c false [.sl 5 kk5]], [(false, [.sl 5 kk5])], true, .inl fun x => g125 x.1.1⟩
def sg125_0 : List SE := [.d 0 (.sl 5 kk5), .own 3 (.sl 5 kk5), .d 4 (.int .i64)]
def rh125 : List SE := []
noncomputable def lo125 : Nat → Option (Lo rh125)
  | 0 => some ⟨sg125_0, fun x => l125_0 x.1 x.2.1 x.2.2.1⟩
  | _ => none
noncomputable def ga125 : List (Nat × Su) := []
noncomputable def E125 : En := ⟨22, tt, gaOf ga125, rh125, lo125, [], fun _ => none⟩
theorem t125_0 (x : SigT sg125_0) : (roundT E125 0 sg125_0 (loopOf 0 (bodyOf Tryz.f125)) x).run = r125_0 x.1 x.2.1 x.2.2.1 := by kernel_rfl
theorem t125 (x : PT s125.ps) : (fnT E125 (bodyOf Tryz.f125) Tryz.f125.results.toList s125.ps s125.rs true x).run = g125 x.1.1 := by kernel_rfl
theorem hga125 : GAok Tryz.prog E125 := gaok_of (l := ga125) trivial
theorem L125_0 : LoopSem Tryz.prog E125 0 (.loop (loopOf 0 (bodyOf Tryz.f125))) ⟨sg125_0, fun x => l125_0 x.1 x.2.1 x.2.2.1⟩ :=
  sem_of (hTT hT) hga125 hmix (step := fun (x : SigT sg125_0) => r125_0 x.1 x.2.1 x.2.2.1) t125_0 (loopsOK_all [] (by kernel_rfl) trivial)
theorem ok125 : SuOK Tryz.prog 125 s125 :=
  fn_ok (E := E125) (hTT hT) hga125 hmix (fn := Tryz.f125) (c := (bodyOf Tryz.f125)) (by kernel_rfl) (by kernel_rfl) (by kernel_rfl) rfl (loopsOK_all [(0, .loop (loopOf 0 (bodyOf Tryz.f125)))] (by kernel_rfl) ⟨semL rfl L125_0, trivial⟩) fun x y h => ⟨y.1, fun _ => rfl, (t125 x).trans h⟩
noncomputable def g72 (p0 : ((List UInt8) × (List UInt8) × (List R5) × Unit)) : Option (Unit × (((List UInt8) × (List UInt8) × (List R5) × Unit) × Unit)) :=
  Option.bind (g125 p0.2.2.1) fun y1 =>
  some ((), ((p0.1, p0.2.1, y1.2.1.1, ()), ()))
noncomputable def s72 : Su := ⟨[.c true [.str, .str, .sl 5 kk5]], [(true, [.str, .str, .sl 5 kk5])], true, .inl fun x => g72 x.1⟩
def rh72 : List SE := []
noncomputable def lo72 : Nat → Option (Lo rh72)
  | _ => none
noncomputable def ga72 : List (Nat × Su) := [(125, s125)]
noncomputable def E72 : En := ⟨15, tt, gaOf ga72, rh72, lo72, [], fun _ => none⟩
theorem t72 (x : PT s72.ps) : (fnT E72 (bodyOf Tryz.f72) Tryz.f72.results.toList s72.ps s72.rs true x).run = g72 x.1 := by kernel_rfl
theorem hga72 : GAok Tryz.prog E72 := gaok_of (l := ga72) ⟨ok125, trivial⟩
theorem ok72 : SuOK Tryz.prog 72 s72 :=
  fn_ok (E := E72) (hTT hT) hga72 hmix (fn := Tryz.f72) (c := (bodyOf Tryz.f72)) (by kernel_rfl) (by kernel_rfl) (by kernel_rfl) rfl (loopsOK_all [] (by kernel_rfl) trivial) fun x y h => ⟨y.1, fun _ => rfl, (t72 x).trans h⟩
noncomputable def r28_0 (t0 : (List R98)) (t3 : (List R111)) (t4 : Int) : Option (Sum ((List R98) × (List R111) × Int × Unit) (Sum ((List R98) × (List R111) × Int × Unit) Unit)) :=
  cond (ltI t4 (lenI t0)) (
    cond (inB t4 t0) (
    Option.bind (g72 (gt d98 t0 t4)) fun y1 =>
    cond (inB t4 t3) (
    let u1 := (gt d111 t3 t4)
    let u2 := (stI t3 t4 (y1.2.1.1, u1.2.1, u1.2.2.1, ()))
    let u3 := (gt d111 u2 t4)
    let u4 := (stI u2 t4 (u3.1, y1.2.1.2.1, u3.2.2.1, ()))
    let u5 := (gt d111 u4 t4)
    some (.inl (t0, (stI u4 t4 (u5.1, u5.2.1, y1.2.1.2.2.1, ())), (addW .i64 t4 1), ()))
    ) none
    ) none
  ) (
    some (.inr (.inl (t0, t3, t4, ())))
  )
noncomputable def l28_0 (t0 : (List R98)) (t3 : (List R111)) (t4 : Int) : Option (Sum ((List R98) × (List R111) × Int × Unit) Unit) := loopF (fun (x : ((List R98) × (List R111) × Int × Unit)) => r28_0 x.1 x.2.1 x.2.2.1) (t0, t3, t4, ())
noncomputable def g28 (p0 : (List R98)) : Option (Unit × (((List R111) × Unit) × Unit)) :=
  let u1 := (lenI p0)
  cond (mkB 56 u1) (
  Option.bind (l28_0 p0 (repI d111 u1) 0) (Sum.elim (fun y1 =>
    some ((), ((y1.2.1, ()), ()))
  ) (fun y1 =>
    none
  ))
  ) none
noncomputable def s28 : Su := ⟨[.c false [.sl 98 kk98]], [(false, [.sl 111 kk111])], true, .inl fun x => g28 x.1.1⟩
def sg28_0 : List SE := [.d 0 (.sl 98 kk98), .own 3 (.sl 111 kk111), .d 4 (.int .i64)]
def rh28 : List SE := []
noncomputable def lo28 : Nat → Option (Lo rh28)
  | 0 => some ⟨sg28_0, fun x => l28_0 x.1 x.2.1 x.2.2.1⟩
  | _ => none
noncomputable def ga28 : List (Nat × Su) := [(72, s72)]
noncomputable def E28 : En := ⟨23, tt, gaOf ga28, rh28, lo28, [], fun _ => none⟩
theorem t28_0 (x : SigT sg28_0) : (roundT E28 0 sg28_0 (loopOf 0 (bodyOf Tryz.f28)) x).run = r28_0 x.1 x.2.1 x.2.2.1 := by kernel_rfl
theorem t28 (x : PT s28.ps) : (fnT E28 (bodyOf Tryz.f28) Tryz.f28.results.toList s28.ps s28.rs true x).run = g28 x.1.1 := by kernel_rfl
theorem hga28 : GAok Tryz.prog E28 := gaok_of (l := ga28) ⟨ok72, trivial⟩
theorem L28_0 : LoopSem Tryz.prog E28 0 (.loop (loopOf 0 (bodyOf Tryz.f28))) ⟨sg28_0, fun x => l28_0 x.1 x.2.1 x.2.2.1⟩ :=
  sem_of (hTT hT) hga28 hmix (step := fun (x : SigT sg28_0) => r28_0 x.1 x.2.1 x.2.2.1) t28_0 (loopsOK_all [] (by kernel_rfl) trivial)
theorem ok28 : SuOK Tryz.prog 28 s28 :=
  fn_ok (E := E28) (hTT hT) hga28 hmix (fn := Tryz.f28) (c := (bodyOf Tryz.f28)) (by kernel_rfl) (by kernel_rfl) (by kernel_rfl) rfl (loopsOK_all [(0, .loop (loopOf 0 (bodyOf Tryz.f28)))] (by kernel_rfl) ⟨semL rfl L28_0, trivial⟩) fun x y h => ⟨y.1, fun _ => rfl, (t28 x).trans h⟩
noncomputable def g7 (p0 : ((List UInt8) × Int × Int × Int × Int × (List R93) × Int × Int × (List R3) × (List R3) × (List R98) × Unit)) : Option (Unit × (((List UInt8) × Int × Int × Int × Int × (List R108) × Int × Int × (List R3) × (List R3) × (List R111) × Unit) × Unit)) :=
  Option.bind (g26 p0.2.2.2.2.2.1) fun y1 =>
  Option.bind (g27 (p0.2.2.2.2.2.2.1, p0.2.2.2.2.2.2.2.1, p0.2.2.2.2.2.2.2.2.1, p0.2.2.2.2.2.2.2.2.2.1, ())) fun y2 =>
  Option.bind (g28 p0.2.2.2.2.2.2.2.2.2.2.1) fun y3 =>
  some ((), ((p0.1, p0.2.1, p0.2.2.1, p0.2.2.2.1, p0.2.2.2.2.1, y1.2.1.1, y2.2.1.1, y2.2.1.2.1, y2.2.1.2.2.1, y2.2.1.2.2.2.1, y3.2.1.1, ()), ()))
noncomputable def s7 : Su := ⟨[.c true [.str, .int .i64, .int .i64, .int .i64, .int .i64, .sl 93 kk93, .int .i64, .int .i64, .sl 3 kk3, .sl 3 kk3, .sl 98 kk98]], [(true, [.str, .int .i64, .int .i64, .int .i64, .int .i64, .sl 108 kk108, .int .i64, .int .i64, .sl 3 kk3, .sl 3 kk3, .sl 111 kk111])], true, .inl fun x => g7 x.1⟩
def rh7 : List SE := []
noncomputable def lo7 : Nat → Option (Lo rh7)
  | _ => none
noncomputable def ga7 : List (Nat × Su) := [(26, s26), (27, s27), (28, s28)]
noncomputable def E7 : En := ⟨32, tt, gaOf ga7, rh7, lo7, [], fun _ => none⟩
theorem t7 (x : PT s7.ps) : (fnT E7 (bodyOf Tryz.f7) Tryz.f7.results.toList s7.ps s7.rs true x).run = g7 x.1 := by kernel_rfl
theorem hga7 : GAok Tryz.prog E7 := gaok_of (l := ga7) ⟨ok26, ok27, ok28, trivial⟩
theorem ok7 : SuOK Tryz.prog 7 s7 :=
  fn_ok (E := E7) (hTT hT) hga7 hmix (fn := Tryz.f7) (c := (bodyOf Tryz.f7)) (by kernel_rfl) (by kernel_rfl) (by kernel_rfl) rfl (loopsOK_all [] (by kernel_rfl) trivial) fun x y h => ⟨y.1, fun _ => rfl, (t7 x).trans h⟩
noncomputable def r84_0 (t0 : (List UInt8)) (t3 : Int) : Option (Sum ((List UInt8) × Int × Unit) (Sum ((List UInt8) × Int × Unit) (Bool × Unit))) :=
  cond (ltI t3 (lenI t0)) (
    cond (inB t3 t0) (
    let u1 := (bytI t0 t3)
    cond (ltI u1 48) (
      some (.inr (.inr (false, ())))
    ) (
      cond (inB t3 t0) (
      cond (ltI 57 u1) (
        some (.inr (.inr (false, ())))
      ) (
        some (.inl (t0, (addW .i64 t3 1), ()))
      )
      ) none
    )
    ) none
  ) (
    some (.inr (.inl (t0, t3, ())))
  )
noncomputable def l84_0 (t0 : (List UInt8)) (t3 : Int) : Option (Sum ((List UInt8) × Int × Unit) (Bool × Unit)) := loopF (fun (x : ((List UInt8) × Int × Unit)) => r84_0 x.1 x.2.1) (t0, t3, ())
noncomputable def g84 (p0 : (List UInt8)) : Option (Unit × ((Bool × Unit) × Unit)) :=
  Option.bind (l84_0 p0 0) (Sum.elim (fun y1 =>
    some ((), (((ltI 0 (lenI y1.1)), ()), ()))
  ) (fun y1 =>
    some ((), (y1, ()))
  ))
noncomputable def s84 : Su := ⟨[.c false [.str]], [(false, [.bool])], true, .inl fun x => g84 x.1.1⟩
def sg84_0 : List SE := [.d 0 (.str), .d 3 (.int .i64)]
def rh84 : List SE := [.d 2 (.bool)]
noncomputable def lo84 : Nat → Option (Lo rh84)
  | 0 => some ⟨sg84_0, fun x => l84_0 x.1 x.2.1⟩
  | _ => none
noncomputable def ga84 : List (Nat × Su) := []
noncomputable def E84 : En := ⟨23, tt, gaOf ga84, rh84, lo84, [], fun _ => none⟩
theorem t84_0 (x : SigT sg84_0) : (roundT E84 0 sg84_0 (loopOf 0 (bodyOf Tryz.f84)) x).run = r84_0 x.1 x.2.1 := by kernel_rfl
theorem t84 (x : PT s84.ps) : (fnT E84 (bodyOf Tryz.f84) Tryz.f84.results.toList s84.ps s84.rs true x).run = g84 x.1.1 := by kernel_rfl
theorem hga84 : GAok Tryz.prog E84 := gaok_of (l := ga84) trivial
theorem L84_0 : LoopSem Tryz.prog E84 0 (.loop (loopOf 0 (bodyOf Tryz.f84))) ⟨sg84_0, fun x => l84_0 x.1 x.2.1⟩ :=
  sem_of (hTT hT) hga84 hmix (step := fun (x : SigT sg84_0) => r84_0 x.1 x.2.1) t84_0 (loopsOK_all [] (by kernel_rfl) trivial)
theorem ok84 : SuOK Tryz.prog 84 s84 :=
  fn_ok (E := E84) (hTT hT) hga84 hmix (fn := Tryz.f84) (c := (bodyOf Tryz.f84)) (by kernel_rfl) (by kernel_rfl) (by kernel_rfl) rfl (loopsOK_all [(0, .loop (loopOf 0 (bodyOf Tryz.f84)))] (by kernel_rfl) ⟨semL rfl L84_0, trivial⟩) fun x y h => ⟨y.1, fun _ => rfl, (t84 x).trans h⟩
noncomputable def r166_0 (t0 : (List UInt8)) (t3 : Int) (t4 : Bool) (t5 : Int) : Option (Sum ((List UInt8) × Int × Bool × Int × Unit) (Sum ((List UInt8) × Int × Bool × Int × Unit) Unit)) :=
  cond (leI 0 t5) (
    cond (inB t5 t0) (
    cond t4 (
      let u1 := (subW .i64 (cvtW .i64 (bytI t0 t5)) 48)
      let u2 := (mulW .i64 2 u1)
      cond (ltI 9 u2) (
        let u3 := (subW .i64 t5 1)
        some (.inl (t0, (remI (addW .i64 t3 (subW .i64 u2 9)) 10), (!t4), u3, ()))
      ) (
        let u3 := (subW .i64 t5 1)
        some (.inl (t0, (remI (addW .i64 t3 u2) 10), (!t4), u3, ()))
      )
    ) (
      let u1 := (subW .i64 (cvtW .i64 (bytI t0 t5)) 48)
      let u2 := (subW .i64 t5 1)
      some (.inl (t0, (remI (addW .i64 t3 u1) 10), (!t4), u2, ()))
    )
    ) none
  ) (
    some (.inr (.inl (t0, t3, t4, t5, ())))
  )
noncomputable def l166_0 (t0 : (List UInt8)) (t3 : Int) (t4 : Bool) (t5 : Int) : Option (Sum ((List UInt8) × Int × Bool × Int × Unit) Unit) := loopF (fun (x : ((List UInt8) × Int × Bool × Int × Unit)) => r166_0 x.1 x.2.1 x.2.2.1 x.2.2.2.1) (t0, t3, t4, t5, ())
noncomputable def g166 (p0 : (List UInt8)) : Option (Unit × ((Int × Unit) × Unit)) :=
  Option.bind (g84 p0) fun y1 =>
  cond (!y1.2.1.1) (
    some ((), (((-1), ()), ()))
  ) (
    Option.bind (l166_0 p0 0 true (subW .i64 (lenI p0) 1)) (Sum.elim (fun y2 =>
      some ((), (((remI (subW .i64 10 y2.2.1) 10), ()), ()))
    ) (fun y2 =>
      none
    ))
  )
noncomputable def s166 : Su := ⟨[.c false [.str]], [(false, [.int .i64])], true, .inl fun x => g166 x.1.1⟩
def sg166_0 : List SE := [.d 0 (.str), .d 3 (.int .i64), .d 4 (.bool), .d 5 (.int .i64)]
def rh166 : List SE := []
noncomputable def lo166 : Nat → Option (Lo rh166)
  | 0 => some ⟨sg166_0, fun x => l166_0 x.1 x.2.1 x.2.2.1 x.2.2.2.1⟩
  | _ => none
noncomputable def ga166 : List (Nat × Su) := [(84, s84)]
noncomputable def E166 : En := ⟨38, tt, gaOf ga166, rh166, lo166, [], fun _ => none⟩
theorem t166_0 (x : SigT sg166_0) : (roundT E166 0 sg166_0 (loopOf 0 (bodyOf Tryz.f166)) x).run = r166_0 x.1 x.2.1 x.2.2.1 x.2.2.2.1 := by kernel_rfl
theorem t166 (x : PT s166.ps) : (fnT E166 (bodyOf Tryz.f166) Tryz.f166.results.toList s166.ps s166.rs true x).run = g166 x.1.1 := by kernel_rfl
theorem hga166 : GAok Tryz.prog E166 := gaok_of (l := ga166) ⟨ok84, trivial⟩
theorem L166_0 : LoopSem Tryz.prog E166 0 (.loop (loopOf 0 (bodyOf Tryz.f166))) ⟨sg166_0, fun x => l166_0 x.1 x.2.1 x.2.2.1 x.2.2.2.1⟩ :=
  sem_of (hTT hT) hga166 hmix (step := fun (x : SigT sg166_0) => r166_0 x.1 x.2.1 x.2.2.1 x.2.2.2.1) t166_0 (loopsOK_all [] (by kernel_rfl) trivial)
theorem ok166 : SuOK Tryz.prog 166 s166 :=
  fn_ok (E := E166) (hTT hT) hga166 hmix (fn := Tryz.f166) (c := (bodyOf Tryz.f166)) (by kernel_rfl) (by kernel_rfl) (by kernel_rfl) rfl (loopsOK_all [(0, .loop (loopOf 0 (bodyOf Tryz.f166)))] (by kernel_rfl) ⟨semL rfl L166_0, trivial⟩) fun x y h => ⟨y.1, fun _ => rfl, (t166 x).trans h⟩
noncomputable def g119 (p0 : (List UInt8)) : Option (Unit × ((Bool × Unit) × Unit)) :=
  Option.bind (g84 p0) fun y1 =>
  let u1 := (lenI p0)
  cond (cond (!y1.2.1.1) true (ltI u1 2)) (
    some ((), ((false, ()), ()))
  ) (
    let u2 := (subW .i64 u1 1)
    cond (cutB 0 u2 p0) (
    Option.bind (g166 (sub p0 0 u2)) fun y2 =>
    cond (inB u2 p0) (
    some ((), (((eqI y2.2.1.1 (subW .i64 (cvtW .i64 (bytI p0 u2)) 48)), ()), ()))
    ) none
    ) none
  )
noncomputable def s119 : Su := ⟨[.c false [.str]], [(false, [.bool])], true, .inl fun x => g119 x.1.1⟩
def rh119 : List SE := []
noncomputable def lo119 : Nat → Option (Lo rh119)
  | _ => none
noncomputable def ga119 : List (Nat × Su) := [(84, s84), (166, s166)]
noncomputable def E119 : En := ⟨25, tt, gaOf ga119, rh119, lo119, [], fun _ => none⟩
theorem t119 (x : PT s119.ps) : (fnT E119 (bodyOf Tryz.f119) Tryz.f119.results.toList s119.ps s119.rs true x).run = g119 x.1.1 := by kernel_rfl
theorem hga119 : GAok Tryz.prog E119 := gaok_of (l := ga119) ⟨ok84, ok166, trivial⟩
theorem ok119 : SuOK Tryz.prog 119 s119 :=
  fn_ok (E := E119) (hTT hT) hga119 hmix (fn := Tryz.f119) (c := (bodyOf Tryz.f119)) (by kernel_rfl) (by kernel_rfl) (by kernel_rfl) rfl (loopsOK_all [] (by kernel_rfl) trivial) fun x y h => ⟨y.1, fun _ => rfl, (t119 x).trans h⟩
noncomputable def g60 (p0 : (List UInt8)) : Option (Unit × ((Bool × Unit) × Unit)) :=
  cond (leI (lenI p0) 19) (
    Option.bind (g119 p0) fun y1 =>
    some ((), (y1.2.1, ()))
  ) (
    some ((), ((false, ()), ()))
  )
noncomputable def s60 : Su := ⟨[.c false [.str]], [(false, [.bool])], true, .inl fun x => g60 x.1.1⟩
def rh60 : List SE := []
noncomputable def lo60 : Nat → Option (Lo rh60)
  | _ => none
noncomputable def ga60 : List (Nat × Su) := [(119, s119)]
noncomputable def E60 : En := ⟨10, tt, gaOf ga60, rh60, lo60, [], fun _ => none⟩
theorem t60 (x : PT s60.ps) : (fnT E60 (bodyOf Tryz.f60) Tryz.f60.results.toList s60.ps s60.rs true x).run = g60 x.1.1 := by kernel_rfl
theorem hga60 : GAok Tryz.prog E60 := gaok_of (l := ga60) ⟨ok119, trivial⟩
theorem ok60 : SuOK Tryz.prog 60 s60 :=
  fn_ok (E := E60) (hTT hT) hga60 hmix (fn := Tryz.f60) (c := (bodyOf Tryz.f60)) (by kernel_rfl) (by kernel_rfl) (by kernel_rfl) rfl (loopsOK_all [] (by kernel_rfl) trivial) fun x y h => ⟨y.1, fun _ => rfl, (t60 x).trans h⟩
noncomputable def g61 (p0 : Int) (p1 : Int) (p2 : Int) : Option (Unit × ((Bool × Unit) × Unit)) :=
  some ((), (((cond (leI p1 p0) (leI p0 p2) false), ()), ()))
noncomputable def s61 : Su := ⟨[.c false [.int .i64], .c false [.int .i64], .c false [.int .i64]], [(false, [.bool])], true, .inl fun x => g61 x.1.1 x.2.1.1 x.2.2.1.1⟩
def rh61 : List SE := []
noncomputable def lo61 : Nat → Option (Lo rh61)
  | _ => none
noncomputable def ga61 : List (Nat × Su) := []
noncomputable def E61 : En := ⟨15, tt, gaOf ga61, rh61, lo61, [], fun _ => none⟩
theorem t61 (x : PT s61.ps) : (fnT E61 (bodyOf Tryz.f61) Tryz.f61.results.toList s61.ps s61.rs true x).run = g61 x.1.1 x.2.1.1 x.2.2.1.1 := by kernel_rfl
theorem hga61 : GAok Tryz.prog E61 := gaok_of (l := ga61) trivial
theorem ok61 : SuOK Tryz.prog 61 s61 :=
  fn_ok (E := E61) (hTT hT) hga61 hmix (fn := Tryz.f61) (c := (bodyOf Tryz.f61)) (by kernel_rfl) (by kernel_rfl) (by kernel_rfl) rfl (loopsOK_all [] (by kernel_rfl) trivial) fun x y h => ⟨y.1, fun _ => rfl, (t61 x).trans h⟩
noncomputable def g62 (p0 : Int) : Option (Unit × ((Bool × Unit) × Unit)) :=
  some ((), (((cond (leI 0 p0) (leI p0 4611686018427387904) false), ()), ()))
noncomputable def s62 : Su := ⟨[.c false [.int .i64]], [(false, [.bool])], true, .inl fun x => g62 x.1.1⟩
def rh62 : List SE := []
noncomputable def lo62 : Nat → Option (Lo rh62)
  | _ => none
noncomputable def ga62 : List (Nat × Su) := []
noncomputable def E62 : En := ⟨9, tt, gaOf ga62, rh62, lo62, [], fun _ => none⟩
theorem t62 (x : PT s62.ps) : (fnT E62 (bodyOf Tryz.f62) Tryz.f62.results.toList s62.ps s62.rs true x).run = g62 x.1.1 := by kernel_rfl
theorem hga62 : GAok Tryz.prog E62 := gaok_of (l := ga62) trivial
theorem ok62 : SuOK Tryz.prog 62 s62 :=
  fn_ok (E := E62) (hTT hT) hga62 hmix (fn := Tryz.f62) (c := (bodyOf Tryz.f62)) (by kernel_rfl) (by kernel_rfl) (by kernel_rfl) rfl (loopsOK_all [] (by kernel_rfl) trivial) fun x y h => ⟨y.1, fun _ => rfl, (t62 x).trans h⟩
noncomputable def r86_0 (t0 : (List UInt8)) (t3 : Int) : Option (Sum ((List UInt8) × Int × Unit) (Sum ((List UInt8) × Int × Unit) (Bool × Unit))) :=
  cond (ltI t3 (lenI t0)) (
    cond (inB t3 t0) (
    let u1 := (bytI t0 t3)
    cond (ltI u1 48) (
      cond (inB t3 t0) (
      cond (ltI u1 97) (
        some (.inr (.inr (false, ())))
      ) (
        cond (inB t3 t0) (
        cond (ltI 122 u1) (
          some (.inr (.inr (false, ())))
        ) (
          some (.inl (t0, (addW .i64 t3 1), ()))
        )
        ) none
      )
      ) none
    ) (
      cond (inB t3 t0) (
      cond (ltI 57 u1) (
        cond (inB t3 t0) (
        cond (ltI u1 97) (
          some (.inr (.inr (false, ())))
        ) (
          cond (inB t3 t0) (
          cond (ltI 122 u1) (
            some (.inr (.inr (false, ())))
          ) (
            some (.inl (t0, (addW .i64 t3 1), ()))
          )
          ) none
        )
        ) none
      ) (
        some (.inl (t0, (addW .i64 t3 1), ()))
      )
      ) none
    )
    ) none
  ) (
    some (.inr (.inl (t0, t3, ())))
  )
noncomputable def l86_0 (t0 : (List UInt8)) (t3 : Int) : Option (Sum ((List UInt8) × Int × Unit) (Bool × Unit)) := loopF (fun (x : ((List UInt8) × Int × Unit)) => r86_0 x.1 x.2.1) (t0, t3, ())
noncomputable def g86 (p0 : (List UInt8)) : Option (Unit × ((Bool × Unit) × Unit)) :=
  Option.bind (l86_0 p0 0) (Sum.elim (fun y1 =>
    Option.bind (g61 (lenI y1.1) 1 6) fun y2 =>
    some ((), (y2.2.1, ()))
  ) (fun y1 =>
    some ((), (y1, ()))
  ))
noncomputable def s86 : Su := ⟨[.c false [.str]], [(false, [.bool])], true, .inl fun x => g86 x.1.1⟩
def sg86_0 : List SE := [.d 0 (.str), .d 3 (.int .i64)]
def rh86 : List SE := [.d 2 (.bool)]
noncomputable def lo86 : Nat → Option (Lo rh86)
  | 0 => some ⟨sg86_0, fun x => l86_0 x.1 x.2.1⟩
  | _ => none
noncomputable def ga86 : List (Nat × Su) := [(61, s61)]
noncomputable def E86 : En := ⟨35, tt, gaOf ga86, rh86, lo86, [], fun _ => none⟩
theorem t86_0 (x : SigT sg86_0) : (roundT E86 0 sg86_0 (loopOf 0 (bodyOf Tryz.f86)) x).run = r86_0 x.1 x.2.1 := by kernel_rfl
theorem t86 (x : PT s86.ps) : (fnT E86 (bodyOf Tryz.f86) Tryz.f86.results.toList s86.ps s86.rs true x).run = g86 x.1.1 := by kernel_rfl
theorem hga86 : GAok Tryz.prog E86 := gaok_of (l := ga86) ⟨ok61, trivial⟩
theorem L86_0 : LoopSem Tryz.prog E86 0 (.loop (loopOf 0 (bodyOf Tryz.f86))) ⟨sg86_0, fun x => l86_0 x.1 x.2.1⟩ :=
  sem_of (hTT hT) hga86 hmix (step := fun (x : SigT sg86_0) => r86_0 x.1 x.2.1) t86_0 (loopsOK_all [] (by kernel_rfl) trivial)
theorem ok86 : SuOK Tryz.prog 86 s86 :=
  fn_ok (E := E86) (hTT hT) hga86 hmix (fn := Tryz.f86) (c := (bodyOf Tryz.f86)) (by kernel_rfl) (by kernel_rfl) (by kernel_rfl) rfl (loopsOK_all [(0, .loop (loopOf 0 (bodyOf Tryz.f86)))] (by kernel_rfl) ⟨semL rfl L86_0, trivial⟩) fun x y h => ⟨y.1, fun _ => rfl, (t86 x).trans h⟩
noncomputable def g23 (p0 : Int) : Option (Unit × ((Bool × Unit) × Unit)) :=
  Option.bind (g61 p0 0 1000000000) fun y1 =>
  some ((), (y1.2.1, ()))
noncomputable def s23 : Su := ⟨[.c false [.int .i64]], [(false, [.bool])], true, .inl fun x => g23 x.1.1⟩
def rh23 : List SE := []
noncomputable def lo23 : Nat → Option (Lo rh23)
  | _ => none
noncomputable def ga23 : List (Nat × Su) := [(61, s61)]
noncomputable def E23 : En := ⟨5, tt, gaOf ga23, rh23, lo23, [], fun _ => none⟩
theorem t23 (x : PT s23.ps) : (fnT E23 (bodyOf Tryz.f23) Tryz.f23.results.toList s23.ps s23.rs true x).run = g23 x.1.1 := by kernel_rfl
theorem hga23 : GAok Tryz.prog E23 := gaok_of (l := ga23) ⟨ok61, trivial⟩
theorem ok23 : SuOK Tryz.prog 23 s23 :=
  fn_ok (E := E23) (hTT hT) hga23 hmix (fn := Tryz.f23) (c := (bodyOf Tryz.f23)) (by kernel_rfl) (by kernel_rfl) (by kernel_rfl) rfl (loopsOK_all [] (by kernel_rfl) trivial) fun x y h => ⟨y.1, fun _ => rfl, (t23 x).trans h⟩
noncomputable def g120 (p0 : ((List UInt8) × Int × Int × Unit)) : Option (Unit × ((Bool × Unit) × Unit)) :=
  Option.bind (g86 p0.1) fun y1 =>
  cond y1.2.1.1 (
    Option.bind (g61 p0.2.1 1 9007199254740992) fun y2 =>
    cond y2.2.1.1 (
      Option.bind (g23 p0.2.2.1) fun y3 =>
      some ((), (y3.2.1, ()))
    ) (
      some ((), ((false, ()), ()))
    )
  ) (
    some ((), ((false, ()), ()))
  )
noncomputable def s120 : Su := ⟨[.c true [.str, .int .i64, .int .i64]], [(false, [.bool])], true, .inl fun x => g120 x.1⟩
def rh120 : List SE := []
noncomputable def lo120 : Nat → Option (Lo rh120)
  | _ => none
noncomputable def ga120 : List (Nat × Su) := [(61, s61), (86, s86), (23, s23)]
noncomputable def E120 : En := ⟨16, tt, gaOf ga120, rh120, lo120, [], fun _ => none⟩
theorem t120 (x : PT s120.ps) : (fnT E120 (bodyOf Tryz.f120) Tryz.f120.results.toList s120.ps s120.rs true x).run = g120 x.1 := by kernel_rfl
theorem hga120 : GAok Tryz.prog E120 := gaok_of (l := ga120) ⟨ok61, ok86, ok23, trivial⟩
theorem ok120 : SuOK Tryz.prog 120 s120 :=
  fn_ok (E := E120) (hTT hT) hga120 hmix (fn := Tryz.f120) (c := (bodyOf Tryz.f120)) (by kernel_rfl) (by kernel_rfl) (by kernel_rfl) rfl (loopsOK_all [] (by kernel_rfl) trivial) fun x y h => ⟨y.1, fun _ => rfl, (t120 x).trans h⟩
noncomputable def r63_0 (t0 : (List R108)) (t5 : (List R108)) (t6 : Int) (t7 : Int) : Option (Sum ((List R108) × (List R108) × Int × Int × Unit) (Sum ((List R108) × (List R108) × Int × Int × Unit) (Bool × Unit))) :=
  cond (ltI t7 t6) (
    cond (inB t7 t5) (
    let u1 := (gt d108 t5 t7)
    Option.bind (g120 u1) fun y1 =>
    cond (!y1.2.1.1) (
      some (.inr (.inr (false, ())))
    ) (
      cond (ltI 0 t7) (
        let u2 := (subW .i64 t7 1)
        cond (inB u2 t0) (
        cond (!(ltS (gt d108 t0 u2).1 u1.1)) (
          some (.inr (.inr (false, ())))
        ) (
          some (.inl (t0, t5, t6, (addW .i64 t7 1), ()))
        )
        ) none
      ) (
        some (.inl (t0, t5, t6, (addW .i64 t7 1), ()))
      )
    )
    ) none
  ) (
    some (.inr (.inl (t0, t5, t6, t7, ())))
  )
noncomputable def l63_0 (t0 : (List R108)) (t5 : (List R108)) (t6 : Int) (t7 : Int) : Option (Sum ((List R108) × (List R108) × Int × Int × Unit) (Bool × Unit)) := loopF (fun (x : ((List R108) × (List R108) × Int × Int × Unit)) => r63_0 x.1 x.2.1 x.2.2.1 x.2.2.2.1) (t0, t5, t6, t7, ())
noncomputable def g63 (p0 : (List R108)) : Option (Unit × ((Bool × Unit) × Unit)) :=
  Option.bind (l63_0 p0 p0 (lenI p0) 0) (Sum.elim (fun y1 =>
    some ((), (((leI (lenI y1.1) 4), ()), ()))
  ) (fun y1 =>
    some ((), (y1, ()))
  ))
noncomputable def s63 : Su := ⟨[.c false [.sl 108 kk108]], [(false, [.bool])], true, .inl fun x => g63 x.1.1⟩
def sg63_0 : List SE := [.d 0 (.sl 108 kk108), .d 5 (.sl 108 kk108), .d 6 (.int .i64), .d 7 (.int .i64)]
def rh63 : List SE := [.d 2 (.bool)]
noncomputable def lo63 : Nat → Option (Lo rh63)
  | 0 => some ⟨sg63_0, fun x => l63_0 x.1 x.2.1 x.2.2.1 x.2.2.2.1⟩
  | _ => none
noncomputable def ga63 : List (Nat × Su) := [(120, s120)]
noncomputable def E63 : En := ⟨34, tt, gaOf ga63, rh63, lo63, [], fun _ => none⟩
theorem t63_0 (x : SigT sg63_0) : (roundT E63 0 sg63_0 (loopOf 0 (bodyOf Tryz.f63)) x).run = r63_0 x.1 x.2.1 x.2.2.1 x.2.2.2.1 := by kernel_rfl
theorem t63 (x : PT s63.ps) : (fnT E63 (bodyOf Tryz.f63) Tryz.f63.results.toList s63.ps s63.rs true x).run = g63 x.1.1 := by kernel_rfl
theorem hga63 : GAok Tryz.prog E63 := gaok_of (l := ga63) ⟨ok120, trivial⟩
theorem L63_0 : LoopSem Tryz.prog E63 0 (.loop (loopOf 0 (bodyOf Tryz.f63))) ⟨sg63_0, fun x => l63_0 x.1 x.2.1 x.2.2.1 x.2.2.2.1⟩ :=
  sem_of (hTT hT) hga63 hmix (step := fun (x : SigT sg63_0) => r63_0 x.1 x.2.1 x.2.2.1 x.2.2.2.1) t63_0 (loopsOK_all [] (by kernel_rfl) trivial)
theorem ok63 : SuOK Tryz.prog 63 s63 :=
  fn_ok (E := E63) (hTT hT) hga63 hmix (fn := Tryz.f63) (c := (bodyOf Tryz.f63)) (by kernel_rfl) (by kernel_rfl) (by kernel_rfl) rfl (loopsOK_all [(0, .loop (loopOf 0 (bodyOf Tryz.f63)))] (by kernel_rfl) ⟨semL rfl L63_0, trivial⟩) fun x y h => ⟨y.1, fun _ => rfl, (t63 x).trans h⟩
noncomputable def r64_0 (t32 : Int) (t33 : Int) (b1 : (Int × Int × (List R3) × (List R3) × Unit)) : Option (Sum (Int × Int × (Int × Int × (List R3) × (List R3) × Unit) × Unit) (Sum (Int × Int × (Int × Int × (List R3) × (List R3) × Unit) × Unit) (Bool × Unit))) :=
  cond (ltI t33 t32) (
    cond (inB t33 b1.2.2.1) (
    Option.bind (g62 (gt d3 b1.2.2.1 t33).1) fun y1 =>
    cond (!y1.2.1.1) (
      some (.inr (.inr (false, ())))
    ) (
      cond (inB t33 b1.2.2.2.1) (
      Option.bind (g62 (gt d3 b1.2.2.2.1 t33).1) fun y2 =>
      cond (!y2.2.1.1) (
        some (.inr (.inr (false, ())))
      ) (
        some (.inl (t32, (addW .i64 t33 1), b1, ()))
      )
      ) none
    )
    ) none
  ) (
    some (.inr (.inl (t32, t33, b1, ())))
  )
noncomputable def l64_0 (t32 : Int) (t33 : Int) (b1 : (Int × Int × (List R3) × (List R3) × Unit)) : Option (Sum (Int × Int × (Int × Int × (List R3) × (List R3) × Unit) × Unit) (Bool × Unit)) := loopF (fun (x : (Int × Int × (Int × Int × (List R3) × (List R3) × Unit) × Unit)) => r64_0 x.1 x.2.1 x.2.2.1) (t32, t33, b1, ())
noncomputable def g64 (p0 : (Int × Int × (List R3) × (List R3) × Unit)) : Option (Unit × ((Bool × Unit) × Unit)) :=
  Option.bind (g61 p0.1 1 1000) fun y1 =>
  cond (!y1.2.1.1) (
    some ((), ((false, ()), ()))
  ) (
    let u1 := (lenI p0.2.2.1)
    Option.bind (g61 u1 1 8) fun y2 =>
    cond (cond (!y2.2.1.1) true (!(eqI (lenI p0.2.2.2.1) u1))) (
      some ((), ((false, ()), ()))
    ) (
      Option.bind (g23 p0.2.1) fun y3 =>
      cond (!y3.2.1.1) (
        some ((), ((false, ()), ()))
      ) (
        Option.bind (l64_0 u1 0 p0) (Sum.elim (fun y4 =>
          some ((), ((true, ()), ()))
        ) (fun y4 =>
          some ((), (y4, ()))
        ))
      )
    )
  )
noncomputable def s64 : Su := ⟨[.c true [.int .i64, .int .i64, .sl 3 kk3, .sl 3 kk3]], [(false, [.bool])], true, .inl fun x => g64 x.1⟩
def sg64_0 : List SE := [.d 32 (.int .i64), .d 33 (.int .i64), .box 1 [(false, .int .i64), (false, .int .i64), (false, .sl 3 kk3), (false, .sl 3 kk3)]]
def rh64 : List SE := [.d 2 (.bool)]
noncomputable def lo64 : Nat → Option (Lo rh64)
  | 0 => some ⟨sg64_0, fun x => l64_0 x.1 x.2.1 x.2.2.1⟩
  | _ => none
noncomputable def ga64 : List (Nat × Su) := [(61, s61), (62, s62), (23, s23)]
noncomputable def E64 : En := ⟨53, tt, gaOf ga64, rh64, lo64, [], fun _ => none⟩
theorem t64_0 (x : SigT sg64_0) : (roundT E64 0 sg64_0 (loopOf 0 (bodyOf Tryz.f64)) x).run = r64_0 x.1 x.2.1 x.2.2.1 := by kernel_rfl
theorem t64 (x : PT s64.ps) : (fnT E64 (bodyOf Tryz.f64) Tryz.f64.results.toList s64.ps s64.rs true x).run = g64 x.1 := by kernel_rfl
theorem hga64 : GAok Tryz.prog E64 := gaok_of (l := ga64) ⟨ok61, ok62, ok23, trivial⟩
theorem L64_0 : LoopSem Tryz.prog E64 0 (.loop (loopOf 0 (bodyOf Tryz.f64))) ⟨sg64_0, fun x => l64_0 x.1 x.2.1 x.2.2.1⟩ :=
  sem_of (hTT hT) hga64 hmix (step := fun (x : SigT sg64_0) => r64_0 x.1 x.2.1 x.2.2.1) t64_0 (loopsOK_all [] (by kernel_rfl) trivial)
theorem ok64 : SuOK Tryz.prog 64 s64 :=
  fn_ok (E := E64) (hTT hT) hga64 hmix (fn := Tryz.f64) (c := (bodyOf Tryz.f64)) (by kernel_rfl) (by kernel_rfl) (by kernel_rfl) rfl (loopsOK_all [(0, .loop (loopOf 0 (bodyOf Tryz.f64)))] (by kernel_rfl) ⟨semL rfl L64_0, trivial⟩) fun x y h => ⟨y.1, fun _ => rfl, (t64 x).trans h⟩
noncomputable def g121 (p0 : ((List UInt8) × (List UInt8) × (List R5) × Unit)) : Option (Unit × ((Bool × Unit) × Unit)) :=
  Option.bind (g84 p0.1) fun y1 =>
  cond (cond y1.2.1.1 (eqI (lenI p0.1) 6) false) (
    Option.bind (g84 p0.2.1) fun y2 =>
    cond (cond y2.2.1.1 (eqI (lenI p0.2.1) 4) false) (
      Option.bind (g61 (lenI p0.2.2.1) 1 200) fun y3 =>
      some ((), (y3.2.1, ()))
    ) (
      some ((), ((false, ()), ()))
    )
  ) (
    some ((), ((false, ()), ()))
  )
noncomputable def s121 : Su := ⟨[.c true [.str, .str, .sl 5 kk5]], [(false, [.bool])], true, .inl fun x => g121 x.1⟩
def rh121 : List SE := []
noncomputable def lo121 : Nat → Option (Lo rh121)
  | _ => none
noncomputable def ga121 : List (Nat × Su) := [(84, s84), (61, s61)]
noncomputable def E121 : En := ⟨29, tt, gaOf ga121, rh121, lo121, [], fun _ => none⟩
theorem t121 (x : PT s121.ps) : (fnT E121 (bodyOf Tryz.f121) Tryz.f121.results.toList s121.ps s121.rs true x).run = g121 x.1 := by kernel_rfl
theorem hga121 : GAok Tryz.prog E121 := gaok_of (l := ga121) ⟨ok84, ok61, trivial⟩
theorem ok121 : SuOK Tryz.prog 121 s121 :=
  fn_ok (E := E121) (hTT hT) hga121 hmix (fn := Tryz.f121) (c := (bodyOf Tryz.f121)) (by kernel_rfl) (by kernel_rfl) (by kernel_rfl) rfl (loopsOK_all [] (by kernel_rfl) trivial) fun x y h => ⟨y.1, fun _ => rfl, (t121 x).trans h⟩
noncomputable def r65_2 (t0 : (List R111)) (t7 : (List R111)) (t8 : Int) (t9 : Int) (t19 : (List R111)) (t20 : Int) (t21 : Int) (b4 : ((List UInt8) × (List UInt8) × (List R5) × Unit)) : Option (Sum ((List R111) × (List R111) × Int × Int × (List R111) × Int × Int × ((List UInt8) × (List UInt8) × (List R5) × Unit) × Unit) (Sum ((List R111) × (List R111) × Int × Int × (List R111) × Int × Int × ((List UInt8) × (List UInt8) × (List R5) × Unit) × Unit) (Bool × Unit))) :=
  cond (ltI t21 t20) (
    cond (inB t21 t19) (
    let u1 := (gt d111 t19 t21)
    cond (cond (eqS u1.1 b4.1) (eqS u1.2.1 b4.2.1) false) (
      some (.inr (.inr (false, ())))
    ) (
      some (.inl (t0, t7, t8, t9, t19, t20, (addW .i64 t21 1), b4, ()))
    )
    ) none
  ) (
    some (.inr (.inl (t0, t7, t8, t9, t19, t20, t21, b4, ())))
  )
noncomputable def l65_2 (t0 : (List R111)) (t7 : (List R111)) (t8 : Int) (t9 : Int) (t19 : (List R111)) (t20 : Int) (t21 : Int) (b4 : ((List UInt8) × (List UInt8) × (List R5) × Unit)) : Option (Sum ((List R111) × (List R111) × Int × Int × (List R111) × Int × Int × ((List UInt8) × (List UInt8) × (List R5) × Unit) × Unit) (Bool × Unit)) := loopF (fun (x : ((List R111) × (List R111) × Int × Int × (List R111) × Int × Int × ((List UInt8) × (List UInt8) × (List R5) × Unit) × Unit)) => r65_2 x.1 x.2.1 x.2.2.1 x.2.2.2.1 x.2.2.2.2.1 x.2.2.2.2.2.1 x.2.2.2.2.2.2.1 x.2.2.2.2.2.2.2.1) (t0, t7, t8, t9, t19, t20, t21, b4, ())
noncomputable def r65_0 (t0 : (List R111)) (t7 : (List R111)) (t8 : Int) (t9 : Int) : Option (Sum ((List R111) × (List R111) × Int × Int × Unit) (Sum ((List R111) × (List R111) × Int × Int × Unit) (Bool × Unit))) :=
  cond (ltI t9 t8) (
    cond (inB t9 t7) (
    let u1 := (gt d111 t7 t9)
    Option.bind (g121 u1) fun y1 =>
    cond (!y1.2.1.1) (
      some (.inr (.inr (false, ())))
    ) (
      cond (cutB 0 t9 t0) (
      let u2 := (sub t0 0 t9)
      Option.bind (l65_2 t0 t7 t8 t9 u2 (lenI u2) 0 u1) (Sum.elim (fun y2 =>
        some (.inl (y2.1, y2.2.1, y2.2.2.1, (addW .i64 y2.2.2.2.1 1), ()))
      ) (fun y2 =>
        some (.inr (.inr (y2.1, ())))
      ))
      ) none
    )
    ) none
  ) (
    some (.inr (.inl (t0, t7, t8, t9, ())))
  )
noncomputable def l65_0 (t0 : (List R111)) (t7 : (List R111)) (t8 : Int) (t9 : Int) : Option (Sum ((List R111) × (List R111) × Int × Int × Unit) (Bool × Unit)) := loopF (fun (x : ((List R111) × (List R111) × Int × Int × Unit)) => r65_0 x.1 x.2.1 x.2.2.1 x.2.2.2.1) (t0, t7, t8, t9, ())
noncomputable def g65 (p0 : (List R111)) : Option (Unit × ((Bool × Unit) × Unit)) :=
  Option.bind (l65_0 p0 p0 (lenI p0) 0) (Sum.elim (fun y1 =>
    some ((), (((leI (lenI y1.1) 6), ()), ()))
  ) (fun y1 =>
    some ((), (y1, ()))
  ))
noncomputable def s65 : Su := ⟨[.c false [.sl 111 kk111]], [(false, [.bool])], true, .inl fun x => g65 x.1.1⟩
def sg65_2 : List SE := [.d 0 (.sl 111 kk111), .d 7 (.sl 111 kk111), .d 8 (.int .i64), .d 9 (.int .i64), .d 19 (.sl 111 kk111), .d 20 (.int .i64), .d 21 (.int .i64), .box 4 [(false, .str), (false, .str), (false, .sl 5 kk5)]]
def sg65_0 : List SE := [.d 0 (.sl 111 kk111), .d 7 (.sl 111 kk111), .d 8 (.int .i64), .d 9 (.int .i64)]
def rh65 : List SE := [.d 2 (.bool)]
noncomputable def lo65 : Nat → Option (Lo rh65)
  | 2 => some ⟨sg65_2, fun x => l65_2 x.1 x.2.1 x.2.2.1 x.2.2.2.1 x.2.2.2.2.1 x.2.2.2.2.2.1 x.2.2.2.2.2.2.1 x.2.2.2.2.2.2.2.1⟩
  | 0 => some ⟨sg65_0, fun x => l65_0 x.1 x.2.1 x.2.2.1 x.2.2.2.1⟩
  | _ => none
noncomputable def ga65 : List (Nat × Su) := [(121, s121)]
noncomputable def E65 : En := ⟨42, tt, gaOf ga65, rh65, lo65, [], fun _ => none⟩
theorem t65_2 (x : SigT sg65_2) : (roundT E65 2 sg65_2 (loopOf 2 (bodyOf Tryz.f65)) x).run = r65_2 x.1 x.2.1 x.2.2.1 x.2.2.2.1 x.2.2.2.2.1 x.2.2.2.2.2.1 x.2.2.2.2.2.2.1 x.2.2.2.2.2.2.2.1 := by kernel_rfl
theorem t65_0 (x : SigT sg65_0) : (roundT E65 0 sg65_0 (loopOf 0 (bodyOf Tryz.f65)) x).run = r65_0 x.1 x.2.1 x.2.2.1 x.2.2.2.1 := by kernel_rfl
theorem t65 (x : PT s65.ps) : (fnT E65 (bodyOf Tryz.f65) Tryz.f65.results.toList s65.ps s65.rs true x).run = g65 x.1.1 := by kernel_rfl
theorem hga65 : GAok Tryz.prog E65 := gaok_of (l := ga65) ⟨ok121, trivial⟩
theorem L65_2 : LoopSem Tryz.prog E65 2 (.loop (loopOf 2 (bodyOf Tryz.f65))) ⟨sg65_2, fun x => l65_2 x.1 x.2.1 x.2.2.1 x.2.2.2.1 x.2.2.2.2.1 x.2.2.2.2.2.1 x.2.2.2.2.2.2.1 x.2.2.2.2.2.2.2.1⟩ :=
  sem_of (hTT hT) hga65 hmix (step := fun (x : SigT sg65_2) => r65_2 x.1 x.2.1 x.2.2.1 x.2.2.2.1 x.2.2.2.2.1 x.2.2.2.2.2.1 x.2.2.2.2.2.2.1 x.2.2.2.2.2.2.2.1) t65_2 (loopsOK_all [] (by kernel_rfl) trivial)
theorem L65_0 : LoopSem Tryz.prog E65 0 (.loop (loopOf 0 (bodyOf Tryz.f65))) ⟨sg65_0, fun x => l65_0 x.1 x.2.1 x.2.2.1 x.2.2.2.1⟩ :=
  sem_of (hTT hT) hga65 hmix (step := fun (x : SigT sg65_0) => r65_0 x.1 x.2.1 x.2.2.1 x.2.2.2.1) t65_0 (loopsOK_all [(2, .loop (loopOf 2 (bodyOf Tryz.f65)))] (by kernel_rfl) ⟨semL rfl L65_2, trivial⟩)
theorem ok65 : SuOK Tryz.prog 65 s65 :=
  fn_ok (E := E65) (hTT hT) hga65 hmix (fn := Tryz.f65) (c := (bodyOf Tryz.f65)) (by kernel_rfl) (by kernel_rfl) (by kernel_rfl) rfl (loopsOK_all [(0, .loop (loopOf 0 (bodyOf Tryz.f65)))] (by kernel_rfl) ⟨semL rfl L65_0, trivial⟩) fun x y h => ⟨y.1, fun _ => rfl, (t65 x).trans h⟩
noncomputable def g123 (p0 : Int) (p1 : Int) (p2 : Int) : Option (Unit × ((Int × Unit) × Unit)) :=
  cond (ltI p0 p1) (
    some ((), ((p1, ()), ()))
  ) (
    cond (ltI p2 p0) (
      some ((), ((p2, ()), ()))
    ) (
      some ((), ((p0, ()), ()))
    )
  )
noncomputable def s123 : Su := ⟨[.c false [.int .i64], .c false [.int .i64], .c false [.int .i64]], [(false, [.int .i64])], true, .inl fun x => g123 x.1.1 x.2.1.1 x.2.2.1.1⟩
def rh123 : List SE := []
noncomputable def lo123 : Nat → Option (Lo rh123)
  | _ => none
noncomputable def ga123 : List (Nat × Su) := []
noncomputable def E123 : En := ⟨16, tt, gaOf ga123, rh123, lo123, [], fun _ => none⟩
theorem t123 (x : PT s123.ps) : (fnT E123 (bodyOf Tryz.f123) Tryz.f123.results.toList s123.ps s123.rs true x).run = g123 x.1.1 x.2.1.1 x.2.2.1.1 := by kernel_rfl
theorem hga123 : GAok Tryz.prog E123 := gaok_of (l := ga123) trivial
theorem ok123 : SuOK Tryz.prog 123 s123 :=
  fn_ok (E := E123) (hTT hT) hga123 hmix (fn := Tryz.f123) (c := (bodyOf Tryz.f123)) (by kernel_rfl) (by kernel_rfl) (by kernel_rfl) rfl (loopsOK_all [] (by kernel_rfl) trivial) fun x y h => ⟨y.1, fun _ => rfl, (t123 x).trans h⟩
noncomputable def g122 (p0 : Int) (p1 : Int) : Option (Unit × ((Int × Unit) × (Bool × Unit) × Unit)) :=
  Option.bind (g62 p0) fun y1 =>
  cond (!y1.2.1.1) (
    some ((), ((0, ()), (false, ()), ()))
  ) (
    Option.bind (g62 p1) fun y2 =>
    cond (cond (!y2.2.1.1) true (ltI (subW .i64 4611686018427387904 p1) p0)) (
      some ((), ((0, ()), (false, ()), ()))
    ) (
      some ((), (((addW .i64 p0 p1), ()), (true, ()), ()))
    )
  )
noncomputable def s122 : Su := ⟨[.c false [.int .i64], .c false [.int .i64]], [(false, [.int .i64]), (false, [.bool])], true, .inl fun x => g122 x.1.1 x.2.1.1⟩
def rh122 : List SE := []
noncomputable def lo122 : Nat → Option (Lo rh122)
  | _ => none
noncomputable def ga122 : List (Nat × Su) := [(62, s62)]
noncomputable def E122 : En := ⟨23, tt, gaOf ga122, rh122, lo122, [], fun _ => none⟩
theorem t122 (x : PT s122.ps) : (fnT E122 (bodyOf Tryz.f122) Tryz.f122.results.toList s122.ps s122.rs true x).run = g122 x.1.1 x.2.1.1 := by kernel_rfl
theorem hga122 : GAok Tryz.prog E122 := gaok_of (l := ga122) ⟨ok62, trivial⟩
theorem ok122 : SuOK Tryz.prog 122 s122 :=
  fn_ok (E := E122) (hTT hT) hga122 hmix (fn := Tryz.f122) (c := (bodyOf Tryz.f122)) (by kernel_rfl) (by kernel_rfl) (by kernel_rfl) rfl (loopsOK_all [] (by kernel_rfl) trivial) fun x y h => ⟨y.1, fun _ => rfl, (t122 x).trans h⟩
noncomputable def g66 (p0 : Int) (p1 : Int) : Option (Unit × ((Int × Unit) × Unit)) :=
  Option.bind (g123 p0 0 4611686018427387904) fun y1 =>
  Option.bind (g123 p1 0 4611686018427387904) fun y2 =>
  Option.bind (g122 y1.2.1.1 y2.2.1.1) fun y3 =>
  cond (!y3.2.2.1.1) (
    some ((), ((4611686018427387904, ()), ()))
  ) (
    some ((), (y3.2.1, ()))
  )
noncomputable def s66 : Su := ⟨[.c false [.int .i64], .c false [.int .i64]], [(false, [.int .i64])], true, .inl fun x => g66 x.1.1 x.2.1.1⟩
def rh66 : List SE := []
noncomputable def lo66 : Nat → Option (Lo rh66)
  | _ => none
noncomputable def ga66 : List (Nat × Su) := [(123, s123), (122, s122)]
noncomputable def E66 : En := ⟨18, tt, gaOf ga66, rh66, lo66, [], fun _ => none⟩
theorem t66 (x : PT s66.ps) : (fnT E66 (bodyOf Tryz.f66) Tryz.f66.results.toList s66.ps s66.rs true x).run = g66 x.1.1 x.2.1.1 := by kernel_rfl
theorem hga66 : GAok Tryz.prog E66 := gaok_of (l := ga66) ⟨ok123, ok122, trivial⟩
theorem ok66 : SuOK Tryz.prog 66 s66 :=
  fn_ok (E := E66) (hTT hT) hga66 hmix (fn := Tryz.f66) (c := (bodyOf Tryz.f66)) (by kernel_rfl) (by kernel_rfl) (by kernel_rfl) rfl (loopsOK_all [] (by kernel_rfl) trivial) fun x y h => ⟨y.1, fun _ => rfl, (t66 x).trans h⟩
noncomputable def r67_0 (t3 : Int) (t6 : (List R108)) (t7 : Int) (t8 : Int) : Option (Sum (Int × (List R108) × Int × Int × Unit) (Sum (Int × (List R108) × Int × Int × Unit) Unit)) :=
  cond (ltI t8 t7) (
    cond (inB t8 t6) (
    Option.bind (g66 t3 (gt d108 t6 t8).2.1) fun y1 =>
    some (.inl (y1.2.1.1, t6, t7, (addW .i64 t8 1), ()))
    ) none
  ) (
    some (.inr (.inl (t3, t6, t7, t8, ())))
  )
noncomputable def l67_0 (t3 : Int) (t6 : (List R108)) (t7 : Int) (t8 : Int) : Option (Sum (Int × (List R108) × Int × Int × Unit) Unit) := loopF (fun (x : (Int × (List R108) × Int × Int × Unit)) => r67_0 x.1 x.2.1 x.2.2.1 x.2.2.2.1) (t3, t6, t7, t8, ())
noncomputable def g67 (p0 : (List R108)) : Option (Unit × ((Int × Unit) × Unit)) :=
  Option.bind (l67_0 0 p0 (lenI p0) 0) (Sum.elim (fun y1 =>
    some ((), ((y1.1, ()), ()))
  ) (fun y1 =>
    none
  ))
noncomputable def s67 : Su := ⟨[.c false [.sl 108 kk108]], [(false, [.int .i64])], true, .inl fun x => g67 x.1.1⟩
def sg67_0 : List SE := [.d 3 (.int .i64), .d 6 (.sl 108 kk108), .d 7 (.int .i64), .d 8 (.int .i64)]
def rh67 : List SE := []
noncomputable def lo67 : Nat → Option (Lo rh67)
  | 0 => some ⟨sg67_0, fun x => l67_0 x.1 x.2.1 x.2.2.1 x.2.2.2.1⟩
  | _ => none
noncomputable def ga67 : List (Nat × Su) := [(66, s66)]
noncomputable def E67 : En := ⟨18, tt, gaOf ga67, rh67, lo67, [], fun _ => none⟩
theorem t67_0 (x : SigT sg67_0) : (roundT E67 0 sg67_0 (loopOf 0 (bodyOf Tryz.f67)) x).run = r67_0 x.1 x.2.1 x.2.2.1 x.2.2.2.1 := by kernel_rfl
theorem t67 (x : PT s67.ps) : (fnT E67 (bodyOf Tryz.f67) Tryz.f67.results.toList s67.ps s67.rs true x).run = g67 x.1.1 := by kernel_rfl
theorem hga67 : GAok Tryz.prog E67 := gaok_of (l := ga67) ⟨ok66, trivial⟩
theorem L67_0 : LoopSem Tryz.prog E67 0 (.loop (loopOf 0 (bodyOf Tryz.f67))) ⟨sg67_0, fun x => l67_0 x.1 x.2.1 x.2.2.1 x.2.2.2.1⟩ :=
  sem_of (hTT hT) hga67 hmix (step := fun (x : SigT sg67_0) => r67_0 x.1 x.2.1 x.2.2.1 x.2.2.2.1) t67_0 (loopsOK_all [] (by kernel_rfl) trivial)
theorem ok67 : SuOK Tryz.prog 67 s67 :=
  fn_ok (E := E67) (hTT hT) hga67 hmix (fn := Tryz.f67) (c := (bodyOf Tryz.f67)) (by kernel_rfl) (by kernel_rfl) (by kernel_rfl) rfl (loopsOK_all [(0, .loop (loopOf 0 (bodyOf Tryz.f67)))] (by kernel_rfl) ⟨semL rfl L67_0, trivial⟩) fun x y h => ⟨y.1, fun _ => rfl, (t67 x).trans h⟩
noncomputable def g22 (p0 : ((List UInt8) × Int × Int × Int × Int × (List R108) × Int × Int × (List R3) × (List R3) × (List R111) × Unit)) : Option (Unit × ((Bool × Unit) × Unit)) :=
  Option.bind (g60 p0.1) fun y1 =>
  cond (!y1.2.1.1) (
    some ((), ((false, ()), ()))
  ) (
    Option.bind (g61 p0.2.1 0 9007199254740992) fun y2 =>
    cond (!y2.2.1.1) (
      some ((), ((false, ()), ()))
    ) (
      Option.bind (g61 p0.2.2.2.1 0 1000) fun y3 =>
      cond (!y3.2.1.1) (
        some ((), ((false, ()), ()))
      ) (
        Option.bind (g61 p0.2.2.2.2.1 0 9007199254740992) fun y4 =>
        cond (!y4.2.1.1) (
          some ((), ((false, ()), ()))
        ) (
          Option.bind (g62 p0.2.2.1) fun y5 =>
          cond (!y5.2.1.1) (
            some ((), ((false, ()), ()))
          ) (
            Option.bind (g63 p0.2.2.2.2.2.1) fun y6 =>
            cond y6.2.1.1 (
              Option.bind (g64 (p0.2.2.2.2.2.2.1, p0.2.2.2.2.2.2.2.1, p0.2.2.2.2.2.2.2.2.1, p0.2.2.2.2.2.2.2.2.2.1, ())) fun y7 =>
              cond y7.2.1.1 (
                Option.bind (g65 p0.2.2.2.2.2.2.2.2.2.2.1) fun y8 =>
                cond y8.2.1.1 (
                  Option.bind (g67 p0.2.2.2.2.2.1) fun y9 =>
                  Option.bind (g66 p0.2.2.1 y9.2.1.1) fun y10 =>
                  some ((), (((leI y10.2.1.1 p0.2.1), ()), ()))
                ) (
                  some ((), ((false, ()), ()))
                )
              ) (
                some ((), ((false, ()), ()))
              )
            ) (
              some ((), ((false, ()), ()))
            )
          )
        )
      )
    )
  )
noncomputable def s22 : Su := ⟨[.c true [.str, .int .i64, .int .i64, .int .i64, .int .i64, .sl 108 kk108, .int .i64, .int .i64, .sl 3 kk3, .sl 3 kk3, .sl 111 kk111]], [(false, [.bool])], true, .inl fun x => g22 x.1⟩
def rh22 : List SE := []
noncomputable def lo22 : Nat → Option (Lo rh22)
  | _ => none
noncomputable def ga22 : List (Nat × Su) := [(60, s60), (61, s61), (62, s62), (63, s63), (64, s64), (65, s65), (66, s66), (67, s67)]
noncomputable def E22 : En := ⟨55, tt, gaOf ga22, rh22, lo22, [], fun _ => none⟩
theorem t22 (x : PT s22.ps) : (fnT E22 (bodyOf Tryz.f22) Tryz.f22.results.toList s22.ps s22.rs true x).run = g22 x.1 := by kernel_rfl
theorem hga22 : GAok Tryz.prog E22 := gaok_of (l := ga22) ⟨ok60, ok61, ok62, ok63, ok64, ok65, ok66, ok67, trivial⟩
theorem ok22 : SuOK Tryz.prog 22 s22 :=
  fn_ok (E := E22) (hTT hT) hga22 hmix (fn := Tryz.f22) (c := (bodyOf Tryz.f22)) (by kernel_rfl) (by kernel_rfl) (by kernel_rfl) rfl (loopsOK_all [] (by kernel_rfl) trivial) fun x y h => ⟨y.1, fun _ => rfl, (t22 x).trans h⟩
noncomputable def g167 (p0 : ((List UInt8) × Int × Int × Unit)) (p1 : Int) : Option (Unit × ((Bool × Unit) × Unit)) :=
  some ((), (((ltI p1 p0.2.2.1), ()), ()))
noncomputable def s167 : Su := ⟨[.c true [.str, .int .i64, .int .i64], .c false [.int .i64]], [(false, [.bool])], true, .inl fun x => g167 x.1 x.2.1.1⟩
def rh167 : List SE := []
noncomputable def lo167 : Nat → Option (Lo rh167)
  | _ => none
noncomputable def ga167 : List (Nat × Su) := []
noncomputable def E167 : En := ⟨9, tt, gaOf ga167, rh167, lo167, [], fun _ => none⟩
theorem t167 (x : PT s167.ps) : (fnT E167 (bodyOf Tryz.f167) Tryz.f167.results.toList s167.ps s167.rs true x).run = g167 x.1 x.2.1.1 := by kernel_rfl
theorem hga167 : GAok Tryz.prog E167 := gaok_of (l := ga167) trivial
theorem ok167 : SuOK Tryz.prog 167 s167 :=
  fn_ok (E := E167) (hTT hT) hga167 hmix (fn := Tryz.f167) (c := (bodyOf Tryz.f167)) (by kernel_rfl) (by kernel_rfl) (by kernel_rfl) rfl (loopsOK_all [] (by kernel_rfl) trivial) fun x y h => ⟨y.1, fun _ => rfl, (t167 x).trans h⟩
noncomputable def r124_0 (t1 : Int) (t5 : (List R108)) (t9 : (List R108)) (t10 : Int) (t11 : Int) : Option (Sum (Int × (List R108) × (List R108) × Int × Int × Unit) (Sum (Int × (List R108) × (List R108) × Int × Int × Unit) Unit)) :=
  cond (ltI t11 t10) (
    cond (inB t11 t9) (
    let u1 := (gt d108 t9 t11)
    Option.bind (g167 u1 t1) fun y1 =>
    cond y1.2.1.1 (
      cond (fitB 32 t5 [u1]) (
      let u2 := (addW .i64 t11 1)
      some (.inl (t1, (apL t5 [u1]), t9, t10, u2, ()))
      ) none
    ) (
      let u2 := (addW .i64 t11 1)
      some (.inl (t1, t5, t9, t10, u2, ()))
    )
    ) none
  ) (
    some (.inr (.inl (t1, t5, t9, t10, t11, ())))
  )
noncomputable def l124_0 (t1 : Int) (t5 : (List R108)) (t9 : (List R108)) (t10 : Int) (t11 : Int) : Option (Sum (Int × (List R108) × (List R108) × Int × Int × Unit) Unit) := loopF (fun (x : (Int × (List R108) × (List R108) × Int × Int × Unit)) => r124_0 x.1 x.2.1 x.2.2.1 x.2.2.2.1 x.2.2.2.2.1) (t1, t5, t9, t10, t11, ())
noncomputable def g124 (p0 : (List R108)) (p1 : Int) : Option (Unit × (((List R108) × Unit) × Unit)) :=
  Option.bind (l124_0 p1 [] p0 (lenI p0) 0) (Sum.elim (fun y1 =>
    some ((), ((y1.2.1, ()), ()))
  ) (fun y1 =>
    none
  ))
noncomputable def s124 : Su := ⟨[.c false [.sl 108 kk108], .c false [.int .i64]], [(false, [.sl 108 kk108])], true, .inl fun x => g124 x.1.1 x.2.1.1⟩
def sg124_0 : List SE := [.d 1 (.int .i64), .own 5 (.sl 108 kk108), .d 9 (.sl 108 kk108), .d 10 (.int .i64), .d 11 (.int .i64)]
def rh124 : List SE := []
noncomputable def lo124 : Nat → Option (Lo rh124)
  | 0 => some ⟨sg124_0, fun x => l124_0 x.1 x.2.1 x.2.2.1 x.2.2.2.1 x.2.2.2.2.1⟩
  | _ => none
noncomputable def ga124 : List (Nat × Su) := [(167, s167)]
noncomputable def E124 : En := ⟨24, tt, gaOf ga124, rh124, lo124, [], fun _ => none⟩
theorem t124_0 (x : SigT sg124_0) : (roundT E124 0 sg124_0 (loopOf 0 (bodyOf Tryz.f124)) x).run = r124_0 x.1 x.2.1 x.2.2.1 x.2.2.2.1 x.2.2.2.2.1 := by kernel_rfl
theorem t124 (x : PT s124.ps) : (fnT E124 (bodyOf Tryz.f124) Tryz.f124.results.toList s124.ps s124.rs true x).run = g124 x.1.1 x.2.1.1 := by kernel_rfl
theorem hga124 : GAok Tryz.prog E124 := gaok_of (l := ga124) ⟨ok167, trivial⟩
theorem L124_0 : LoopSem Tryz.prog E124 0 (.loop (loopOf 0 (bodyOf Tryz.f124))) ⟨sg124_0, fun x => l124_0 x.1 x.2.1 x.2.2.1 x.2.2.2.1 x.2.2.2.2.1⟩ :=
  sem_of (hTT hT) hga124 hmix (step := fun (x : SigT sg124_0) => r124_0 x.1 x.2.1 x.2.2.1 x.2.2.2.1 x.2.2.2.2.1) t124_0 (loopsOK_all [] (by kernel_rfl) trivial)
theorem ok124 : SuOK Tryz.prog 124 s124 :=
  fn_ok (E := E124) (hTT hT) hga124 hmix (fn := Tryz.f124) (c := (bodyOf Tryz.f124)) (by kernel_rfl) (by kernel_rfl) (by kernel_rfl) rfl (loopsOK_all [(0, .loop (loopOf 0 (bodyOf Tryz.f124)))] (by kernel_rfl) ⟨semL rfl L124_0, trivial⟩) fun x y h => ⟨y.1, fun _ => rfl, (t124 x).trans h⟩
noncomputable def g69 (p0 : (List R108)) (p1 : Int) : Option (Unit × ((Int × Unit) × Unit)) :=
  Option.bind (g124 p0 p1) fun y1 =>
  Option.bind (g67 y1.2.1.1) fun y2 =>
  some ((), (y2.2.1, ()))
noncomputable def s69 : Su := ⟨[.c false [.sl 108 kk108], .c false [.int .i64]], [(false, [.int .i64])], true, .inl fun x => g69 x.1.1 x.2.1.1⟩
def rh69 : List SE := []
noncomputable def lo69 : Nat → Option (Lo rh69)
  | _ => none
noncomputable def ga69 : List (Nat × Su) := [(67, s67), (124, s124)]
noncomputable def E69 : En := ⟨9, tt, gaOf ga69, rh69, lo69, [], fun _ => none⟩
theorem t69 (x : PT s69.ps) : (fnT E69 (bodyOf Tryz.f69) Tryz.f69.results.toList s69.ps s69.rs true x).run = g69 x.1.1 x.2.1.1 := by kernel_rfl
theorem hga69 : GAok Tryz.prog E69 := gaok_of (l := ga69) ⟨ok67, ok124, trivial⟩
theorem ok69 : SuOK Tryz.prog 69 s69 :=
  fn_ok (E := E69) (hTT hT) hga69 hmix (fn := Tryz.f69) (c := (bodyOf Tryz.f69)) (by kernel_rfl) (by kernel_rfl) (by kernel_rfl) rfl (loopsOK_all [] (by kernel_rfl) trivial) fun x y h => ⟨y.1, fun _ => rfl, (t69 x).trans h⟩
noncomputable def g25 (p0 : ((List UInt8) × Int × Int × Int × Int × (List R108) × Int × Int × (List R3) × (List R3) × (List R111) × Unit)) (p1 : Int) : Option (Unit × ((Int × Unit) × Unit)) :=
  Option.bind (g22 p0) fun y1 =>
  cond (!y1.2.1.1) (
    some ((), ((0, ()), ()))
  ) (
    Option.bind (g23 p1) fun y2 =>
    cond (!y2.2.1.1) (
      some ((), ((0, ()), ()))
    ) (
      Option.bind (g69 p0.2.2.2.2.2.1 p1) fun y3 =>
      some ((), (((subW .i64 (subW .i64 p0.2.1 p0.2.2.1) y3.2.1.1), ()), ()))
    )
  )
noncomputable def s25 : Su := ⟨[.c true [.str, .int .i64, .int .i64, .int .i64, .int .i64, .sl 108 kk108, .int .i64, .int .i64, .sl 3 kk3, .sl 3 kk3, .sl 111 kk111], .c false [.int .i64]], [(false, [.int .i64])], true, .inl fun x => g25 x.1 x.2.1.1⟩
def rh25 : List SE := []
noncomputable def lo25 : Nat → Option (Lo rh25)
  | _ => none
noncomputable def ga25 : List (Nat × Su) := [(23, s23), (22, s22), (69, s69)]
noncomputable def E25 : En := ⟨23, tt, gaOf ga25, rh25, lo25, [], fun _ => none⟩
theorem t25 (x : PT s25.ps) : (fnT E25 (bodyOf Tryz.f25) Tryz.f25.results.toList s25.ps s25.rs true x).run = g25 x.1 x.2.1.1 := by kernel_rfl
theorem hga25 : GAok Tryz.prog E25 := gaok_of (l := ga25) ⟨ok23, ok22, ok69, trivial⟩
theorem ok25 : SuOK Tryz.prog 25 s25 :=
  fn_ok (E := E25) (hTT hT) hga25 hmix (fn := Tryz.f25) (c := (bodyOf Tryz.f25)) (by kernel_rfl) (by kernel_rfl) (by kernel_rfl) rfl (loopsOK_all [] (by kernel_rfl) trivial) fun x y h => ⟨y.1, fun _ => rfl, (t25 x).trans h⟩
noncomputable def r68_0 (t0 : Int) (t3 : (List UInt8)) : Option (Sum (Int × (List UInt8) × Unit) (Sum (Int × (List UInt8) × Unit) Unit)) :=
  cond (ltI 9 t0) (
    let u1 := (strOf [((cvtW .u8 (addW .i64 48 (remI t0 10))), ())])
    cond (fitS u1 t3) (
    some (.inl ((quoW .i64 t0 10), (apS u1 t3), ()))
    ) none
  ) (
    some (.inr (.inl (t0, t3, ())))
  )
noncomputable def l68_0 (t0 : Int) (t3 : (List UInt8)) : Option (Sum (Int × (List UInt8) × Unit) Unit) := loopF (fun (x : (Int × (List UInt8) × Unit)) => r68_0 x.1 x.2.1) (t0, t3, ())
noncomputable def g68 (p0 : Int) : Option (Unit × (((List UInt8) × Unit) × Unit)) :=
  Option.bind (g62 p0) fun y1 =>
  cond (!y1.2.1.1) (
    some ((), (([], ()), ()))
  ) (
    Option.bind (l68_0 p0 []) (Sum.elim (fun y2 =>
      let u1 := (strOf [((cvtW .u8 (addW .i64 48 y2.1)), ())])
      cond (fitS u1 y2.2.1) (
      some ((), (((apS u1 y2.2.1), ()), ()))
      ) none
    ) (fun y2 =>
      none
    ))
  )
noncomputable def s68 : Su := ⟨[.c false [.int .i64]], [(false, [.str])], true, .inl fun x => g68 x.1.1⟩
def sg68_0 : List SE := [.d 0 (.int .i64), .d 3 (.str)]
def rh68 : List SE := []
noncomputable def lo68 : Nat → Option (Lo rh68)
  | 0 => some ⟨sg68_0, fun x => l68_0 x.1 x.2.1⟩
  | _ => none
noncomputable def ga68 : List (Nat × Su) := [(62, s62)]
noncomputable def E68 : En := ⟨26, tt, gaOf ga68, rh68, lo68, [], fun _ => none⟩
theorem t68_0 (x : SigT sg68_0) : (roundT E68 0 sg68_0 (loopOf 0 (bodyOf Tryz.f68)) x).run = r68_0 x.1 x.2.1 := by kernel_rfl
theorem t68 (x : PT s68.ps) : (fnT E68 (bodyOf Tryz.f68) Tryz.f68.results.toList s68.ps s68.rs true x).run = g68 x.1.1 := by kernel_rfl
theorem hga68 : GAok Tryz.prog E68 := gaok_of (l := ga68) ⟨ok62, trivial⟩
theorem L68_0 : LoopSem Tryz.prog E68 0 (.loop (loopOf 0 (bodyOf Tryz.f68))) ⟨sg68_0, fun x => l68_0 x.1 x.2.1⟩ :=
  sem_of (hTT hT) hga68 hmix (step := fun (x : SigT sg68_0) => r68_0 x.1 x.2.1) t68_0 (loopsOK_all [] (by kernel_rfl) trivial)
theorem ok68 : SuOK Tryz.prog 68 s68 :=
  fn_ok (E := E68) (hTT hT) hga68 hmix (fn := Tryz.f68) (c := (bodyOf Tryz.f68)) (by kernel_rfl) (by kernel_rfl) (by kernel_rfl) rfl (loopsOK_all [(0, .loop (loopOf 0 (bodyOf Tryz.f68)))] (by kernel_rfl) ⟨semL rfl L68_0, trivial⟩) fun x y h => ⟨y.1, fun _ => rfl, (t68 x).trans h⟩
noncomputable def r24_0 (t1 : Int) (t5 : (List UInt8)) : Option (Sum (Int × (List UInt8) × Unit) (Sum (Int × (List UInt8) × Unit) Unit)) :=
  cond (ltI (lenI t5) t1) (
    cond (fitS [48] t5) (
    some (.inl (t1, (apS [48] t5), ()))
    ) none
  ) (
    some (.inr (.inl (t1, t5, ())))
  )
noncomputable def l24_0 (t1 : Int) (t5 : (List UInt8)) : Option (Sum (Int × (List UInt8) × Unit) Unit) := loopF (fun (x : (Int × (List UInt8) × Unit)) => r24_0 x.1 x.2.1) (t1, t5, ())
noncomputable def g24 (p0 : Int) (p1 : Int) : Option (Unit × (((List UInt8) × Unit) × Unit)) :=
  Option.bind (g68 p0) fun y1 =>
  cond (cond (cond (cond (eqS y1.2.1.1 []) true (ltI p1 1)) true (ltI 18 p1)) true (ltI p1 (lenI y1.2.1.1))) (
    some ((), (([], ()), ()))
  ) (
    Option.bind (l24_0 p1 y1.2.1.1) (Sum.elim (fun y2 =>
      some ((), ((y2.2.1, ()), ()))
    ) (fun y2 =>
      none
    ))
  )
noncomputable def s24 : Su := ⟨[.c false [.int .i64], .c false [.int .i64]], [(false, [.str])], true, .inl fun x => g24 x.1.1 x.2.1.1⟩
def sg24_0 : List SE := [.d 1 (.int .i64), .d 5 (.str)]
def rh24 : List SE := []
noncomputable def lo24 : Nat → Option (Lo rh24)
  | 0 => some ⟨sg24_0, fun x => l24_0 x.1 x.2.1⟩
  | _ => none
noncomputable def ga24 : List (Nat × Su) := [(68, s68)]
noncomputable def E24 : En := ⟨31, tt, gaOf ga24, rh24, lo24, [], fun _ => none⟩
theorem t24_0 (x : SigT sg24_0) : (roundT E24 0 sg24_0 (loopOf 0 (bodyOf Tryz.f24)) x).run = r24_0 x.1 x.2.1 := by kernel_rfl
theorem t24 (x : PT s24.ps) : (fnT E24 (bodyOf Tryz.f24) Tryz.f24.results.toList s24.ps s24.rs true x).run = g24 x.1.1 x.2.1.1 := by kernel_rfl
theorem hga24 : GAok Tryz.prog E24 := gaok_of (l := ga24) ⟨ok68, trivial⟩
theorem L24_0 : LoopSem Tryz.prog E24 0 (.loop (loopOf 0 (bodyOf Tryz.f24))) ⟨sg24_0, fun x => l24_0 x.1 x.2.1⟩ :=
  sem_of (hTT hT) hga24 hmix (step := fun (x : SigT sg24_0) => r24_0 x.1 x.2.1) t24_0 (loopsOK_all [] (by kernel_rfl) trivial)
theorem ok24 : SuOK Tryz.prog 24 s24 :=
  fn_ok (E := E24) (hTT hT) hga24 hmix (fn := Tryz.f24) (c := (bodyOf Tryz.f24)) (by kernel_rfl) (by kernel_rfl) (by kernel_rfl) rfl (loopsOK_all [(0, .loop (loopOf 0 (bodyOf Tryz.f24)))] (by kernel_rfl) ⟨semL rfl L24_0, trivial⟩) fun x y h => ⟨y.1, fun _ => rfl, (t24 x).trans h⟩
noncomputable def g6 (p0 : ((List UInt8) × Int × Int × Int × Int × (List R108) × Int × Int × (List R3) × (List R3) × (List R111) × Unit)) (p1 : Int) : Option (Unit × (((List UInt8) × Unit) × (Int × Unit) × Unit)) :=
  Option.bind (g22 p0) fun y1 =>
  cond (!y1.2.1.1) (
    some ((), (([], ()), (1, ()), ()))
  ) (
    Option.bind (g23 p1) fun y2 =>
    cond (!y2.2.1.1) (
      some ((), (([], ()), (1, ()), ()))
    ) (
      Option.bind (g25 p0 p1) fun y3 =>
      Option.bind (g24 y3.2.1.1 16) fun y4 =>
      cond (fitS y4.2.1.1 [32]) (
      Option.bind (g24 p0.2.2.1 16) fun y5 =>
      let u1 := (apS y4.2.1.1 [32])
      cond (fitS u1 y5.2.1.1) (
      some ((), (((apS u1 y5.2.1.1), ()), (0, ()), ()))
      ) none
      ) none
    )
  )
noncomputable def s6 : Su := ⟨[.c true [.str, .int .i64, .int .i64, .int .i64, .int .i64, .sl 108 kk108, .int .i64, .int .i64, .sl 3 kk3, .sl 3 kk3, .sl 111 kk111], .c false [.int .i64]], [(false, [.str]), (false, [.int .i64])], true, .inl fun x => g6 x.1 x.2.1.1⟩
def rh6 : List SE := []
noncomputable def lo6 : Nat → Option (Lo rh6)
  | _ => none
noncomputable def ga6 : List (Nat × Su) := [(23, s23), (22, s22), (25, s25), (24, s24)]
noncomputable def E6 : En := ⟨23, tt, gaOf ga6, rh6, lo6, [], fun _ => none⟩
theorem t6 (x : PT s6.ps) : (fnT E6 (bodyOf Tryz.f6) Tryz.f6.results.toList s6.ps s6.rs true x).run = g6 x.1 x.2.1.1 := by kernel_rfl
theorem hga6 : GAok Tryz.prog E6 := gaok_of (l := ga6) ⟨ok23, ok22, ok25, ok24, trivial⟩
theorem ok6 : SuOK Tryz.prog 6 s6 :=
  fn_ok (E := E6) (hTT hT) hga6 hmix (fn := Tryz.f6) (c := (bodyOf Tryz.f6)) (by kernel_rfl) (by kernel_rfl) (by kernel_rfl) rfl (loopsOK_all [] (by kernel_rfl) trivial) fun x y h => ⟨y.1, fun _ => rfl, (t6 x).trans h⟩
noncomputable def r151_0 (t0 : (List UInt8)) (t5 : Int) (t6 : Int) : Option (Sum ((List UInt8) × Int × Int × Unit) (Sum ((List UInt8) × Int × Int × Unit) (Bool × Unit))) :=
  cond (ltI t6 t5) (
    cond (inB t6 t0) (
    let u1 := (bytI t0 t6)
    cond (ltI u1 48) (
      some (.inr (.inr (false, ())))
    ) (
      cond (inB t6 t0) (
      cond (ltI 57 u1) (
        some (.inr (.inr (false, ())))
      ) (
        some (.inl (t0, t5, (addW .i64 t6 1), ()))
      )
      ) none
    )
    ) none
  ) (
    some (.inr (.inl (t0, t5, t6, ())))
  )
noncomputable def l151_0 (t0 : (List UInt8)) (t5 : Int) (t6 : Int) : Option (Sum ((List UInt8) × Int × Int × Unit) (Bool × Unit)) := loopF (fun (x : ((List UInt8) × Int × Int × Unit)) => r151_0 x.1 x.2.1 x.2.2.1) (t0, t5, t6, ())
noncomputable def g151 (p0 : (List UInt8)) : Option (Unit × ((Bool × Unit) × Unit)) :=
  Option.bind (l151_0 p0 (lenI p0) 0) (Sum.elim (fun y1 =>
    some ((), (((!(eqS y1.1 [])), ()), ()))
  ) (fun y1 =>
    some ((), (y1, ()))
  ))
noncomputable def s151 : Su := ⟨[.c false [.str]], [(false, [.bool])], true, .inl fun x => g151 x.1.1⟩
def sg151_0 : List SE := [.d 0 (.str), .d 5 (.int .i64), .d 6 (.int .i64)]
def rh151 : List SE := [.d 2 (.bool)]
noncomputable def lo151 : Nat → Option (Lo rh151)
  | 0 => some ⟨sg151_0, fun x => l151_0 x.1 x.2.1 x.2.2.1⟩
  | _ => none
noncomputable def ga151 : List (Nat × Su) := []
noncomputable def E151 : En := ⟨22, tt, gaOf ga151, rh151, lo151, [], fun _ => none⟩
theorem t151_0 (x : SigT sg151_0) : (roundT E151 0 sg151_0 (loopOf 0 (bodyOf Tryz.f151)) x).run = r151_0 x.1 x.2.1 x.2.2.1 := by kernel_rfl
theorem t151 (x : PT s151.ps) : (fnT E151 (bodyOf Tryz.f151) Tryz.f151.results.toList s151.ps s151.rs true x).run = g151 x.1.1 := by kernel_rfl
theorem hga151 : GAok Tryz.prog E151 := gaok_of (l := ga151) trivial
theorem L151_0 : LoopSem Tryz.prog E151 0 (.loop (loopOf 0 (bodyOf Tryz.f151))) ⟨sg151_0, fun x => l151_0 x.1 x.2.1 x.2.2.1⟩ :=
  sem_of (hTT hT) hga151 hmix (step := fun (x : SigT sg151_0) => r151_0 x.1 x.2.1 x.2.2.1) t151_0 (loopsOK_all [] (by kernel_rfl) trivial)
theorem ok151 : SuOK Tryz.prog 151 s151 :=
  fn_ok (E := E151) (hTT hT) hga151 hmix (fn := Tryz.f151) (c := (bodyOf Tryz.f151)) (by kernel_rfl) (by kernel_rfl) (by kernel_rfl) rfl (loopsOK_all [(0, .loop (loopOf 0 (bodyOf Tryz.f151)))] (by kernel_rfl) ⟨semL rfl L151_0, trivial⟩) fun x y h => ⟨y.1, fun _ => rfl, (t151 x).trans h⟩
noncomputable def r183_0 (t0 : (List UInt8)) (t3 : Int) (t4 : Bool) (t5 : Int) : Option (Sum ((List UInt8) × Int × Bool × Int × Unit) (Sum ((List UInt8) × Int × Bool × Int × Unit) Unit)) :=
  cond (leI 0 t5) (
    cond (inB t5 t0) (
    cond t4 (
      let u1 := (cvtW .i64 (subW .u8 (bytI t0 t5) 48))
      let u2 := (mulW .i64 u1 2)
      cond (ltI 9 u2) (
        let u3 := (subW .i64 t5 1)
        some (.inl (t0, (addW .i64 t3 (subW .i64 u2 9)), (!t4), u3, ()))
      ) (
        let u3 := (subW .i64 t5 1)
        some (.inl (t0, (addW .i64 t3 u2), (!t4), u3, ()))
      )
    ) (
      let u1 := (cvtW .i64 (subW .u8 (bytI t0 t5) 48))
      let u2 := (subW .i64 t5 1)
      some (.inl (t0, (addW .i64 t3 u1), (!t4), u2, ()))
    )
    ) none
  ) (
    some (.inr (.inl (t0, t3, t4, t5, ())))
  )
noncomputable def l183_0 (t0 : (List UInt8)) (t3 : Int) (t4 : Bool) (t5 : Int) : Option (Sum ((List UInt8) × Int × Bool × Int × Unit) Unit) := loopF (fun (x : ((List UInt8) × Int × Bool × Int × Unit)) => r183_0 x.1 x.2.1 x.2.2.1 x.2.2.2.1) (t0, t3, t4, t5, ())
noncomputable def g183 (p0 : (List UInt8)) : Option (Unit × ((Int × Unit) × Unit)) :=
  Option.bind (g151 p0) fun y1 =>
  cond (!y1.2.1.1) (
    some ((), (((-1), ()), ()))
  ) (
    Option.bind (l183_0 p0 0 true (subW .i64 (lenI p0) 1)) (Sum.elim (fun y2 =>
      some ((), (((remI (subW .i64 10 (remI y2.2.1 10)) 10), ()), ()))
    ) (fun y2 =>
      none
    ))
  )
noncomputable def s183 : Su := ⟨[.c false [.str]], [(false, [.int .i64])], true, .inl fun x => g183 x.1.1⟩
def sg183_0 : List SE := [.d 0 (.str), .d 3 (.int .i64), .d 4 (.bool), .d 5 (.int .i64)]
def rh183 : List SE := []
noncomputable def lo183 : Nat → Option (Lo rh183)
  | 0 => some ⟨sg183_0, fun x => l183_0 x.1 x.2.1 x.2.2.1 x.2.2.2.1⟩
  | _ => none
noncomputable def ga183 : List (Nat × Su) := [(151, s151)]
noncomputable def E183 : En := ⟨38, tt, gaOf ga183, rh183, lo183, [], fun _ => none⟩
theorem t183_0 (x : SigT sg183_0) : (roundT E183 0 sg183_0 (loopOf 0 (bodyOf Tryz.f183)) x).run = r183_0 x.1 x.2.1 x.2.2.1 x.2.2.2.1 := by kernel_rfl
theorem t183 (x : PT s183.ps) : (fnT E183 (bodyOf Tryz.f183) Tryz.f183.results.toList s183.ps s183.rs true x).run = g183 x.1.1 := by kernel_rfl
theorem hga183 : GAok Tryz.prog E183 := gaok_of (l := ga183) ⟨ok151, trivial⟩
theorem L183_0 : LoopSem Tryz.prog E183 0 (.loop (loopOf 0 (bodyOf Tryz.f183))) ⟨sg183_0, fun x => l183_0 x.1 x.2.1 x.2.2.1 x.2.2.2.1⟩ :=
  sem_of (hTT hT) hga183 hmix (step := fun (x : SigT sg183_0) => r183_0 x.1 x.2.1 x.2.2.1 x.2.2.2.1) t183_0 (loopsOK_all [] (by kernel_rfl) trivial)
theorem ok183 : SuOK Tryz.prog 183 s183 :=
  fn_ok (E := E183) (hTT hT) hga183 hmix (fn := Tryz.f183) (c := (bodyOf Tryz.f183)) (by kernel_rfl) (by kernel_rfl) (by kernel_rfl) rfl (loopsOK_all [(0, .loop (loopOf 0 (bodyOf Tryz.f183)))] (by kernel_rfl) ⟨semL rfl L183_0, trivial⟩) fun x y h => ⟨y.1, fun _ => rfl, (t183 x).trans h⟩
noncomputable def g150 (p0 : (List UInt8)) : Option (Unit × ((Bool × Unit) × Unit)) :=
  let u1 := (subW .i64 (lenI p0) 1)
  cond (leI 1 u1) (
    Option.bind (g151 p0) fun y1 =>
    cond y1.2.1.1 (
      cond (cutB 0 u1 p0) (
      Option.bind (g183 (sub p0 0 u1)) fun y2 =>
      cond (inB u1 p0) (
      some ((), (((eqI y2.2.1.1 (cvtW .i64 (subW .u8 (bytI p0 u1) 48))), ()), ()))
      ) none
      ) none
    ) (
      some ((), ((false, ()), ()))
    )
  ) (
    some ((), ((false, ()), ()))
  )
noncomputable def s150 : Su := ⟨[.c false [.str]], [(false, [.bool])], true, .inl fun x => g150 x.1.1⟩
def rh150 : List SE := []
noncomputable def lo150 : Nat → Option (Lo rh150)
  | _ => none
noncomputable def ga150 : List (Nat × Su) := [(151, s151), (183, s183)]
noncomputable def E150 : En := ⟨25, tt, gaOf ga150, rh150, lo150, [], fun _ => none⟩
theorem t150 (x : PT s150.ps) : (fnT E150 (bodyOf Tryz.f150) Tryz.f150.results.toList s150.ps s150.rs true x).run = g150 x.1.1 := by kernel_rfl
theorem hga150 : GAok Tryz.prog E150 := gaok_of (l := ga150) ⟨ok151, ok183, trivial⟩
theorem ok150 : SuOK Tryz.prog 150 s150 :=
  fn_ok (E := E150) (hTT hT) hga150 hmix (fn := Tryz.f150) (c := (bodyOf Tryz.f150)) (by kernel_rfl) (by kernel_rfl) (by kernel_rfl) rfl (loopsOK_all [] (by kernel_rfl) trivial) fun x y h => ⟨y.1, fun _ => rfl, (t150 x).trans h⟩
noncomputable def g97 (p0 : (List UInt8)) : Option (Unit × ((Bool × Unit) × Unit)) :=
  cond (leI (lenI p0) 19) (
    Option.bind (g150 p0) fun y1 =>
    some ((), (y1.2.1, ()))
  ) (
    some ((), ((false, ()), ()))
  )
noncomputable def s97 : Su := ⟨[.c false [.str]], [(false, [.bool])], true, .inl fun x => g97 x.1.1⟩
def rh97 : List SE := []
noncomputable def lo97 : Nat → Option (Lo rh97)
  | _ => none
noncomputable def ga97 : List (Nat × Su) := [(150, s150)]
noncomputable def E97 : En := ⟨10, tt, gaOf ga97, rh97, lo97, [], fun _ => none⟩
theorem t97 (x : PT s97.ps) : (fnT E97 (bodyOf Tryz.f97) Tryz.f97.results.toList s97.ps s97.rs true x).run = g97 x.1.1 := by kernel_rfl
theorem hga97 : GAok Tryz.prog E97 := gaok_of (l := ga97) ⟨ok150, trivial⟩
theorem ok97 : SuOK Tryz.prog 97 s97 :=
  fn_ok (E := E97) (hTT hT) hga97 hmix (fn := Tryz.f97) (c := (bodyOf Tryz.f97)) (by kernel_rfl) (by kernel_rfl) (by kernel_rfl) rfl (loopsOK_all [] (by kernel_rfl) trivial) fun x y h => ⟨y.1, fun _ => rfl, (t97 x).trans h⟩
noncomputable def g76 (p0 : Int) (p1 : Int) (p2 : Int) : Option (Unit × ((Bool × Unit) × Unit)) :=
  some ((), (((cond (leI p1 p0) (leI p0 p2) false), ()), ()))
noncomputable def s76 : Su := ⟨[.c false [.int .i64], .c false [.int .i64], .c false [.int .i64]], [(false, [.bool])], true, .inl fun x => g76 x.1.1 x.2.1.1 x.2.2.1.1⟩
def rh76 : List SE := []
noncomputable def lo76 : Nat → Option (Lo rh76)
  | _ => none
noncomputable def ga76 : List (Nat × Su) := []
noncomputable def E76 : En := ⟨15, tt, gaOf ga76, rh76, lo76, [], fun _ => none⟩
theorem t76 (x : PT s76.ps) : (fnT E76 (bodyOf Tryz.f76) Tryz.f76.results.toList s76.ps s76.rs true x).run = g76 x.1.1 x.2.1.1 x.2.2.1.1 := by kernel_rfl
theorem hga76 : GAok Tryz.prog E76 := gaok_of (l := ga76) trivial
theorem ok76 : SuOK Tryz.prog 76 s76 :=
  fn_ok (E := E76) (hTT hT) hga76 hmix (fn := Tryz.f76) (c := (bodyOf Tryz.f76)) (by kernel_rfl) (by kernel_rfl) (by kernel_rfl) rfl (loopsOK_all [] (by kernel_rfl) trivial) fun x y h => ⟨y.1, fun _ => rfl, (t76 x).trans h⟩
noncomputable def g126 (p0 : Int) : Option (Unit × ((Bool × Unit) × Unit)) :=
  Option.bind (g76 p0 0 4611686018427387904) fun y1 =>
  some ((), (y1.2.1, ()))
noncomputable def s126 : Su := ⟨[.c false [.int .i64]], [(false, [.bool])], true, .inl fun x => g126 x.1.1⟩
def rh126 : List SE := []
noncomputable def lo126 : Nat → Option (Lo rh126)
  | _ => none
noncomputable def ga126 : List (Nat × Su) := [(76, s76)]
noncomputable def E126 : En := ⟨5, tt, gaOf ga126, rh126, lo126, [], fun _ => none⟩
theorem t126 (x : PT s126.ps) : (fnT E126 (bodyOf Tryz.f126) Tryz.f126.results.toList s126.ps s126.rs true x).run = g126 x.1.1 := by kernel_rfl
theorem hga126 : GAok Tryz.prog E126 := gaok_of (l := ga126) ⟨ok76, trivial⟩
theorem ok126 : SuOK Tryz.prog 126 s126 :=
  fn_ok (E := E126) (hTT hT) hga126 hmix (fn := Tryz.f126) (c := (bodyOf Tryz.f126)) (by kernel_rfl) (by kernel_rfl) (by kernel_rfl) rfl (loopsOK_all [] (by kernel_rfl) trivial) fun x y h => ⟨y.1, fun _ => rfl, (t126 x).trans h⟩
noncomputable def r100_0 (t0 : (List UInt8)) (t5 : Int) (t6 : Int) : Option (Sum ((List UInt8) × Int × Int × Unit) (Sum ((List UInt8) × Int × Int × Unit) (Bool × Unit))) :=
  cond (ltI t6 t5) (
    cond (inB t6 t0) (
    let u1 := (bytI t0 t6)
    cond (ltI u1 48) (
      cond (inB t6 t0) (
      cond (ltI u1 97) (
        some (.inr (.inr (false, ())))
      ) (
        cond (inB t6 t0) (
        cond (ltI 122 u1) (
          some (.inr (.inr (false, ())))
        ) (
          some (.inl (t0, t5, (addW .i64 t6 1), ()))
        )
        ) none
      )
      ) none
    ) (
      cond (inB t6 t0) (
      cond (ltI 57 u1) (
        cond (inB t6 t0) (
        cond (ltI u1 97) (
          some (.inr (.inr (false, ())))
        ) (
          cond (inB t6 t0) (
          cond (ltI 122 u1) (
            some (.inr (.inr (false, ())))
          ) (
            some (.inl (t0, t5, (addW .i64 t6 1), ()))
          )
          ) none
        )
        ) none
      ) (
        some (.inl (t0, t5, (addW .i64 t6 1), ()))
      )
      ) none
    )
    ) none
  ) (
    some (.inr (.inl (t0, t5, t6, ())))
  )
noncomputable def l100_0 (t0 : (List UInt8)) (t5 : Int) (t6 : Int) : Option (Sum ((List UInt8) × Int × Int × Unit) (Bool × Unit)) := loopF (fun (x : ((List UInt8) × Int × Int × Unit)) => r100_0 x.1 x.2.1 x.2.2.1) (t0, t5, t6, ())
noncomputable def g100 (p0 : (List UInt8)) : Option (Unit × ((Bool × Unit) × Unit)) :=
  Option.bind (l100_0 p0 (lenI p0) 0) (Sum.elim (fun y1 =>
    Option.bind (g76 (lenI y1.1) 1 6) fun y2 =>
    some ((), (y2.2.1, ()))
  ) (fun y1 =>
    some ((), (y1, ()))
  ))
noncomputable def s100 : Su := ⟨[.c false [.str]], [(false, [.bool])], true, .inl fun x => g100 x.1.1⟩
def sg100_0 : List SE := [.d 0 (.str), .d 5 (.int .i64), .d 6 (.int .i64)]
def rh100 : List SE := [.d 2 (.bool)]
noncomputable def lo100 : Nat → Option (Lo rh100)
  | 0 => some ⟨sg100_0, fun x => l100_0 x.1 x.2.1 x.2.2.1⟩
  | _ => none
noncomputable def ga100 : List (Nat × Su) := [(76, s76)]
noncomputable def E100 : En := ⟨35, tt, gaOf ga100, rh100, lo100, [], fun _ => none⟩
theorem t100_0 (x : SigT sg100_0) : (roundT E100 0 sg100_0 (loopOf 0 (bodyOf Tryz.f100)) x).run = r100_0 x.1 x.2.1 x.2.2.1 := by kernel_rfl
theorem t100 (x : PT s100.ps) : (fnT E100 (bodyOf Tryz.f100) Tryz.f100.results.toList s100.ps s100.rs true x).run = g100 x.1.1 := by kernel_rfl
theorem hga100 : GAok Tryz.prog E100 := gaok_of (l := ga100) ⟨ok76, trivial⟩
theorem L100_0 : LoopSem Tryz.prog E100 0 (.loop (loopOf 0 (bodyOf Tryz.f100))) ⟨sg100_0, fun x => l100_0 x.1 x.2.1 x.2.2.1⟩ :=
  sem_of (hTT hT) hga100 hmix (step := fun (x : SigT sg100_0) => r100_0 x.1 x.2.1 x.2.2.1) t100_0 (loopsOK_all [] (by kernel_rfl) trivial)
theorem ok100 : SuOK Tryz.prog 100 s100 :=
  fn_ok (E := E100) (hTT hT) hga100 hmix (fn := Tryz.f100) (c := (bodyOf Tryz.f100)) (by kernel_rfl) (by kernel_rfl) (by kernel_rfl) rfl (loopsOK_all [(0, .loop (loopOf 0 (bodyOf Tryz.f100)))] (by kernel_rfl) ⟨semL rfl L100_0, trivial⟩) fun x y h => ⟨y.1, fun _ => rfl, (t100 x).trans h⟩
noncomputable def g45 (p0 : Int) : Option (Unit × ((Bool × Unit) × Unit)) :=
  Option.bind (g76 p0 0 1000000000) fun y1 =>
  some ((), (y1.2.1, ()))
noncomputable def s45 : Su := ⟨[.c false [.int .i64]], [(false, [.bool])], true, .inl fun x => g45 x.1.1⟩
def rh45 : List SE := []
noncomputable def lo45 : Nat → Option (Lo rh45)
  | _ => none
noncomputable def ga45 : List (Nat × Su) := [(76, s76)]
noncomputable def E45 : En := ⟨5, tt, gaOf ga45, rh45, lo45, [], fun _ => none⟩
theorem t45 (x : PT s45.ps) : (fnT E45 (bodyOf Tryz.f45) Tryz.f45.results.toList s45.ps s45.rs true x).run = g45 x.1.1 := by kernel_rfl
theorem hga45 : GAok Tryz.prog E45 := gaok_of (l := ga45) ⟨ok76, trivial⟩
theorem ok45 : SuOK Tryz.prog 45 s45 :=
  fn_ok (E := E45) (hTT hT) hga45 hmix (fn := Tryz.f45) (c := (bodyOf Tryz.f45)) (by kernel_rfl) (by kernel_rfl) (by kernel_rfl) rfl (loopsOK_all [] (by kernel_rfl) trivial) fun x y h => ⟨y.1, fun _ => rfl, (t45 x).trans h⟩
noncomputable def g168 (p0 : ((List UInt8) × Int × Int × Unit)) : Option (Unit × ((Bool × Unit) × Unit)) :=
  Option.bind (g100 p0.1) fun y1 =>
  cond y1.2.1.1 (
    Option.bind (g76 p0.2.1 1 9007199254740992) fun y2 =>
    cond y2.2.1.1 (
      Option.bind (g45 p0.2.2.1) fun y3 =>
      some ((), (y3.2.1, ()))
    ) (
      some ((), ((false, ()), ()))
    )
  ) (
    some ((), ((false, ()), ()))
  )
noncomputable def s168 : Su := ⟨[.c true [.str, .int .i64, .int .i64]], [(false, [.bool])], true, .inl fun x => g168 x.1⟩
def rh168 : List SE := []
noncomputable def lo168 : Nat → Option (Lo rh168)
  | _ => none
noncomputable def ga168 : List (Nat × Su) := [(76, s76), (100, s100), (45, s45)]
noncomputable def E168 : En := ⟨16, tt, gaOf ga168, rh168, lo168, [], fun _ => none⟩
theorem t168 (x : PT s168.ps) : (fnT E168 (bodyOf Tryz.f168) Tryz.f168.results.toList s168.ps s168.rs true x).run = g168 x.1 := by kernel_rfl
theorem hga168 : GAok Tryz.prog E168 := gaok_of (l := ga168) ⟨ok76, ok100, ok45, trivial⟩
theorem ok168 : SuOK Tryz.prog 168 s168 :=
  fn_ok (E := E168) (hTT hT) hga168 hmix (fn := Tryz.f168) (c := (bodyOf Tryz.f168)) (by kernel_rfl) (by kernel_rfl) (by kernel_rfl) rfl (loopsOK_all [] (by kernel_rfl) trivial) fun x y h => ⟨y.1, fun _ => rfl, (t168 x).trans h⟩
noncomputable def r127_0 (t0 : (List R108)) (t5 : (List R108)) (t6 : Int) (t7 : Int) : Option (Sum ((List R108) × (List R108) × Int × Int × Unit) (Sum ((List R108) × (List R108) × Int × Int × Unit) (Bool × Unit))) :=
  cond (ltI t7 t6) (
    cond (inB t7 t5) (
    let u1 := (gt d108 t5 t7)
    Option.bind (g168 u1) fun y1 =>
    cond (!y1.2.1.1) (
      some (.inr (.inr (false, ())))
    ) (
      cond (ltI 0 t7) (
        let u2 := (subW .i64 t7 1)
        cond (inB u2 t0) (
        cond (leS u1.1 (gt d108 t0 u2).1) (
          some (.inr (.inr (false, ())))
        ) (
          some (.inl (t0, t5, t6, (addW .i64 t7 1), ()))
        )
        ) none
      ) (
        some (.inl (t0, t5, t6, (addW .i64 t7 1), ()))
      )
    )
    ) none
  ) (
    some (.inr (.inl (t0, t5, t6, t7, ())))
  )
noncomputable def l127_0 (t0 : (List R108)) (t5 : (List R108)) (t6 : Int) (t7 : Int) : Option (Sum ((List R108) × (List R108) × Int × Int × Unit) (Bool × Unit)) := loopF (fun (x : ((List R108) × (List R108) × Int × Int × Unit)) => r127_0 x.1 x.2.1 x.2.2.1 x.2.2.2.1) (t0, t5, t6, t7, ())
noncomputable def g127 (p0 : (List R108)) : Option (Unit × ((Bool × Unit) × Unit)) :=
  Option.bind (l127_0 p0 p0 (lenI p0) 0) (Sum.elim (fun y1 =>
    some ((), (((leI (lenI y1.1) 4), ()), ()))
  ) (fun y1 =>
    some ((), (y1, ()))
  ))
noncomputable def s127 : Su := ⟨[.c false [.sl 108 kk108]], [(false, [.bool])], true, .inl fun x => g127 x.1.1⟩
def sg127_0 : List SE := [.d 0 (.sl 108 kk108), .d 5 (.sl 108 kk108), .d 6 (.int .i64), .d 7 (.int .i64)]
def rh127 : List SE := [.d 2 (.bool)]
noncomputable def lo127 : Nat → Option (Lo rh127)
  | 0 => some ⟨sg127_0, fun x => l127_0 x.1 x.2.1 x.2.2.1 x.2.2.2.1⟩
  | _ => none
noncomputable def ga127 : List (Nat × Su) := [(168, s168)]
noncomputable def E127 : En := ⟨34, tt, gaOf ga127, rh127, lo127, [], fun _ => none⟩
theorem t127_0 (x : SigT sg127_0) : (roundT E127 0 sg127_0 (loopOf 0 (bodyOf Tryz.f127)) x).run = r127_0 x.1 x.2.1 x.2.2.1 x.2.2.2.1 := by kernel_rfl
theorem t127 (x : PT s127.ps) : (fnT E127 (bodyOf Tryz.f127) Tryz.f127.results.toList s127.ps s127.rs true x).run = g127 x.1.1 := by kernel_rfl
theorem hga127 : GAok Tryz.prog E127 := gaok_of (l := ga127) ⟨ok168, trivial⟩
theorem L127_0 : LoopSem Tryz.prog E127 0 (.loop (loopOf 0 (bodyOf Tryz.f127))) ⟨sg127_0, fun x => l127_0 x.1 x.2.1 x.2.2.1 x.2.2.2.1⟩ :=
  sem_of (hTT hT) hga127 hmix (step := fun (x : SigT sg127_0) => r127_0 x.1 x.2.1 x.2.2.1 x.2.2.2.1) t127_0 (loopsOK_all [] (by kernel_rfl) trivial)
theorem ok127 : SuOK Tryz.prog 127 s127 :=
  fn_ok (E := E127) (hTT hT) hga127 hmix (fn := Tryz.f127) (c := (bodyOf Tryz.f127)) (by kernel_rfl) (by kernel_rfl) (by kernel_rfl) rfl (loopsOK_all [(0, .loop (loopOf 0 (bodyOf Tryz.f127)))] (by kernel_rfl) ⟨semL rfl L127_0, trivial⟩) fun x y h => ⟨y.1, fun _ => rfl, (t127 x).trans h⟩
noncomputable def g191 (p1 : Int) : Option (Unit × (((List R3) × Unit) × Unit)) :=
  cond (ltI p1 0) (
    none
  ) (
    let u1 := (subW .i64 p1 (subW .i64 0 0))
    cond (ltI 0 u1) (
      cond (cutB0 0 0) (
      cond (mzB 8 u1) (
      let u2 := (repI d3 u1)
      cond (cutB 0 0 u2) (
      some ((), (((tkI u2 0), ()), ()))
      ) none
      ) none
      ) none
    ) (
      some ((), (([], ()), ()))
    )
  )
noncomputable def s191 : Su := ⟨[.nil, .c false [.int .i64]], [(false, [.sl 3 kk3])], true, .inl fun x => g191 x.1.1⟩
def rh191 : List SE := []
noncomputable def lo191 : Nat → Option (Lo rh191)
  | _ => none
noncomputable def ga191 : List (Nat × Su) := []
noncomputable def E191 : En := ⟨27, tt, gaOf ga191, rh191, lo191, [], fun _ => none⟩
theorem t191 (x : PT s191.ps) : (fnT E191 (bodyOf Tryz.f191) Tryz.f191.results.toList s191.ps s191.rs true x).run = g191 x.1.1 := by kernel_rfl
theorem hga191 : GAok Tryz.prog E191 := gaok_of (l := ga191) trivial
theorem ok191 : SuOK Tryz.prog 191 s191 :=
  fn_ok (E := E191) (hTT hT) hga191 hmix (fn := Tryz.f191) (c := (bodyOf Tryz.f191)) (by kernel_rfl) (by kernel_rfl) (by kernel_rfl) rfl (loopsOK_all [] (by kernel_rfl) trivial) fun x y h => ⟨y.1, fun _ => rfl, (t191 x).trans h⟩
noncomputable def r169_0 (t0 : (List R23)) (t3 : Int) (t9 : (List R23)) (t10 : Int) (t11 : Int) : Option (Sum ((List R23) × Int × (List R23) × Int × Int × Unit) (Sum ((List R23) × Int × (List R23) × Int × Int × Unit) Unit)) :=
  cond (ltI t11 t10) (
    cond (inB t11 t9) (
    let u1 := (addW .i64 t3 (lenI (gt d23 t9 t11).1))
    cond (ltI u1 0) (
      none
    ) (
      some (.inl (t0, u1, t9, t10, (addW .i64 t11 1), ()))
    )
    ) none
  ) (
    some (.inr (.inl (t0, t3, t9, t10, t11, ())))
  )
noncomputable def l169_0 (t0 : (List R23)) (t3 : Int) (t9 : (List R23)) (t10 : Int) (t11 : Int) : Option (Sum ((List R23) × Int × (List R23) × Int × Int × Unit) Unit) := loopF (fun (x : ((List R23) × Int × (List R23) × Int × Int × Unit)) => r169_0 x.1 x.2.1 x.2.2.1 x.2.2.2.1 x.2.2.2.2.1) (t0, t3, t9, t10, t11, ())
noncomputable def r169_2 (t6 : (List R3)) (t25 : (List R23)) (t26 : Int) (t27 : Int) : Option (Sum ((List R3) × (List R23) × Int × Int × Unit) (Sum ((List R3) × (List R23) × Int × Int × Unit) Unit)) :=
  cond (ltI t27 t26) (
    cond (inB t27 t25) (
    cond (fitB 8 t6 (gt d23 t25 t27).1) (
    some (.inl ((apL t6 (gt d23 t25 t27).1), t25, t26, (addW .i64 t27 1), ()))
    ) none
    ) none
  ) (
    some (.inr (.inl (t6, t25, t26, t27, ())))
  )
noncomputable def l169_2 (t6 : (List R3)) (t25 : (List R23)) (t26 : Int) (t27 : Int) : Option (Sum ((List R3) × (List R23) × Int × Int × Unit) Unit) := loopF (fun (x : ((List R3) × (List R23) × Int × Int × Unit)) => r169_2 x.1 x.2.1 x.2.2.1 x.2.2.2.1) (t6, t25, t26, t27, ())
noncomputable def g169 (p0 : (List R23)) : Option (Unit × (((List R3) × Unit) × Unit)) :=
  Option.bind (l169_0 p0 0 p0 (lenI p0) 0) (Sum.elim (fun y1 =>
    Option.bind (g191 y1.2.1) fun y2 =>
    Option.bind (l169_2 y2.2.1.1 y1.1 (lenI y1.1) 0) (Sum.elim (fun y3 =>
      some ((), ((y3.1, ()), ()))
    ) (fun y3 =>
      none
    ))
  ) (fun y1 =>
    none
  ))
noncomputable def s169 : Su := ⟨[.c false [.sl 23 kk23]], [(false, [.sl 3 kk3])], true, .inl fun x => g169 x.1.1⟩
def sg169_0 : List SE := [.d 0 (.sl 23 kk23), .d 3 (.int .i64), .d 9 (.sl 23 kk23), .d 10 (.int .i64), .d 11 (.int .i64)]
def sg169_2 : List SE := [.own 6 (.sl 3 kk3), .d 25 (.sl 23 kk23), .d 26 (.int .i64), .d 27 (.int .i64)]
def rh169 : List SE := []
noncomputable def lo169 : Nat → Option (Lo rh169)
  | 0 => some ⟨sg169_0, fun x => l169_0 x.1 x.2.1 x.2.2.1 x.2.2.2.1 x.2.2.2.2.1⟩
  | 2 => some ⟨sg169_2, fun x => l169_2 x.1 x.2.1 x.2.2.1 x.2.2.2.1⟩
  | _ => none
noncomputable def ga169 : List (Nat × Su) := [(191, s191)]
noncomputable def E169 : En := ⟨36, tt, gaOf ga169, rh169, lo169, [], fun _ => none⟩
theorem t169_0 (x : SigT sg169_0) : (roundT E169 0 sg169_0 (loopOf 0 (bodyOf Tryz.f169)) x).run = r169_0 x.1 x.2.1 x.2.2.1 x.2.2.2.1 x.2.2.2.2.1 := by kernel_rfl
theorem t169_2 (x : SigT sg169_2) : (roundT E169 2 sg169_2 (loopOf 2 (bodyOf Tryz.f169)) x).run = r169_2 x.1 x.2.1 x.2.2.1 x.2.2.2.1 := by kernel_rfl
theorem t169 (x : PT s169.ps) : (fnT E169 (bodyOf Tryz.f169) Tryz.f169.results.toList s169.ps s169.rs true x).run = g169 x.1.1 := by kernel_rfl
theorem hga169 : GAok Tryz.prog E169 := gaok_of (l := ga169) ⟨ok191, trivial⟩
theorem L169_0 : LoopSem Tryz.prog E169 0 (.loop (loopOf 0 (bodyOf Tryz.f169))) ⟨sg169_0, fun x => l169_0 x.1 x.2.1 x.2.2.1 x.2.2.2.1 x.2.2.2.2.1⟩ :=
  sem_of (hTT hT) hga169 hmix (step := fun (x : SigT sg169_0) => r169_0 x.1 x.2.1 x.2.2.1 x.2.2.2.1 x.2.2.2.2.1) t169_0 (loopsOK_all [] (by kernel_rfl) trivial)
theorem L169_2 : LoopSem Tryz.prog E169 2 (.loop (loopOf 2 (bodyOf Tryz.f169))) ⟨sg169_2, fun x => l169_2 x.1 x.2.1 x.2.2.1 x.2.2.2.1⟩ :=
  sem_of (hTT hT) hga169 hmix (step := fun (x : SigT sg169_2) => r169_2 x.1 x.2.1 x.2.2.1 x.2.2.2.1) t169_2 (loopsOK_all [] (by kernel_rfl) trivial)
theorem ok169 : SuOK Tryz.prog 169 s169 :=
  fn_ok (E := E169) (hTT hT) hga169 hmix (fn := Tryz.f169) (c := (bodyOf Tryz.f169)) (by kernel_rfl) (by kernel_rfl) (by kernel_rfl) rfl (loopsOK_all [(0, .loop (loopOf 0 (bodyOf Tryz.f169))), (2, .loop (loopOf 2 (bodyOf Tryz.f169)))] (by kernel_rfl) ⟨semL rfl L169_0, semL rfl L169_2, trivial⟩) fun x y h => ⟨y.1, fun _ => rfl, (t169 x).trans h⟩
noncomputable def r128_0 (t3 : Int) (t14 : (List R3)) (t15 : Int) (t16 : Int) (b1 : (Int × Int × (List R3) × (List R3) × Unit)) : Option (Sum (Int × (List R3) × Int × Int × (Int × Int × (List R3) × (List R3) × Unit) × Unit) (Sum (Int × (List R3) × Int × Int × (Int × Int × (List R3) × (List R3) × Unit) × Unit) (Bool × Unit))) :=
  cond (ltI t16 t15) (
    cond (inB t16 t14) (
    Option.bind (g126 (gt d3 t14 t16).1) fun y1 =>
    cond (!y1.2.1.1) (
      some (.inr (.inr (false, ())))
    ) (
      some (.inl (t3, t14, t15, (addW .i64 t16 1), b1, ()))
    )
    ) none
  ) (
    some (.inr (.inl (t3, t14, t15, t16, b1, ())))
  )
noncomputable def l128_0 (t3 : Int) (t14 : (List R3)) (t15 : Int) (t16 : Int) (b1 : (Int × Int × (List R3) × (List R3) × Unit)) : Option (Sum (Int × (List R3) × Int × Int × (Int × Int × (List R3) × (List R3) × Unit) × Unit) (Bool × Unit)) := loopF (fun (x : (Int × (List R3) × Int × Int × (Int × Int × (List R3) × (List R3) × Unit) × Unit)) => r128_0 x.1 x.2.1 x.2.2.1 x.2.2.2.1 x.2.2.2.2.1) (t3, t14, t15, t16, b1, ())
noncomputable def g128 (p0 : (Int × Int × (List R3) × (List R3) × Unit)) : Option (Unit × ((Bool × Unit) × Unit)) :=
  Option.bind (g169 [(p0.2.2.1, ()), (p0.2.2.2.1, ())]) fun y1 =>
  Option.bind (l128_0 (lenI p0.2.2.1) y1.2.1.1 (lenI y1.2.1.1) 0 p0) (Sum.elim (fun y2 =>
    Option.bind (g76 y2.2.2.2.2.1.1 1 1000) fun y3 =>
    cond y3.2.1.1 (
      Option.bind (g76 y2.1 1 8) fun y4 =>
      cond (cond y4.2.1.1 (eqI (lenI y2.2.2.2.2.1.2.2.2.1) y2.1) false) (
        Option.bind (g45 y2.2.2.2.2.1.2.1) fun y5 =>
        some ((), (y5.2.1, ()))
      ) (
        some ((), ((false, ()), ()))
      )
    ) (
      some ((), ((false, ()), ()))
    )
  ) (fun y2 =>
    some ((), (y2, ()))
  ))
noncomputable def s128 : Su := ⟨[.c true [.int .i64, .int .i64, .sl 3 kk3, .sl 3 kk3]], [(false, [.bool])], true, .inl fun x => g128 x.1⟩
def sg128_0 : List SE := [.d 3 (.int .i64), .own 14 (.sl 3 kk3), .d 15 (.int .i64), .d 16 (.int .i64), .box 1 [(false, .int .i64), (false, .int .i64), (false, .sl 3 kk3), (false, .sl 3 kk3)]]
def rh128 : List SE := [.d 2 (.bool)]
noncomputable def lo128 : Nat → Option (Lo rh128)
  | 0 => some ⟨sg128_0, fun x => l128_0 x.1 x.2.1 x.2.2.1 x.2.2.2.1 x.2.2.2.2.1⟩
  | _ => none
noncomputable def ga128 : List (Nat × Su) := [(76, s76), (126, s126), (45, s45), (169, s169)]
noncomputable def E128 : En := ⟨43, tt, gaOf ga128, rh128, lo128, [], fun _ => none⟩
theorem t128_0 (x : SigT sg128_0) : (roundT E128 0 sg128_0 (loopOf 0 (bodyOf Tryz.f128)) x).run = r128_0 x.1 x.2.1 x.2.2.1 x.2.2.2.1 x.2.2.2.2.1 := by kernel_rfl
theorem t128 (x : PT s128.ps) : (fnT E128 (bodyOf Tryz.f128) Tryz.f128.results.toList s128.ps s128.rs true x).run = g128 x.1 := by kernel_rfl
theorem hga128 : GAok Tryz.prog E128 := gaok_of (l := ga128) ⟨ok76, ok126, ok45, ok169, trivial⟩
theorem L128_0 : LoopSem Tryz.prog E128 0 (.loop (loopOf 0 (bodyOf Tryz.f128))) ⟨sg128_0, fun x => l128_0 x.1 x.2.1 x.2.2.1 x.2.2.2.1 x.2.2.2.2.1⟩ :=
  sem_of (hTT hT) hga128 hmix (step := fun (x : SigT sg128_0) => r128_0 x.1 x.2.1 x.2.2.1 x.2.2.2.1 x.2.2.2.2.1) t128_0 (loopsOK_all [] (by kernel_rfl) trivial)
theorem ok128 : SuOK Tryz.prog 128 s128 :=
  fn_ok (E := E128) (hTT hT) hga128 hmix (fn := Tryz.f128) (c := (bodyOf Tryz.f128)) (by kernel_rfl) (by kernel_rfl) (by kernel_rfl) rfl (loopsOK_all [(0, .loop (loopOf 0 (bodyOf Tryz.f128)))] (by kernel_rfl) ⟨semL rfl L128_0, trivial⟩) fun x y h => ⟨y.1, fun _ => rfl, (t128 x).trans h⟩
noncomputable def g98 (p0 : (List UInt8)) (p1 : Int) : Option (Unit × ((Bool × Unit) × Unit)) :=
  Option.bind (g151 p0) fun y1 =>
  some ((), (((cond y1.2.1.1 (eqI (lenI p0) p1) false), ()), ()))
noncomputable def s98 : Su := ⟨[.c false [.str], .c false [.int .i64]], [(false, [.bool])], true, .inl fun x => g98 x.1.1 x.2.1.1⟩
def rh98 : List SE := []
noncomputable def lo98 : Nat → Option (Lo rh98)
  | _ => none
noncomputable def ga98 : List (Nat × Su) := [(151, s151)]
noncomputable def E98 : En := ⟨13, tt, gaOf ga98, rh98, lo98, [], fun _ => none⟩
theorem t98 (x : PT s98.ps) : (fnT E98 (bodyOf Tryz.f98) Tryz.f98.results.toList s98.ps s98.rs true x).run = g98 x.1.1 x.2.1.1 := by kernel_rfl
theorem hga98 : GAok Tryz.prog E98 := gaok_of (l := ga98) ⟨ok151, trivial⟩
theorem ok98 : SuOK Tryz.prog 98 s98 :=
  fn_ok (E := E98) (hTT hT) hga98 hmix (fn := Tryz.f98) (c := (bodyOf Tryz.f98)) (by kernel_rfl) (by kernel_rfl) (by kernel_rfl) rfl (loopsOK_all [] (by kernel_rfl) trivial) fun x y h => ⟨y.1, fun _ => rfl, (t98 x).trans h⟩
noncomputable def g170 (p0 : ((List UInt8) × (List UInt8) × (List R5) × Unit)) : Option (Unit × ((Bool × Unit) × Unit)) :=
  Option.bind (g98 p0.1 6) fun y1 =>
  cond y1.2.1.1 (
    Option.bind (g98 p0.2.1 4) fun y2 =>
    cond y2.2.1.1 (
      Option.bind (g76 (lenI p0.2.2.1) 1 200) fun y3 =>
      some ((), (y3.2.1, ()))
    ) (
      some ((), ((false, ()), ()))
    )
  ) (
    some ((), ((false, ()), ()))
  )
noncomputable def s170 : Su := ⟨[.c true [.str, .str, .sl 5 kk5]], [(false, [.bool])], true, .inl fun x => g170 x.1⟩
def rh170 : List SE := []
noncomputable def lo170 : Nat → Option (Lo rh170)
  | _ => none
noncomputable def ga170 : List (Nat × Su) := [(76, s76), (98, s98)]
noncomputable def E170 : En := ⟨17, tt, gaOf ga170, rh170, lo170, [], fun _ => none⟩
theorem t170 (x : PT s170.ps) : (fnT E170 (bodyOf Tryz.f170) Tryz.f170.results.toList s170.ps s170.rs true x).run = g170 x.1 := by kernel_rfl
theorem hga170 : GAok Tryz.prog E170 := gaok_of (l := ga170) ⟨ok76, ok98, trivial⟩
theorem ok170 : SuOK Tryz.prog 170 s170 :=
  fn_ok (E := E170) (hTT hT) hga170 hmix (fn := Tryz.f170) (c := (bodyOf Tryz.f170)) (by kernel_rfl) (by kernel_rfl) (by kernel_rfl) rfl (loopsOK_all [] (by kernel_rfl) trivial) fun x y h => ⟨y.1, fun _ => rfl, (t170 x).trans h⟩
noncomputable def g193 (p0 : ((List UInt8) × (List UInt8) × (List R5) × Unit)) (p1 : ((List UInt8) × Unit)) (p2 : ((List UInt8) × Unit)) : Option (Unit × ((Bool × Unit) × Unit)) :=
  some ((), (((cond (eqS p0.1 p1.1) (eqS p0.2.1 p2.1) false), ()), ()))
noncomputable def s193 : Su := ⟨[.c true [.str, .str, .sl 5 kk5], .pt [.str], .pt [.str]], [(false, [.bool])], true, .inl fun x => g193 x.1 x.2.1 x.2.2.1⟩
def rh193 : List SE := []
noncomputable def lo193 : Nat → Option (Lo rh193)
  | _ => none
noncomputable def ga193 : List (Nat × Su) := []
noncomputable def E193 : En := ⟨15, tt, gaOf ga193, rh193, lo193, [], fun _ => none⟩
theorem t193 (x : PT s193.ps) : (fnT E193 (bodyOf Tryz.f193) Tryz.f193.results.toList s193.ps s193.rs true x).run = g193 x.1 x.2.1 x.2.2.1 := by kernel_rfl
theorem hga193 : GAok Tryz.prog E193 := gaok_of (l := ga193) trivial
theorem ok193 : SuOK Tryz.prog 193 s193 :=
  fn_ok (E := E193) (hTT hT) hga193 hmix (fn := Tryz.f193) (c := (bodyOf Tryz.f193)) (by kernel_rfl) (by kernel_rfl) (by kernel_rfl) rfl (loopsOK_all [] (by kernel_rfl) trivial) fun x y h => ⟨y.1, fun _ => rfl, (t193 x).trans h⟩
noncomputable def r192_0 (t0 : (List R111)) (f1 : (((List UInt8) × Unit) × ((List UInt8) × Unit) × Unit)) (t7 : Int) (t8 : Int) : Option (Sum ((List R111) × (((List UInt8) × Unit) × ((List UInt8) × Unit) × Unit) × Int × Int × Unit) (Sum ((List R111) × (((List UInt8) × Unit) × ((List UInt8) × Unit) × Unit) × Int × Int × Unit) (Int × Unit))) :=
  cond (ltI t8 t7) (
    cond (inB t8 t0) (
    Option.bind (g193 (gt d111 t0 t8) f1.1 f1.2.1) fun y1 =>
    cond y1.2.1.1 (
      some (.inr (.inr (t8, ())))
    ) (
      some (.inl (t0, f1, t7, (addW .i64 t8 1), ()))
    )
    ) none
  ) (
    some (.inr (.inl (t0, f1, t7, t8, ())))
  )
noncomputable def l192_0 (t0 : (List R111)) (f1 : (((List UInt8) × Unit) × ((List UInt8) × Unit) × Unit)) (t7 : Int) (t8 : Int) : Option (Sum ((List R111) × (((List UInt8) × Unit) × ((List UInt8) × Unit) × Unit) × Int × Int × Unit) (Int × Unit)) := loopF (fun (x : ((List R111) × (((List UInt8) × Unit) × ((List UInt8) × Unit) × Unit) × Int × Int × Unit)) => r192_0 x.1 x.2.1 x.2.2.1 x.2.2.2.1) (t0, f1, t7, t8, ())
noncomputable def g192 (p0 : (List R111)) (c1_0 : ((List UInt8) × Unit)) (c1_1 : ((List UInt8) × Unit)) : Option (Unit × ((Int × Unit) × Unit)) :=
  Option.bind (l192_0 p0 (c1_0, c1_1, ()) (lenI p0) 0) (Sum.elim (fun y1 =>
    some ((), (((-1), ()), ()))
  ) (fun y1 =>
    some ((), (y1, ()))
  ))
noncomputable def s192 : Su := ⟨[.c false [.sl 111 kk111], .fn 193 [.p [.str], .p [.str]]], [(false, [.int .i64])], true, .inl fun x => g192 x.1.1 x.2.1.1 x.2.1.2.1⟩
def sg192_0 : List SE := [.d 0 (.sl 111 kk111), .fn 1 193 [.p [.str], .p [.str]], .d 7 (.int .i64), .d 8 (.int .i64)]
def rh192 : List SE := [.d 4 (.int .i64)]
noncomputable def lo192 : Nat → Option (Lo rh192)
  | 0 => some ⟨sg192_0, fun x => l192_0 x.1 x.2.1 x.2.2.1 x.2.2.2.1⟩
  | _ => none
noncomputable def ga192 : List (Nat × Su) := [(193, s193)]
noncomputable def E192 : En := ⟨19, tt, gaOf ga192, rh192, lo192, [], fun _ => none⟩
theorem t192_0 (x : SigT sg192_0) : (roundT E192 0 sg192_0 (loopOf 0 (bodyOf Tryz.f192)) x).run = r192_0 x.1 x.2.1 x.2.2.1 x.2.2.2.1 := by kernel_rfl
theorem t192 (x : PT s192.ps) : (fnT E192 (bodyOf Tryz.f192) Tryz.f192.results.toList s192.ps s192.rs true x).run = g192 x.1.1 x.2.1.1 x.2.1.2.1 := by kernel_rfl
theorem hga192 : GAok Tryz.prog E192 := gaok_of (l := ga192) ⟨ok193, trivial⟩
theorem L192_0 : LoopSem Tryz.prog E192 0 (.loop (loopOf 0 (bodyOf Tryz.f192))) ⟨sg192_0, fun x => l192_0 x.1 x.2.1 x.2.2.1 x.2.2.2.1⟩ :=
  sem_of (hTT hT) hga192 hmix (step := fun (x : SigT sg192_0) => r192_0 x.1 x.2.1 x.2.2.1 x.2.2.2.1) t192_0 (loopsOK_all [] (by kernel_rfl) trivial)
theorem ok192 : SuOK Tryz.prog 192 s192 :=
  fn_ok (E := E192) (hTT hT) hga192 hmix (fn := Tryz.f192) (c := (bodyOf Tryz.f192)) (by kernel_rfl) (by kernel_rfl) (by kernel_rfl) rfl (loopsOK_all [(0, .loop (loopOf 0 (bodyOf Tryz.f192)))] (by kernel_rfl) ⟨semL rfl L192_0, trivial⟩) fun x y h => ⟨y.1, fun _ => rfl, (t192 x).trans h⟩
noncomputable def g171 (p0 : (List R111)) (p1 : (List UInt8)) (p2 : (List UInt8)) : Option (Unit × ((Int × Unit) × Unit)) :=
  Option.bind (g192 p0 (p1, ()) (p2, ())) fun y1 =>
  some ((), (y1.2.1, ()))
noncomputable def s171 : Su := ⟨[.c false [.sl 111 kk111], .c false [.str], .c false [.str]], [(false, [.int .i64])], true, .inl fun x => g171 x.1.1 x.2.1.1 x.2.2.1.1⟩
def rh171 : List SE := []
noncomputable def lo171 : Nat → Option (Lo rh171)
  | _ => none
noncomputable def ga171 : List (Nat × Su) := [(192, s192)]
noncomputable def E171 : En := ⟨10, tt, gaOf ga171, rh171, lo171, [], fun _ => none⟩
theorem t171 (x : PT s171.ps) : (fnT E171 (bodyOf Tryz.f171) Tryz.f171.results.toList s171.ps s171.rs true x).run = g171 x.1.1 x.2.1.1 x.2.2.1.1 := by kernel_rfl
theorem hga171 : GAok Tryz.prog E171 := gaok_of (l := ga171) ⟨ok192, trivial⟩
theorem ok171 : SuOK Tryz.prog 171 s171 :=
  fn_ok (E := E171) (hTT hT) hga171 hmix (fn := Tryz.f171) (c := (bodyOf Tryz.f171)) (by kernel_rfl) (by kernel_rfl) (by kernel_rfl) rfl (loopsOK_all [] (by kernel_rfl) trivial) fun x y h => ⟨y.1, fun _ => rfl, (t171 x).trans h⟩
noncomputable def r129_0 (t0 : (List R111)) (t5 : (List R111)) (t6 : Int) (t7 : Int) : Option (Sum ((List R111) × (List R111) × Int × Int × Unit) (Sum ((List R111) × (List R111) × Int × Int × Unit) (Bool × Unit))) :=
  cond (ltI t7 t6) (
    cond (inB t7 t5) (
    let u1 := (gt d111 t5 t7)
    Option.bind (g170 u1) fun y1 =>
    cond (!y1.2.1.1) (
      some (.inr (.inr (false, ())))
    ) (
      Option.bind (g171 t0 u1.1 u1.2.1) fun y2 =>
      cond (!(eqI y2.2.1.1 t7)) (
        some (.inr (.inr (false, ())))
      ) (
        some (.inl (t0, t5, t6, (addW .i64 t7 1), ()))
      )
    )
    ) none
  ) (
    some (.inr (.inl (t0, t5, t6, t7, ())))
  )
noncomputable def l129_0 (t0 : (List R111)) (t5 : (List R111)) (t6 : Int) (t7 : Int) : Option (Sum ((List R111) × (List R111) × Int × Int × Unit) (Bool × Unit)) := loopF (fun (x : ((List R111) × (List R111) × Int × Int × Unit)) => r129_0 x.1 x.2.1 x.2.2.1 x.2.2.2.1) (t0, t5, t6, t7, ())
noncomputable def g129 (p0 : (List R111)) : Option (Unit × ((Bool × Unit) × Unit)) :=
  Option.bind (l129_0 p0 p0 (lenI p0) 0) (Sum.elim (fun y1 =>
    some ((), (((leI (lenI y1.1) 6), ()), ()))
  ) (fun y1 =>
    some ((), (y1, ()))
  ))
noncomputable def s129 : Su := ⟨[.c false [.sl 111 kk111]], [(false, [.bool])], true, .inl fun x => g129 x.1.1⟩
def sg129_0 : List SE := [.d 0 (.sl 111 kk111), .d 5 (.sl 111 kk111), .d 6 (.int .i64), .d 7 (.int .i64)]
def rh129 : List SE := [.d 2 (.bool)]
noncomputable def lo129 : Nat → Option (Lo rh129)
  | 0 => some ⟨sg129_0, fun x => l129_0 x.1 x.2.1 x.2.2.1 x.2.2.2.1⟩
  | _ => none
noncomputable def ga129 : List (Nat × Su) := [(170, s170), (171, s171)]
noncomputable def E129 : En := ⟨29, tt, gaOf ga129, rh129, lo129, [], fun _ => none⟩
theorem t129_0 (x : SigT sg129_0) : (roundT E129 0 sg129_0 (loopOf 0 (bodyOf Tryz.f129)) x).run = r129_0 x.1 x.2.1 x.2.2.1 x.2.2.2.1 := by kernel_rfl
theorem t129 (x : PT s129.ps) : (fnT E129 (bodyOf Tryz.f129) Tryz.f129.results.toList s129.ps s129.rs true x).run = g129 x.1.1 := by kernel_rfl
theorem hga129 : GAok Tryz.prog E129 := gaok_of (l := ga129) ⟨ok170, ok171, trivial⟩
theorem L129_0 : LoopSem Tryz.prog E129 0 (.loop (loopOf 0 (bodyOf Tryz.f129))) ⟨sg129_0, fun x => l129_0 x.1 x.2.1 x.2.2.1 x.2.2.2.1⟩ :=
  sem_of (hTT hT) hga129 hmix (step := fun (x : SigT sg129_0) => r129_0 x.1 x.2.1 x.2.2.1 x.2.2.2.1) t129_0 (loopsOK_all [] (by kernel_rfl) trivial)
theorem ok129 : SuOK Tryz.prog 129 s129 :=
  fn_ok (E := E129) (hTT hT) hga129 hmix (fn := Tryz.f129) (c := (bodyOf Tryz.f129)) (by kernel_rfl) (by kernel_rfl) (by kernel_rfl) rfl (loopsOK_all [(0, .loop (loopOf 0 (bodyOf Tryz.f129)))] (by kernel_rfl) ⟨semL rfl L129_0, trivial⟩) fun x y h => ⟨y.1, fun _ => rfl, (t129 x).trans h⟩
noncomputable def g130 (p0 : Int) (p1 : Int) : Option (Unit × ((Int × Unit) × Unit)) :=
  let u1 := (mxI 0 (mnI p1 4611686018427387904))
  let u2 := (mxI 0 (mnI p0 4611686018427387904))
  cond (ltI (subW .i64 4611686018427387904 u1) u2) (
    some ((), ((4611686018427387904, ()), ()))
  ) (
    some ((), (((addW .i64 u2 u1), ()), ()))
  )
noncomputable def s130 : Su := ⟨[.c false [.int .i64], .c false [.int .i64]], [(false, [.int .i64])], true, .inl fun x => g130 x.1.1 x.2.1.1⟩
def rh130 : List SE := []
noncomputable def lo130 : Nat → Option (Lo rh130)
  | _ => none
noncomputable def ga130 : List (Nat × Su) := []
noncomputable def E130 : En := ⟨18, tt, gaOf ga130, rh130, lo130, [], fun _ => none⟩
theorem t130 (x : PT s130.ps) : (fnT E130 (bodyOf Tryz.f130) Tryz.f130.results.toList s130.ps s130.rs true x).run = g130 x.1.1 x.2.1.1 := by kernel_rfl
theorem hga130 : GAok Tryz.prog E130 := gaok_of (l := ga130) trivial
theorem ok130 : SuOK Tryz.prog 130 s130 :=
  fn_ok (E := E130) (hTT hT) hga130 hmix (fn := Tryz.f130) (c := (bodyOf Tryz.f130)) (by kernel_rfl) (by kernel_rfl) (by kernel_rfl) rfl (loopsOK_all [] (by kernel_rfl) trivial) fun x y h => ⟨y.1, fun _ => rfl, (t130 x).trans h⟩
noncomputable def r131_0 (t3 : Int) (t6 : (List R108)) (t7 : Int) (t8 : Int) : Option (Sum (Int × (List R108) × Int × Int × Unit) (Sum (Int × (List R108) × Int × Int × Unit) Unit)) :=
  cond (ltI t8 t7) (
    cond (inB t8 t6) (
    Option.bind (g130 t3 (gt d108 t6 t8).2.1) fun y1 =>
    some (.inl (y1.2.1.1, t6, t7, (addW .i64 t8 1), ()))
    ) none
  ) (
    some (.inr (.inl (t3, t6, t7, t8, ())))
  )
noncomputable def l131_0 (t3 : Int) (t6 : (List R108)) (t7 : Int) (t8 : Int) : Option (Sum (Int × (List R108) × Int × Int × Unit) Unit) := loopF (fun (x : (Int × (List R108) × Int × Int × Unit)) => r131_0 x.1 x.2.1 x.2.2.1 x.2.2.2.1) (t3, t6, t7, t8, ())
noncomputable def g131 (p0 : (List R108)) : Option (Unit × ((Int × Unit) × Unit)) :=
  Option.bind (l131_0 0 p0 (lenI p0) 0) (Sum.elim (fun y1 =>
    some ((), ((y1.1, ()), ()))
  ) (fun y1 =>
    none
  ))
noncomputable def s131 : Su := ⟨[.c false [.sl 108 kk108]], [(false, [.int .i64])], true, .inl fun x => g131 x.1.1⟩
def sg131_0 : List SE := [.d 3 (.int .i64), .d 6 (.sl 108 kk108), .d 7 (.int .i64), .d 8 (.int .i64)]
def rh131 : List SE := []
noncomputable def lo131 : Nat → Option (Lo rh131)
  | 0 => some ⟨sg131_0, fun x => l131_0 x.1 x.2.1 x.2.2.1 x.2.2.2.1⟩
  | _ => none
noncomputable def ga131 : List (Nat × Su) := [(130, s130)]
noncomputable def E131 : En := ⟨18, tt, gaOf ga131, rh131, lo131, [], fun _ => none⟩
theorem t131_0 (x : SigT sg131_0) : (roundT E131 0 sg131_0 (loopOf 0 (bodyOf Tryz.f131)) x).run = r131_0 x.1 x.2.1 x.2.2.1 x.2.2.2.1 := by kernel_rfl
theorem t131 (x : PT s131.ps) : (fnT E131 (bodyOf Tryz.f131) Tryz.f131.results.toList s131.ps s131.rs true x).run = g131 x.1.1 := by kernel_rfl
theorem hga131 : GAok Tryz.prog E131 := gaok_of (l := ga131) ⟨ok130, trivial⟩
theorem L131_0 : LoopSem Tryz.prog E131 0 (.loop (loopOf 0 (bodyOf Tryz.f131))) ⟨sg131_0, fun x => l131_0 x.1 x.2.1 x.2.2.1 x.2.2.2.1⟩ :=
  sem_of (hTT hT) hga131 hmix (step := fun (x : SigT sg131_0) => r131_0 x.1 x.2.1 x.2.2.1 x.2.2.2.1) t131_0 (loopsOK_all [] (by kernel_rfl) trivial)
theorem ok131 : SuOK Tryz.prog 131 s131 :=
  fn_ok (E := E131) (hTT hT) hga131 hmix (fn := Tryz.f131) (c := (bodyOf Tryz.f131)) (by kernel_rfl) (by kernel_rfl) (by kernel_rfl) rfl (loopsOK_all [(0, .loop (loopOf 0 (bodyOf Tryz.f131)))] (by kernel_rfl) ⟨semL rfl L131_0, trivial⟩) fun x y h => ⟨y.1, fun _ => rfl, (t131 x).trans h⟩
noncomputable def g73 (p0 : ((List UInt8) × Int × Int × Int × Int × (List R108) × Int × Int × (List R3) × (List R3) × (List R111) × Unit)) : Option (Unit × ((Bool × Unit) × Unit)) :=
  Option.bind (g97 p0.1) fun y1 =>
  cond y1.2.1.1 (
    Option.bind (g76 p0.2.1 0 9007199254740992) fun y2 =>
    cond y2.2.1.1 (
      Option.bind (g76 p0.2.2.2.1 0 1000) fun y3 =>
      cond y3.2.1.1 (
        Option.bind (g76 p0.2.2.2.2.1 0 9007199254740992) fun y4 =>
        cond y4.2.1.1 (
          Option.bind (g126 p0.2.2.1) fun y5 =>
          cond y5.2.1.1 (
            Option.bind (g127 p0.2.2.2.2.2.1) fun y6 =>
            cond y6.2.1.1 (
              Option.bind (g128 (p0.2.2.2.2.2.2.1, p0.2.2.2.2.2.2.2.1, p0.2.2.2.2.2.2.2.2.1, p0.2.2.2.2.2.2.2.2.2.1, ())) fun y7 =>
              cond y7.2.1.1 (
                Option.bind (g129 p0.2.2.2.2.2.2.2.2.2.2.1) fun y8 =>
                cond y8.2.1.1 (
                  Option.bind (g131 p0.2.2.2.2.2.1) fun y9 =>
                  Option.bind (g130 p0.2.2.1 y9.2.1.1) fun y10 =>
                  some ((), (((leI y10.2.1.1 p0.2.1), ()), ()))
                ) (
                  some ((), ((false, ()), ()))
                )
              ) (
                some ((), ((false, ()), ()))
              )
            ) (
              some ((), ((false, ()), ()))
            )
          ) (
            some ((), ((false, ()), ()))
          )
        ) (
          some ((), ((false, ()), ()))
        )
      ) (
        some ((), ((false, ()), ()))
      )
    ) (
      some ((), ((false, ()), ()))
    )
  ) (
    some ((), ((false, ()), ()))
  )
noncomputable def s73 : Su := ⟨[.c true [.str, .int .i64, .int .i64, .int .i64, .int .i64, .sl 108 kk108, .int .i64, .int .i64, .sl 3 kk3, .sl 3 kk3, .sl 111 kk111]], [(false, [.bool])], true, .inl fun x => g73 x.1⟩
def rh73 : List SE := []
noncomputable def lo73 : Nat → Option (Lo rh73)
  | _ => none
noncomputable def ga73 : List (Nat × Su) := [(97, s97), (76, s76), (126, s126), (127, s127), (128, s128), (129, s129), (130, s130), (131, s131)]
noncomputable def E73 : En := ⟨52, tt, gaOf ga73, rh73, lo73, [], fun _ => none⟩
theorem t73 (x : PT s73.ps) : (fnT E73 (bodyOf Tryz.f73) Tryz.f73.results.toList s73.ps s73.rs true x).run = g73 x.1 := by kernel_rfl
theorem hga73 : GAok Tryz.prog E73 := gaok_of (l := ga73) ⟨ok97, ok76, ok126, ok127, ok128, ok129, ok130, ok131, trivial⟩
theorem ok73 : SuOK Tryz.prog 73 s73 :=
  fn_ok (E := E73) (hTT hT) hga73 hmix (fn := Tryz.f73) (c := (bodyOf Tryz.f73)) (by kernel_rfl) (by kernel_rfl) (by kernel_rfl) rfl (loopsOK_all [] (by kernel_rfl) trivial) fun x y h => ⟨y.1, fun _ => rfl, (t73 x).trans h⟩
noncomputable def g153 (p0 : List R108) : Option (Unit × ((List R108) × Unit) × Unit) := cond (fitB 32 ([] : List R108) p0) (some ((), ((p0, ()), ()))) none
noncomputable def s153 : Su := ⟨[.c false [.sl 108 kk108]], [(false, [.sl 108 kk108])], true, .inl fun x => g153 x.1.1⟩
noncomputable def E153 : En := ⟨8, tt, gaOf [], [], fun _ => none, [], fun _ => none⟩
noncomputable def st153 (x : PT s153.ps) : St := ⟨[(2, .v .nil), (0, .v (.d (.sl 108 kk108) x.1.1))], []⟩
theorem t153 (x : PT s153.ps) (b : Bool) : ((codeT E153 (.seq (codeR (codeL (codeR (bodyOf Tryz.f153)))) (codeR (codeR (bodyOf Tryz.f153)))) (((st153 x).bindT 3 (.v (.d (.sl 108 kk108) x.1.1), none)).bindT 4 (.v (.d .bool b), none))).bind (finT E153 Tryz.f153.results.toList s153.ps s153.rs s153.fresh)).run =
    cond b (some ((), (([], ()), ()))) (g153 x.1.1) := by kernel_rfl
theorem ok153 : SuOK Tryz.prog 153 s153 :=
  fn_nil (E := E153) (hTT hT) (gaok_of (l := []) trivial) hmix (fn := Tryz.f153) (c0 := codeL (bodyOf Tryz.f153)) (cc := codeR (codeL (codeR (bodyOf Tryz.f153)))) (c3 := codeR (codeR (bodyOf Tryz.f153))) (id := regId (codeL (codeL (codeR (bodyOf Tryz.f153)))))
    (o1 := opAt (codeL (codeL (codeR (bodyOf Tryz.f153)))) 0) (o2 := opAt (codeL (codeL (codeR (bodyOf Tryz.f153)))) 1) (by kernel_rfl) (by kernel_rfl) (by kernel_rfl) rfl
    (loopsOK_free (fun _ => rfl) _ (by kernel_rfl)) (loopsOK_free (fun _ => rfl) _ (by kernel_rfl)) (loopsOK_free (fun _ => rfl) _ (by kernel_rfl)) (t0 := 0) (t3 := 3) (t4 := 4) (ty := 32) (ty' := 32) (e := 108) (e' := 108) (by' := 24) (fl := []) (ks := kk108) (by kernel_rfl) (by kernel_rfl) (by kernel_rfl) (by kernel_rfl) (by kernel_rfl) (by kernel_rfl) (by kernel_rfl) (by kernel_rfl) (by kernel_rfl)
    st153 (fun x => x.1.1) (fun x => by kernel_rfl) (fun x => by kernel_rfl) fun x y hy b hb => by
      refine ⟨y.1, fun _ => rfl, ?_⟩
      rw [t153]
      have hy : g153 x.1.1 = some y := hy
      cases b with
      | false => exact hy
      | true =>
        have he : x.1.1 = ([] : List R108) := hb rfl
        rw [he] at hy
        exact hy
noncomputable def g185 (p0 : List R3) : Option (Unit × ((List R3) × Unit) × Unit) := cond (fitB 8 ([] : List R3) p0) (some ((), ((p0, ()), ()))) none
noncomputable def s185 : Su := ⟨[.c false [.sl 3 kk3]], [(false, [.sl 3 kk3])], true, .inl fun x => g185 x.1.1⟩
noncomputable def E185 : En := ⟨8, tt, gaOf [], [], fun _ => none, [], fun _ => none⟩
noncomputable def st185 (x : PT s185.ps) : St := ⟨[(2, .v .nil), (0, .v (.d (.sl 3 kk3) x.1.1))], []⟩
theorem t185 (x : PT s185.ps) (b : Bool) : ((codeT E185 (.seq (codeR (codeL (codeR (bodyOf Tryz.f185)))) (codeR (codeR (bodyOf Tryz.f185)))) (((st185 x).bindT 3 (.v (.d (.sl 3 kk3) x.1.1), none)).bindT 4 (.v (.d .bool b), none))).bind (finT E185 Tryz.f185.results.toList s185.ps s185.rs s185.fresh)).run =
    cond b (some ((), (([], ()), ()))) (g185 x.1.1) := by kernel_rfl
theorem ok185 : SuOK Tryz.prog 185 s185 :=
  fn_nil (E := E185) (hTT hT) (gaok_of (l := []) trivial) hmix (fn := Tryz.f185) (c0 := codeL (bodyOf Tryz.f185)) (cc := codeR (codeL (codeR (bodyOf Tryz.f185)))) (c3 := codeR (codeR (bodyOf Tryz.f185))) (id := regId (codeL (codeL (codeR (bodyOf Tryz.f185)))))
    (o1 := opAt (codeL (codeL (codeR (bodyOf Tryz.f185)))) 0) (o2 := opAt (codeL (codeL (codeR (bodyOf Tryz.f185)))) 1) (by kernel_rfl) (by kernel_rfl) (by kernel_rfl) rfl
    (loopsOK_free (fun _ => rfl) _ (by kernel_rfl)) (loopsOK_free (fun _ => rfl) _ (by kernel_rfl)) (loopsOK_free (fun _ => rfl) _ (by kernel_rfl)) (t0 := 0) (t3 := 3) (t4 := 4) (ty := 23) (ty' := 23) (e := 3) (e' := 3) (by' := 24) (fl := []) (ks := kk3) (by kernel_rfl) (by kernel_rfl) (by kernel_rfl) (by kernel_rfl) (by kernel_rfl) (by kernel_rfl) (by kernel_rfl) (by kernel_rfl) (by kernel_rfl)
    st185 (fun x => x.1.1) (fun x => by kernel_rfl) (fun x => by kernel_rfl) fun x y hy b hb => by
      refine ⟨y.1, fun _ => rfl, ?_⟩
      rw [t185]
      have hy : g185 x.1.1 = some y := hy
      cases b with
      | false => exact hy
      | true =>
        have he : x.1.1 = ([] : List R3) := hb rfl
        rw [he] at hy
        exact hy
noncomputable def g154 (p0 : (Int × Int × (List R3) × (List R3) × Unit)) : Option (Unit × ((Int × Int × (List R3) × (List R3) × Unit) × Unit)) :=
  Option.bind (g185 p0.2.2.1) fun y1 =>
  Option.bind (g185 p0.2.2.2.1) fun y2 =>
  some ((), ((p0.1, p0.2.1, y1.2.1.1, y2.2.1.1, ()), ()))
noncomputable def s154 : Su := ⟨[.c true [.int .i64, .int .i64, .sl 3 kk3, .sl 3 kk3]], [(true, [.int .i64, .int .i64, .sl 3 kk3, .sl 3 kk3])], true, .inl fun x => g154 x.1⟩
def rh154 : List SE := []
noncomputable def lo154 : Nat → Option (Lo rh154)
  | _ => none
noncomputable def ga154 : List (Nat × Su) := [(185, s185)]
noncomputable def E154 : En := ⟨12, tt, gaOf ga154, rh154, lo154, [], fun _ => none⟩
theorem t154 (x : PT s154.ps) : (fnT E154 (bodyOf Tryz.f154) Tryz.f154.results.toList s154.ps s154.rs true x).run = g154 x.1 := by kernel_rfl
theorem hga154 : GAok Tryz.prog E154 := gaok_of (l := ga154) ⟨ok185, trivial⟩
theorem ok154 : SuOK Tryz.prog 154 s154 :=
  fn_ok (E := E154) (hTT hT) hga154 hmix (fn := Tryz.f154) (c := (bodyOf Tryz.f154)) (by kernel_rfl) (by kernel_rfl) (by kernel_rfl) rfl (loopsOK_all [] (by kernel_rfl) trivial) fun x y h => ⟨y.1, fun _ => rfl, (t154 x).trans h⟩
noncomputable def g186 (p0 : List R5) : Option (Unit × ((List R5) × Unit) × Unit) := cond (fitB 1 ([] : List R5) p0) (some ((), ((p0, ()), ()))) none
noncomputable def s186 : Su := ⟨[.c false [.sl 5 kk5]], [(false, [.sl 5 kk5])], true, .inl fun x => g186 x.1.1⟩
noncomputable def E186 : En := ⟨8, tt, gaOf [], [], fun _ => none, [], fun _ => none⟩
noncomputable def st186 (x : PT s186.ps) : St := ⟨[(2, .v .nil), (0, .v (.d (.sl 5 kk5) x.1.1))], []⟩
theorem t186 (x : PT s186.ps) (b : Bool) : ((codeT E186 (.seq (codeR (codeL (codeR (bodyOf Tryz.f186)))) (codeR (codeR (bodyOf Tryz.f186)))) (((st186 x).bindT 3 (.v (.d (.sl 5 kk5) x.1.1), none)).bindT 4 (.v (.d .bool b), none))).bind (finT E186 Tryz.f186.results.toList s186.ps s186.rs s186.fresh)).run =
    cond b (some ((), (([], ()), ()))) (g186 x.1.1) := by kernel_rfl
theorem ok186 : SuOK Tryz.prog 186 s186 :=
  fn_nil (E := E186) (hTT hT) (gaok_of (l := []) trivial) hmix (fn := Tryz.f186) (c0 := codeL (bodyOf Tryz.f186)) (cc := codeR (codeL (codeR (bodyOf Tryz.f186)))) (c3 := codeR (codeR (bodyOf Tryz.f186))) (id := regId (codeL (codeL (codeR (bodyOf Tryz.f186)))))
    (o1 := opAt (codeL (codeL (codeR (bodyOf Tryz.f186)))) 0) (o2 := opAt (codeL (codeL (codeR (bodyOf Tryz.f186)))) 1) (by kernel_rfl) (by kernel_rfl) (by kernel_rfl) rfl
    (loopsOK_free (fun _ => rfl) _ (by kernel_rfl)) (loopsOK_free (fun _ => rfl) _ (by kernel_rfl)) (loopsOK_free (fun _ => rfl) _ (by kernel_rfl)) (t0 := 0) (t3 := 3) (t4 := 4) (ty := 96) (ty' := 96) (e := 5) (e' := 5) (by' := 24) (fl := []) (ks := kk5) (by kernel_rfl) (by kernel_rfl) (by kernel_rfl) (by kernel_rfl) (by kernel_rfl) (by kernel_rfl) (by kernel_rfl) (by kernel_rfl) (by kernel_rfl)
    st186 (fun x => x.1.1) (fun x => by kernel_rfl) (fun x => by kernel_rfl) fun x y hy b hb => by
      refine ⟨y.1, fun _ => rfl, ?_⟩
      rw [t186]
      have hy : g186 x.1.1 = some y := hy
      cases b with
      | false => exact hy
      | true =>
        have he : x.1.1 = ([] : List R5) := hb rfl
        rw [he] at hy
        exact hy
noncomputable def r155_0 (t3 : (List R111)) (t7 : (List R111)) (t8 : Int) (t9 : Int) : Option (Sum ((List R111) × (List R111) × Int × Int × Unit) (Sum ((List R111) × (List R111) × Int × Int × Unit) Unit)) :=
  cond (ltI t9 t8) (
    cond (inB t9 t7) (
    let u1 := (gt d111 t7 t9)
    Option.bind (g186 u1.2.2.1) fun y1 =>
    cond (fitB 56 t3 [(u1.1, u1.2.1, y1.2.1.1, ())]) (
    some (.inl ((apL t3 [(u1.1, u1.2.1, y1.2.1.1, ())]), t7, t8, (addW .i64 t9 1), ()))
    ) none
    ) none
  ) (
    some (.inr (.inl (t3, t7, t8, t9, ())))
  )
noncomputable def l155_0 (t3 : (List R111)) (t7 : (List R111)) (t8 : Int) (t9 : Int) : Option (Sum ((List R111) × (List R111) × Int × Int × Unit) Unit) := loopF (fun (x : ((List R111) × (List R111) × Int × Int × Unit)) => r155_0 x.1 x.2.1 x.2.2.1 x.2.2.2.1) (t3, t7, t8, t9, ())
noncomputable def g155 (p0 : (List R111)) : Option (Unit × (((List R111) × Unit) × Unit)) :=
  Option.bind (l155_0 [] p0 (lenI p0) 0) (Sum.elim (fun y1 =>
    some ((), ((y1.1, ()), ()))
  ) (fun y1 =>
    none
  ))
noncomputable def s155 : Su := ⟨[.c false [.sl 111 kk111]], [(false, [.sl 111 kk111])], true, .inl fun x => g155 x.1.1⟩
def sg155_0 : List SE := [.own 3 (.sl 111 kk111), .d 7 (.sl 111 kk111), .d 8 (.int .i64), .d 9 (.int .i64)]
def rh155 : List SE := []
noncomputable def lo155 : Nat → Option (Lo rh155)
  | 0 => some ⟨sg155_0, fun x => l155_0 x.1 x.2.1 x.2.2.1 x.2.2.2.1⟩
  | _ => none
noncomputable def ga155 : List (Nat × Su) := [(186, s186)]
noncomputable def E155 : En := ⟨26, tt, gaOf ga155, rh155, lo155, [], fun _ => none⟩
theorem t155_0 (x : SigT sg155_0) : (roundT E155 0 sg155_0 (loopOf 0 (bodyOf Tryz.f155)) x).run = r155_0 x.1 x.2.1 x.2.2.1 x.2.2.2.1 := by kernel_rfl
theorem t155 (x : PT s155.ps) : (fnT E155 (bodyOf Tryz.f155) Tryz.f155.results.toList s155.ps s155.rs true x).run = g155 x.1.1 := by kernel_rfl
theorem hga155 : GAok Tryz.prog E155 := gaok_of (l := ga155) ⟨ok186, trivial⟩
theorem L155_0 : LoopSem Tryz.prog E155 0 (.loop (loopOf 0 (bodyOf Tryz.f155))) ⟨sg155_0, fun x => l155_0 x.1 x.2.1 x.2.2.1 x.2.2.2.1⟩ :=
  sem_of (hTT hT) hga155 hmix (step := fun (x : SigT sg155_0) => r155_0 x.1 x.2.1 x.2.2.1 x.2.2.2.1) t155_0 (loopsOK_all [] (by kernel_rfl) trivial)
theorem ok155 : SuOK Tryz.prog 155 s155 :=
  fn_ok (E := E155) (hTT hT) hga155 hmix (fn := Tryz.f155) (c := (bodyOf Tryz.f155)) (by kernel_rfl) (by kernel_rfl) (by kernel_rfl) rfl (loopsOK_all [(0, .loop (loopOf 0 (bodyOf Tryz.f155)))] (by kernel_rfl) ⟨semL rfl L155_0, trivial⟩) fun x y h => ⟨y.1, fun _ => rfl, (t155 x).trans h⟩
noncomputable def g104 (p0 : ((List UInt8) × Int × Int × Int × Int × (List R108) × Int × Int × (List R3) × (List R3) × (List R111) × Unit)) : Option (Unit × (((List UInt8) × Int × Int × Int × Int × (List R108) × Int × Int × (List R3) × (List R3) × (List R111) × Unit) × Unit)) :=
  Option.bind (g153 p0.2.2.2.2.2.1) fun y1 =>
  Option.bind (g154 (p0.2.2.2.2.2.2.1, p0.2.2.2.2.2.2.2.1, p0.2.2.2.2.2.2.2.2.1, p0.2.2.2.2.2.2.2.2.2.1, ())) fun y2 =>
  Option.bind (g155 p0.2.2.2.2.2.2.2.2.2.2.1) fun y3 =>
  some ((), ((p0.1, p0.2.1, p0.2.2.1, p0.2.2.2.1, p0.2.2.2.2.1, y1.2.1.1, y2.2.1.1, y2.2.1.2.1, y2.2.1.2.2.1, y2.2.1.2.2.2.1, y3.2.1.1, ()), ()))
noncomputable def s104 : Su := ⟨[.c true [.str, .int .i64, .int .i64, .int .i64, .int .i64, .sl 108 kk108, .int .i64, .int .i64, .sl 3 kk3, .sl 3 kk3, .sl 111 kk111]], [(true, [.str, .int .i64, .int .i64, .int .i64, .int .i64, .sl 108 kk108, .int .i64, .int .i64, .sl 3 kk3, .sl 3 kk3, .sl 111 kk111])], true, .inl fun x => g104 x.1⟩
def rh104 : List SE := []
noncomputable def lo104 : Nat → Option (Lo rh104)
  | _ => none
noncomputable def ga104 : List (Nat × Su) := [(153, s153), (154, s154), (155, s155)]
noncomputable def E104 : En := ⟨16, tt, gaOf ga104, rh104, lo104, [], fun _ => none⟩
theorem t104 (x : PT s104.ps) : (fnT E104 (bodyOf Tryz.f104) Tryz.f104.results.toList s104.ps s104.rs true x).run = g104 x.1 := by kernel_rfl
theorem hga104 : GAok Tryz.prog E104 := gaok_of (l := ga104) ⟨ok153, ok154, ok155, trivial⟩
theorem ok104 : SuOK Tryz.prog 104 s104 :=
  fn_ok (E := E104) (hTT hT) hga104 hmix (fn := Tryz.f104) (c := (bodyOf Tryz.f104)) (by kernel_rfl) (by kernel_rfl) (by kernel_rfl) rfl (loopsOK_all [] (by kernel_rfl) trivial) fun x y h => ⟨y.1, fun _ => rfl, (t104 x).trans h⟩
noncomputable def g173 (p0 : ((List UInt8) × Int × Int × Unit)) (p1 : Int) : Option (Unit × ((Bool × Unit) × Unit)) :=
  some ((), (((ltI p1 p0.2.2.1), ()), ()))
noncomputable def s173 : Su := ⟨[.c true [.str, .int .i64, .int .i64], .c false [.int .i64]], [(false, [.bool])], true, .inl fun x => g173 x.1 x.2.1.1⟩
def rh173 : List SE := []
noncomputable def lo173 : Nat → Option (Lo rh173)
  | _ => none
noncomputable def ga173 : List (Nat × Su) := []
noncomputable def E173 : En := ⟨9, tt, gaOf ga173, rh173, lo173, [], fun _ => none⟩
theorem t173 (x : PT s173.ps) : (fnT E173 (bodyOf Tryz.f173) Tryz.f173.results.toList s173.ps s173.rs true x).run = g173 x.1 x.2.1.1 := by kernel_rfl
theorem hga173 : GAok Tryz.prog E173 := gaok_of (l := ga173) trivial
theorem ok173 : SuOK Tryz.prog 173 s173 :=
  fn_ok (E := E173) (hTT hT) hga173 hmix (fn := Tryz.f173) (c := (bodyOf Tryz.f173)) (by kernel_rfl) (by kernel_rfl) (by kernel_rfl) rfl (loopsOK_all [] (by kernel_rfl) trivial) fun x y h => ⟨y.1, fun _ => rfl, (t173 x).trans h⟩
noncomputable def g172 (p0 : ((List UInt8) × Int × Int × Unit)) (p1 : (Int × Unit)) : Option (Unit × ((Bool × Unit) × Unit)) :=
  Option.bind (g173 p0 p1.1) fun y1 =>
  some ((), (((!y1.2.1.1), ()), ()))
noncomputable def s172 : Su := ⟨[.c true [.str, .int .i64, .int .i64], .pt [.int .i64]], [(false, [.bool])], true, .inl fun x => g172 x.1 x.2.1⟩
def rh172 : List SE := []
noncomputable def lo172 : Nat → Option (Lo rh172)
  | _ => none
noncomputable def ga172 : List (Nat × Su) := [(173, s173)]
noncomputable def E172 : En := ⟨8, tt, gaOf ga172, rh172, lo172, [], fun _ => none⟩
theorem t172 (x : PT s172.ps) : (fnT E172 (bodyOf Tryz.f172) Tryz.f172.results.toList s172.ps s172.rs true x).run = g172 x.1 x.2.1 := by kernel_rfl
theorem hga172 : GAok Tryz.prog E172 := gaok_of (l := ga172) ⟨ok173, trivial⟩
theorem ok172 : SuOK Tryz.prog 172 s172 :=
  fn_ok (E := E172) (hTT hT) hga172 hmix (fn := Tryz.f172) (c := (bodyOf Tryz.f172)) (by kernel_rfl) (by kernel_rfl) (by kernel_rfl) rfl (loopsOK_all [] (by kernel_rfl) trivial) fun x y h => ⟨y.1, fun _ => rfl, (t172 x).trans h⟩
noncomputable def r156_0 (t0 : (List R108)) (f1 : ((Int × Unit) × Unit)) (t7 : Int) (t8 : Int) : Option (Sum ((List R108) × ((Int × Unit) × Unit) × Int × Int × Unit) (Sum ((List R108) × ((Int × Unit) × Unit) × Int × Int × Unit) (Int × Unit))) :=
  cond (ltI t8 t7) (
    cond (inB t8 t0) (
    Option.bind (g172 (gt d108 t0 t8) f1.1) fun y1 =>
    cond y1.2.1.1 (
      some (.inr (.inr (t8, ())))
    ) (
      some (.inl (t0, f1, t7, (addW .i64 t8 1), ()))
    )
    ) none
  ) (
    some (.inr (.inl (t0, f1, t7, t8, ())))
  )
noncomputable def l156_0 (t0 : (List R108)) (f1 : ((Int × Unit) × Unit)) (t7 : Int) (t8 : Int) : Option (Sum ((List R108) × ((Int × Unit) × Unit) × Int × Int × Unit) (Int × Unit)) := loopF (fun (x : ((List R108) × ((Int × Unit) × Unit) × Int × Int × Unit)) => r156_0 x.1 x.2.1 x.2.2.1 x.2.2.2.1) (t0, f1, t7, t8, ())
noncomputable def g156 (p0 : (List R108)) (c1_0 : (Int × Unit)) : Option (Unit × ((Int × Unit) × Unit)) :=
  Option.bind (l156_0 p0 (c1_0, ()) (lenI p0) 0) (Sum.elim (fun y1 =>
    some ((), (((-1), ()), ()))
  ) (fun y1 =>
    some ((), (y1, ()))
  ))
noncomputable def s156 : Su := ⟨[.c false [.sl 108 kk108], .fn 172 [.p [.int .i64]]], [(false, [.int .i64])], true, .inl fun x => g156 x.1.1 x.2.1.1⟩
def sg156_0 : List SE := [.d 0 (.sl 108 kk108), .fn 1 172 [.p [.int .i64]], .d 7 (.int .i64), .d 8 (.int .i64)]
def rh156 : List SE := [.d 4 (.int .i64)]
noncomputable def lo156 : Nat → Option (Lo rh156)
  | 0 => some ⟨sg156_0, fun x => l156_0 x.1 x.2.1 x.2.2.1 x.2.2.2.1⟩
  | _ => none
noncomputable def ga156 : List (Nat × Su) := [(172, s172)]
noncomputable def E156 : En := ⟨19, tt, gaOf ga156, rh156, lo156, [], fun _ => none⟩
theorem t156_0 (x : SigT sg156_0) : (roundT E156 0 sg156_0 (loopOf 0 (bodyOf Tryz.f156)) x).run = r156_0 x.1 x.2.1 x.2.2.1 x.2.2.2.1 := by kernel_rfl
theorem t156 (x : PT s156.ps) : (fnT E156 (bodyOf Tryz.f156) Tryz.f156.results.toList s156.ps s156.rs true x).run = g156 x.1.1 x.2.1.1 := by kernel_rfl
theorem hga156 : GAok Tryz.prog E156 := gaok_of (l := ga156) ⟨ok172, trivial⟩
theorem L156_0 : LoopSem Tryz.prog E156 0 (.loop (loopOf 0 (bodyOf Tryz.f156))) ⟨sg156_0, fun x => l156_0 x.1 x.2.1 x.2.2.1 x.2.2.2.1⟩ :=
  sem_of (hTT hT) hga156 hmix (step := fun (x : SigT sg156_0) => r156_0 x.1 x.2.1 x.2.2.1 x.2.2.2.1) t156_0 (loopsOK_all [] (by kernel_rfl) trivial)
theorem ok156 : SuOK Tryz.prog 156 s156 :=
  fn_ok (E := E156) (hTT hT) hga156 hmix (fn := Tryz.f156) (c := (bodyOf Tryz.f156)) (by kernel_rfl) (by kernel_rfl) (by kernel_rfl) rfl (loopsOK_all [(0, .loop (loopOf 0 (bodyOf Tryz.f156)))] (by kernel_rfl) ⟨semL rfl L156_0, trivial⟩) fun x y h => ⟨y.1, fun _ => rfl, (t156 x).trans h⟩
noncomputable def r162_0 (t0 : (List R108)) (f1 : ((Int × Unit) × Unit)) (t5 : Int) (t6 : Int) : Option (Sum ((List R108) × ((Int × Unit) × Unit) × Int × Int × Unit) (Sum ((List R108) × ((Int × Unit) × Unit) × Int × Int × Unit) Unit)) :=
  cond (ltI t6 (lenI t0)) (
    cond (inB t6 t0) (
    let u1 := (gt d108 t0 t6)
    Option.bind (g172 u1 f1.1) fun y1 =>
    cond (!y1.2.1.1) (
      cond (inB t5 t0) (
      let u2 := (gt d108 t0 t5)
      let u3 := (stI t0 t5 (u1.1, u2.2.1, u2.2.2.1, ()))
      let u4 := (gt d108 u3 t5)
      let u5 := (stI u3 t5 (u4.1, u1.2.1, u4.2.2.1, ()))
      let u6 := (gt d108 u5 t5)
      let u7 := (addW .i64 t6 1)
      some (.inl ((stI u5 t5 (u6.1, u6.2.1, u1.2.2.1, ())), f1, (addW .i64 t5 1), u7, ()))
      ) none
    ) (
      let u2 := (addW .i64 t6 1)
      some (.inl (t0, f1, t5, u2, ()))
    )
    ) none
  ) (
    some (.inr (.inl (t0, f1, t5, t6, ())))
  )
noncomputable def l162_0 (t0 : (List R108)) (f1 : ((Int × Unit) × Unit)) (t5 : Int) (t6 : Int) : Option (Sum ((List R108) × ((Int × Unit) × Unit) × Int × Int × Unit) Unit) := loopF (fun (x : ((List R108) × ((Int × Unit) × Unit) × Int × Int × Unit)) => r162_0 x.1 x.2.1 x.2.2.1 x.2.2.2.1) (t0, f1, t5, t6, ())
noncomputable def g162 (p0 : (List R108)) (c1_0 : (Int × Unit)) : Option (Unit × (((List R108) × Unit) × Unit)) :=
  Option.bind (g156 p0 c1_0) fun y1 =>
  cond (eqI y1.2.1.1 (-1)) (
    some ((), ((p0, ()), ()))
  ) (
    Option.bind (l162_0 p0 (c1_0, ()) y1.2.1.1 (addW .i64 y1.2.1.1 1)) (Sum.elim (fun y2 =>
      cond (cutB y2.2.2.1 (lenI y2.1) y2.1) (
      let u1 := (clrI d108 y2.1 y2.2.2.1)
      cond (cutB 0 y2.2.2.1 u1) (
      some ((), (((tkI u1 y2.2.2.1), ()), ()))
      ) none
      ) none
    ) (fun y2 =>
      none
    ))
  )
noncomputable def s162 : Su := ⟨[.mv (.sl 108 kk108), .fn 172 [.p [.int .i64]]], [(false, [.sl 108 kk108])], true, .inl fun x => g162 x.1 x.2.1.1⟩
def sg162_0 : List SE := [.own 0 (.sl 108 kk108), .fn 1 172 [.p [.int .i64]], .d 5 (.int .i64), .d 6 (.int .i64)]
def rh162 : List SE := []
noncomputable def lo162 : Nat → Option (Lo rh162)
  | 0 => some ⟨sg162_0, fun x => l162_0 x.1 x.2.1 x.2.2.1 x.2.2.2.1⟩
  | _ => none
noncomputable def ga162 : List (Nat × Su) := [(172, s172), (156, s156)]
noncomputable def rg162 : Nat → Option (St → Tr St)
  | 11 => some (clearF 36 37 38 0 5 kk108)
  | _ => none
noncomputable def E162 : En := ⟨42, tt, gaOf ga162, rh162, lo162, [], rg162⟩
theorem t162_0 (x : SigT sg162_0) : (roundT E162 0 sg162_0 (loopOf 0 (bodyOf Tryz.f162)) x).run = r162_0 x.1 x.2.1 x.2.2.1 x.2.2.2.1 := by kernel_rfl
theorem t162 (x : PT s162.ps) : (fnT E162 (bodyOf Tryz.f162) Tryz.f162.results.toList s162.ps s162.rs true x).run = g162 x.1 x.2.1.1 := by kernel_rfl
theorem hga162 : GAok Tryz.prog E162 := gaok_of (l := ga162) ⟨ok172, ok156, trivial⟩
theorem R162_11 : RegSem Tryz.prog E162 (regOf 11 (bodyOf Tryz.f162)) (clearF 36 37 38 0 5 kk108) :=
  clear_sem (E := E162) (hTT hT) (rid := 11) (ta := 36) (tb := 37) (tc := 38) (t0 := 0) (tI := 5) (ty := 32) (o1 := opAt (regOf 11 (bodyOf Tryz.f162)) 0) (o2 := opAt (regOf 11 (bodyOf Tryz.f162)) 1) (o3 := opAt (regOf 11 (bodyOf Tryz.f162)) 2) (o4 := opAt (regOf 11 (bodyOf Tryz.f162)) 3) (c := callOf (opAt (regOf 11 (bodyOf Tryz.f162)) 3)) (te := ⟨true, kk108, 0, 32, [(0, 9), (1, 3), (2, 3)]⟩)
    (by kernel_rfl) (by kernel_rfl) (by kernel_rfl) (by kernel_rfl) (by kernel_rfl) (by kernel_rfl) (by kernel_rfl) (by kernel_rfl) (by kernel_rfl) (by kernel_rfl) (by kernel_rfl) (by kernel_rfl) (by kernel_rfl) (by kernel_rfl) (by kernel_rfl) (by kernel_rfl) (by kernel_rfl) (by kernel_rfl) (by kernel_rfl) (by kernel_rfl) (by kernel_rfl)
theorem L162_0 : LoopSem Tryz.prog E162 0 (.loop (loopOf 0 (bodyOf Tryz.f162))) ⟨sg162_0, fun x => l162_0 x.1 x.2.1 x.2.2.1 x.2.2.2.1⟩ :=
  sem_of (hTT hT) hga162 hmix (step := fun (x : SigT sg162_0) => r162_0 x.1 x.2.1 x.2.2.1 x.2.2.2.1) t162_0 (loopsOK_reg [] (by kernel_rfl) trivial [] (by kernel_rfl) trivial)
theorem ok162 : SuOK Tryz.prog 162 s162 :=
  fn_ok (E := E162) (hTT hT) hga162 hmix (fn := Tryz.f162) (c := (bodyOf Tryz.f162)) (by kernel_rfl) (by kernel_rfl) (by kernel_rfl) rfl (loopsOK_reg [(0, .loop (loopOf 0 (bodyOf Tryz.f162)))] (by kernel_rfl) ⟨semL rfl L162_0, trivial⟩ [(11, regOf 11 (bodyOf Tryz.f162))] (by kernel_rfl) ⟨regL rfl R162_11, trivial⟩) fun x y h => ⟨y.1, fun _ => rfl, (t162 x).trans h⟩
noncomputable def g132 (p0 : (List R108)) (p1 : Int) : Option (Unit × (((List R108) × Unit) × Unit)) :=
  Option.bind (g153 p0) fun y1 =>
  Option.bind (g162 y1.2.1.1 (p1, ())) fun y2 =>
  some ((), (y2.2.1, ()))
noncomputable def s132 : Su := ⟨[.c false [.sl 108 kk108], .c false [.int .i64]], [(false, [.sl 108 kk108])], true, .inl fun x => g132 x.1.1 x.2.1.1⟩
def rh132 : List SE := []
noncomputable def lo132 : Nat → Option (Lo rh132)
  | _ => none
noncomputable def ga132 : List (Nat × Su) := [(153, s153), (162, s162)]
noncomputable def E132 : En := ⟨9, tt, gaOf ga132, rh132, lo132, [], fun _ => none⟩
theorem t132 (x : PT s132.ps) : (fnT E132 (bodyOf Tryz.f132) Tryz.f132.results.toList s132.ps s132.rs true x).run = g132 x.1.1 x.2.1.1 := by kernel_rfl
theorem hga132 : GAok Tryz.prog E132 := gaok_of (l := ga132) ⟨ok153, ok162, trivial⟩
theorem ok132 : SuOK Tryz.prog 132 s132 :=
  fn_ok (E := E132) (hTT hT) hga132 hmix (fn := Tryz.f132) (c := (bodyOf Tryz.f132)) (by kernel_rfl) (by kernel_rfl) (by kernel_rfl) rfl (loopsOK_all [] (by kernel_rfl) trivial) fun x y h => ⟨y.1, fun _ => rfl, (t132 x).trans h⟩
noncomputable def g74 (p0 : ((List UInt8) × Int × Int × Int × Int × (List R108) × Int × Int × (List R3) × (List R3) × (List R111) × Unit)) (p1 : Int) : Option (Unit × (((List UInt8) × Int × Int × Int × Int × (List R108) × Int × Int × (List R3) × (List R3) × (List R111) × Unit) × Unit)) :=
  Option.bind (g104 p0) fun y1 =>
  Option.bind (g73 p0) fun y2 =>
  cond y2.2.1.1 (
    Option.bind (g45 p1) fun y3 =>
    cond y3.2.1.1 (
      Option.bind (g132 p0.2.2.2.2.2.1 p1) fun y4 =>
      some ((), ((y1.2.1.1, y1.2.1.2.1, y1.2.1.2.2.1, y1.2.1.2.2.2.1, y1.2.1.2.2.2.2.1, y4.2.1.1, y1.2.1.2.2.2.2.2.2.1, y1.2.1.2.2.2.2.2.2.2.1, y1.2.1.2.2.2.2.2.2.2.2.1, y1.2.1.2.2.2.2.2.2.2.2.2.1, y1.2.1.2.2.2.2.2.2.2.2.2.2.1, ()), ()))
    ) (
      some ((), (y1.2.1, ()))
    )
  ) (
    some ((), (y1.2.1, ()))
  )
noncomputable def s74 : Su := ⟨[.c true [.str, .int .i64, .int .i64, .int .i64, .int .i64, .sl 108 kk108, .int .i64, .int .i64, .sl 3 kk3, .sl 3 kk3, .sl 111 kk111], .c false [.int .i64]], [(true, [.str, .int .i64, .int .i64, .int .i64, .int .i64, .sl 108 kk108, .int .i64, .int .i64, .sl 3 kk3, .sl 3 kk3, .sl 111 kk111])], true, .inl fun x => g74 x.1 x.2.1.1⟩
def rh74 : List SE := []
noncomputable def lo74 : Nat → Option (Lo rh74)
  | _ => none
noncomputable def ga74 : List (Nat × Su) := [(45, s45), (73, s73), (104, s104), (132, s132)]
noncomputable def E74 : En := ⟨20, tt, gaOf ga74, rh74, lo74, [], fun _ => none⟩
theorem t74 (x : PT s74.ps) : (fnT E74 (bodyOf Tryz.f74) Tryz.f74.results.toList s74.ps s74.rs true x).run = g74 x.1 x.2.1.1 := by kernel_rfl
theorem hga74 : GAok Tryz.prog E74 := gaok_of (l := ga74) ⟨ok45, ok73, ok104, ok132, trivial⟩
theorem ok74 : SuOK Tryz.prog 74 s74 :=
  fn_ok (E := E74) (hTT hT) hga74 hmix (fn := Tryz.f74) (c := (bodyOf Tryz.f74)) (by kernel_rfl) (by kernel_rfl) (by kernel_rfl) rfl (loopsOK_all [] (by kernel_rfl) trivial) fun x y h => ⟨y.1, fun _ => rfl, (t74 x).trans h⟩
noncomputable def g29 (p0 : ((List UInt8) × Int × Int × Int × Int × (List R108) × Int × Int × (List R3) × (List R3) × (List R111) × Unit)) (p1 : Int) : Option (Unit × (((List UInt8) × Int × Int × Int × Int × (List R108) × Int × Int × (List R3) × (List R3) × (List R111) × Unit) × (Int × Unit) × Unit)) :=
  Option.bind (g73 p0) fun y1 =>
  cond (!y1.2.1.1) (
    some ((), (([], 0, 0, 0, 0, [], 0, 0, [], [], [], ()), (1, ()), ()))
  ) (
    Option.bind (g45 p1) fun y2 =>
    cond (!y2.2.1.1) (
      some ((), (([], 0, 0, 0, 0, [], 0, 0, [], [], [], ()), (1, ()), ()))
    ) (
      Option.bind (g74 p0 p1) fun y3 =>
      some ((), (y3.2.1, (0, ()), ()))
    )
  )
noncomputable def s29 : Su := ⟨[.c true [.str, .int .i64, .int .i64, .int .i64, .int .i64, .sl 108 kk108, .int .i64, .int .i64, .sl 3 kk3, .sl 3 kk3, .sl 111 kk111], .c false [.int .i64]], [(true, [.str, .int .i64, .int .i64, .int .i64, .int .i64, .sl 108 kk108, .int .i64, .int .i64, .sl 3 kk3, .sl 3 kk3, .sl 111 kk111]), (false, [.int .i64])], true, .inl fun x => g29 x.1 x.2.1.1⟩
def rh29 : List SE := []
noncomputable def lo29 : Nat → Option (Lo rh29)
  | _ => none
noncomputable def ga29 : List (Nat × Su) := [(45, s45), (73, s73), (74, s74)]
noncomputable def E29 : En := ⟨18, tt, gaOf ga29, rh29, lo29, [], fun _ => none⟩
theorem t29 (x : PT s29.ps) : (fnT E29 (bodyOf Tryz.f29) Tryz.f29.results.toList s29.ps s29.rs true x).run = g29 x.1 x.2.1.1 := by kernel_rfl
theorem hga29 : GAok Tryz.prog E29 := gaok_of (l := ga29) ⟨ok45, ok73, ok74, trivial⟩
theorem ok29 : SuOK Tryz.prog 29 s29 :=
  fn_ok (E := E29) (hTT hT) hga29 hmix (fn := Tryz.f29) (c := (bodyOf Tryz.f29)) (by kernel_rfl) (by kernel_rfl) (by kernel_rfl) rfl (loopsOK_all [] (by kernel_rfl) trivial) fun x y h => ⟨y.1, fun _ => rfl, (t29 x).trans h⟩
noncomputable def g78 (p0 : (List R108)) (p1 : Int) : Option (Unit × ((Int × Unit) × Unit)) :=
  Option.bind (g132 p0 p1) fun y1 =>
  Option.bind (g131 y1.2.1.1) fun y2 =>
  some ((), (y2.2.1, ()))
noncomputable def s78 : Su := ⟨[.c false [.sl 108 kk108], .c false [.int .i64]], [(false, [.int .i64])], true, .inl fun x => g78 x.1.1 x.2.1.1⟩
def rh78 : List SE := []
noncomputable def lo78 : Nat → Option (Lo rh78)
  | _ => none
noncomputable def ga78 : List (Nat × Su) := [(131, s131), (132, s132)]
noncomputable def E78 : En := ⟨9, tt, gaOf ga78, rh78, lo78, [], fun _ => none⟩
theorem t78 (x : PT s78.ps) : (fnT E78 (bodyOf Tryz.f78) Tryz.f78.results.toList s78.ps s78.rs true x).run = g78 x.1.1 x.2.1.1 := by kernel_rfl
theorem hga78 : GAok Tryz.prog E78 := gaok_of (l := ga78) ⟨ok131, ok132, trivial⟩
theorem ok78 : SuOK Tryz.prog 78 s78 :=
  fn_ok (E := E78) (hTT hT) hga78 hmix (fn := Tryz.f78) (c := (bodyOf Tryz.f78)) (by kernel_rfl) (by kernel_rfl) (by kernel_rfl) rfl (loopsOK_all [] (by kernel_rfl) trivial) fun x y h => ⟨y.1, fun _ => rfl, (t78 x).trans h⟩
noncomputable def g31 (p0 : ((List UInt8) × Int × Int × Int × Int × (List R108) × Int × Int × (List R3) × (List R3) × (List R111) × Unit)) (p1 : Int) : Option (Unit × ((Int × Unit) × Unit)) :=
  Option.bind (g73 p0) fun y1 =>
  cond (!y1.2.1.1) (
    some ((), ((0, ()), ()))
  ) (
    Option.bind (g45 p1) fun y2 =>
    cond (!y2.2.1.1) (
      some ((), ((0, ()), ()))
    ) (
      Option.bind (g78 p0.2.2.2.2.2.1 p1) fun y3 =>
      some ((), (((subW .i64 (subW .i64 p0.2.1 p0.2.2.1) y3.2.1.1), ()), ()))
    )
  )
noncomputable def s31 : Su := ⟨[.c true [.str, .int .i64, .int .i64, .int .i64, .int .i64, .sl 108 kk108, .int .i64, .int .i64, .sl 3 kk3, .sl 3 kk3, .sl 111 kk111], .c false [.int .i64]], [(false, [.int .i64])], true, .inl fun x => g31 x.1 x.2.1.1⟩
def rh31 : List SE := []
noncomputable def lo31 : Nat → Option (Lo rh31)
  | _ => none
noncomputable def ga31 : List (Nat × Su) := [(45, s45), (73, s73), (78, s78)]
noncomputable def E31 : En := ⟨23, tt, gaOf ga31, rh31, lo31, [], fun _ => none⟩
theorem t31 (x : PT s31.ps) : (fnT E31 (bodyOf Tryz.f31) Tryz.f31.results.toList s31.ps s31.rs true x).run = g31 x.1 x.2.1.1 := by kernel_rfl
theorem hga31 : GAok Tryz.prog E31 := gaok_of (l := ga31) ⟨ok45, ok73, ok78, trivial⟩
theorem ok31 : SuOK Tryz.prog 31 s31 :=
  fn_ok (E := E31) (hTT hT) hga31 hmix (fn := Tryz.f31) (c := (bodyOf Tryz.f31)) (by kernel_rfl) (by kernel_rfl) (by kernel_rfl) rfl (loopsOK_all [] (by kernel_rfl) trivial) fun x y h => ⟨y.1, fun _ => rfl, (t31 x).trans h⟩
noncomputable def g75 (p0 : Int) : Option (Unit × (((List UInt8) × Unit) × Unit)) := itoaG p0
noncomputable def s75 : Su := ⟨[.c false [.int .i64]], [(false, [.str])], true, .inl fun x => g75 x.1.1⟩
theorem ok75 : SuOK Tryz.prog 75 s75 := itoa_ok lay_LaysM_n171 rfl (fn := Tryz.f75) (c := bodyOf Tryz.f75) (by kernel_rfl) (by kernel_rfl) (by kernel_rfl)
noncomputable def g77 (p0 : (List UInt8)) (p1 : Int) : Option (Unit × (((List UInt8) × Unit) × Unit)) := repeatG p0 p1
noncomputable def s77 : Su := ⟨[.c false [.str], .c false [.int .i64]], [(false, [.str])], true, .inl fun x => g77 x.1.1 x.2.1.1⟩
theorem ok77 : SuOK Tryz.prog 77 s77 := repeat_ok lay_Lays_n105 lay_Builder_Extra rfl (fn := Tryz.f77) (c := bodyOf Tryz.f77) (by kernel_rfl) (by kernel_rfl) (by kernel_rfl)
noncomputable def g30 (p0 : Int) (p1 : Int) : Option (Unit × (((List UInt8) × Unit) × Unit)) :=
  Option.bind (g75 p0) fun y1 =>
  cond (ltI p0 0) (
    some ((), (([], ()), ()))
  ) (
    Option.bind (g76 p1 1 18) fun y2 =>
    let u1 := (lenI y1.2.1.1)
    cond (cond (!y2.2.1.1) true (ltI p1 u1)) (
      some ((), (([], ()), ()))
    ) (
      Option.bind (g77 [48] (subW .i64 p1 u1)) fun y3 =>
      cond (fitS y3.2.1.1 y1.2.1.1) (
      some ((), (((apS y3.2.1.1 y1.2.1.1), ()), ()))
      ) none
    )
  )
noncomputable def s30 : Su := ⟨[.c false [.int .i64], .c false [.int .i64]], [(false, [.str])], true, .inl fun x => g30 x.1.1 x.2.1.1⟩
def rh30 : List SE := []
noncomputable def lo30 : Nat → Option (Lo rh30)
  | _ => none
noncomputable def ga30 : List (Nat × Su) := [(76, s76), (75, s75), (77, s77)]
noncomputable def E30 : En := ⟨28, tt, gaOf ga30, rh30, lo30, [], fun _ => none⟩
theorem t30 (x : PT s30.ps) : (fnT E30 (bodyOf Tryz.f30) Tryz.f30.results.toList s30.ps s30.rs true x).run = g30 x.1.1 x.2.1.1 := by kernel_rfl
theorem hga30 : GAok Tryz.prog E30 := gaok_of (l := ga30) ⟨ok76, ok75, ok77, trivial⟩
theorem ok30 : SuOK Tryz.prog 30 s30 :=
  fn_ok (E := E30) (hTT hT) hga30 hmix (fn := Tryz.f30) (c := (bodyOf Tryz.f30)) (by kernel_rfl) (by kernel_rfl) (by kernel_rfl) rfl (loopsOK_all [] (by kernel_rfl) trivial) fun x y h => ⟨y.1, fun _ => rfl, (t30 x).trans h⟩
noncomputable def g8 (p0 : ((List UInt8) × Int × Int × Int × Int × (List R108) × Int × Int × (List R3) × (List R3) × (List R111) × Unit)) (p1 : Int) : Option (Unit × (((List UInt8) × Unit) × (Int × Unit) × Unit)) :=
  Option.bind (g29 p0 p1) fun y1 =>
  cond (!(eqI y1.2.2.1.1 0)) (
    some ((), (([], ()), y1.2.2.1, ()))
  ) (
    Option.bind (g31 y1.2.1 p1) fun y2 =>
    Option.bind (g30 y2.2.1.1 16) fun y3 =>
    cond (fitS y3.2.1.1 [32]) (
    Option.bind (g30 y1.2.1.2.2.1 16) fun y4 =>
    let u1 := (apS y3.2.1.1 [32])
    cond (fitS u1 y4.2.1.1) (
    some ((), (((apS u1 y4.2.1.1), ()), (0, ()), ()))
    ) none
    ) none
  )
noncomputable def s8 : Su := ⟨[.c true [.str, .int .i64, .int .i64, .int .i64, .int .i64, .sl 108 kk108, .int .i64, .int .i64, .sl 3 kk3, .sl 3 kk3, .sl 111 kk111], .c false [.int .i64]], [(false, [.str]), (false, [.int .i64])], true, .inl fun x => g8 x.1 x.2.1.1⟩
def rh8 : List SE := []
noncomputable def lo8 : Nat → Option (Lo rh8)
  | _ => none
noncomputable def ga8 : List (Nat × Su) := [(29, s29), (31, s31), (30, s30)]
noncomputable def E8 : En := ⟨26, tt, gaOf ga8, rh8, lo8, [], fun _ => none⟩
theorem t8 (x : PT s8.ps) : (fnT E8 (bodyOf Tryz.f8) Tryz.f8.results.toList s8.ps s8.rs true x).run = g8 x.1 x.2.1.1 := by kernel_rfl
theorem hga8 : GAok Tryz.prog E8 := gaok_of (l := ga8) ⟨ok29, ok31, ok30, trivial⟩
theorem ok8 : SuOK Tryz.prog 8 s8 :=
  fn_ok (E := E8) (hTT hT) hga8 hmix (fn := Tryz.f8) (c := (bodyOf Tryz.f8)) (by kernel_rfl) (by kernel_rfl) (by kernel_rfl) rfl (loopsOK_all [] (by kernel_rfl) trivial) fun x y h => ⟨y.1, fun _ => rfl, (t8 x).trans h⟩
noncomputable def g79 (p0 : ((List UInt8) × Int × Int × Unit)) (p1 : ((List UInt8) × Int × Int × Unit)) : Option (Unit × ((Bool × Unit) × Unit)) :=
  cond (!(eqS p0.1 p1.1)) (
    some ((), ((false, ()), ()))
  ) (
    cond (!(eqI p0.2.1 p1.2.1)) (
      some ((), ((false, ()), ()))
    ) (
      cond (!(eqI p0.2.2.1 p1.2.2.1)) (
        some ((), ((false, ()), ()))
      ) (
        some ((), ((true, ()), ()))
      )
    )
  )
noncomputable def s79 : Su := ⟨[.c true [.str, .int .i64, .int .i64], .c true [.str, .int .i64, .int .i64]], [(false, [.bool])], true, .inl fun x => g79 x.1 x.2.1⟩
def rh79 : List SE := []
noncomputable def lo79 : Nat → Option (Lo rh79)
  | _ => none
noncomputable def ga79 : List (Nat × Su) := []
noncomputable def E79 : En := ⟨20, tt, gaOf ga79, rh79, lo79, [], fun _ => none⟩
theorem t79 (x : PT s79.ps) : (fnT E79 (bodyOf Tryz.f79) Tryz.f79.results.toList s79.ps s79.rs true x).run = g79 x.1 x.2.1 := by kernel_rfl
theorem hga79 : GAok Tryz.prog E79 := gaok_of (l := ga79) trivial
theorem ok79 : SuOK Tryz.prog 79 s79 :=
  fn_ok (E := E79) (hTT hT) hga79 hmix (fn := Tryz.f79) (c := (bodyOf Tryz.f79)) (by kernel_rfl) (by kernel_rfl) (by kernel_rfl) rfl (loopsOK_all [] (by kernel_rfl) trivial) fun x y h => ⟨y.1, fun _ => rfl, (t79 x).trans h⟩
noncomputable def r32_0 (t0 : (List R108)) (t1 : (List R108)) (t5 : Int) : Option (Sum ((List R108) × (List R108) × Int × Unit) (Sum ((List R108) × (List R108) × Int × Unit) (Bool × Unit))) :=
  cond (ltI t5 (lenI t0)) (
    cond (inB t5 t0) (
    cond (inB t5 t1) (
    Option.bind (g79 (gt d108 t0 t5) (gt d108 t1 t5)) fun y1 =>
    cond (!y1.2.1.1) (
      some (.inr (.inr (false, ())))
    ) (
      some (.inl (t0, t1, (addW .i64 t5 1), ()))
    )
    ) none
    ) none
  ) (
    some (.inr (.inl (t0, t1, t5, ())))
  )
noncomputable def l32_0 (t0 : (List R108)) (t1 : (List R108)) (t5 : Int) : Option (Sum ((List R108) × (List R108) × Int × Unit) (Bool × Unit)) := loopF (fun (x : ((List R108) × (List R108) × Int × Unit)) => r32_0 x.1 x.2.1 x.2.2.1) (t0, t1, t5, ())
noncomputable def g32 (p0 : (List R108)) (p1 : (List R108)) : Option (Unit × ((Bool × Unit) × Unit)) :=
  cond (!(eqI (lenI p0) (lenI p1))) (
    some ((), ((false, ()), ()))
  ) (
    Option.bind (l32_0 p0 p1 0) (Sum.elim (fun y1 =>
      some ((), ((true, ()), ()))
    ) (fun y1 =>
      some ((), (y1, ()))
    ))
  )
noncomputable def s32 : Su := ⟨[.c false [.sl 108 kk108], .c false [.sl 108 kk108]], [(false, [.bool])], true, .inl fun x => g32 x.1.1 x.2.1.1⟩
def sg32_0 : List SE := [.d 0 (.sl 108 kk108), .d 1 (.sl 108 kk108), .d 5 (.int .i64)]
def rh32 : List SE := [.d 4 (.bool)]
noncomputable def lo32 : Nat → Option (Lo rh32)
  | 0 => some ⟨sg32_0, fun x => l32_0 x.1 x.2.1 x.2.2.1⟩
  | _ => none
noncomputable def ga32 : List (Nat × Su) := [(79, s79)]
noncomputable def E32 : En := ⟨27, tt, gaOf ga32, rh32, lo32, [], fun _ => none⟩
theorem t32_0 (x : SigT sg32_0) : (roundT E32 0 sg32_0 (loopOf 0 (bodyOf Tryz.f32)) x).run = r32_0 x.1 x.2.1 x.2.2.1 := by kernel_rfl
theorem t32 (x : PT s32.ps) : (fnT E32 (bodyOf Tryz.f32) Tryz.f32.results.toList s32.ps s32.rs true x).run = g32 x.1.1 x.2.1.1 := by kernel_rfl
theorem hga32 : GAok Tryz.prog E32 := gaok_of (l := ga32) ⟨ok79, trivial⟩
theorem L32_0 : LoopSem Tryz.prog E32 0 (.loop (loopOf 0 (bodyOf Tryz.f32))) ⟨sg32_0, fun x => l32_0 x.1 x.2.1 x.2.2.1⟩ :=
  sem_of (hTT hT) hga32 hmix (step := fun (x : SigT sg32_0) => r32_0 x.1 x.2.1 x.2.2.1) t32_0 (loopsOK_all [] (by kernel_rfl) trivial)
theorem ok32 : SuOK Tryz.prog 32 s32 :=
  fn_ok (E := E32) (hTT hT) hga32 hmix (fn := Tryz.f32) (c := (bodyOf Tryz.f32)) (by kernel_rfl) (by kernel_rfl) (by kernel_rfl) rfl (loopsOK_all [(0, .loop (loopOf 0 (bodyOf Tryz.f32)))] (by kernel_rfl) ⟨semL rfl L32_0, trivial⟩) fun x y h => ⟨y.1, fun _ => rfl, (t32 x).trans h⟩
noncomputable def r80_0 (t0 : (List R3)) (t1 : (List R3)) (t5 : Int) : Option (Sum ((List R3) × (List R3) × Int × Unit) (Sum ((List R3) × (List R3) × Int × Unit) (Bool × Unit))) :=
  cond (ltI t5 (lenI t0)) (
    cond (inB t5 t0) (
    cond (inB t5 t1) (
    cond (!(eqI (gt d3 t0 t5).1 (gt d3 t1 t5).1)) (
      some (.inr (.inr (false, ())))
    ) (
      some (.inl (t0, t1, (addW .i64 t5 1), ()))
    )
    ) none
    ) none
  ) (
    some (.inr (.inl (t0, t1, t5, ())))
  )
noncomputable def l80_0 (t0 : (List R3)) (t1 : (List R3)) (t5 : Int) : Option (Sum ((List R3) × (List R3) × Int × Unit) (Bool × Unit)) := loopF (fun (x : ((List R3) × (List R3) × Int × Unit)) => r80_0 x.1 x.2.1 x.2.2.1) (t0, t1, t5, ())
noncomputable def g80 (p0 : (List R3)) (p1 : (List R3)) : Option (Unit × ((Bool × Unit) × Unit)) :=
  cond (!(eqI (lenI p0) (lenI p1))) (
    some ((), ((false, ()), ()))
  ) (
    Option.bind (l80_0 p0 p1 0) (Sum.elim (fun y1 =>
      some ((), ((true, ()), ()))
    ) (fun y1 =>
      some ((), (y1, ()))
    ))
  )
noncomputable def s80 : Su := ⟨[.c false [.sl 3 kk3], .c false [.sl 3 kk3]], [(false, [.bool])], true, .inl fun x => g80 x.1.1 x.2.1.1⟩
def sg80_0 : List SE := [.d 0 (.sl 3 kk3), .d 1 (.sl 3 kk3), .d 5 (.int .i64)]
def rh80 : List SE := [.d 4 (.bool)]
noncomputable def lo80 : Nat → Option (Lo rh80)
  | 0 => some ⟨sg80_0, fun x => l80_0 x.1 x.2.1 x.2.2.1⟩
  | _ => none
noncomputable def ga80 : List (Nat × Su) := []
noncomputable def E80 : En := ⟨26, tt, gaOf ga80, rh80, lo80, [], fun _ => none⟩
theorem t80_0 (x : SigT sg80_0) : (roundT E80 0 sg80_0 (loopOf 0 (bodyOf Tryz.f80)) x).run = r80_0 x.1 x.2.1 x.2.2.1 := by kernel_rfl
theorem t80 (x : PT s80.ps) : (fnT E80 (bodyOf Tryz.f80) Tryz.f80.results.toList s80.ps s80.rs true x).run = g80 x.1.1 x.2.1.1 := by kernel_rfl
theorem hga80 : GAok Tryz.prog E80 := gaok_of (l := ga80) trivial
theorem L80_0 : LoopSem Tryz.prog E80 0 (.loop (loopOf 0 (bodyOf Tryz.f80))) ⟨sg80_0, fun x => l80_0 x.1 x.2.1 x.2.2.1⟩ :=
  sem_of (hTT hT) hga80 hmix (step := fun (x : SigT sg80_0) => r80_0 x.1 x.2.1 x.2.2.1) t80_0 (loopsOK_all [] (by kernel_rfl) trivial)
theorem ok80 : SuOK Tryz.prog 80 s80 :=
  fn_ok (E := E80) (hTT hT) hga80 hmix (fn := Tryz.f80) (c := (bodyOf Tryz.f80)) (by kernel_rfl) (by kernel_rfl) (by kernel_rfl) rfl (loopsOK_all [(0, .loop (loopOf 0 (bodyOf Tryz.f80)))] (by kernel_rfl) ⟨semL rfl L80_0, trivial⟩) fun x y h => ⟨y.1, fun _ => rfl, (t80 x).trans h⟩
noncomputable def g33 (p0 : (Int × Int × (List R3) × (List R3) × Unit)) (p1 : (Int × Int × (List R3) × (List R3) × Unit)) : Option (Unit × ((Bool × Unit) × Unit)) :=
  cond (!(eqI p0.1 p1.1)) (
    some ((), ((false, ()), ()))
  ) (
    cond (!(eqI p0.2.1 p1.2.1)) (
      some ((), ((false, ()), ()))
    ) (
      Option.bind (g80 p0.2.2.1 p1.2.2.1) fun y1 =>
      cond (!y1.2.1.1) (
        some ((), ((false, ()), ()))
      ) (
        Option.bind (g80 p0.2.2.2.1 p1.2.2.2.1) fun y2 =>
        cond (!y2.2.1.1) (
          some ((), ((false, ()), ()))
        ) (
          some ((), ((true, ()), ()))
        )
      )
    )
  )
noncomputable def s33 : Su := ⟨[.c true [.int .i64, .int .i64, .sl 3 kk3, .sl 3 kk3], .c true [.int .i64, .int .i64, .sl 3 kk3, .sl 3 kk3]], [(false, [.bool])], true, .inl fun x => g33 x.1 x.2.1⟩
def rh33 : List SE := []
noncomputable def lo33 : Nat → Option (Lo rh33)
  | _ => none
noncomputable def ga33 : List (Nat × Su) := [(80, s80)]
noncomputable def E33 : En := ⟨27, tt, gaOf ga33, rh33, lo33, [], fun _ => none⟩
theorem t33 (x : PT s33.ps) : (fnT E33 (bodyOf Tryz.f33) Tryz.f33.results.toList s33.ps s33.rs true x).run = g33 x.1 x.2.1 := by kernel_rfl
theorem hga33 : GAok Tryz.prog E33 := gaok_of (l := ga33) ⟨ok80, trivial⟩
theorem ok33 : SuOK Tryz.prog 33 s33 :=
  fn_ok (E := E33) (hTT hT) hga33 hmix (fn := Tryz.f33) (c := (bodyOf Tryz.f33)) (by kernel_rfl) (by kernel_rfl) (by kernel_rfl) rfl (loopsOK_all [] (by kernel_rfl) trivial) fun x y h => ⟨y.1, fun _ => rfl, (t33 x).trans h⟩
noncomputable def r140_0 (t0 : (List R5)) (t1 : (List R5)) (t5 : Int) : Option (Sum ((List R5) × (List R5) × Int × Unit) (Sum ((List R5) × (List R5) × Int × Unit) (Bool × Unit))) :=
  cond (ltI t5 (lenI t0)) (
    cond (inB t5 t0) (
    cond (inB t5 t1) (
    cond (!(eqI (gt d5 t0 t5).1 (gt d5 t1 t5).1)) (
      some (.inr (.inr (false, ())))
    ) (
      some (.inl (t0, t1, (addW .i64 t5 1), ()))
    )
    ) none
    ) none
  ) (
    some (.inr (.inl (t0, t1, t5, ())))
  )
noncomputable def l140_0 (t0 : (List R5)) (t1 : (List R5)) (t5 : Int) : Option (Sum ((List R5) × (List R5) × Int × Unit) (Bool × Unit)) := loopF (fun (x : ((List R5) × (List R5) × Int × Unit)) => r140_0 x.1 x.2.1 x.2.2.1) (t0, t1, t5, ())
noncomputable def g140 (p0 : (List R5)) (p1 : (List R5)) : Option (Unit × ((Bool × Unit) × Unit)) :=
  cond (!(eqI (lenI p0) (lenI p1))) (
    some ((), ((false, ()), ()))
  ) (
    Option.bind (l140_0 p0 p1 0) (Sum.elim (fun y1 =>
      some ((), ((true, ()), ()))
    ) (fun y1 =>
      some ((), (y1, ()))
    ))
  )
noncomputable def s140 : Su := ⟨[.c false [.sl 5 kk5], .c false [.sl 5 kk5]], [(false, [.bool])], true, .inl fun x => g140 x.1.1 x.2.1.1⟩
def sg140_0 : List SE := [.d 0 (.sl 5 kk5), .d 1 (.sl 5 kk5), .d 5 (.int .i64)]
def rh140 : List SE := [.d 4 (.bool)]
noncomputable def lo140 : Nat → Option (Lo rh140)
  | 0 => some ⟨sg140_0, fun x => l140_0 x.1 x.2.1 x.2.2.1⟩
  | _ => none
noncomputable def ga140 : List (Nat × Su) := []
noncomputable def E140 : En := ⟨26, tt, gaOf ga140, rh140, lo140, [], fun _ => none⟩
theorem t140_0 (x : SigT sg140_0) : (roundT E140 0 sg140_0 (loopOf 0 (bodyOf Tryz.f140)) x).run = r140_0 x.1 x.2.1 x.2.2.1 := by kernel_rfl
theorem t140 (x : PT s140.ps) : (fnT E140 (bodyOf Tryz.f140) Tryz.f140.results.toList s140.ps s140.rs true x).run = g140 x.1.1 x.2.1.1 := by kernel_rfl
theorem hga140 : GAok Tryz.prog E140 := gaok_of (l := ga140) trivial
theorem L140_0 : LoopSem Tryz.prog E140 0 (.loop (loopOf 0 (bodyOf Tryz.f140))) ⟨sg140_0, fun x => l140_0 x.1 x.2.1 x.2.2.1⟩ :=
  sem_of (hTT hT) hga140 hmix (step := fun (x : SigT sg140_0) => r140_0 x.1 x.2.1 x.2.2.1) t140_0 (loopsOK_all [] (by kernel_rfl) trivial)
theorem ok140 : SuOK Tryz.prog 140 s140 :=
  fn_ok (E := E140) (hTT hT) hga140 hmix (fn := Tryz.f140) (c := (bodyOf Tryz.f140)) (by kernel_rfl) (by kernel_rfl) (by kernel_rfl) rfl (loopsOK_all [(0, .loop (loopOf 0 (bodyOf Tryz.f140)))] (by kernel_rfl) ⟨semL rfl L140_0, trivial⟩) fun x y h => ⟨y.1, fun _ => rfl, (t140 x).trans h⟩
noncomputable def g81 (p0 : ((List UInt8) × (List UInt8) × (List R5) × Unit)) (p1 : ((List UInt8) × (List UInt8) × (List R5) × Unit)) : Option (Unit × ((Bool × Unit) × Unit)) :=
  cond (!(eqS p0.1 p1.1)) (
    some ((), ((false, ()), ()))
  ) (
    cond (!(eqS p0.2.1 p1.2.1)) (
      some ((), ((false, ()), ()))
    ) (
      Option.bind (g140 p0.2.2.1 p1.2.2.1) fun y1 =>
      cond (!y1.2.1.1) (
        some ((), ((false, ()), ()))
      ) (
        some ((), ((true, ()), ()))
      )
    )
  )
noncomputable def s81 : Su := ⟨[.c true [.str, .str, .sl 5 kk5], .c true [.str, .str, .sl 5 kk5]], [(false, [.bool])], true, .inl fun x => g81 x.1 x.2.1⟩
def rh81 : List SE := []
noncomputable def lo81 : Nat → Option (Lo rh81)
  | _ => none
noncomputable def ga81 : List (Nat × Su) := [(140, s140)]
noncomputable def E81 : En := ⟨21, tt, gaOf ga81, rh81, lo81, [], fun _ => none⟩
theorem t81 (x : PT s81.ps) : (fnT E81 (bodyOf Tryz.f81) Tryz.f81.results.toList s81.ps s81.rs true x).run = g81 x.1 x.2.1 := by kernel_rfl
theorem hga81 : GAok Tryz.prog E81 := gaok_of (l := ga81) ⟨ok140, trivial⟩
theorem ok81 : SuOK Tryz.prog 81 s81 :=
  fn_ok (E := E81) (hTT hT) hga81 hmix (fn := Tryz.f81) (c := (bodyOf Tryz.f81)) (by kernel_rfl) (by kernel_rfl) (by kernel_rfl) rfl (loopsOK_all [] (by kernel_rfl) trivial) fun x y h => ⟨y.1, fun _ => rfl, (t81 x).trans h⟩
noncomputable def r34_0 (t0 : (List R111)) (t1 : (List R111)) (t5 : Int) : Option (Sum ((List R111) × (List R111) × Int × Unit) (Sum ((List R111) × (List R111) × Int × Unit) (Bool × Unit))) :=
  cond (ltI t5 (lenI t0)) (
    cond (inB t5 t0) (
    cond (inB t5 t1) (
    Option.bind (g81 (gt d111 t0 t5) (gt d111 t1 t5)) fun y1 =>
    cond (!y1.2.1.1) (
      some (.inr (.inr (false, ())))
    ) (
      some (.inl (t0, t1, (addW .i64 t5 1), ()))
    )
    ) none
    ) none
  ) (
    some (.inr (.inl (t0, t1, t5, ())))
  )
noncomputable def l34_0 (t0 : (List R111)) (t1 : (List R111)) (t5 : Int) : Option (Sum ((List R111) × (List R111) × Int × Unit) (Bool × Unit)) := loopF (fun (x : ((List R111) × (List R111) × Int × Unit)) => r34_0 x.1 x.2.1 x.2.2.1) (t0, t1, t5, ())
noncomputable def g34 (p0 : (List R111)) (p1 : (List R111)) : Option (Unit × ((Bool × Unit) × Unit)) :=
  cond (!(eqI (lenI p0) (lenI p1))) (
    some ((), ((false, ()), ()))
  ) (
    Option.bind (l34_0 p0 p1 0) (Sum.elim (fun y1 =>
      some ((), ((true, ()), ()))
    ) (fun y1 =>
      some ((), (y1, ()))
    ))
  )
noncomputable def s34 : Su := ⟨[.c false [.sl 111 kk111], .c false [.sl 111 kk111]], [(false, [.bool])], true, .inl fun x => g34 x.1.1 x.2.1.1⟩
def sg34_0 : List SE := [.d 0 (.sl 111 kk111), .d 1 (.sl 111 kk111), .d 5 (.int .i64)]
def rh34 : List SE := [.d 4 (.bool)]
noncomputable def lo34 : Nat → Option (Lo rh34)
  | 0 => some ⟨sg34_0, fun x => l34_0 x.1 x.2.1 x.2.2.1⟩
  | _ => none
noncomputable def ga34 : List (Nat × Su) := [(81, s81)]
noncomputable def E34 : En := ⟨27, tt, gaOf ga34, rh34, lo34, [], fun _ => none⟩
theorem t34_0 (x : SigT sg34_0) : (roundT E34 0 sg34_0 (loopOf 0 (bodyOf Tryz.f34)) x).run = r34_0 x.1 x.2.1 x.2.2.1 := by kernel_rfl
theorem t34 (x : PT s34.ps) : (fnT E34 (bodyOf Tryz.f34) Tryz.f34.results.toList s34.ps s34.rs true x).run = g34 x.1.1 x.2.1.1 := by kernel_rfl
theorem hga34 : GAok Tryz.prog E34 := gaok_of (l := ga34) ⟨ok81, trivial⟩
theorem L34_0 : LoopSem Tryz.prog E34 0 (.loop (loopOf 0 (bodyOf Tryz.f34))) ⟨sg34_0, fun x => l34_0 x.1 x.2.1 x.2.2.1⟩ :=
  sem_of (hTT hT) hga34 hmix (step := fun (x : SigT sg34_0) => r34_0 x.1 x.2.1 x.2.2.1) t34_0 (loopsOK_all [] (by kernel_rfl) trivial)
theorem ok34 : SuOK Tryz.prog 34 s34 :=
  fn_ok (E := E34) (hTT hT) hga34 hmix (fn := Tryz.f34) (c := (bodyOf Tryz.f34)) (by kernel_rfl) (by kernel_rfl) (by kernel_rfl) rfl (loopsOK_all [(0, .loop (loopOf 0 (bodyOf Tryz.f34)))] (by kernel_rfl) ⟨semL rfl L34_0, trivial⟩) fun x y h => ⟨y.1, fun _ => rfl, (t34 x).trans h⟩
noncomputable def g9 (p0 : ((List UInt8) × Int × Int × Int × Int × (List R108) × Int × Int × (List R3) × (List R3) × (List R111) × Unit)) (p1 : ((List UInt8) × Int × Int × Int × Int × (List R108) × Int × Int × (List R3) × (List R3) × (List R111) × Unit)) : Option (Unit × ((Bool × Unit) × Unit)) :=
  cond (!(eqS p0.1 p1.1)) (
    some ((), ((false, ()), ()))
  ) (
    cond (!(eqI p0.2.1 p1.2.1)) (
      some ((), ((false, ()), ()))
    ) (
      cond (!(eqI p0.2.2.1 p1.2.2.1)) (
        some ((), ((false, ()), ()))
      ) (
        cond (!(eqI p0.2.2.2.1 p1.2.2.2.1)) (
          some ((), ((false, ()), ()))
        ) (
          cond (!(eqI p0.2.2.2.2.1 p1.2.2.2.2.1)) (
            some ((), ((false, ()), ()))
          ) (
            Option.bind (g32 p0.2.2.2.2.2.1 p1.2.2.2.2.2.1) fun y1 =>
            cond (!y1.2.1.1) (
              some ((), ((false, ()), ()))
            ) (
              Option.bind (g33 (p0.2.2.2.2.2.2.1, p0.2.2.2.2.2.2.2.1, p0.2.2.2.2.2.2.2.2.1, p0.2.2.2.2.2.2.2.2.2.1, ()) (p1.2.2.2.2.2.2.1, p1.2.2.2.2.2.2.2.1, p1.2.2.2.2.2.2.2.2.1, p1.2.2.2.2.2.2.2.2.2.1, ())) fun y2 =>
              cond (!y2.2.1.1) (
                some ((), ((false, ()), ()))
              ) (
                Option.bind (g34 p0.2.2.2.2.2.2.2.2.2.2.1 p1.2.2.2.2.2.2.2.2.2.2.1) fun y3 =>
                cond (!y3.2.1.1) (
                  some ((), ((false, ()), ()))
                ) (
                  some ((), ((true, ()), ()))
                )
              )
            )
          )
        )
      )
    )
  )
noncomputable def s9 : Su := ⟨[.c true [.str, .int .i64, .int .i64, .int .i64, .int .i64, .sl 108 kk108, .int .i64, .int .i64, .sl 3 kk3, .sl 3 kk3, .sl 111 kk111], .c true [.str, .int .i64, .int .i64, .int .i64, .int .i64, .sl 108 kk108, .int .i64, .int .i64, .sl 3 kk3, .sl 3 kk3, .sl 111 kk111]], [(false, [.bool])], true, .inl fun x => g9 x.1 x.2.1⟩
def rh9 : List SE := []
noncomputable def lo9 : Nat → Option (Lo rh9)
  | _ => none
noncomputable def ga9 : List (Nat × Su) := [(32, s32), (33, s33), (34, s34)]
noncomputable def E9 : En := ⟨48, tt, gaOf ga9, rh9, lo9, [], fun _ => none⟩
theorem t9 (x : PT s9.ps) : (fnT E9 (bodyOf Tryz.f9) Tryz.f9.results.toList s9.ps s9.rs true x).run = g9 x.1 x.2.1 := by kernel_rfl
theorem hga9 : GAok Tryz.prog E9 := gaok_of (l := ga9) ⟨ok32, ok33, ok34, trivial⟩
theorem ok9 : SuOK Tryz.prog 9 s9 :=
  fn_ok (E := E9) (hTT hT) hga9 hmix (fn := Tryz.f9) (c := (bodyOf Tryz.f9)) (by kernel_rfl) (by kernel_rfl) (by kernel_rfl) rfl (loopsOK_all [] (by kernel_rfl) trivial) fun x y h => ⟨y.1, fun _ => rfl, (t9 x).trans h⟩
noncomputable def g3 (p0 : ((List UInt8) × Int × Int × Int × Int × (List R93) × Int × Int × (List R3) × (List R3) × (List R98) × Unit)) (p1 : Int) : Option (Unit × ((Bool × Unit) × Unit)) :=
  Option.bind (g5 p0 1048576) fun y1 =>
  cond (ltI y1.2.1.1 0) (
    some ((), ((true, ()), ()))
  ) (
    let u1 := (g7 p0)
    Option.bind u1 fun y2 =>
    Option.bind (g6 y2.2.1 p1) fun y3 =>
    Option.bind u1 fun y4 =>
    Option.bind (g8 y4.2.1 p1) fun y5 =>
    cond (cond (!(eqS y5.2.1.1 y3.2.1.1)) true (!(eqI y5.2.2.1.1 y3.2.2.1.1))) (
      some ((), ((false, ()), ()))
    ) (
      Option.bind u1 fun y6 =>
      Option.bind (g9 y4.2.1 y6.2.1) fun y7 =>
      cond (!y7.2.1.1) (
        some ((), ((false, ()), ()))
      ) (
        some ((), ((true, ()), ()))
      )
    )
  )
noncomputable def s3 : Su := ⟨[.c true [.str, .int .i64, .int .i64, .int .i64, .int .i64, .sl 93 kk93, .int .i64, .int .i64, .sl 3 kk3, .sl 3 kk3, .sl 98 kk98], .c false [.int .i64]], [(false, [.bool])], true, .inl fun x => g3 x.1 x.2.1.1⟩
def rh3 : List SE := []
noncomputable def lo3 : Nat → Option (Lo rh3)
  | _ => none
noncomputable def ga3 : List (Nat × Su) := [(5, s5), (7, s7), (6, s6), (8, s8), (9, s9)]
noncomputable def E3 : En := ⟨44, tt, gaOf ga3, rh3, lo3, [], fun _ => none⟩
theorem t3 (x : PT s3.ps) : (fnT E3 (bodyOf Tryz.f3) Tryz.f3.results.toList s3.ps s3.rs true x).run = g3 x.1 x.2.1.1 := by kernel_rfl
theorem hga3 : GAok Tryz.prog E3 := gaok_of (l := ga3) ⟨ok5, ok7, ok6, ok8, ok9, trivial⟩
theorem ok3 : SuOK Tryz.prog 3 s3 :=
  fn_ok (E := E3) (hTT hT) hga3 hmix (fn := Tryz.f3) (c := (bodyOf Tryz.f3)) (by kernel_rfl) (by kernel_rfl) (by kernel_rfl) rfl (loopsOK_all [] (by kernel_rfl) trivial) fun x y h => ⟨y.1, fun _ => rfl, (t3 x).trans h⟩
end Go.Av

