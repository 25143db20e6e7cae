/- Part of a proof that the law FnExactDeal answers true for every input: the printed functions of this program and their plain laws. No conditions beyond the statement. -/
import Derived.Test.YtjflhhoafpgfhaaGreatDoorFw4
import Derived.Test.YtjflhhoafpgfhaaGreatDoorFw3
import Derived.WalkKit
import Derived.Lib.Walk
import Derived.Lib.SliceRun
import Derived.Shelf.Spec.SlicesInsert
import Derived.Test.YtjflhhoafpgfhaaGreatDoorProg
set_option maxRecDepth 100000
namespace Go.Av
open Go.Proofs
def kk93 : List K := [.str, .int .i64, .int .i64]
def kk3 : List K := [.int .i64]
def kk5 : List K := [.int .u8]
def kk98 : List K := [.str, .str, .sl 5 kk5]
def kk108 : List K := [.str, .int .i64, .int .i64]
def kk111 : List K := [.str, .str, .sl 5 kk5]
def kk28 : List K := [.str, .int .i64, .int .i64, .int .i64, .int .i64, .sl 93 kk93, .int .i64, .int .i64, .sl 3 kk3, .sl 3 kk3, .sl 98 kk98]
def kk36 : List K := [.str, .int .i64, .int .i64, .int .i64, .int .i64, .sl 108 kk108, .int .i64, .int .i64, .sl 3 kk3, .sl 3 kk3, .sl 111 kk111]
def kk9 : List K := [.str]
def kk121 : List K := [.str, .str, .str, .sl 3 kk3]
def kk23 : List K := [.sl 3 kk3]
abbrev R93 := ((List UInt8) × Int × Int × Unit)
def d93 : R93 := ([], 0, 0, ())
abbrev R3 := (Int × Unit)
def d3 : R3 := (0, ())
abbrev R5 := (Int × Unit)
def d5 : R5 := (0, ())
abbrev R98 := ((List UInt8) × (List UInt8) × (List R5) × Unit)
def d98 : R98 := ([], [], [], ())
abbrev R108 := ((List UInt8) × Int × Int × Unit)
def d108 : R108 := ([], 0, 0, ())
abbrev R111 := ((List UInt8) × (List UInt8) × (List R5) × Unit)
def d111 : R111 := ([], [], [], ())
abbrev R28 := ((List UInt8) × Int × Int × Int × Int × (List R93) × Int × Int × (List R3) × (List R3) × (List R98) × Unit)
def d28 : R28 := ([], 0, 0, 0, 0, [], 0, 0, [], [], [], ())
abbrev R36 := ((List UInt8) × Int × Int × Int × Int × (List R108) × Int × Int × (List R3) × (List R3) × (List R111) × Unit)
def d36 : R36 := ([], 0, 0, 0, 0, [], 0, 0, [], [], [], ())
abbrev R9 := ((List UInt8) × Unit)
def d9 : R9 := ([], ())
abbrev R121 := ((List UInt8) × (List UInt8) × (List UInt8) × (List R3) × Unit)
def d121 : R121 := ([], [], [], [], ())
abbrev R23 := ((List R3) × Unit)
def d23 : R23 := ([], ())
def tt : List (Nat × TI) := [(2, ⟨false, [.int .i64], 0, 8, []⟩),
 (3, ⟨false, [.int .i64], 0, 8, []⟩),
 (4, ⟨false, [.bool], 0, 1, []⟩),
 (5, ⟨false, [.int .u8], 0, 1, []⟩),
 (6, ⟨false, [.int .u8], 0, 1, []⟩),
 (7, ⟨true, [.int .i64, .int .i64, .bool, .int .u8], 0, 24, [(0, 2), (1, 3), (2, 4), (3, 6)]⟩),
 (8, ⟨true, [.int .i64, .int .i64, .bool, .int .u8], 0, 24, [(0, 2), (1, 3), (2, 4), (3, 6)]⟩),
 (9, ⟨false, [.str], 0, 16, []⟩),
 (10, ⟨false, [.str], 0, 16, []⟩),
 (11, ⟨false, [.str], 0, 16, []⟩),
 (12, ⟨false, [.int .u64], 0, 8, []⟩),
 (13, ⟨true, [.str, .int .u64], 0, 24, [(0, 9), (1, 12)]⟩),
 (14, ⟨true, [.str, .int .u64], 0, 24, [(0, 9), (1, 12)]⟩),
 (21, ⟨false, [.int .i32], 0, 4, []⟩),
 (22, ⟨false, [.sl 93 kk93], 93, 24, []⟩),
 (23, ⟨false, [.sl 3 kk3], 3, 24, []⟩),
 (24, ⟨true, [.int .i64, .int .i64, .sl 3 kk3, .sl 3 kk3], 0, 64, [(0, 3), (1, 3), (2, 23), (3, 23)]⟩),
 (25, ⟨true, [.int .i64, .int .i64, .sl 3 kk3, .sl 3 kk3], 0, 64, [(0, 3), (1, 3), (2, 23), (3, 23)]⟩),
 (26, ⟨false, [.sl 98 kk98], 98, 24, []⟩),
 (27, ⟨true, [.str, .int .i64, .int .i64, .int .i64, .int .i64, .sl 93 kk93, .int .i64, .int .i64, .sl 3 kk3, .sl 3 kk3, .sl 98 kk98], 0, 160, [(0, 9), (1, 3), (2, 3), (3, 3), (4, 3), (5, 22), (6, 25), (10, 26)]⟩),
 (28, ⟨true, [.str, .int .i64, .int .i64, .int .i64, .int .i64, .sl 93 kk93, .int .i64, .int .i64, .sl 3 kk3, .sl 3 kk3, .sl 98 kk98], 0, 160, [(0, 9), (1, 3), (2, 3), (3, 3), (4, 3), (5, 22), (6, 25), (10, 26)]⟩),
 (32, ⟨false, [.sl 108 kk108], 108, 24, []⟩),
 (33, ⟨true, [.int .i64, .int .i64, .sl 3 kk3, .sl 3 kk3], 0, 64, [(0, 3), (1, 3), (2, 23), (3, 23)]⟩),
 (34, ⟨false, [.sl 111 kk111], 111, 24, []⟩),
 (35, ⟨true, [.str, .int .i64, .int .i64, .int .i64, .int .i64, .sl 108 kk108, .int .i64, .int .i64, .sl 3 kk3, .sl 3 kk3, .sl 111 kk111], 0, 160, [(0, 9), (1, 3), (2, 3), (3, 3), (4, 3), (5, 32), (6, 33), (10, 34)]⟩),
 (36, ⟨true, [.str, .int .i64, .int .i64, .int .i64, .int .i64, .sl 108 kk108, .int .i64, .int .i64, .sl 3 kk3, .sl 3 kk3, .sl 111 kk111], 0, 160, [(0, 9), (1, 3), (2, 3), (3, 3), (4, 3), (5, 32), (6, 33), (10, 34)]⟩),
 (40, ⟨false, [.sl 28 kk28], 28, 24, []⟩),
 (41, ⟨true, [.sl 28 kk28], 0, 24, [(0, 40)]⟩),
 (42, ⟨true, [.sl 28 kk28], 0, 24, [(0, 40)]⟩),
 (43, ⟨true, [.int .i64, .str, .str, .str, .str, .str, .int .i64, .int .i64], 0, 104, [(0, 3), (1, 9), (2, 9), (3, 9), (4, 9), (5, 9), (6, 3), (7, 3)]⟩),
 (44, ⟨true, [.int .i64, .str, .str, .str, .str, .str, .int .i64, .int .i64], 0, 104, [(0, 3), (1, 9), (2, 9), (3, 9), (4, 9), (5, 9), (6, 3), (7, 3)]⟩),
 (47, ⟨false, [.sl 36 kk36], 36, 24, []⟩),
 (48, ⟨true, [.sl 36 kk36], 0, 24, [(0, 47)]⟩),
 (49, ⟨true, [.sl 36 kk36], 0, 24, [(0, 47)]⟩),
 (53, ⟨true, [.int .i64, .str, .str, .str, .str, .str, .int .i64, .int .i64], 0, 104, [(0, 3), (1, 9), (2, 9), (3, 9), (4, 9), (5, 9), (6, 3), (7, 3)]⟩),
 (92, ⟨true, [.str, .int .i64, .int .i64], 0, 32, [(0, 9), (1, 3), (2, 3)]⟩),
 (93, ⟨true, [.str, .int .i64, .int .i64], 0, 32, [(0, 9), (1, 3), (2, 3)]⟩),
 (96, ⟨false, [.sl 5 kk5], 5, 24, []⟩),
 (97, ⟨true, [.str, .str, .sl 5 kk5], 0, 56, [(0, 9), (1, 9), (2, 96)]⟩),
 (98, ⟨true, [.str, .str, .sl 5 kk5], 0, 56, [(0, 9), (1, 9), (2, 96)]⟩),
 (108, ⟨true, [.str, .int .i64, .int .i64], 0, 32, [(0, 9), (1, 3), (2, 3)]⟩),
 (111, ⟨true, [.str, .str, .sl 5 kk5], 0, 56, [(0, 9), (1, 9), (2, 96)]⟩),
 (120, ⟨true, [.str, .str, .str, .sl 3 kk3], 0, 72, [(0, 9), (1, 9), (2, 9), (3, 23)]⟩),
 (121, ⟨true, [.str, .str, .str, .sl 3 kk3], 0, 72, [(0, 9), (1, 9), (2, 9), (3, 23)]⟩),
 (145, ⟨false, [.int .u64], 0, 8, []⟩),
 (160, ⟨false, [.sl 9 kk9], 9, 24, []⟩),
 (163, ⟨false, [.sl 121 kk121], 121, 24, []⟩),
 (178, ⟨false, [.int .u32], 0, 4, []⟩),
 (181, ⟨false, [.int .u64], 0, 8, []⟩),
 (188, ⟨false, [.sl 23 kk23], 23, 24, []⟩),
 (213, ⟨false, [.int .u8], 0, 1, []⟩),
 (214, ⟨false, [.int .u8], 0, 1, []⟩),
 (216, ⟨false, [.int .i32], 0, 4, []⟩),
 (217, ⟨false, [.int .i32], 0, 4, []⟩)]
noncomputable def E0 : En := ⟨0, tt, fun _ => [], [], fun _ => none, [], fun _ => none⟩
theorem hT : TTok Tryz.prog E0 := ttok_of (by kernel_rfl)
theorem hmix : Tryz.prog.follows .mixedOrders = true := by kernel_rfl
theorem fl {f : Nat} {s : Su} {l : List (Nat × Su)} (hl : AllOk Tryz.prog l) (ρ : List SE) (los : List (Nat × Lo ρ)) (pins : List Nat) (fn : Func)
 (h : (Tryz.prog.funcs[f]?, (fn.name == "runtime.NumGoroutine"), fn.body.isSome) = (some fn, false, true)) (hlo : GLo Tryz.prog (mkE fn.ntmps tt l ρ los pins) (bodyOf fn) (bodyOf fn))
 (ht : ∀ x, (fnT (mkE fn.ntmps tt l ρ los pins) (bodyOf fn) fn.results.toList s.ps s.rs s.fresh x).run = s.ans x) : SuOK Tryz.prog f s := by
 simp only [Prod.mk.injEq] at h
 exact flq hT hmix hl (fn := fn) (by rw [h.1, h.2.1, h.2.2]) hlo ht
theorem fq {f : Nat} {s : Su} {l : List (Nat × Su)} (hl : AllOk Tryz.prog l) (fn : Func)
 (h : (Tryz.prog.funcs[f]?, (fn.name == "runtime.NumGoroutine"), fn.body.isSome, loBlocks (fun _ => false) (bodyOf fn)) = (some fn, false, true, []))
 (ht : ∀ x, (fnT (mkE fn.ntmps tt l [] [] []) (bodyOf fn) fn.results.toList s.ps s.rs s.fresh x).run = s.ans x) : SuOK Tryz.prog f s := by
 simp only [Prod.mk.injEq] at h
 exact flq hT hmix hl (fn := fn) (by rw [h.1, h.2.1, h.2.2.1]) (lp (n := fn.ntmps) (tt := tt) (l := l) (ρ := []) (los := []) (pins := []) [] h.2.2.2 sn) ht
set_option maxHeartbeats 4000000
section
open Go.Shelf Go.RowKit Go.Lib
def sρ : Ren := ⟨fun | 99 => 135 | 105 => 77 | 129 => 203 | 165 => 136 | 166 => 137 | 169 => 139 | 170 => 138 | 171 => 75 | 206 => 177 | 212 => 134 | 240 => 178 | 241 => 179 | 243 => 133 | 246 => 174 | 263 => 175 | 264 => 176 | 276 => 198 | 277 => 199 | 283 => 194 | 284 => 195 | 285 => 196 | 286 => 197 | 317 => 202 | 318 => 204 | 319 => 205 | 320 => 206 | 337 => 208 | 338 => 209 | n => n, fun | 0 => 0 | 2 => 2 | 3 => 3 | 4 => 4 | 5 => 5 | 9 => 9 | 20 => 20 | 37 => 96 | 46 => 145 | 51 => 178 | 53 => 181 | 70 => 149 | 72 => 151 | 75 => 154 | 76 => 155 | 80 => 158 | 109 => 146 | 127 => 184 | 146 => 179 | 148 => 182 | 164 => 195 | 171 => 190 | 173 => 193 | 212 => 201 | 213 => 202 | 232 => 206 | 233 => 207 | n => n, fun | 17 => 0 | 18 => 2 | 19 => 3 | n => n⟩
theorem lay_LaysM_n171 : LaysM.n171 Tryz.prog sρ := { mixed := by kernel_rfl, f129 := by kernel_rfl, f171 := by kernel_rfl, f243 := by kernel_rfl, f246 := by kernel_rfl, f283 := by kernel_rfl, f284 := by kernel_rfl, f285 := by kernel_rfl, f286 := by kernel_rfl, f317 := by kernel_rfl, f318 := by kernel_rfl, f319 := by kernel_rfl, f320 := by kernel_rfl, f337 := by kernel_rfl, f338 := by kernel_rfl, t0 := by kernel_rfl, a0 := fun _ => by kernel_rfl, z0 := fun _ => by kernel_rfl, v0 := fun _ => by kernel_rfl, t2 := by kernel_rfl, a2 := fun _ => by kernel_rfl, z2 := fun _ => by kernel_rfl, v2 := fun _ => by kernel_rfl, t3 := by kernel_rfl, a3 := fun _ => by kernel_rfl, z3 := fun _ => by kernel_rfl, v3 := fun _ => by kernel_rfl, t4 := by kernel_rfl, a4 := fun _ => by kernel_rfl, z4 := fun _ => by kernel_rfl, v4 := fun _ => by kernel_rfl, t5 := by kernel_rfl, a5 := fun _ => by kernel_rfl, z5 := fun _ => by kernel_rfl, v5 := fun _ => by kernel_rfl, t9 := by kernel_rfl, a9 := fun _ => by kernel_rfl, z9 := fun _ => by kernel_rfl, v9 := fun _ => by kernel_rfl, t20 := by kernel_rfl, a20 := fun _ => by kernel_rfl, z20 := fun _ => by kernel_rfl, v20 := fun _ => by kernel_rfl, t37 := by kernel_rfl, a37 := fun _ => by kernel_rfl, z37 := fun _ => by kernel_rfl, v37 := fun _ => by kernel_rfl, t46 := by kernel_rfl, a46 := fun _ => by kernel_rfl, z46 := fun _ => by kernel_rfl, v46 := fun _ => by kernel_rfl, t51 := by kernel_rfl, a51 := fun _ => by kernel_rfl, z51 := fun _ => by kernel_rfl, v51 := fun _ => by kernel_rfl, t53 := by kernel_rfl, a53 := fun _ => by kernel_rfl, z53 := fun _ => by kernel_rfl, v53 := fun _ => by kernel_rfl, t171 := by kernel_rfl, a171 := fun _ => by kernel_rfl, z171 := fun _ => by kernel_rfl, v171 := fun _ => by kernel_rfl, t173 := by kernel_rfl, a173 := fun _ => by kernel_rfl, z173 := fun _ => by kernel_rfl, v173 := fun _ => by kernel_rfl, t212 := by kernel_rfl, a212 := fun _ => by kernel_rfl, z212 := fun _ => by kernel_rfl, v212 := fun _ => by kernel_rfl, t213 := by kernel_rfl, a213 := fun _ => by kernel_rfl, z213 := fun _ => by kernel_rfl, t232 := by kernel_rfl, a232 := fun _ => by kernel_rfl, z232 := fun _ => by kernel_rfl, v232 := fun _ => by kernel_rfl, t233 := by kernel_rfl, a233 := fun _ => by kernel_rfl, z233 := fun _ => by kernel_rfl, v233 := fun _ => by kernel_rfl, g17 := by kernel_rfl, g18 := by kernel_rfl, g19 := by kernel_rfl, i0 := by kernel_rfl, i2 := by kernel_rfl, i3 := by kernel_rfl, i4 := by kernel_rfl, i5 := by kernel_rfl, i9 := by kernel_rfl, i20 := by kernel_rfl, i37 := by kernel_rfl, i46 := by kernel_rfl, i51 := by kernel_rfl, i53 := by kernel_rfl, i171 := by kernel_rfl, i173 := by kernel_rfl, i212 := by kernel_rfl, i232 := by kernel_rfl, i233 := by kernel_rfl, m17 := by kernel_rfl, m18 := by kernel_rfl, m19 := by kernel_rfl }
theorem lay_Lays_n105 : Lays.n105 Tryz.prog sρ := { mixed := by kernel_rfl, f99 := by kernel_rfl, f105 := by kernel_rfl, f165 := by kernel_rfl, f166 := by kernel_rfl, f169 := by kernel_rfl, f170 := by kernel_rfl, f206 := by kernel_rfl, f212 := by kernel_rfl, f240 := by kernel_rfl, f241 := by kernel_rfl, f263 := by kernel_rfl, f264 := by kernel_rfl, f276 := by kernel_rfl, f277 := by kernel_rfl, t0 := by kernel_rfl, a0 := fun _ => by kernel_rfl, z0 := fun _ => by kernel_rfl, v0 := fun _ => by kernel_rfl, t3 := by kernel_rfl, a3 := fun _ => by kernel_rfl, z3 := fun _ => by kernel_rfl, v3 := fun _ => by kernel_rfl, t4 := by kernel_rfl, a4 := fun _ => by kernel_rfl, z4 := fun _ => by kernel_rfl, v4 := fun _ => by kernel_rfl, t5 := by kernel_rfl, a5 := fun _ => by kernel_rfl, z5 := fun _ => by kernel_rfl, v5 := fun _ => by kernel_rfl, t9 := by kernel_rfl, a9 := fun _ => by kernel_rfl, z9 := fun _ => by kernel_rfl, v9 := fun _ => by kernel_rfl, t20 := by kernel_rfl, a20 := fun _ => by kernel_rfl, z20 := fun _ => by kernel_rfl, v20 := fun _ => by kernel_rfl, t37 := by kernel_rfl, a37 := fun _ => by kernel_rfl, z37 := fun _ => by kernel_rfl, v37 := fun _ => by kernel_rfl, t46 := by kernel_rfl, a46 := fun _ => by kernel_rfl, z46 := fun _ => by kernel_rfl, v46 := fun _ => by kernel_rfl, t51 := by kernel_rfl, a51 := fun _ => by kernel_rfl, z51 := fun _ => by kernel_rfl, v51 := fun _ => by kernel_rfl, t53 := by kernel_rfl, a53 := fun _ => by kernel_rfl, z53 := fun _ => by kernel_rfl, v53 := fun _ => by kernel_rfl, t70 := by kernel_rfl, a70 := fun _ => by kernel_rfl, z70 := fun _ => by kernel_rfl, v70 := fun _ => by kernel_rfl, t72 := by kernel_rfl, a72 := fun _ => by kernel_rfl, z72 := fun _ => by kernel_rfl, v72 := fun _ => by kernel_rfl, t75 := by kernel_rfl, a75 := fun _ => by kernel_rfl, z75 := fun _ => by kernel_rfl, v75 := fun _ => by kernel_rfl, t76 := by kernel_rfl, a76 := fun _ => by kernel_rfl, z76 := fun _ => by kernel_rfl, v76 := fun _ => by kernel_rfl, t109 := by kernel_rfl, a109 := fun _ => by kernel_rfl, z109 := fun _ => by kernel_rfl, v109 := fun _ => by kernel_rfl, t127 := by kernel_rfl, a127 := fun _ => by kernel_rfl, z127 := fun _ => by kernel_rfl, v127 := fun _ => by kernel_rfl, t146 := by kernel_rfl, a146 := fun _ => by kernel_rfl, z146 := fun _ => by kernel_rfl, v146 := fun _ => by kernel_rfl, t148 := by kernel_rfl, a148 := fun _ => by kernel_rfl, z148 := fun _ => by kernel_rfl, v148 := fun _ => by kernel_rfl, t164 := by kernel_rfl, a164 := fun _ => by kernel_rfl, z164 := fun _ => by kernel_rfl, v164 := fun _ => by kernel_rfl }
theorem lay_Builder_Extra : Builder.Extra Tryz.prog sρ := { sizeBuilder := by kernel_rfl, liesBuilder := by kernel_rfl, t5 := by kernel_rfl, a5 := fun _ => by kernel_rfl, z5 := fun _ => by kernel_rfl, v5 := fun _ => by kernel_rfl, infoByte := by kernel_rfl, cellsByte := by kernel_rfl, sizeByte := by kernel_rfl, neB5 := by decide }
end
noncomputable def g57 (p0 : R93) (p1 : Int) : Option (Unit × (R3 × Unit)) :=
 let u1 := (subW .i64 p1 (lenI p0.1))
 cond (ltI u1 0) (
 some ((), (((-1), ()), ()))
 ) (
 some ((), ((u1, ()), ()))
 )
noncomputable def s57 : Su := ⟨[.c true kk93, .c false kk3], [(false, kk3)], true, .inl fun x => g57 x.1 x.2.1.1⟩
theorem ok57 : SuOK Tryz.prog 57 s57 :=
 fq an Tryz.f57 (by kernel_rfl) fun x => by kernel_rfl
noncomputable def r19_0 (t0 : (List R93)) (t1 : Int) (t5 : Int) : Option (Sum ((List R93) × Int × Int × Unit) (Sum ((List R93) × Int × Int × Unit) R3)) :=
 cond (ltI t5 (lenI t0)) (
 cond (inB t5 t0) (
 Option.bind (g57 (gt d93 t0 t5) t1) fun y1 =>
 cond (ltI y1.2.1.1 0) (
 some (.inr (.inr ((-1), ())))
 ) (
 some (.inl (t0, y1.2.1.1, (addW .i64 t5 1), ()))
 )
 ) none
 ) (
 some (.inr (.inl (t0, t1, t5, ())))
 )
noncomputable def l19_0 (t0 : (List R93)) (t1 : Int) (t5 : Int) : Option (Sum ((List R93) × Int × Int × Unit) R3) := loopF (fun (x : ((List R93) × Int × Int × Unit)) => r19_0 x.1 x.2.1 x.2.2.1) (t0, t1, t5, ())
noncomputable def g19 (p0 : (List R93)) (p1 : Int) : Option (Unit × (R3 × Unit)) :=
 let u1 := (subW .i64 p1 (lenI p0))
 cond (ltI u1 0) (
 some ((), (((-1), ()), ()))
 ) (
 Option.bind (l19_0 p0 u1 0) (Sum.elim (fun y1 =>
 some ((), ((y1.2.1, ()), ()))
 ) (fun y1 =>
 some ((), (y1, ()))
 ))
 )
noncomputable def s19 : Su := ⟨[.c false [.sl 93 kk93], .c false kk3], [(false, kk3)], true, .inl fun x => g19 x.1.1 x.2.1.1⟩
theorem ok19 : SuOK Tryz.prog 19 s19 :=
 fl (ac ok57 an) [.d 4 (.int .i64)] [(0, ⟨[.d 0 (.sl 93 kk93), .d 1 (.int .i64), .d 5 (.int .i64)], fun x => loopF (fun x => r19_0 x.1 x.2.1 x.2.2.1) x⟩)] [] Tryz.f19 (by kernel_rfl) (lp [0] (by kernel_rfl) (sc rfl (fun x => by kernel_rfl) (lp [] (by kernel_rfl) sn) sn)) fun x => by kernel_rfl
noncomputable def g58 (p0 : (List R3)) (p1 : Int) : Option (Unit × (R3 × Unit)) :=
 let u1 := (subW .i64 p1 (lenI p0))
 cond (ltI u1 0) (
 some ((), (((-1), ()), ()))
 ) (
 some ((), ((u1, ()), ()))
 )
noncomputable def s58 : Su := ⟨[.c false kk23, .c false kk3], [(false, kk3)], true, .inl fun x => g58 x.1.1 x.2.1.1⟩
theorem ok58 : SuOK Tryz.prog 58 s58 :=
 fq an Tryz.f58 (by kernel_rfl) fun x => by kernel_rfl
noncomputable def g20 (p0 : (Int × Int × (List R3) × (List R3) × Unit)) (p1 : Int) : Option (Unit × (R3 × Unit)) :=
 Option.bind (g58 p0.2.2.1 p1) fun y1 =>
 cond (ltI y1.2.1.1 0) (
 some ((), (((-1), ()), ()))
 ) (
 Option.bind (g58 p0.2.2.2.1 y1.2.1.1) fun y2 =>
 cond (ltI y2.2.1.1 0) (
 some ((), (((-1), ()), ()))
 ) (
 some ((), (y2.2.1, ()))
 )
 )
noncomputable def s20 : Su := ⟨[.c true [.int .i64, .int .i64, .sl 3 kk3, .sl 3 kk3], .c false kk3], [(false, kk3)], true, .inl fun x => g20 x.1 x.2.1.1⟩
theorem ok20 : SuOK Tryz.prog 20 s20 :=
 fq (ac ok58 an) Tryz.f20 (by kernel_rfl) fun x => by kernel_rfl
noncomputable def g118 (p0 : (List R5)) (p1 : Int) : Option (Unit × (R3 × Unit)) :=
 let u1 := (subW .i64 p1 (lenI p0))
 cond (ltI u1 0) (
 some ((), (((-1), ()), ()))
 ) (
 some ((), ((u1, ()), ()))
 )
noncomputable def s118 : Su := ⟨[.c false [.sl 5 kk5], .c false kk3], [(false, kk3)], true, .inl fun x => g118 x.1.1 x.2.1.1⟩
theorem ok118 : SuOK Tryz.prog 118 s118 :=
 fq an Tryz.f118 (by kernel_rfl) fun x => by kernel_rfl
noncomputable def g59 (p0 : R98) (p1 : Int) : Option (Unit × (R3 × Unit)) :=
 let u1 := (subW .i64 p1 (lenI p0.1))
 cond (ltI u1 0) (
 some ((), (((-1), ()), ()))
 ) (
 let u2 := (subW .i64 u1 (lenI p0.2.1))
 cond (ltI u2 0) (
 some ((), (((-1), ()), ()))
 ) (
 Option.bind (g118 p0.2.2.1 u2) fun y1 =>
 cond (ltI y1.2.1.1 0) (
 some ((), (((-1), ()), ()))
 ) (
 some ((), (y1.2.1, ()))
 )
 )
 )
noncomputable def s59 : Su := ⟨[.c true kk98, .c false kk3], [(false, kk3)], true, .inl fun x => g59 x.1 x.2.1.1⟩
theorem ok59 : SuOK Tryz.prog 59 s59 :=
 fq (ac ok118 an) Tryz.f59 (by kernel_rfl) fun x => by kernel_rfl
noncomputable def r21_0 (t0 : (List R98)) (t1 : Int) (t5 : Int) : Option (Sum ((List R98) × Int × Int × Unit) (Sum ((List R98) × Int × Int × Unit) R3)) :=
 cond (ltI t5 (lenI t0)) (
 cond (inB t5 t0) (
 Option.bind (g59 (gt d98 t0 t5) t1) fun y1 =>
 cond (ltI y1.2.1.1 0) (
 some (.inr (.inr ((-1), ())))
 ) (
 some (.inl (t0, y1.2.1.1, (addW .i64 t5 1), ()))
 )
 ) none
 ) (
 some (.inr (.inl (t0, t1, t5, ())))
 )
noncomputable def l21_0 (t0 : (List R98)) (t1 : Int) (t5 : Int) : Option (Sum ((List R98) × Int × Int × Unit) R3) := loopF (fun (x : ((List R98) × Int × Int × Unit)) => r21_0 x.1 x.2.1 x.2.2.1) (t0, t1, t5, ())
noncomputable def g21 (p0 : (List R98)) (p1 : Int) : Option (Unit × (R3 × Unit)) :=
 let u1 := (subW .i64 p1 (lenI p0))
 cond (ltI u1 0) (
 some ((), (((-1), ()), ()))
 ) (
 Option.bind (l21_0 p0 u1 0) (Sum.elim (fun y1 =>
 some ((), ((y1.2.1, ()), ()))
 ) (fun y1 =>
 some ((), (y1, ()))
 ))
 )
noncomputable def s21 : Su := ⟨[.c false [.sl 98 kk98], .c false kk3], [(false, kk3)], true, .inl fun x => g21 x.1.1 x.2.1.1⟩
theorem ok21 : SuOK Tryz.prog 21 s21 :=
 fl (ac ok59 an) [.d 4 (.int .i64)] [(0, ⟨[.d 0 (.sl 98 kk98), .d 1 (.int .i64), .d 5 (.int .i64)], fun x => loopF (fun x => r21_0 x.1 x.2.1 x.2.2.1) x⟩)] [] Tryz.f21 (by kernel_rfl) (lp [0] (by kernel_rfl) (sc rfl (fun x => by kernel_rfl) (lp [] (by kernel_rfl) sn) sn)) fun x => by kernel_rfl
noncomputable def g5 (p0 : R28) (p1 : Int) : Option (Unit × (R3 × Unit)) :=
 let u1 := (subW .i64 p1 (lenI p0.1))
 cond (ltI u1 0) (
 some ((), (((-1), ()), ()))
 ) (
 Option.bind (g19 p0.2.2.2.2.2.1 u1) fun y1 =>
 cond (ltI y1.2.1.1 0) (
 some ((), (((-1), ()), ()))
 ) (
 Option.bind (g20 (p0.2.2.2.2.2.2.1, p0.2.2.2.2.2.2.2.1, p0.2.2.2.2.2.2.2.2.1, p0.2.2.2.2.2.2.2.2.2.1, ()) y1.2.1.1) fun y2 =>
 cond (ltI y2.2.1.1 0) (
 some ((), (((-1), ()), ()))
 ) (
 Option.bind (g21 p0.2.2.2.2.2.2.2.2.2.2.1 y2.2.1.1) fun y3 =>
 cond (ltI y3.2.1.1 0) (
 some ((), (((-1), ()), ()))
 ) (
 some ((), (y3.2.1, ()))
 )
 )
 )
 )
noncomputable def s5 : Su := ⟨[.c true kk28, .c false kk3], [(false, kk3)], true, .inl fun x => g5 x.1 x.2.1.1⟩
theorem ok5 : SuOK Tryz.prog 5 s5 :=
 fq (ac ok19 (ac ok20 (ac ok21 an))) Tryz.f5 (by kernel_rfl) fun x => by kernel_rfl
noncomputable def r35_0 (t0 : (List R28)) (t1 : Int) (t5 : Int) : Option (Sum ((List R28) × Int × Int × Unit) (Sum ((List R28) × Int × Int × Unit) R3)) :=
 cond (ltI t5 (lenI t0)) (
 cond (inB t5 t0) (
 Option.bind (g5 (gt d28 t0 t5) t1) fun y1 =>
 cond (ltI y1.2.1.1 0) (
 some (.inr (.inr ((-1), ())))
 ) (
 some (.inl (t0, y1.2.1.1, (addW .i64 t5 1), ()))
 )
 ) none
 ) (
 some (.inr (.inl (t0, t1, t5, ())))
 )
noncomputable def l35_0 (t0 : (List R28)) (t1 : Int) (t5 : Int) : Option (Sum ((List R28) × Int × Int × Unit) R3) := loopF (fun (x : ((List R28) × Int × Int × Unit)) => r35_0 x.1 x.2.1 x.2.2.1) (t0, t1, t5, ())
noncomputable def g35 (p0 : (List R28)) (p1 : Int) : Option (Unit × (R3 × Unit)) :=
 let u1 := (subW .i64 p1 (lenI p0))
 cond (ltI u1 0) (
 some ((), (((-1), ()), ()))
 ) (
 Option.bind (l35_0 p0 u1 0) (Sum.elim (fun y1 =>
 some ((), ((y1.2.1, ()), ()))
 ) (fun y1 =>
 some ((), (y1, ()))
 ))
 )
noncomputable def s35 : Su := ⟨[.c false [.sl 28 kk28], .c false kk3], [(false, kk3)], true, .inl fun x => g35 x.1.1 x.2.1.1⟩
theorem ok35 : SuOK Tryz.prog 35 s35 :=
 fl (ac ok5 an) [.d 4 (.int .i64)] [(0, ⟨[.d 0 (.sl 28 kk28), .d 1 (.int .i64), .d 5 (.int .i64)], fun x => loopF (fun x => r35_0 x.1 x.2.1 x.2.2.1) x⟩)] [] Tryz.f35 (by kernel_rfl) (lp [0] (by kernel_rfl) (sc rfl (fun x => by kernel_rfl) (lp [] (by kernel_rfl) sn) sn)) fun x => by kernel_rfl
noncomputable def g10 (p0 : ((List R28) × Unit)) (p1 : Int) : Option (Unit × (R3 × Unit)) :=
 Option.bind (g35 p0.1 p1) fun y1 =>
 cond (ltI y1.2.1.1 0) (
 some ((), (((-1), ()), ()))
 ) (
 some ((), (y1.2.1, ()))
 )
noncomputable def s10 : Su := ⟨[.c true [.sl 28 kk28], .c false kk3], [(false, kk3)], true, .inl fun x => g10 x.1 x.2.1.1⟩
theorem ok10 : SuOK Tryz.prog 10 s10 :=
 fq (ac ok35 an) Tryz.f10 (by kernel_rfl) fun x => by kernel_rfl
noncomputable def g11 (p0 : (Int × (List UInt8) × (List UInt8) × (List UInt8) × (List UInt8) × (List UInt8) × Int × Int × Unit)) (p1 : Int) : Option (Unit × (R3 × Unit)) :=
 let u1 := (subW .i64 p1 (lenI p0.2.1))
 cond (ltI u1 0) (
 some ((), (((-1), ()), ()))
 ) (
 let u2 := (subW .i64 u1 (lenI p0.2.2.1))
 cond (ltI u2 0) (
 some ((), (((-1), ()), ()))
 ) (
 let u3 := (subW .i64 u2 (lenI p0.2.2.2.1))
 cond (ltI u3 0) (
 some ((), (((-1), ()), ()))
 ) (
 let u4 := (subW .i64 u3 (lenI p0.2.2.2.2.1))
 cond (ltI u4 0) (
 some ((), (((-1), ()), ()))
 ) (
 let u5 := (subW .i64 u4 (lenI p0.2.2.2.2.2.1))
 cond (ltI u5 0) (
 some ((), (((-1), ()), ()))
 ) (
 some ((), ((u5, ()), ()))
 )
 )
 )
 )
 )
noncomputable def s11 : Su := ⟨[.c true [.int .i64, .str, .str, .str, .str, .str, .int .i64, .int .i64], .c false kk3], [(false, kk3)], true, .inl fun x => g11 x.1 x.2.1.1⟩
theorem ok11 : SuOK Tryz.prog 11 s11 :=
 fq an Tryz.f11 (by kernel_rfl) fun x => by kernel_rfl
noncomputable def g70 (p0 : R93) : Option (Unit × (R93 × Unit)) :=
 some ((), (p0, ()))
noncomputable def s70 : Su := ⟨[.c true kk93], [(true, kk93)], true, .inl fun x => g70 x.1⟩
theorem ok70 : SuOK Tryz.prog 70 s70 :=
 fq an Tryz.f70 (by kernel_rfl) fun x => by kernel_rfl
noncomputable def r26_0 (t0 : (List R93)) (t3 : (List R108)) (t4 : Int) : Option (Sum ((List R93) × (List R108) × Int × Unit) (Sum ((List R93) × (List R108) × Int × Unit) Unit)) :=
 cond (ltI t4 (lenI t0)) (
 cond (inB t4 t0) (
 Option.bind (g70 (gt d93 t0 t4)) fun y1 =>
 cond (inB t4 t3) (
 let u1 := (gt d108 t3 t4)
 let u2 := (stI t3 t4 (y1.2.1.1, u1.2.1, u1.2.2.1, ()))
 let u3 := (gt d108 u2 t4)
 let u4 := (stI u2 t4 (u3.1, y1.2.1.2.1, u3.2.2.1, ()))
 let u5 := (gt d108 u4 t4)
 some (.inl (t0, (stI u4 t4 (u5.1, u5.2.1, y1.2.1.2.2.1, ())), (addW .i64 t4 1), ()))
 ) none
 ) none
 ) (
 some (.inr (.inl (t0, t3, t4, ())))
 )
noncomputable def l26_0 (t0 : (List R93)) (t3 : (List R108)) (t4 : Int) : Option (Sum ((List R93) × (List R108) × Int × Unit) Unit) := loopF (fun (x : ((List R93) × (List R108) × Int × Unit)) => r26_0 x.1 x.2.1 x.2.2.1) (t0, t3, t4, ())
noncomputable def g26 (p0 : (List R93)) : Option (Unit × (((List R108) × Unit) × Unit)) :=
 let u1 := (lenI p0)
 cond (mkB 32 u1) (
 Option.bind (l26_0 p0 (repI d108 u1) 0) (Sum.elim (fun y1 =>
 some ((), ((y1.2.1, ()), ()))
 ) (fun y1 =>
 none
 ))
 ) none
noncomputable def s26 : Su := ⟨[.c false [.sl 93 kk93]], [(false, [.sl 108 kk108])], true, .inl fun x => g26 x.1.1⟩
theorem ok26 : SuOK Tryz.prog 26 s26 :=
 fl (ac ok70 an) [] [(0, ⟨[.d 0 (.sl 93 kk93), .own 3 (.sl 108 kk108), .d 4 (.int .i64)], fun x => loopF (fun x => r26_0 x.1 x.2.1 x.2.2.1) x⟩)] [] Tryz.f26 (by kernel_rfl) (lp [0] (by kernel_rfl) (sc rfl (fun x => by kernel_rfl) (lp [] (by kernel_rfl) sn) sn)) fun x => by kernel_rfl
noncomputable def r71_0 (t0 : (List R3)) (t3 : (List R3)) (t4 : Int) : Option (Sum ((List R3) × (List R3) × Int × Unit) (Sum ((List R3) × (List R3) × Int × Unit) Unit)) :=
 cond (ltI t4 (lenI t0)) (
 cond (inB t4 t0) (
 cond (inB t4 t3) (
 some (.inl (t0, (stI t3 t4 (gt d3 t0 t4)), (addW .i64 t4 1), ()))
 ) none
 ) none
 ) (
 some (.inr (.inl (t0, t3, t4, ())))
 )
noncomputable def l71_0 (t0 : (List R3)) (t3 : (List R3)) (t4 : Int) : Option (Sum ((List R3) × (List R3) × Int × Unit) Unit) := loopF (fun (x : ((List R3) × (List R3) × Int × Unit)) => r71_0 x.1 x.2.1 x.2.2.1) (t0, t3, t4, ())
noncomputable def g71 (p0 : (List R3)) : Option (Unit × (R23 × Unit)) :=
 let u1 := (lenI p0)
 cond (mkB 8 u1) (
 Option.bind (l71_0 p0 (repI d3 u1) 0) (Sum.elim (fun y1 =>
 some ((), ((y1.2.1, ()), ()))
 ) (fun y1 =>
 none
 ))
 ) none
noncomputable def s71 : Su := ⟨[.c false kk23], [(false, kk23)], true, .inl fun x => g71 x.1.1⟩
theorem ok71 : SuOK Tryz.prog 71 s71 :=
 fl an [] [(0, ⟨[.d 0 (.sl 3 kk3), .own 3 (.sl 3 kk3), .d 4 (.int .i64)], fun x => loopF (fun x => r71_0 x.1 x.2.1 x.2.2.1) x⟩)] [] Tryz.f71 (by kernel_rfl) (lp [0] (by kernel_rfl) (sc rfl (fun x => by kernel_rfl) (lp [] (by kernel_rfl) sn) sn)) fun x => by kernel_rfl
noncomputable def g27 (p0 : (Int × Int × (List R3) × (List R3) × Unit)) : Option (Unit × ((Int × Int × (List R3) × (List R3) × Unit) × Unit)) :=
 Option.bind (g71 p0.2.2.1) fun y1 =>
 Option.bind (g71 p0.2.2.2.1) fun y2 =>
 some ((), ((p0.1, p0.2.1, y1.2.1.1, y2.2.1.1, ()), ()))
noncomputable def s27 : Su := ⟨[.c true [.int .i64, .int .i64, .sl 3 kk3, .sl 3 kk3]], [(true, [.int .i64, .int .i64, .sl 3 kk3, .sl 3 kk3])], true, .inl fun x => g27 x.1⟩
theorem ok27 : SuOK Tryz.prog 27 s27 :=
 fq (ac ok71 an) Tryz.f27 (by kernel_rfl) fun x => by kernel_rfl
noncomputable def r125_0 (t0 : (List R5)) (t3 : (List R5)) (t4 : Int) : Option (Sum ((List R5) × (List R5) × Int × Unit) (Sum ((List R5) × (List R5) × Int × Unit) Unit)) :=
 cond (ltI t4 (lenI t0)) (
 cond (inB t4 t0) (
 cond (inB t4 t3) (
 some (.inl (t0, (stI t3 t4 (gt d5 t0 t4)), (addW .i64 t4 1), ()))
 ) none
 ) none
 ) (
 some (.inr (.inl (t0, t3, t4, ())))
 )
noncomputable def l125_0 (t0 : (List R5)) (t3 : (List R5)) (t4 : Int) : Option (Sum ((List R5) × (List R5) × Int × Unit) Unit) := loopF (fun (x : ((List R5) × (List R5) × Int × Unit)) => r125_0 x.1 x.2.1 x.2.2.1) (t0, t3, t4, ())
noncomputable def g125 (p0 : (List R5)) : Option (Unit × (((List R5) × Unit) × Unit)) :=
 let u1 := (lenI p0)
 cond (mkB 1 u1) (
 Option.bind (l125_0 p0 (repI d5 u1) 0) (Sum.elim (fun y1 =>
 some ((), ((y1.2.1, ()), ()))
 ) (fun y1 =>
 none
 ))
 ) none
noncomputable def s125 : Su := ⟨[.c false [.sl 5 kk5]], [(false, [.sl 5 kk5])], true, .inl fun x => g125 x.1.1⟩
theorem ok125 : SuOK Tryz.prog 125 s125 :=
 fl an [] [(0, ⟨[.d 0 (.sl 5 kk5), .own 3 (.sl 5 kk5), .d 4 (.int .i64)], fun x => loopF (fun x => r125_0 x.1 x.2.1 x.2.2.1) x⟩)] [] Tryz.f125 (by kernel_rfl) (lp [0] (by kernel_rfl) (sc rfl (fun x => by kernel_rfl) (lp [] (by kernel_rfl) sn) sn)) fun x => by kernel_rfl
noncomputable def g72 (p0 : R98) : Option (Unit × (R98 × Unit)) :=
 Option.bind (g125 p0.2.2.1) fun y1 =>
 some ((), ((p0.1, p0.2.1, y1.2.1.1, ()), ()))
noncomputable def s72 : Su := ⟨[.c true kk98], [(true, kk98)], true, .inl fun x => g72 x.1⟩
theorem ok72 : SuOK Tryz.prog 72 s72 :=
 fq (ac ok125 an) Tryz.f72 (by kernel_rfl) fun x => by kernel_rfl
noncomputable def r28_0 (t0 : (List R98)) (t3 : (List R111)) (t4 : Int) : Option (Sum ((List R98) × (List R111) × Int × Unit) (Sum ((List R98) × (List R111) × Int × Unit) Unit)) :=
 cond (ltI t4 (lenI t0)) (
 cond (inB t4 t0) (
 Option.bind (g72 (gt d98 t0 t4)) fun y1 =>
 cond (inB t4 t3) (
 let u1 := (gt d111 t3 t4)
 let u2 := (stI t3 t4 (y1.2.1.1, u1.2.1, u1.2.2.1, ()))
 let u3 := (gt d111 u2 t4)
 let u4 := (stI u2 t4 (u3.1, y1.2.1.2.1, u3.2.2.1, ()))
 let u5 := (gt d111 u4 t4)
 some (.inl (t0, (stI u4 t4 (u5.1, u5.2.1, y1.2.1.2.2.1, ())), (addW .i64 t4 1), ()))
 ) none
 ) none
 ) (
 some (.inr (.inl (t0, t3, t4, ())))
 )
noncomputable def l28_0 (t0 : (List R98)) (t3 : (List R111)) (t4 : Int) : Option (Sum ((List R98) × (List R111) × Int × Unit) Unit) := loopF (fun (x : ((List R98) × (List R111) × Int × Unit)) => r28_0 x.1 x.2.1 x.2.2.1) (t0, t3, t4, ())
noncomputable def g28 (p0 : (List R98)) : Option (Unit × (((List R111) × Unit) × Unit)) :=
 let u1 := (lenI p0)
 cond (mkB 56 u1) (
 Option.bind (l28_0 p0 (repI d111 u1) 0) (Sum.elim (fun y1 =>
 some ((), ((y1.2.1, ()), ()))
 ) (fun y1 =>
 none
 ))
 ) none
noncomputable def s28 : Su := ⟨[.c false [.sl 98 kk98]], [(false, [.sl 111 kk111])], true, .inl fun x => g28 x.1.1⟩
theorem ok28 : SuOK Tryz.prog 28 s28 :=
 fl (ac ok72 an) [] [(0, ⟨[.d 0 (.sl 98 kk98), .own 3 (.sl 111 kk111), .d 4 (.int .i64)], fun x => loopF (fun x => r28_0 x.1 x.2.1 x.2.2.1) x⟩)] [] Tryz.f28 (by kernel_rfl) (lp [0] (by kernel_rfl) (sc rfl (fun x => by kernel_rfl) (lp [] (by kernel_rfl) sn) sn)) fun x => by kernel_rfl
noncomputable def g7 (p0 : R28) : Option (Unit × (R36 × Unit)) :=
 Option.bind (g26 p0.2.2.2.2.2.1) fun y1 =>
 Option.bind (g27 (p0.2.2.2.2.2.2.1, p0.2.2.2.2.2.2.2.1, p0.2.2.2.2.2.2.2.2.1, p0.2.2.2.2.2.2.2.2.2.1, ())) fun y2 =>
 Option.bind (g28 p0.2.2.2.2.2.2.2.2.2.2.1) fun y3 =>
 some ((), ((p0.1, p0.2.1, p0.2.2.1, p0.2.2.2.1, p0.2.2.2.2.1, y1.2.1.1, y2.2.1.1, y2.2.1.2.1, y2.2.1.2.2.1, y2.2.1.2.2.2.1, y3.2.1.1, ()), ()))
noncomputable def s7 : Su := ⟨[.c true kk28], [(true, kk36)], true, .inl fun x => g7 x.1⟩
theorem ok7 : SuOK Tryz.prog 7 s7 :=
 fq (ac ok26 (ac ok27 (ac ok28 an))) Tryz.f7 (by kernel_rfl) fun x => by kernel_rfl
noncomputable def r42_0 (t0 : (List R28)) (t3 : (List R36)) (t4 : Int) : Option (Sum ((List R28) × (List R36) × Int × Unit) (Sum ((List R28) × (List R36) × Int × Unit) Unit)) :=
 cond (ltI t4 (lenI t0)) (
 cond (inB t4 t0) (
 Option.bind (g7 (gt d28 t0 t4)) fun y1 =>
 cond (inB t4 t3) (
 some (.inl (t0, (stI t3 t4 y1.2.1), (addW .i64 t4 1), ()))
 ) none
 ) none
 ) (
 some (.inr (.inl (t0, t3, t4, ())))
 )
noncomputable def l42_0 (t0 : (List R28)) (t3 : (List R36)) (t4 : Int) : Option (Sum ((List R28) × (List R36) × Int × Unit) Unit) := loopF (fun (x : ((List R28) × (List R36) × Int × Unit)) => r42_0 x.1 x.2.1 x.2.2.1) (t0, t3, t4, ())
noncomputable def g42 (p0 : (List R28)) : Option (Unit × (((List R36) × Unit) × Unit)) :=
 let u1 := (lenI p0)
 cond (mkB 160 u1) (
 Option.bind (l42_0 p0 (repI d36 u1) 0) (Sum.elim (fun y1 =>
 some ((), ((y1.2.1, ()), ()))
 ) (fun y1 =>
 none
 ))
 ) none
noncomputable def s42 : Su := ⟨[.c false [.sl 28 kk28]], [(false, [.sl 36 kk36])], true, .inl fun x => g42 x.1.1⟩
theorem ok42 : SuOK Tryz.prog 42 s42 :=
 fl (ac ok7 an) [] [(0, ⟨[.d 0 (.sl 28 kk28), .own 3 (.sl 36 kk36), .d 4 (.int .i64)], fun x => loopF (fun x => r42_0 x.1 x.2.1 x.2.2.1) x⟩)] [] Tryz.f42 (by kernel_rfl) (lp [0] (by kernel_rfl) (sc rfl (fun x => by kernel_rfl) (lp [] (by kernel_rfl) sn) sn)) fun x => by kernel_rfl
noncomputable def g13 (p0 : ((List R28) × Unit)) : Option (Unit × (((List R36) × Unit) × Unit)) :=
 Option.bind (g42 p0.1) fun y1 =>
 some ((), (y1.2.1, ()))
noncomputable def s13 : Su := ⟨[.c true [.sl 28 kk28]], [(true, [.sl 36 kk36])], true, .inl fun x => g13 x.1⟩
theorem ok13 : SuOK Tryz.prog 13 s13 :=
 fq (ac ok42 an) Tryz.f13 (by kernel_rfl) fun x => by kernel_rfl
noncomputable def g14 (p0 : (Int × (List UInt8) × (List UInt8) × (List UInt8) × (List UInt8) × (List UInt8) × Int × Int × Unit)) : Option (Unit × ((Int × (List UInt8) × (List UInt8) × (List UInt8) × (List UInt8) × (List UInt8) × Int × Int × Unit) × Unit)) :=
 some ((), (p0, ()))
noncomputable def s14 : Su := ⟨[.c true [.int .i64, .str, .str, .str, .str, .str, .int .i64, .int .i64]], [(true, [.int .i64, .str, .str, .str, .str, .str, .int .i64, .int .i64])], true, .inl fun x => g14 x.1⟩
theorem ok14 : SuOK Tryz.prog 14 s14 :=
 fq an Tryz.f14 (by kernel_rfl) fun x => by kernel_rfl
noncomputable def r84_0 (t0 : (List UInt8)) (t3 : Int) : Option (Sum ((List UInt8) × Int × Unit) (Sum ((List UInt8) × Int × Unit) (Bool × Unit))) :=
 cond (ltI t3 (lenI t0)) (
 cond (inB t3 t0) (
 let u1 := (bytI t0 t3)
 cond (ltI u1 48) (
 some (.inr (.inr (false, ())))
 ) (
 cond (inB t3 t0) (
 cond (ltI 57 u1) (
 some (.inr (.inr (false, ())))
 ) (
 some (.inl (t0, (addW .i64 t3 1), ()))
 )
 ) none
 )
 ) none
 ) (
 some (.inr (.inl (t0, t3, ())))
 )
noncomputable def l84_0 (t0 : (List UInt8)) (t3 : Int) : Option (Sum ((List UInt8) × Int × Unit) (Bool × Unit)) := loopF (fun (x : ((List UInt8) × Int × Unit)) => r84_0 x.1 x.2.1) (t0, t3, ())
noncomputable def g84 (p0 : (List UInt8)) : Option (Unit × ((Bool × Unit) × Unit)) :=
 Option.bind (l84_0 p0 0) (Sum.elim (fun y1 =>
 some ((), (((ltI 0 (lenI y1.1)), ()), ()))
 ) (fun y1 =>
 some ((), (y1, ()))
 ))
noncomputable def s84 : Su := ⟨[.c false [.str]], [(false, [.bool])], true, .inl fun x => g84 x.1.1⟩
theorem ok84 : SuOK Tryz.prog 84 s84 :=
 fl an [.d 2 (.bool)] [(0, ⟨[.d 0 (.str), .d 3 (.int .i64)], fun x => loopF (fun x => r84_0 x.1 x.2.1) x⟩)] [] Tryz.f84 (by kernel_rfl) (lp [0] (by kernel_rfl) (sc rfl (fun x => by kernel_rfl) (lp [] (by kernel_rfl) sn) sn)) fun x => by kernel_rfl
noncomputable def r166_0 (t0 : (List UInt8)) (t3 : Int) (t4 : Bool) (t5 : Int) : Option (Sum ((List UInt8) × Int × Bool × Int × Unit) (Sum ((List UInt8) × Int × Bool × Int × Unit) Unit)) :=
 cond (leI 0 t5) (
 cond (inB t5 t0) (
 cond t4 (
 let u1 := (subW .i64 (cvtW .i64 (bytI t0 t5)) 48)
 let u2 := (mulW .i64 2 u1)
 cond (ltI 9 u2) (
 let u3 := (subW .i64 t5 1)
 some (.inl (t0, (remI (addW .i64 t3 (subW .i64 u2 9)) 10), (!t4), u3, ()))
 ) (
 let u3 := (subW .i64 t5 1)
 some (.inl (t0, (remI (addW .i64 t3 u2) 10), (!t4), u3, ()))
 )
 ) (
 let u1 := (subW .i64 (cvtW .i64 (bytI t0 t5)) 48)
 let u2 := (subW .i64 t5 1)
 some (.inl (t0, (remI (addW .i64 t3 u1) 10), (!t4), u2, ()))
 )
 ) none
 ) (
 some (.inr (.inl (t0, t3, t4, t5, ())))
 )
noncomputable def l166_0 (t0 : (List UInt8)) (t3 : Int) (t4 : Bool) (t5 : Int) : Option (Sum ((List UInt8) × Int × Bool × Int × Unit) Unit) := loopF (fun (x : ((List UInt8) × Int × Bool × Int × Unit)) => r166_0 x.1 x.2.1 x.2.2.1 x.2.2.2.1) (t0, t3, t4, t5, ())
noncomputable def g166 (p0 : (List UInt8)) : Option (Unit × (R3 × Unit)) :=
 Option.bind (g84 p0) fun y1 =>
 cond (!y1.2.1.1) (
 some ((), (((-1), ()), ()))
 ) (
 Option.bind (l166_0 p0 0 true (subW .i64 (lenI p0) 1)) (Sum.elim (fun y2 =>
 some ((), (((remI (subW .i64 10 y2.2.1) 10), ()), ()))
 ) (fun y2 =>
 none
 ))
 )
noncomputable def s166 : Su := ⟨[.c false [.str]], [(false, kk3)], true, .inl fun x => g166 x.1.1⟩
theorem ok166 : SuOK Tryz.prog 166 s166 :=
 fl (ac ok84 an) [] [(0, ⟨[.d 0 (.str), .d 3 (.int .i64), .d 4 (.bool), .d 5 (.int .i64)], fun x => loopF (fun x => r166_0 x.1 x.2.1 x.2.2.1 x.2.2.2.1) x⟩)] [] Tryz.f166 (by kernel_rfl) (lp [0] (by kernel_rfl) (sc rfl (fun x => by kernel_rfl) (lp [] (by kernel_rfl) sn) sn)) fun x => by kernel_rfl
noncomputable def g119 (p0 : (List UInt8)) : Option (Unit × ((Bool × Unit) × Unit)) :=
 Option.bind (g84 p0) fun y1 =>
 let u1 := (lenI p0)
 cond (cond (!y1.2.1.1) true (ltI u1 2)) (
 some ((), ((false, ()), ()))
 ) (
 let u2 := (subW .i64 u1 1)
 cond (cutB 0 u2 p0) (
 Option.bind (g166 (sub p0 0 u2)) fun y2 =>
 cond (inB u2 p0) (
 some ((), (((eqI y2.2.1.1 (subW .i64 (cvtW .i64 (bytI p0 u2)) 48)), ()), ()))
 ) none
 ) none
 )
noncomputable def s119 : Su := ⟨[.c false [.str]], [(false, [.bool])], true, .inl fun x => g119 x.1.1⟩
theorem ok119 : SuOK Tryz.prog 119 s119 :=
 fq (ac ok84 (ac ok166 an)) Tryz.f119 (by kernel_rfl) fun x => by kernel_rfl
noncomputable def g60 (p0 : (List UInt8)) : Option (Unit × ((Bool × Unit) × Unit)) :=
 cond (leI (lenI p0) 19) (
 Option.bind (g119 p0) fun y1 =>
 some ((), (y1.2.1, ()))
 ) (
 some ((), ((false, ()), ()))
 )
noncomputable def s60 : Su := ⟨[.c false [.str]], [(false, [.bool])], true, .inl fun x => g60 x.1.1⟩
theorem ok60 : SuOK Tryz.prog 60 s60 :=
 fq (ac ok119 an) Tryz.f60 (by kernel_rfl) fun x => by kernel_rfl
noncomputable def g61 (p0 : Int) (p1 : Int) (p2 : Int) : Option (Unit × ((Bool × Unit) × Unit)) :=
 some ((), (((cond (leI p1 p0) (leI p0 p2) false), ()), ()))
noncomputable def s61 : Su := ⟨[.c false kk3, .c false kk3, .c false kk3], [(false, [.bool])], true, .inl fun x => g61 x.1.1 x.2.1.1 x.2.2.1.1⟩
theorem ok61 : SuOK Tryz.prog 61 s61 :=
 fq an Tryz.f61 (by kernel_rfl) fun x => by kernel_rfl
noncomputable def g62 (p0 : Int) : Option (Unit × ((Bool × Unit) × Unit)) :=
 some ((), (((cond (leI 0 p0) (leI p0 4611686018427387904) false), ()), ()))
noncomputable def s62 : Su := ⟨[.c false kk3], [(false, [.bool])], true, .inl fun x => g62 x.1.1⟩
theorem ok62 : SuOK Tryz.prog 62 s62 :=
 fq an Tryz.f62 (by kernel_rfl) fun x => by kernel_rfl
noncomputable def r86_0 (t0 : (List UInt8)) (t3 : Int) : Option (Sum ((List UInt8) × Int × Unit) (Sum ((List UInt8) × Int × Unit) (Bool × Unit))) :=
 cond (ltI t3 (lenI t0)) (
 cond (inB t3 t0) (
 let u1 := (bytI t0 t3)
 cond (ltI u1 48) (
 cond (inB t3 t0) (
 cond (ltI u1 97) (
 some (.inr (.inr (false, ())))
 ) (
 cond (inB t3 t0) (
 cond (ltI 122 u1) (
 some (.inr (.inr (false, ())))
 ) (
 some (.inl (t0, (addW .i64 t3 1), ()))
 )
 ) none
 )
 ) none
 ) (
 cond (inB t3 t0) (
 cond (ltI 57 u1) (
 cond (inB t3 t0) (
 cond (ltI u1 97) (
 some (.inr (.inr (false, ())))
 ) (
 cond (inB t3 t0) (
 cond (ltI 122 u1) (
 some (.inr (.inr (false, ())))
 ) (
 some (.inl (t0, (addW .i64 t3 1), ()))
 )
 ) none
 )
 ) none
 ) (
 some (.inl (t0, (addW .i64 t3 1), ()))
 )
 ) none
 )
 ) none
 ) (
 some (.inr (.inl (t0, t3, ())))
 )
noncomputable def l86_0 (t0 : (List UInt8)) (t3 : Int) : Option (Sum ((List UInt8) × Int × Unit) (Bool × Unit)) := loopF (fun (x : ((List UInt8) × Int × Unit)) => r86_0 x.1 x.2.1) (t0, t3, ())
noncomputable def g86 (p0 : (List UInt8)) : Option (Unit × ((Bool × Unit) × Unit)) :=
 Option.bind (l86_0 p0 0) (Sum.elim (fun y1 =>
 Option.bind (g61 (lenI y1.1) 1 6) fun y2 =>
 some ((), (y2.2.1, ()))
 ) (fun y1 =>
 some ((), (y1, ()))
 ))
noncomputable def s86 : Su := ⟨[.c false [.str]], [(false, [.bool])], true, .inl fun x => g86 x.1.1⟩
theorem ok86 : SuOK Tryz.prog 86 s86 :=
 fl (ac ok61 an) [.d 2 (.bool)] [(0, ⟨[.d 0 (.str), .d 3 (.int .i64)], fun x => loopF (fun x => r86_0 x.1 x.2.1) x⟩)] [] Tryz.f86 (by kernel_rfl) (lp [0] (by kernel_rfl) (sc rfl (fun x => by kernel_rfl) (lp [] (by kernel_rfl) sn) sn)) fun x => by kernel_rfl
noncomputable def g23 (p0 : Int) : Option (Unit × ((Bool × Unit) × Unit)) :=
 Option.bind (g61 p0 0 1000000000) fun y1 =>
 some ((), (y1.2.1, ()))
noncomputable def s23 : Su := ⟨[.c false kk3], [(false, [.bool])], true, .inl fun x => g23 x.1.1⟩
theorem ok23 : SuOK Tryz.prog 23 s23 :=
 fq (ac ok61 an) Tryz.f23 (by kernel_rfl) fun x => by kernel_rfl
noncomputable def g120 (p0 : R93) : Option (Unit × ((Bool × Unit) × Unit)) :=
 Option.bind (g86 p0.1) fun y1 =>
 cond y1.2.1.1 (
 Option.bind (g61 p0.2.1 1 9007199254740992) fun y2 =>
 cond y2.2.1.1 (
 Option.bind (g23 p0.2.2.1) fun y3 =>
 some ((), (y3.2.1, ()))
 ) (
 some ((), ((false, ()), ()))
 )
 ) (
 some ((), ((false, ()), ()))
 )
noncomputable def s120 : Su := ⟨[.c true kk93], [(false, [.bool])], true, .inl fun x => g120 x.1⟩
theorem ok120 : SuOK Tryz.prog 120 s120 :=
 fq (ac ok61 (ac ok86 (ac ok23 an))) Tryz.f120 (by kernel_rfl) fun x => by kernel_rfl
noncomputable def r63_0 (t0 : (List R108)) (t5 : (List R108)) (t6 : Int) (t7 : Int) : Option (Sum ((List R108) × (List R108) × Int × Int × Unit) (Sum ((List R108) × (List R108) × Int × Int × Unit) (Bool × Unit))) :=
 cond (ltI t7 t6) (
 cond (inB t7 t5) (
 let u1 := (gt d108 t5 t7)
 Option.bind (g120 u1) fun y1 =>
 cond (!y1.2.1.1) (
 some (.inr (.inr (false, ())))
 ) (
 cond (ltI 0 t7) (
 let u2 := (subW .i64 t7 1)
 cond (inB u2 t0) (
 cond (!(ltS (gt d108 t0 u2).1 u1.1)) (
 some (.inr (.inr (false, ())))
 ) (
 some (.inl (t0, t5, t6, (addW .i64 t7 1), ()))
 )
 ) none
 ) (
 some (.inl (t0, t5, t6, (addW .i64 t7 1), ()))
 )
 )
 ) none
 ) (
 some (.inr (.inl (t0, t5, t6, t7, ())))
 )
noncomputable def l63_0 (t0 : (List R108)) (t5 : (List R108)) (t6 : Int) (t7 : Int) : Option (Sum ((List R108) × (List R108) × Int × Int × Unit) (Bool × Unit)) := loopF (fun (x : ((List R108) × (List R108) × Int × Int × Unit)) => r63_0 x.1 x.2.1 x.2.2.1 x.2.2.2.1) (t0, t5, t6, t7, ())
noncomputable def g63 (p0 : (List R108)) : Option (Unit × ((Bool × Unit) × Unit)) :=
 Option.bind (l63_0 p0 p0 (lenI p0) 0) (Sum.elim (fun y1 =>
 some ((), (((leI (lenI y1.1) 4), ()), ()))
 ) (fun y1 =>
 some ((), (y1, ()))
 ))
noncomputable def s63 : Su := ⟨[.c false [.sl 108 kk108]], [(false, [.bool])], true, .inl fun x => g63 x.1.1⟩
theorem ok63 : SuOK Tryz.prog 63 s63 :=
 fl (ac ok120 an) [.d 2 (.bool)] [(0, ⟨[.d 0 (.sl 108 kk108), .d 5 (.sl 108 kk108), .d 6 (.int .i64), .d 7 (.int .i64)], fun x => loopF (fun x => r63_0 x.1 x.2.1 x.2.2.1 x.2.2.2.1) x⟩)] [] Tryz.f63 (by kernel_rfl) (lp [0] (by kernel_rfl) (sc rfl (fun x => by kernel_rfl) (lp [] (by kernel_rfl) sn) sn)) fun x => by kernel_rfl
noncomputable def r64_0 (t32 : Int) (t33 : Int) (b1 : (Int × Int × (List R3) × (List R3) × Unit)) : Option (Sum (Int × Int × (Int × Int × (List R3) × (List R3) × Unit) × Unit) (Sum (Int × Int × (Int × Int × (List R3) × (List R3) × Unit) × Unit) (Bool × Unit))) :=
 cond (ltI t33 t32) (
 cond (inB t33 b1.2.2.1) (
 Option.bind (g62 (gt d3 b1.2.2.1 t33).1) fun y1 =>
 cond (!y1.2.1.1) (
 some (.inr (.inr (false, ())))
 ) (
 cond (inB t33 b1.2.2.2.1) (
 Option.bind (g62 (gt d3 b1.2.2.2.1 t33).1) fun y2 =>
 cond (!y2.2.1.1) (
 some (.inr (.inr (false, ())))
 ) (
 some (.inl (t32, (addW .i64 t33 1), b1, ()))
 )
 ) none
 )
 ) none
 ) (
 some (.inr (.inl (t32, t33, b1, ())))
 )
noncomputable def l64_0 (t32 : Int) (t33 : Int) (b1 : (Int × Int × (List R3) × (List R3) × Unit)) : Option (Sum (Int × Int × (Int × Int × (List R3) × (List R3) × Unit) × Unit) (Bool × Unit)) := loopF (fun (x : (Int × Int × (Int × Int × (List R3) × (List R3) × Unit) × Unit)) => r64_0 x.1 x.2.1 x.2.2.1) (t32, t33, b1, ())
noncomputable def g64 (p0 : (Int × Int × (List R3) × (List R3) × Unit)) : Option (Unit × ((Bool × Unit) × Unit)) :=
 Option.bind (g61 p0.1 1 1000) fun y1 =>
 cond (!y1.2.1.1) (
 some ((), ((false, ()), ()))
 ) (
 let u1 := (lenI p0.2.2.1)
 Option.bind (g61 u1 1 8) fun y2 =>
 cond (cond (!y2.2.1.1) true (!(eqI (lenI p0.2.2.2.1) u1))) (
 some ((), ((false, ()), ()))
 ) (
 Option.bind (g23 p0.2.1) fun y3 =>
 cond (!y3.2.1.1) (
 some ((), ((false, ()), ()))
 ) (
 Option.bind (l64_0 u1 0 p0) (Sum.elim (fun y4 =>
 some ((), ((true, ()), ()))
 ) (fun y4 =>
 some ((), (y4, ()))
 ))
 )
 )
 )
noncomputable def s64 : Su := ⟨[.c true [.int .i64, .int .i64, .sl 3 kk3, .sl 3 kk3]], [(false, [.bool])], true, .inl fun x => g64 x.1⟩
theorem ok64 : SuOK Tryz.prog 64 s64 :=
 fl (ac ok61 (ac ok62 (ac ok23 an))) [.d 2 (.bool)] [(0, ⟨[.d 32 (.int .i64), .d 33 (.int .i64), .box 1 [(false, .int .i64), (false, .int .i64), (false, .sl 3 kk3), (false, .sl 3 kk3)]], fun x => loopF (fun x => r64_0 x.1 x.2.1 x.2.2.1) x⟩)] [] Tryz.f64 (by kernel_rfl) (lp [0] (by kernel_rfl) (sc rfl (fun x => by kernel_rfl) (lp [] (by kernel_rfl) sn) sn)) fun x => by kernel_rfl
noncomputable def g121 (p0 : R98) : Option (Unit × ((Bool × Unit) × Unit)) :=
 Option.bind (g84 p0.1) fun y1 =>
 cond (cond y1.2.1.1 (eqI (lenI p0.1) 6) false) (
 Option.bind (g84 p0.2.1) fun y2 =>
 cond (cond y2.2.1.1 (eqI (lenI p0.2.1) 4) false) (
 Option.bind (g61 (lenI p0.2.2.1) 1 200) fun y3 =>
 some ((), (y3.2.1, ()))
 ) (
 some ((), ((false, ()), ()))
 )
 ) (
 some ((), ((false, ()), ()))
 )
noncomputable def s121 : Su := ⟨[.c true kk98], [(false, [.bool])], true, .inl fun x => g121 x.1⟩
theorem ok121 : SuOK Tryz.prog 121 s121 :=
 fq (ac ok84 (ac ok61 an)) Tryz.f121 (by kernel_rfl) fun x => by kernel_rfl
noncomputable def r65_2 (t0 : (List R111)) (t7 : (List R111)) (t8 : Int) (t9 : Int) (t19 : (List R111)) (t20 : Int) (t21 : Int) (b4 : R98) : Option (Sum ((List R111) × (List R111) × Int × Int × (List R111) × Int × Int × R98 × Unit) (Sum ((List R111) × (List R111) × Int × Int × (List R111) × Int × Int × R98 × Unit) (Bool × Unit))) :=
 cond (ltI t21 t20) (
 cond (inB t21 t19) (
 let u1 := (gt d111 t19 t21)
 cond (cond (eqS u1.1 b4.1) (eqS u1.2.1 b4.2.1) false) (
 some (.inr (.inr (false, ())))
 ) (
 some (.inl (t0, t7, t8, t9, t19, t20, (addW .i64 t21 1), b4, ()))
 )
 ) none
 ) (
 some (.inr (.inl (t0, t7, t8, t9, t19, t20, t21, b4, ())))
 )
noncomputable def l65_2 (t0 : (List R111)) (t7 : (List R111)) (t8 : Int) (t9 : Int) (t19 : (List R111)) (t20 : Int) (t21 : Int) (b4 : R98) : Option (Sum ((List R111) × (List R111) × Int × Int × (List R111) × Int × Int × R98 × Unit) (Bool × Unit)) := loopF (fun (x : ((List R111) × (List R111) × Int × Int × (List R111) × Int × Int × R98 × Unit)) => r65_2 x.1 x.2.1 x.2.2.1 x.2.2.2.1 x.2.2.2.2.1 x.2.2.2.2.2.1 x.2.2.2.2.2.2.1 x.2.2.2.2.2.2.2.1) (t0, t7, t8, t9, t19, t20, t21, b4, ())
noncomputable def r65_0 (t0 : (List R111)) (t7 : (List R111)) (t8 : Int) (t9 : Int) : Option (Sum ((List R111) × (List R111) × Int × Int × Unit) (Sum ((List R111) × (List R111) × Int × Int × Unit) (Bool × Unit))) :=
 cond (ltI t9 t8) (
 cond (inB t9 t7) (
 let u1 := (gt d111 t7 t9)
 Option.bind (g121 u1) fun y1 =>
 cond (!y1.2.1.1) (
 some (.inr (.inr (false, ())))
 ) (
 cond (cutB 0 t9 t0) (
 let u2 := (sub t0 0 t9)
 Option.bind (l65_2 t0 t7 t8 t9 u2 (lenI u2) 0 u1) (Sum.elim (fun y2 =>
 some (.inl (y2.1, y2.2.1, y2.2.2.1, (addW .i64 y2.2.2.2.1 1), ()))
 ) (fun y2 =>
 some (.inr (.inr (y2.1, ())))
 ))
 ) none
 )
 ) none
 ) (
 some (.inr (.inl (t0, t7, t8, t9, ())))
 )
noncomputable def l65_0 (t0 : (List R111)) (t7 : (List R111)) (t8 : Int) (t9 : Int) : Option (Sum ((List R111) × (List R111) × Int × Int × Unit) (Bool × Unit)) := loopF (fun (x : ((List R111) × (List R111) × Int × Int × Unit)) => r65_0 x.1 x.2.1 x.2.2.1 x.2.2.2.1) (t0, t7, t8, t9, ())
noncomputable def g65 (p0 : (List R111)) : Option (Unit × ((Bool × Unit) × Unit)) :=
 Option.bind (l65_0 p0 p0 (lenI p0) 0) (Sum.elim (fun y1 =>
 some ((), (((leI (lenI y1.1) 6), ()), ()))
 ) (fun y1 =>
 some ((), (y1, ()))
 ))
noncomputable def s65 : Su := ⟨[.c false [.sl 111 kk111]], [(false, [.bool])], true, .inl fun x => g65 x.1.1⟩
theorem ok65 : SuOK Tryz.prog 65 s65 :=
 fl (ac ok121 an) [.d 2 (.bool)] [(2, ⟨[.d 0 (.sl 111 kk111), .d 7 (.sl 111 kk111), .d 8 (.int .i64), .d 9 (.int .i64), .d 19 (.sl 111 kk111), .d 20 (.int .i64), .d 21 (.int .i64), .box 4 [(false, .str), (false, .str), (false, .sl 5 kk5)]], fun x => loopF (fun x => r65_2 x.1 x.2.1 x.2.2.1 x.2.2.2.1 x.2.2.2.2.1 x.2.2.2.2.2.1 x.2.2.2.2.2.2.1 x.2.2.2.2.2.2.2.1) x⟩), (0, ⟨[.d 0 (.sl 111 kk111), .d 7 (.sl 111 kk111), .d 8 (.int .i64), .d 9 (.int .i64)], fun x => loopF (fun x => r65_0 x.1 x.2.1 x.2.2.1 x.2.2.2.1) x⟩)] [] Tryz.f65 (by kernel_rfl) (lp [0] (by kernel_rfl) (sc rfl (fun x => by kernel_rfl) (lp [2] (by kernel_rfl) (sc rfl (fun x => by kernel_rfl) (lp [] (by kernel_rfl) sn) sn)) sn)) fun x => by kernel_rfl
noncomputable def g123 (p0 : Int) (p1 : Int) (p2 : Int) : Option (Unit × (R3 × Unit)) :=
 cond (ltI p0 p1) (
 some ((), ((p1, ()), ()))
 ) (
 cond (ltI p2 p0) (
 some ((), ((p2, ()), ()))
 ) (
 some ((), ((p0, ()), ()))
 )
 )
noncomputable def s123 : Su := ⟨[.c false kk3, .c false kk3, .c false kk3], [(false, kk3)], true, .inl fun x => g123 x.1.1 x.2.1.1 x.2.2.1.1⟩
theorem ok123 : SuOK Tryz.prog 123 s123 :=
 fq an Tryz.f123 (by kernel_rfl) fun x => by kernel_rfl
noncomputable def g122 (p0 : Int) (p1 : Int) : Option (Unit × (R3 × (Bool × Unit) × Unit)) :=
 Option.bind (g62 p0) fun y1 =>
 cond (!y1.2.1.1) (
 some ((), ((0, ()), (false, ()), ()))
 ) (
 Option.bind (g62 p1) fun y2 =>
 cond (cond (!y2.2.1.1) true (ltI (subW .i64 4611686018427387904 p1) p0)) (
 some ((), ((0, ()), (false, ()), ()))
 ) (
 some ((), (((addW .i64 p0 p1), ()), (true, ()), ()))
 )
 )
noncomputable def s122 : Su := ⟨[.c false kk3, .c false kk3], [(false, kk3), (false, [.bool])], true, .inl fun x => g122 x.1.1 x.2.1.1⟩
theorem ok122 : SuOK Tryz.prog 122 s122 :=
 fq (ac ok62 an) Tryz.f122 (by kernel_rfl) fun x => by kernel_rfl
noncomputable def g66 (p0 : Int) (p1 : Int) : Option (Unit × (R3 × Unit)) :=
 Option.bind (g123 p0 0 4611686018427387904) fun y1 =>
 Option.bind (g123 p1 0 4611686018427387904) fun y2 =>
 Option.bind (g122 y1.2.1.1 y2.2.1.1) fun y3 =>
 cond (!y3.2.2.1.1) (
 some ((), ((4611686018427387904, ()), ()))
 ) (
 some ((), (y3.2.1, ()))
 )
noncomputable def s66 : Su := ⟨[.c false kk3, .c false kk3], [(false, kk3)], true, .inl fun x => g66 x.1.1 x.2.1.1⟩
theorem ok66 : SuOK Tryz.prog 66 s66 :=
 fq (ac ok123 (ac ok122 an)) Tryz.f66 (by kernel_rfl) fun x => by kernel_rfl
noncomputable def r67_0 (t3 : Int) (t6 : (List R108)) (t7 : Int) (t8 : Int) : Option (Sum (Int × (List R108) × Int × Int × Unit) (Sum (Int × (List R108) × Int × Int × Unit) Unit)) :=
 cond (ltI t8 t7) (
 cond (inB t8 t6) (
 Option.bind (g66 t3 (gt d108 t6 t8).2.1) fun y1 =>
 some (.inl (y1.2.1.1, t6, t7, (addW .i64 t8 1), ()))
 ) none
 ) (
 some (.inr (.inl (t3, t6, t7, t8, ())))
 )
noncomputable def l67_0 (t3 : Int) (t6 : (List R108)) (t7 : Int) (t8 : Int) : Option (Sum (Int × (List R108) × Int × Int × Unit) Unit) := loopF (fun (x : (Int × (List R108) × Int × Int × Unit)) => r67_0 x.1 x.2.1 x.2.2.1 x.2.2.2.1) (t3, t6, t7, t8, ())
noncomputable def g67 (p0 : (List R108)) : Option (Unit × (R3 × Unit)) :=
 Option.bind (l67_0 0 p0 (lenI p0) 0) (Sum.elim (fun y1 =>
 some ((), ((y1.1, ()), ()))
 ) (fun y1 =>
 none
 ))
noncomputable def s67 : Su := ⟨[.c false [.sl 108 kk108]], [(false, kk3)], true, .inl fun x => g67 x.1.1⟩
theorem ok67 : SuOK Tryz.prog 67 s67 :=
 fl (ac ok66 an) [] [(0, ⟨[.d 3 (.int .i64), .d 6 (.sl 108 kk108), .d 7 (.int .i64), .d 8 (.int .i64)], fun x => loopF (fun x => r67_0 x.1 x.2.1 x.2.2.1 x.2.2.2.1) x⟩)] [] Tryz.f67 (by kernel_rfl) (lp [0] (by kernel_rfl) (sc rfl (fun x => by kernel_rfl) (lp [] (by kernel_rfl) sn) sn)) fun x => by kernel_rfl
noncomputable def g22 (p0 : R36) : Option (Unit × ((Bool × Unit) × Unit)) :=
 Option.bind (g60 p0.1) fun y1 =>
 cond (!y1.2.1.1) (
 some ((), ((false, ()), ()))
 ) (
 Option.bind (g61 p0.2.1 0 9007199254740992) fun y2 =>
 cond (!y2.2.1.1) (
 some ((), ((false, ()), ()))
 ) (
 Option.bind (g61 p0.2.2.2.1 0 1000) fun y3 =>
 cond (!y3.2.1.1) (
 some ((), ((false, ()), ()))
 ) (
 Option.bind (g61 p0.2.2.2.2.1 0 9007199254740992) fun y4 =>
 cond (!y4.2.1.1) (
 some ((), ((false, ()), ()))
 ) (
 Option.bind (g62 p0.2.2.1) fun y5 =>
 cond (!y5.2.1.1) (
 some ((), ((false, ()), ()))
 ) (
 Option.bind (g63 p0.2.2.2.2.2.1) fun y6 =>
 cond y6.2.1.1 (
 Option.bind (g64 (p0.2.2.2.2.2.2.1, p0.2.2.2.2.2.2.2.1, p0.2.2.2.2.2.2.2.2.1, p0.2.2.2.2.2.2.2.2.2.1, ())) fun y7 =>
 cond y7.2.1.1 (
 Option.bind (g65 p0.2.2.2.2.2.2.2.2.2.2.1) fun y8 =>
 cond y8.2.1.1 (
 Option.bind (g67 p0.2.2.2.2.2.1) fun y9 =>
 Option.bind (g66 p0.2.2.1 y9.2.1.1) fun y10 =>
 some ((), (((leI y10.2.1.1 p0.2.1), ()), ()))
 ) (
 some ((), ((false, ()), ()))
 )
 ) (
 some ((), ((false, ()), ()))
 )
 ) (
 some ((), ((false, ()), ()))
 )
 )
 )
 )
 )
 )
noncomputable def s22 : Su := ⟨[.c true kk36], [(false, [.bool])], true, .inl fun x => g22 x.1⟩
theorem ok22 : SuOK Tryz.prog 22 s22 :=
 fq (ac ok60 (ac ok61 (ac ok62 (ac ok63 (ac ok64 (ac ok65 (ac ok66 (ac ok67 an)))))))) Tryz.f22 (by kernel_rfl) fun x => by kernel_rfl
noncomputable def r36_0 (t6 : (List R36)) (t7 : Int) (t8 : Int) (b1 : ((List R36) × Unit)) : Option (Sum ((List R36) × Int × Int × ((List R36) × Unit) × Unit) (Sum ((List R36) × Int × Int × ((List R36) × Unit) × Unit) (Bool × Unit))) :=
 cond (ltI t8 t7) (
 cond (inB t8 t6) (
 let u1 := (gt d36 t6 t8)
 Option.bind (g22 u1) fun y1 =>
 cond (!y1.2.1.1) (
 some (.inr (.inr (false, ())))
 ) (
 cond (ltI 0 t8) (
 let u2 := (subW .i64 t8 1)
 cond (inB u2 b1.1) (
 cond (!(ltS (gt d36 b1.1 u2).1 u1.1)) (
 some (.inr (.inr (false, ())))
 ) (
 some (.inl (t6, t7, (addW .i64 t8 1), b1, ()))
 )
 ) none
 ) (
 some (.inl (t6, t7, (addW .i64 t8 1), b1, ()))
 )
 )
 ) none
 ) (
 some (.inr (.inl (t6, t7, t8, b1, ())))
 )
noncomputable def l36_0 (t6 : (List R36)) (t7 : Int) (t8 : Int) (b1 : ((List R36) × Unit)) : Option (Sum ((List R36) × Int × Int × ((List R36) × Unit) × Unit) (Bool × Unit)) := loopF (fun (x : ((List R36) × Int × Int × ((List R36) × Unit) × Unit)) => r36_0 x.1 x.2.1 x.2.2.1 x.2.2.2.1) (t6, t7, t8, b1, ())
noncomputable def g36 (p0 : ((List R36) × Unit)) : Option (Unit × ((Bool × Unit) × Unit)) :=
 Option.bind (l36_0 p0.1 (lenI p0.1) 0 p0) (Sum.elim (fun y1 =>
 some ((), (((leI (lenI y1.2.2.2.1.1) 6), ()), ()))
 ) (fun y1 =>
 some ((), (y1, ()))
 ))
noncomputable def s36 : Su := ⟨[.c true [.sl 36 kk36]], [(false, [.bool])], true, .inl fun x => g36 x.1⟩
theorem ok36 : SuOK Tryz.prog 36 s36 :=
 fl (ac ok22 an) [.d 2 (.bool)] [(0, ⟨[.d 6 (.sl 36 kk36), .d 7 (.int .i64), .d 8 (.int .i64), .box 1 [(false, .sl 36 kk36)]], fun x => loopF (fun x => r36_0 x.1 x.2.1 x.2.2.1 x.2.2.2.1) x⟩)] [] Tryz.f36 (by kernel_rfl) (lp [0] (by kernel_rfl) (sc rfl (fun x => by kernel_rfl) (lp [] (by kernel_rfl) sn) sn)) fun x => by kernel_rfl
noncomputable def g82 (p0 : Int) : Option (Unit × ((Bool × Unit) × Unit)) :=
 Option.bind (g61 p0 1 8) fun y1 =>
 some ((), (y1.2.1, ()))
noncomputable def s82 : Su := ⟨[.c false kk3], [(false, [.bool])], true, .inl fun x => g82 x.1.1⟩
theorem ok82 : SuOK Tryz.prog 82 s82 :=
 fq (ac ok61 an) Tryz.f82 (by kernel_rfl) fun x => by kernel_rfl
noncomputable def g141  : Option (Unit × (((List R9) × Unit) × Unit)) :=
 some ((), (([([], ()), ([48, 49, 48, 48], ()), ([48, 49, 48, 48], ()), ([48, 50, 50, 48], ()), ([48, 50, 50, 48], ()), ([48, 50, 50, 48], ()), ([48, 50, 48, 48], ()), ([48, 49, 48, 48], ()), ([48, 50, 48, 48], ())], ()), ()))
noncomputable def s141 : Su := ⟨[], [(false, [.sl 9 kk9])], true, .inl fun x => g141 ⟩
theorem ok141 : SuOK Tryz.prog 141 s141 :=
 fq an Tryz.f141 (by kernel_rfl) fun x => by kernel_rfl
noncomputable def g83 (p0 : Int) : Option (Unit × (R9 × Unit)) :=
 Option.bind (g82 p0) fun y1 =>
 cond (!y1.2.1.1) (
 some ((), (([], ()), ()))
 ) (
 Option.bind (g141) fun y2 =>
 cond (inB p0 y2.2.1.1) (
 some ((), ((gt d9 y2.2.1.1 p0), ()))
 ) none
 )
noncomputable def s83 : Su := ⟨[.c false kk3], [(false, [.str])], true, .inl fun x => g83 x.1.1⟩
theorem ok83 : SuOK Tryz.prog 83 s83 :=
 fq (ac ok82 (ac ok141 an)) Tryz.f83 (by kernel_rfl) fun x => by kernel_rfl
noncomputable def g85 (p0 : Int) : Option (Unit × ((Bool × Unit) × Unit)) :=
 Option.bind (g82 p0) fun y1 =>
 some ((), (((cond y1.2.1.1 (ltI p0 7) false), ()), ()))
noncomputable def s85 : Su := ⟨[.c false kk3], [(false, [.bool])], true, .inl fun x => g85 x.1.1⟩
theorem ok85 : SuOK Tryz.prog 85 s85 :=
 fq (ac ok82 an) Tryz.f85 (by kernel_rfl) fun x => by kernel_rfl
noncomputable def g87 (p0 : Int) : Option (Unit × ((Bool × Unit) × Unit)) :=
 Option.bind (g61 p0 1 4) fun y1 =>
 some ((), (y1.2.1, ()))
noncomputable def s87 : Su := ⟨[.c false kk3], [(false, [.bool])], true, .inl fun x => g87 x.1.1⟩
theorem ok87 : SuOK Tryz.prog 87 s87 :=
 fq (ac ok61 an) Tryz.f87 (by kernel_rfl) fun x => by kernel_rfl
noncomputable def g37 (p0 : (Int × (List UInt8) × (List UInt8) × (List UInt8) × (List UInt8) × (List UInt8) × Int × Int × Unit)) : Option (Unit × ((Bool × Unit) × Unit)) :=
 Option.bind (g82 p0.1) fun y1 =>
 cond (!y1.2.1.1) (
 some ((), ((false, ()), ()))
 ) (
 Option.bind (g83 p0.1) fun y2 =>
 cond (!(eqS p0.2.2.2.2.2.1 y2.2.1.1)) (
 some ((), ((false, ()), ()))
 ) (
 Option.bind (g60 p0.2.1) fun y3 =>
 cond (!y3.2.1.1) (
 some ((), ((false, ()), ()))
 ) (
 Option.bind (g84 p0.2.2.2.2.1) fun y4 =>
 cond (cond (!y4.2.1.1) true (!(eqI (lenI p0.2.2.2.2.1) 6))) (
 some ((), ((false, ()), ()))
 ) (
 let u1 := (g85 p0.1)
 Option.bind u1 fun y5 =>
 cond y5.2.1.1 (
 Option.bind (g86 p0.2.2.2.1) fun y6 =>
 cond (!y6.2.1.1) (
 some ((), ((false, ()), ()))
 ) (
 Option.bind u1 fun y7 =>
 cond (cond (!y7.2.1.1) (!(eqS p0.2.2.2.1 [])) false) (
 some ((), ((false, ()), ()))
 ) (
 let u2 := (g87 p0.1)
 Option.bind u2 fun y8 =>
 cond y8.2.1.1 (
 let u3 := (g61 p0.2.2.2.2.2.2.1 0 999999999999)
 Option.bind u3 fun y9 =>
 cond (!y9.2.1.1) (
 some ((), ((false, ()), ()))
 ) (
 Option.bind u2 fun y10 =>
 cond (cond (!y10.2.1.1) (!(eqI p0.2.2.2.2.2.2.1 0)) false) (
 some ((), ((false, ()), ()))
 ) (
 cond (eqI p0.1 1) (
 let u4 := (g61 p0.2.2.2.2.2.2.2.1 0 9999)
 Option.bind u4 fun y11 =>
 cond (!y11.2.1.1) (
 some ((), ((false, ()), ()))
 ) (
 let u5 := (cond (!(eqI p0.1 1)) (!(eqI p0.2.2.2.2.2.2.2.1 0)) false)
 cond u5 (
 some ((), ((false, ()), ()))
 ) (
 cond (eqI p0.1 6) (
 let u6 := (g60 p0.2.2.1)
 Option.bind u6 fun y12 =>
 cond y12.2.1.1 (
 some ((), ((true, ()), ()))
 ) (
 some ((), (((cond (!(eqI p0.1 6)) (eqS p0.2.2.1 []) false), ()), ()))
 )
 ) (
 some ((), (((cond (!(eqI p0.1 6)) (eqS p0.2.2.1 []) false), ()), ()))
 )
 )
 )
 ) (
 let u4 := (cond (!(eqI p0.1 1)) (!(eqI p0.2.2.2.2.2.2.2.1 0)) false)
 cond u4 (
 some ((), ((false, ()), ()))
 ) (
 cond (eqI p0.1 6) (
 let u5 := (g60 p0.2.2.1)
 Option.bind u5 fun y11 =>
 cond y11.2.1.1 (
 some ((), ((true, ()), ()))
 ) (
 some ((), (((cond (!(eqI p0.1 6)) (eqS p0.2.2.1 []) false), ()), ()))
 )
 ) (
 some ((), (((cond (!(eqI p0.1 6)) (eqS p0.2.2.1 []) false), ()), ()))
 )
 )
 )
 )
 )
 ) (
 Option.bind u2 fun y9 =>
 let u3 := (cond (!y9.2.1.1) (!(eqI p0.2.2.2.2.2.2.1 0)) false)
 cond u3 (
 some ((), ((false, ()), ()))
 ) (
 cond (eqI p0.1 1) (
 let u4 := (g61 p0.2.2.2.2.2.2.2.1 0 9999)
 Option.bind u4 fun y10 =>
 cond (!y10.2.1.1) (
 some ((), ((false, ()), ()))
 ) (
 let u5 := (cond (!(eqI p0.1 1)) (!(eqI p0.2.2.2.2.2.2.2.1 0)) false)
 cond u5 (
 some ((), ((false, ()), ()))
 ) (
 cond (eqI p0.1 6) (
 let u6 := (g60 p0.2.2.1)
 Option.bind u6 fun y11 =>
 cond y11.2.1.1 (
 some ((), ((true, ()), ()))
 ) (
 some ((), (((cond (!(eqI p0.1 6)) (eqS p0.2.2.1 []) false), ()), ()))
 )
 ) (
 some ((), (((cond (!(eqI p0.1 6)) (eqS p0.2.2.1 []) false), ()), ()))
 )
 )
 )
 ) (
 let u4 := (cond (!(eqI p0.1 1)) (!(eqI p0.2.2.2.2.2.2.2.1 0)) false)
 cond u4 (
 some ((), ((false, ()), ()))
 ) (
 cond (eqI p0.1 6) (
 let u5 := (g60 p0.2.2.1)
 Option.bind u5 fun y10 =>
 cond y10.2.1.1 (
 some ((), ((true, ()), ()))
 ) (
 some ((), (((cond (!(eqI p0.1 6)) (eqS p0.2.2.1 []) false), ()), ()))
 )
 ) (
 some ((), (((cond (!(eqI p0.1 6)) (eqS p0.2.2.1 []) false), ()), ()))
 )
 )
 )
 )
 )
 )
 )
 ) (
 Option.bind u1 fun y6 =>
 cond (cond (!y6.2.1.1) (!(eqS p0.2.2.2.1 [])) false) (
 some ((), ((false, ()), ()))
 ) (
 let u2 := (g87 p0.1)
 Option.bind u2 fun y7 =>
 cond y7.2.1.1 (
 let u3 := (g61 p0.2.2.2.2.2.2.1 0 999999999999)
 Option.bind u3 fun y8 =>
 cond (!y8.2.1.1) (
 some ((), ((false, ()), ()))
 ) (
 Option.bind u2 fun y9 =>
 let u4 := (cond (!y9.2.1.1) (!(eqI p0.2.2.2.2.2.2.1 0)) false)
 cond u4 (
 some ((), ((false, ()), ()))
 ) (
 cond (eqI p0.1 1) (
 let u5 := (g61 p0.2.2.2.2.2.2.2.1 0 9999)
 Option.bind u5 fun y10 =>
 cond (!y10.2.1.1) (
 some ((), ((false, ()), ()))
 ) (
 let u6 := (cond (!(eqI p0.1 1)) (!(eqI p0.2.2.2.2.2.2.2.1 0)) false)
 cond u6 (
 some ((), ((false, ()), ()))
 ) (
 cond (eqI p0.1 6) (
 let u7 := (g60 p0.2.2.1)
 Option.bind u7 fun y11 =>
 cond y11.2.1.1 (
 some ((), ((true, ()), ()))
 ) (
 some ((), (((cond (!(eqI p0.1 6)) (eqS p0.2.2.1 []) false), ()), ()))
 )
 ) (
 some ((), (((cond (!(eqI p0.1 6)) (eqS p0.2.2.1 []) false), ()), ()))
 )
 )
 )
 ) (
 let u5 := (cond (!(eqI p0.1 1)) (!(eqI p0.2.2.2.2.2.2.2.1 0)) false)
 cond u5 (
 some ((), ((false, ()), ()))
 ) (
 cond (eqI p0.1 6) (
 let u6 := (g60 p0.2.2.1)
 Option.bind u6 fun y10 =>
 cond y10.2.1.1 (
 some ((), ((true, ()), ()))
 ) (
 some ((), (((cond (!(eqI p0.1 6)) (eqS p0.2.2.1 []) false), ()), ()))
 )
 ) (
 some ((), (((cond (!(eqI p0.1 6)) (eqS p0.2.2.1 []) false), ()), ()))
 )
 )
 )
 )
 )
 ) (
 Option.bind u2 fun y8 =>
 cond (cond (!y8.2.1.1) (!(eqI p0.2.2.2.2.2.2.1 0)) false) (
 some ((), ((false, ()), ()))
 ) (
 cond (eqI p0.1 1) (
 let u3 := (g61 p0.2.2.2.2.2.2.2.1 0 9999)
 Option.bind u3 fun y9 =>
 cond (!y9.2.1.1) (
 some ((), ((false, ()), ()))
 ) (
 let u4 := (cond (!(eqI p0.1 1)) (!(eqI p0.2.2.2.2.2.2.2.1 0)) false)
 cond u4 (
 some ((), ((false, ()), ()))
 ) (
 cond (eqI p0.1 6) (
 let u5 := (g60 p0.2.2.1)
 Option.bind u5 fun y10 =>
 cond y10.2.1.1 (
 some ((), ((true, ()), ()))
 ) (
 some ((), (((cond (!(eqI p0.1 6)) (eqS p0.2.2.1 []) false), ()), ()))
 )
 ) (
 some ((), (((cond (!(eqI p0.1 6)) (eqS p0.2.2.1 []) false), ()), ()))
 )
 )
 )
 ) (
 let u3 := (cond (!(eqI p0.1 1)) (!(eqI p0.2.2.2.2.2.2.2.1 0)) false)
 cond u3 (
 some ((), ((false, ()), ()))
 ) (
 cond (eqI p0.1 6) (
 let u4 := (g60 p0.2.2.1)
 Option.bind u4 fun y9 =>
 cond y9.2.1.1 (
 some ((), ((true, ()), ()))
 ) (
 some ((), (((cond (!(eqI p0.1 6)) (eqS p0.2.2.1 []) false), ()), ()))
 )
 ) (
 some ((), (((cond (!(eqI p0.1 6)) (eqS p0.2.2.1 []) false), ()), ()))
 )
 )
 )
 )
 )
 )
 )
 )
 )
 )
 )
noncomputable def s37 : Su := ⟨[.c true [.int .i64, .str, .str, .str, .str, .str, .int .i64, .int .i64]], [(false, [.bool])], true, .inl fun x => g37 x.1⟩
theorem ok37 : SuOK Tryz.prog 37 s37 :=
 fq (ac ok84 (ac ok60 (ac ok61 (ac ok86 (ac ok82 (ac ok83 (ac ok85 (ac ok87 an)))))))) Tryz.f37 (by kernel_rfl) fun x => by kernel_rfl
noncomputable def r38_0 (t1 : (List UInt8)) (t8 : (List R36)) (t9 : Int) (t10 : Int) : Option (Sum ((List UInt8) × (List R36) × Int × Int × Unit) (Sum ((List UInt8) × (List R36) × Int × Int × Unit) R3)) :=
 cond (ltI t10 t9) (
 cond (inB t10 t8) (
 cond (eqS (gt d36 t8 t10).1 t1) (
 some (.inr (.inr (t10, ())))
 ) (
 some (.inl (t1, t8, t9, (addW .i64 t10 1), ()))
 )
 ) none
 ) (
 some (.inr (.inl (t1, t8, t9, t10, ())))
 )
noncomputable def l38_0 (t1 : (List UInt8)) (t8 : (List R36)) (t9 : Int) (t10 : Int) : Option (Sum ((List UInt8) × (List R36) × Int × Int × Unit) R3) := loopF (fun (x : ((List UInt8) × (List R36) × Int × Int × Unit)) => r38_0 x.1 x.2.1 x.2.2.1 x.2.2.2.1) (t1, t8, t9, t10, ())
noncomputable def g38 (p0 : ((List R36) × Unit)) (p1 : (List UInt8)) : Option (Unit × (R3 × Unit)) :=
 Option.bind (l38_0 p1 p0.1 (lenI p0.1) 0) (Sum.elim (fun y1 =>
 some ((), (((-1), ()), ()))
 ) (fun y1 =>
 some ((), (y1, ()))
 ))
noncomputable def s38 : Su := ⟨[.c true [.sl 36 kk36], .c false [.str]], [(false, kk3)], true, .inl fun x => g38 x.1 x.2.1.1⟩
theorem ok38 : SuOK Tryz.prog 38 s38 :=
 fl an [.d 4 (.int .i64)] [(0, ⟨[.d 1 (.str), .d 8 (.sl 36 kk36), .d 9 (.int .i64), .d 10 (.int .i64)], fun x => loopF (fun x => r38_0 x.1 x.2.1 x.2.2.1 x.2.2.2.1) x⟩)] [] Tryz.f38 (by kernel_rfl) (lp [0] (by kernel_rfl) (sc rfl (fun x => by kernel_rfl) (lp [] (by kernel_rfl) sn) sn)) fun x => by kernel_rfl
noncomputable def g142 (p0 : R36) (p1 : (List UInt8)) (p2 : Int) : Option (Unit × ((Bool × Unit) × Unit)) :=
 Option.bind (g22 p0) fun y1 =>
 cond y1.2.1.1 (
 Option.bind (g23 p2) fun y2 =>
 cond y2.2.1.1 (
 Option.bind (g86 p1) fun y3 =>
 some ((), (y3.2.1, ()))
 ) (
 some ((), ((false, ()), ()))
 )
 ) (
 some ((), ((false, ()), ()))
 )
noncomputable def s142 : Su := ⟨[.c true kk36, .c false [.str], .c false kk3], [(false, [.bool])], true, .inl fun x => g142 x.1 x.2.1.1 x.2.2.1.1⟩
theorem ok142 : SuOK Tryz.prog 142 s142 :=
 fq (ac ok86 (ac ok23 (ac ok22 an))) Tryz.f142 (by kernel_rfl) fun x => by kernel_rfl
noncomputable def g94 (p0 : (Int × Int × (List R3) × (List R3) × Unit)) : Option (Unit × ((Int × Int × (List R3) × (List R3) × Unit) × Unit)) :=
 cond (fitB 8 [] p0.2.2.1) (
 cond (fitB 8 [] p0.2.2.2.1) (
 some ((), ((p0.1, p0.2.1, (apL [] p0.2.2.1), (apL [] p0.2.2.2.1), ()), ()))
 ) none
 ) none
noncomputable def s94 : Su := ⟨[.c true [.int .i64, .int .i64, .sl 3 kk3, .sl 3 kk3]], [(true, [.int .i64, .int .i64, .sl 3 kk3, .sl 3 kk3])], true, .inl fun x => g94 x.1⟩
theorem ok94 : SuOK Tryz.prog 94 s94 :=
 fq an Tryz.f94 (by kernel_rfl) fun x => by kernel_rfl
noncomputable def r95_0 (t3 : (List R111)) (t7 : (List R111)) (t8 : Int) (t9 : Int) : Option (Sum ((List R111) × (List R111) × Int × Int × Unit) (Sum ((List R111) × (List R111) × Int × Int × Unit) Unit)) :=
 cond (ltI t9 t8) (
 cond (inB t9 t7) (
 let u1 := (gt d111 t7 t9)
 cond (fitB 1 [] u1.2.2.1) (
 cond (fitB 56 t3 [(u1.1, u1.2.1, (apL [] u1.2.2.1), ())]) (
 some (.inl ((apL t3 [(u1.1, u1.2.1, (apL [] u1.2.2.1), ())]), t7, t8, (addW .i64 t9 1), ()))
 ) none
 ) none
 ) none
 ) (
 some (.inr (.inl (t3, t7, t8, t9, ())))
 )
noncomputable def l95_0 (t3 : (List R111)) (t7 : (List R111)) (t8 : Int) (t9 : Int) : Option (Sum ((List R111) × (List R111) × Int × Int × Unit) Unit) := loopF (fun (x : ((List R111) × (List R111) × Int × Int × Unit)) => r95_0 x.1 x.2.1 x.2.2.1 x.2.2.2.1) (t3, t7, t8, t9, ())
noncomputable def g95 (p0 : (List R111)) : Option (Unit × (((List R111) × Unit) × Unit)) :=
 Option.bind (l95_0 [] p0 (lenI p0) 0) (Sum.elim (fun y1 =>
 some ((), ((y1.1, ()), ()))
 ) (fun y1 =>
 none
 ))
noncomputable def s95 : Su := ⟨[.c false [.sl 111 kk111]], [(false, [.sl 111 kk111])], true, .inl fun x => g95 x.1.1⟩
theorem ok95 : SuOK Tryz.prog 95 s95 :=
 fl an [] [(0, ⟨[.own 3 (.sl 111 kk111), .d 7 (.sl 111 kk111), .d 8 (.int .i64), .d 9 (.int .i64)], fun x => loopF (fun x => r95_0 x.1 x.2.1 x.2.2.1 x.2.2.2.1) x⟩)] [] Tryz.f95 (by kernel_rfl) (lp [0] (by kernel_rfl) (sc rfl (fun x => by kernel_rfl) (lp [] (by kernel_rfl) sn) sn)) fun x => by kernel_rfl
noncomputable def g41 (p0 : R36) : Option (Unit × (R36 × Unit)) :=
 cond (fitB 32 [] p0.2.2.2.2.2.1) (
 Option.bind (g94 (p0.2.2.2.2.2.2.1, p0.2.2.2.2.2.2.2.1, p0.2.2.2.2.2.2.2.2.1, p0.2.2.2.2.2.2.2.2.2.1, ())) fun y1 =>
 Option.bind (g95 p0.2.2.2.2.2.2.2.2.2.2.1) fun y2 =>
 some ((), ((p0.1, p0.2.1, p0.2.2.1, p0.2.2.2.1, p0.2.2.2.2.1, (apL [] p0.2.2.2.2.2.1), y1.2.1.1, y1.2.1.2.1, y1.2.1.2.2.1, y1.2.1.2.2.2.1, y2.2.1.1, ()), ()))
 ) none
noncomputable def s41 : Su := ⟨[.c true kk36], [(true, kk36)], true, .inl fun x => g41 x.1⟩
theorem ok41 : SuOK Tryz.prog 41 s41 :=
 fq (ac ok94 (ac ok95 an)) Tryz.f41 (by kernel_rfl) fun x => by kernel_rfl
noncomputable def g167 (p0 : R93) (p1 : Int) : Option (Unit × ((Bool × Unit) × Unit)) :=
 some ((), (((ltI p1 p0.2.2.1), ()), ()))
noncomputable def s167 : Su := ⟨[.c true kk93, .c false kk3], [(false, [.bool])], true, .inl fun x => g167 x.1 x.2.1.1⟩
theorem ok167 : SuOK Tryz.prog 167 s167 :=
 fq an Tryz.f167 (by kernel_rfl) fun x => by kernel_rfl
noncomputable def r124_0 (t1 : Int) (t5 : (List R108)) (t9 : (List R108)) (t10 : Int) (t11 : Int) : Option (Sum (Int × (List R108) × (List R108) × Int × Int × Unit) (Sum (Int × (List R108) × (List R108) × Int × Int × Unit) Unit)) :=
 cond (ltI t11 t10) (
 cond (inB t11 t9) (
 let u1 := (gt d108 t9 t11)
 Option.bind (g167 u1 t1) fun y1 =>
 cond y1.2.1.1 (
 cond (fitB 32 t5 [u1]) (
 let u2 := (addW .i64 t11 1)
 some (.inl (t1, (apL t5 [u1]), t9, t10, u2, ()))
 ) none
 ) (
 let u2 := (addW .i64 t11 1)
 some (.inl (t1, t5, t9, t10, u2, ()))
 )
 ) none
 ) (
 some (.inr (.inl (t1, t5, t9, t10, t11, ())))
 )
noncomputable def l124_0 (t1 : Int) (t5 : (List R108)) (t9 : (List R108)) (t10 : Int) (t11 : Int) : Option (Sum (Int × (List R108) × (List R108) × Int × Int × Unit) Unit) := loopF (fun (x : (Int × (List R108) × (List R108) × Int × Int × Unit)) => r124_0 x.1 x.2.1 x.2.2.1 x.2.2.2.1 x.2.2.2.2.1) (t1, t5, t9, t10, t11, ())
noncomputable def g124 (p0 : (List R108)) (p1 : Int) : Option (Unit × (((List R108) × Unit) × Unit)) :=
 Option.bind (l124_0 p1 [] p0 (lenI p0) 0) (Sum.elim (fun y1 =>
 some ((), ((y1.2.1, ()), ()))
 ) (fun y1 =>
 none
 ))
noncomputable def s124 : Su := ⟨[.c false [.sl 108 kk108], .c false kk3], [(false, [.sl 108 kk108])], true, .inl fun x => g124 x.1.1 x.2.1.1⟩
theorem ok124 : SuOK Tryz.prog 124 s124 :=
 fl (ac ok167 an) [] [(0, ⟨[.d 1 (.int .i64), .own 5 (.sl 108 kk108), .d 9 (.sl 108 kk108), .d 10 (.int .i64), .d 11 (.int .i64)], fun x => loopF (fun x => r124_0 x.1 x.2.1 x.2.2.1 x.2.2.2.1 x.2.2.2.2.1) x⟩)] [] Tryz.f124 (by kernel_rfl) (lp [0] (by kernel_rfl) (sc rfl (fun x => by kernel_rfl) (lp [] (by kernel_rfl) sn) sn)) fun x => by kernel_rfl
noncomputable def g143 (p0 : R36) (p1 : Int) : Option (Unit × (R36 × Unit)) :=
 Option.bind (g41 p0) fun y1 =>
 Option.bind (g22 p0) fun y2 =>
 cond y2.2.1.1 (
 Option.bind (g23 p1) fun y3 =>
 cond y3.2.1.1 (
 Option.bind (g124 p0.2.2.2.2.2.1 p1) fun y4 =>
 some ((), ((y1.2.1.1, y1.2.1.2.1, y1.2.1.2.2.1, y1.2.1.2.2.2.1, y1.2.1.2.2.2.2.1, y4.2.1.1, y1.2.1.2.2.2.2.2.2.1, y1.2.1.2.2.2.2.2.2.2.1, y1.2.1.2.2.2.2.2.2.2.2.1, y1.2.1.2.2.2.2.2.2.2.2.2.1, y1.2.1.2.2.2.2.2.2.2.2.2.2.1, ()), ()))
 ) (
 some ((), (y1.2.1, ()))
 )
 ) (
 some ((), (y1.2.1, ()))
 )
noncomputable def s143 : Su := ⟨[.c true kk36, .c false kk3], [(true, kk36)], true, .inl fun x => g143 x.1 x.2.1.1⟩
theorem ok143 : SuOK Tryz.prog 143 s143 :=
 fq (ac ok23 (ac ok22 (ac ok41 (ac ok124 an)))) Tryz.f143 (by kernel_rfl) fun x => by kernel_rfl
noncomputable def r144_0 (t1 : (List UInt8)) (t7 : (List R108)) (t8 : Int) (t9 : Int) : Option (Sum ((List UInt8) × (List R108) × Int × Int × Unit) (Sum ((List UInt8) × (List R108) × Int × Int × Unit) R3)) :=
 cond (ltI t9 t8) (
 cond (inB t9 t7) (
 cond (eqS (gt d108 t7 t9).1 t1) (
 some (.inr (.inr (t9, ())))
 ) (
 some (.inl (t1, t7, t8, (addW .i64 t9 1), ()))
 )
 ) none
 ) (
 some (.inr (.inl (t1, t7, t8, t9, ())))
 )
noncomputable def l144_0 (t1 : (List UInt8)) (t7 : (List R108)) (t8 : Int) (t9 : Int) : Option (Sum ((List UInt8) × (List R108) × Int × Int × Unit) R3) := loopF (fun (x : ((List UInt8) × (List R108) × Int × Int × Unit)) => r144_0 x.1 x.2.1 x.2.2.1 x.2.2.2.1) (t1, t7, t8, t9, ())
noncomputable def g144 (p0 : (List R108)) (p1 : (List UInt8)) : Option (Unit × (R3 × Unit)) :=
 Option.bind (l144_0 p1 p0 (lenI p0) 0) (Sum.elim (fun y1 =>
 some ((), (((-1), ()), ()))
 ) (fun y1 =>
 some ((), (y1, ()))
 ))
noncomputable def s144 : Su := ⟨[.c false [.sl 108 kk108], .c false [.str]], [(false, kk3)], true, .inl fun x => g144 x.1.1 x.2.1.1⟩
theorem ok144 : SuOK Tryz.prog 144 s144 :=
 fl an [.d 4 (.int .i64)] [(0, ⟨[.d 1 (.str), .d 7 (.sl 108 kk108), .d 8 (.int .i64), .d 9 (.int .i64)], fun x => loopF (fun x => r144_0 x.1 x.2.1 x.2.2.1 x.2.2.2.1) x⟩)] [] Tryz.f144 (by kernel_rfl) (lp [0] (by kernel_rfl) (sc rfl (fun x => by kernel_rfl) (lp [] (by kernel_rfl) sn) sn)) fun x => by kernel_rfl
noncomputable def g69 (p0 : (List R108)) (p1 : Int) : Option (Unit × (R3 × Unit)) :=
 Option.bind (g124 p0 p1) fun y1 =>
 Option.bind (g67 y1.2.1.1) fun y2 =>
 some ((), (y2.2.1, ()))
noncomputable def s69 : Su := ⟨[.c false [.sl 108 kk108], .c false kk3], [(false, kk3)], true, .inl fun x => g69 x.1.1 x.2.1.1⟩
theorem ok69 : SuOK Tryz.prog 69 s69 :=
 fq (ac ok67 (ac ok124 an)) Tryz.f69 (by kernel_rfl) fun x => by kernel_rfl
noncomputable def g25 (p0 : R36) (p1 : Int) : Option (Unit × (R3 × Unit)) :=
 Option.bind (g22 p0) fun y1 =>
 cond (!y1.2.1.1) (
 some ((), ((0, ()), ()))
 ) (
 Option.bind (g23 p1) fun y2 =>
 cond (!y2.2.1.1) (
 some ((), ((0, ()), ()))
 ) (
 Option.bind (g69 p0.2.2.2.2.2.1 p1) fun y3 =>
 some ((), (((subW .i64 (subW .i64 p0.2.1 p0.2.2.1) y3.2.1.1), ()), ()))
 )
 )
noncomputable def s25 : Su := ⟨[.c true kk36, .c false kk3], [(false, kk3)], true, .inl fun x => g25 x.1 x.2.1.1⟩
theorem ok25 : SuOK Tryz.prog 25 s25 :=
 fq (ac ok23 (ac ok22 (ac ok69 an))) Tryz.f25 (by kernel_rfl) fun x => by kernel_rfl
noncomputable def r182_0 (t1 : Int) (t6 : Int) (t37 : Int) (t38 : Int) (b2 : (Int × Int × (List R3) × (List R3) × Unit)) (b4 : (Int × Int × (List R3) × (List R3) × Unit)) (b5 : (Int × Int × (List R3) × (List R3) × Unit)) : Option (Sum (Int × Int × Int × Int × (Int × Int × (List R3) × (List R3) × Unit) × (Int × Int × (List R3) × (List R3) × Unit) × (Int × Int × (List R3) × (List R3) × Unit) × Unit) (Sum (Int × Int × Int × Int × (Int × Int × (List R3) × (List R3) × Unit) × (Int × Int × (List R3) × (List R3) × Unit) × (Int × Int × (List R3) × (List R3) × Unit) × Unit) Unit)) :=
 cond (ltI t38 t37) (
 cond (inB t38 b5.2.2.1) (
 cond (inB t38 b5.2.2.2.1) (
 cond (leI t6 t38) (
 let u1 := (subW .i64 t38 t6)
 cond (inB u1 b2.2.2.1) (
 let u2 := (stI b5.2.2.1 t38 (0, ()))
 cond (inB t38 u2) (
 cond (inB u1 b2.2.2.2.1) (
 let u3 := (stI b5.2.2.2.1 t38 (0, ()))
 cond (inB t38 u3) (
 let u4 := (addW .i64 t38 1)
 some (.inl (t1, t6, t37, u4, b2, b4, (b5.1, b5.2.1, (stI u2 t38 (gt d3 b2.2.2.1 u1)), (stI u3 t38 (gt d3 b2.2.2.2.1 u1)), ()), ()))
 ) none
 ) none
 ) none
 ) none
 ) (
 let u1 := (addW .i64 t38 1)
 let u2 := (stI b5.2.2.1 t38 (0, ()))
 let u3 := (stI b5.2.2.2.1 t38 (0, ()))
 some (.inl (t1, t6, t37, u1, b2, b4, (b5.1, b5.2.1, u2, u3, ()), ()))
 )
 ) none
 ) none
 ) (
 some (.inr (.inl (t1, t6, t37, t38, b2, b4, b5, ())))
 )
noncomputable def l182_0 (t1 : Int) (t6 : Int) (t37 : Int) (t38 : Int) (b2 : (Int × Int × (List R3) × (List R3) × Unit)) (b4 : (Int × Int × (List R3) × (List R3) × Unit)) (b5 : (Int × Int × (List R3) × (List R3) × Unit)) : Option (Sum (Int × Int × Int × Int × (Int × Int × (List R3) × (List R3) × Unit) × (Int × Int × (List R3) × (List R3) × Unit) × (Int × Int × (List R3) × (List R3) × Unit) × Unit) Unit) := loopF (fun (x : (Int × Int × Int × Int × (Int × Int × (List R3) × (List R3) × Unit) × (Int × Int × (List R3) × (List R3) × Unit) × (Int × Int × (List R3) × (List R3) × Unit) × Unit)) => r182_0 x.1 x.2.1 x.2.2.1 x.2.2.2.1 x.2.2.2.2.1 x.2.2.2.2.2.1 x.2.2.2.2.2.2.1) (t1, t6, t37, t38, b2, b4, b5, ())
noncomputable def g182 (p0 : (Int × Int × (List R3) × (List R3) × Unit)) (p1 : Int) : Option (Unit × ((Int × Int × (List R3) × (List R3) × Unit) × Unit)) :=
 Option.bind (g94 p0) fun y1 =>
 Option.bind (g64 p0) fun y2 =>
 cond (!y2.2.1.1) (
 some ((), (y1.2.1, ()))
 ) (
 Option.bind (g23 p1) fun y3 =>
 cond (!y3.2.1.1) (
 some ((), (y1.2.1, ()))
 ) (
 cond (!(eqI p0.1 0)) (
 let u1 := (quoW .i64 p1 p0.1)
 cond (leI u1 p0.2.1) (
 some ((), (y1.2.1, ()))
 ) (
 cond (!(eqI p0.1 0)) (
 Option.bind (l182_0 p1 (subW .i64 u1 p0.2.1) (lenI p0.2.2.1) 0 p0 (0, 0, [], [], ()) y1.2.1) (Sum.elim (fun y4 =>
 cond (!(eqI y4.2.2.2.2.1.1 0)) (
 some ((), ((y4.2.2.2.2.2.2.1.1, (quoW .i64 y4.1 y4.2.2.2.2.1.1), y4.2.2.2.2.2.2.1.2.2.1, y4.2.2.2.2.2.2.1.2.2.2.1, ()), ()))
 ) none
 ) (fun y4 =>
 none
 ))
 ) none
 )
 ) none
 )
 )
noncomputable def s182 : Su := ⟨[.c true [.int .i64, .int .i64, .sl 3 kk3, .sl 3 kk3], .c false kk3], [(true, [.int .i64, .int .i64, .sl 3 kk3, .sl 3 kk3])], true, .inl fun x => g182 x.1 x.2.1.1⟩
theorem ok182 : SuOK Tryz.prog 182 s182 :=
 fl (ac ok23 (ac ok64 (ac ok94 an))) [] [(0, ⟨[.d 1 (.int .i64), .d 6 (.int .i64), .d 37 (.int .i64), .d 38 (.int .i64), .box 2 [(false, .int .i64), (false, .int .i64), (false, .sl 3 kk3), (false, .sl 3 kk3)], .box 4 [(false, .int .i64), (false, .int .i64), (true, .sl 3 kk3), (true, .sl 3 kk3)], .box 5 [(false, .int .i64), (false, .int .i64), (true, .sl 3 kk3), (true, .sl 3 kk3)]], fun x => loopF (fun x => r182_0 x.1 x.2.1 x.2.2.1 x.2.2.2.1 x.2.2.2.2.1 x.2.2.2.2.2.1 x.2.2.2.2.2.2.1) x⟩)] [] Tryz.f182 (by kernel_rfl) (lp [0] (by kernel_rfl) (sc rfl (fun x => by kernel_rfl) (lp [] (by kernel_rfl) sn) sn)) fun x => by kernel_rfl
noncomputable def r200_0 (t2 : Bool) (t8 : Int) (t23 : Int) (t24 : Int) (b7 : (Int × Int × (List R3) × (List R3) × Unit)) : Option (Sum (Bool × Int × Int × Int × (Int × Int × (List R3) × (List R3) × Unit) × Unit) (Sum (Bool × Int × Int × Int × (Int × Int × (List R3) × (List R3) × Unit) × Unit) Unit)) :=
 cond (ltI t24 t23) (
 cond t2 (
 cond (inB t24 b7.2.2.2.1) (
 Option.bind (g66 t8 (gt d3 b7.2.2.2.1 t24).1) fun y1 =>
 some (.inl (t2, y1.2.1.1, t23, (addW .i64 t24 1), b7, ()))
 ) none
 ) (
 cond (inB t24 b7.2.2.1) (
 Option.bind (g66 t8 (gt d3 b7.2.2.1 t24).1) fun y1 =>
 some (.inl (t2, y1.2.1.1, t23, (addW .i64 t24 1), b7, ()))
 ) none
 )
 ) (
 some (.inr (.inl (t2, t8, t23, t24, b7, ())))
 )
noncomputable def l200_0 (t2 : Bool) (t8 : Int) (t23 : Int) (t24 : Int) (b7 : (Int × Int × (List R3) × (List R3) × Unit)) : Option (Sum (Bool × Int × Int × Int × (Int × Int × (List R3) × (List R3) × Unit) × Unit) Unit) := loopF (fun (x : (Bool × Int × Int × Int × (Int × Int × (List R3) × (List R3) × Unit) × Unit)) => r200_0 x.1 x.2.1 x.2.2.1 x.2.2.2.1 x.2.2.2.2.1) (t2, t8, t23, t24, b7, ())
noncomputable def g200 (p0 : (Int × Int × (List R3) × (List R3) × Unit)) (p1 : Int) (p2 : Bool) : Option (Unit × (R3 × Unit)) :=
 Option.bind (g64 p0) fun y1 =>
 cond (!y1.2.1.1) (
 some ((), ((0, ()), ()))
 ) (
 Option.bind (g23 p1) fun y2 =>
 cond (!y2.2.1.1) (
 some ((), ((0, ()), ()))
 ) (
 Option.bind (g182 p0 p1) fun y3 =>
 Option.bind (l200_0 p2 0 (lenI y3.2.1.2.2.1) 0 y3.2.1) (Sum.elim (fun y4 =>
 some ((), ((y4.2.1, ()), ()))
 ) (fun y4 =>
 none
 ))
 )
 )
noncomputable def s200 : Su := ⟨[.c true [.int .i64, .int .i64, .sl 3 kk3, .sl 3 kk3], .c false kk3, .c false [.bool]], [(false, kk3)], true, .inl fun x => g200 x.1 x.2.1.1 x.2.2.1.1⟩
theorem ok200 : SuOK Tryz.prog 200 s200 :=
 fl (ac ok23 (ac ok64 (ac ok66 (ac ok182 an)))) [] [(0, ⟨[.d 2 (.bool), .d 8 (.int .i64), .d 23 (.int .i64), .d 24 (.int .i64), .box 7 [(false, .int .i64), (false, .int .i64), (true, .sl 3 kk3), (true, .sl 3 kk3)]], fun x => loopF (fun x => r200_0 x.1 x.2.1 x.2.2.1 x.2.2.2.1 x.2.2.2.2.1) x⟩)] [] Tryz.f200 (by kernel_rfl) (lp [0] (by kernel_rfl) (sc rfl (fun x => by kernel_rfl) (lp [] (by kernel_rfl) sn) sn)) fun x => by kernel_rfl
noncomputable def g180 (p0 : (Int × Int × (List R3) × (List R3) × Unit)) (p1 : Int) : Option (Unit × (R3 × Unit)) :=
 Option.bind (g200 p0 p1 false) fun y1 =>
 some ((), (y1.2.1, ()))
noncomputable def s180 : Su := ⟨[.c true [.int .i64, .int .i64, .sl 3 kk3, .sl 3 kk3], .c false kk3], [(false, kk3)], true, .inl fun x => g180 x.1 x.2.1.1⟩
theorem ok180 : SuOK Tryz.prog 180 s180 :=
 fq (ac ok200 an) Tryz.f180 (by kernel_rfl) fun x => by kernel_rfl
noncomputable def g181 (p0 : (Int × Int × (List R3) × (List R3) × Unit)) (p1 : Int) : Option (Unit × (R3 × Unit)) :=
 Option.bind (g200 p0 p1 true) fun y1 =>
 some ((), (y1.2.1, ()))
noncomputable def s181 : Su := ⟨[.c true [.int .i64, .int .i64, .sl 3 kk3, .sl 3 kk3], .c false kk3], [(false, kk3)], true, .inl fun x => g181 x.1 x.2.1.1⟩
theorem ok181 : SuOK Tryz.prog 181 s181 :=
 fq (ac ok200 an) Tryz.f181 (by kernel_rfl) fun x => by kernel_rfl
noncomputable def g145 (p0 : R36) (p1 : Int) (p2 : Int) : Option (Unit × (R3 × Unit)) :=
 Option.bind (g25 p0 p2) fun y1 =>
 cond (ltI y1.2.1.1 p1) (
 some ((), ((7, ()), ()))
 ) (
 Option.bind (g180 (p0.2.2.2.2.2.2.1, p0.2.2.2.2.2.2.2.1, p0.2.2.2.2.2.2.2.2.1, p0.2.2.2.2.2.2.2.2.2.1, ()) p2) fun y2 =>
 Option.bind (g66 y2.2.1.1 1) fun y3 =>
 cond (ltI p0.2.2.2.1 y3.2.1.1) (
 some ((), ((8, ()), ()))
 ) (
 Option.bind (g181 (p0.2.2.2.2.2.2.1, p0.2.2.2.2.2.2.2.1, p0.2.2.2.2.2.2.2.2.1, p0.2.2.2.2.2.2.2.2.2.1, ()) p2) fun y4 =>
 Option.bind (g66 y4.2.1.1 p1) fun y5 =>
 cond (ltI p0.2.2.2.2.1 y5.2.1.1) (
 some ((), ((9, ()), ()))
 ) (
 some ((), ((0, ()), ()))
 )
 )
 )
noncomputable def s145 : Su := ⟨[.c true kk36, .c false kk3, .c false kk3], [(false, kk3)], true, .inl fun x => g145 x.1 x.2.1.1 x.2.2.1.1⟩
theorem ok145 : SuOK Tryz.prog 145 s145 :=
 fq (ac ok66 (ac ok25 (ac ok180 (ac ok181 an)))) Tryz.f145 (by kernel_rfl) fun x => by kernel_rfl
noncomputable def r146_0 (t6 : (List R108)) (t7 : Bool) (t14 : (List R108)) (t15 : Int) (t16 : Int) (b3 : R93) : Option (Sum ((List R108) × Bool × (List R108) × Int × Int × R93 × Unit) (Sum ((List R108) × Bool × (List R108) × Int × Int × R93 × Unit) Unit)) :=
 cond (ltI t16 t15) (
 cond (inB t16 t14) (
 let u1 := (gt d108 t14 t16)
 cond (cond (!t7) (!(ltS u1.1 b3.1)) false) (
 cond (fitB 32 t6 [b3]) (
 cond (!(eqS u1.1 b3.1)) (
 let u2 := (apL t6 [b3])
 cond (fitB 32 u2 [u1]) (
 let u3 := (addW .i64 t16 1)
 some (.inl ((apL u2 [u1]), true, t14, t15, u3, b3, ()))
 ) none
 ) (
 let u2 := (apL t6 [b3])
 let u3 := (addW .i64 t16 1)
 some (.inl (u2, true, t14, t15, u3, b3, ()))
 )
 ) none
 ) (
 cond (!(eqS u1.1 b3.1)) (
 cond (fitB 32 t6 [u1]) (
 let u2 := (addW .i64 t16 1)
 some (.inl ((apL t6 [u1]), t7, t14, t15, u2, b3, ()))
 ) none
 ) (
 let u2 := (addW .i64 t16 1)
 some (.inl (t6, t7, t14, t15, u2, b3, ()))
 )
 )
 ) none
 ) (
 some (.inr (.inl (t6, t7, t14, t15, t16, b3, ())))
 )
noncomputable def l146_0 (t6 : (List R108)) (t7 : Bool) (t14 : (List R108)) (t15 : Int) (t16 : Int) (b3 : R93) : Option (Sum ((List R108) × Bool × (List R108) × Int × Int × R93 × Unit) Unit) := loopF (fun (x : ((List R108) × Bool × (List R108) × Int × Int × R93 × Unit)) => r146_0 x.1 x.2.1 x.2.2.1 x.2.2.2.1 x.2.2.2.2.1 x.2.2.2.2.2.1) (t6, t7, t14, t15, t16, b3, ())
noncomputable def g146 (p0 : (List R108)) (p1 : R93) : Option (Unit × (((List R108) × Unit) × (Bool × Unit) × Unit)) :=
 Option.bind (g63 p0) fun y1 =>
 cond (!y1.2.1.1) (
 some ((), (([], ()), (false, ()), ()))
 ) (
 Option.bind (l146_0 [] false p0 (lenI p0) 0 p1) (Sum.elim (fun y2 =>
 cond (!y2.2.1) (
 cond (fitB 32 y2.1 [y2.2.2.2.2.2.1]) (
 let u1 := (apL y2.1 [y2.2.2.2.2.2.1])
 Option.bind (g63 u1) fun y3 =>
 cond (!y3.2.1.1) (
 some ((), (([], ()), (false, ()), ()))
 ) (
 some ((), ((u1, ()), (true, ()), ()))
 )
 ) none
 ) (
 Option.bind (g63 y2.1) fun y3 =>
 cond (!y3.2.1.1) (
 some ((), (([], ()), (false, ()), ()))
 ) (
 some ((), ((y2.1, ()), (true, ()), ()))
 )
 )
 ) (fun y2 =>
 none
 ))
 )
noncomputable def s146 : Su := ⟨[.c false [.sl 108 kk108], .c true kk93], [(false, [.sl 108 kk108]), (false, [.bool])], true, .inl fun x => g146 x.1.1 x.2.1⟩
theorem ok146 : SuOK Tryz.prog 146 s146 :=
 fl (ac ok63 an) [] [(0, ⟨[.own 6 (.sl 108 kk108), .d 7 (.bool), .d 14 (.sl 108 kk108), .d 15 (.int .i64), .d 16 (.int .i64), .box 3 [(false, .str), (false, .int .i64), (false, .int .i64)]], fun x => loopF (fun x => r146_0 x.1 x.2.1 x.2.2.1 x.2.2.2.1 x.2.2.2.2.1 x.2.2.2.2.2.1) x⟩)] [] Tryz.f146 (by kernel_rfl) (lp [0] (by kernel_rfl) (sc rfl (fun x => by kernel_rfl) (lp [] (by kernel_rfl) sn) sn)) fun x => by kernel_rfl
noncomputable def g147 (p0 : (Int × Int × (List R3) × (List R3) × Unit)) (p1 : Int) (p2 : Int) : Option (Unit × ((Int × Int × (List R3) × (List R3) × Unit) × Unit)) :=
 Option.bind (g64 p0) fun y1 =>
 cond (!y1.2.1.1) (
 let u1 := (g94 p0)
 Option.bind u1 fun y2 =>
 some ((), (y2.2.1, ()))
 ) (
 Option.bind (g23 p1) fun y2 =>
 cond (!y2.2.1.1) (
 let u1 := (g94 p0)
 Option.bind u1 fun y3 =>
 some ((), (y3.2.1, ()))
 ) (
 Option.bind (g62 p2) fun y3 =>
 cond (!y3.2.1.1) (
 let u1 := (g94 p0)
 Option.bind u1 fun y4 =>
 some ((), (y4.2.1, ()))
 ) (
 Option.bind (g182 p0 p1) fun y4 =>
 cond (inB 0 y4.2.1.2.2.1) (
 Option.bind (g66 (gt d3 y4.2.1.2.2.1 0).1 1) fun y5 =>
 cond (inB 0 y4.2.1.2.2.1) (
 cond (inB 0 y4.2.1.2.2.2.1) (
 Option.bind (g66 (gt d3 y4.2.1.2.2.2.1 0).1 p2) fun y6 =>
 cond (inB 0 y4.2.1.2.2.2.1) (
 some ((), ((y4.2.1.1, y4.2.1.2.1, (stI y4.2.1.2.2.1 0 y5.2.1), (stI y4.2.1.2.2.2.1 0 y6.2.1), ()), ()))
 ) none
 ) none
 ) none
 ) none
 )
 )
 )
noncomputable def s147 : Su := ⟨[.c true [.int .i64, .int .i64, .sl 3 kk3, .sl 3 kk3], .c false kk3, .c false kk3], [(true, [.int .i64, .int .i64, .sl 3 kk3, .sl 3 kk3])], true, .inl fun x => g147 x.1 x.2.1.1 x.2.2.1.1⟩
theorem ok147 : SuOK Tryz.prog 147 s147 :=
 fq (ac ok62 (ac ok23 (ac ok64 (ac ok66 (ac ok94 (ac ok182 an)))))) Tryz.f147 (by kernel_rfl) fun x => by kernel_rfl
noncomputable def g88 (p0 : R36) (p1 : (List UInt8)) (p2 : Int) (p3 : Int) (p4 : Int) : Option (Unit × (R36 × R3 × Unit)) :=
 Option.bind (g142 p0 p1 p4) fun y1 =>
 cond (!y1.2.1.1) (
 some ((), (([], 0, 0, 0, 0, [], 0, 0, [], [], [], ()), (1, ()), ()))
 ) (
 Option.bind (g61 p2 1 9007199254740992) fun y2 =>
 cond (!y2.2.1.1) (
 some ((), (([], 0, 0, 0, 0, [], 0, 0, [], [], [], ()), (4, ()), ()))
 ) (
 Option.bind (g61 p3 1 9999) fun y3 =>
 let u1 := (addW .i64 p4 p3)
 cond (cond (!y3.2.1.1) true (ltI 1000000000 u1)) (
 some ((), (([], 0, 0, 0, 0, [], 0, 0, [], [], [], ()), (4, ()), ()))
 ) (
 Option.bind (g143 p0 p4) fun y4 =>
 Option.bind (g144 y4.2.1.2.2.2.2.2.1 p1) fun y5 =>
 cond (leI 0 y5.2.1.1) (
 some ((), (([], 0, 0, 0, 0, [], 0, 0, [], [], [], ()), (6, ()), ()))
 ) (
 cond (eqI (lenI y4.2.1.2.2.2.2.2.1) 4) (
 some ((), (([], 0, 0, 0, 0, [], 0, 0, [], [], [], ()), (10, ()), ()))
 ) (
 Option.bind (g145 y4.2.1 p2 p4) fun y6 =>
 cond (!(eqI y6.2.1.1 0)) (
 some ((), (([], 0, 0, 0, 0, [], 0, 0, [], [], [], ()), y6.2.1, ()))
 ) (
 Option.bind (g146 y4.2.1.2.2.2.2.2.1 (p1, p2, u1, ())) fun y7 =>
 Option.bind (g147 (y4.2.1.2.2.2.2.2.2.1, y4.2.1.2.2.2.2.2.2.2.1, y4.2.1.2.2.2.2.2.2.2.2.1, y4.2.1.2.2.2.2.2.2.2.2.2.1, ()) p4 p2) fun y8 =>
 some ((), ((y4.2.1.1, y4.2.1.2.1, y4.2.1.2.2.1, y4.2.1.2.2.2.1, y4.2.1.2.2.2.2.1, y7.2.1.1, y8.2.1.1, y8.2.1.2.1, y8.2.1.2.2.1, y8.2.1.2.2.2.1, y4.2.1.2.2.2.2.2.2.2.2.2.2.1, ()), (0, ()), ()))
 )
 )
 )
 )
 )
 )
noncomputable def s88 : Su := ⟨[.c true kk36, .c false [.str], .c false kk3, .c false kk3, .c false kk3], [(true, kk36), (false, kk3)], true, .inl fun x => g88 x.1 x.2.1.1 x.2.2.1.1 x.2.2.2.1.1 x.2.2.2.2.1.1⟩
theorem ok88 : SuOK Tryz.prog 88 s88 :=
 fq (ac ok61 (ac ok142 (ac ok143 (ac ok144 (ac ok145 (ac ok146 (ac ok147 an))))))) Tryz.f88 (by kernel_rfl) fun x => by kernel_rfl
noncomputable def g89 (p0 : R36) (p1 : (List UInt8)) (p2 : Int) (p3 : Int) : Option (Unit × (R36 × R3 × Unit)) :=
 Option.bind (g142 p0 p1 p3) fun y1 =>
 cond (!y1.2.1.1) (
 some ((), (([], 0, 0, 0, 0, [], 0, 0, [], [], [], ()), (1, ()), ()))
 ) (
 Option.bind (g61 p2 1 9007199254740992) fun y2 =>
 cond (!y2.2.1.1) (
 some ((), (([], 0, 0, 0, 0, [], 0, 0, [], [], [], ()), (4, ()), ()))
 ) (
 Option.bind (g143 p0 p3) fun y3 =>
 Option.bind (g144 y3.2.1.2.2.2.2.2.1 p1) fun y4 =>
 cond (ltI y4.2.1.1 0) (
 some ((), (([], 0, 0, 0, 0, [], 0, 0, [], [], [], ()), (5, ()), ()))
 ) (
 Option.bind (g145 y3.2.1 p2 p3) fun y5 =>
 cond (!(eqI y5.2.1.1 0)) (
 some ((), (([], 0, 0, 0, 0, [], 0, 0, [], [], [], ()), y5.2.1, ()))
 ) (
 cond (inB y4.2.1.1 y3.2.1.2.2.2.2.2.1) (
 cond (inB y4.2.1.1 y3.2.1.2.2.2.2.2.1) (
 Option.bind (g147 (y3.2.1.2.2.2.2.2.2.1, y3.2.1.2.2.2.2.2.2.2.1, y3.2.1.2.2.2.2.2.2.2.2.1, y3.2.1.2.2.2.2.2.2.2.2.2.1, ()) p3 p2) fun y6 =>
 let u1 := (gt d108 y3.2.1.2.2.2.2.2.1 y4.2.1.1)
 some ((), ((y3.2.1.1, y3.2.1.2.1, y3.2.1.2.2.1, y3.2.1.2.2.2.1, y3.2.1.2.2.2.2.1, (stI y3.2.1.2.2.2.2.2.1 y4.2.1.1 (u1.1, (addW .i64 u1.2.1 p2), u1.2.2.1, ())), y6.2.1.1, y6.2.1.2.1, y6.2.1.2.2.1, y6.2.1.2.2.2.1, y3.2.1.2.2.2.2.2.2.2.2.2.2.1, ()), (0, ()), ()))
 ) none
 ) none
 )
 )
 )
 )
noncomputable def s89 : Su := ⟨[.c true kk36, .c false [.str], .c false kk3, .c false kk3], [(true, kk36), (false, kk3)], true, .inl fun x => g89 x.1 x.2.1.1 x.2.2.1.1 x.2.2.2.1.1⟩
theorem ok89 : SuOK Tryz.prog 89 s89 :=
 fq (ac ok61 (ac ok142 (ac ok143 (ac ok144 (ac ok145 (ac ok147 an)))))) Tryz.f89 (by kernel_rfl) fun x => by kernel_rfl
noncomputable def r148_0 (t1 : (List UInt8)) (t5 : (List R108)) (t9 : (List R108)) (t10 : Int) (t11 : Int) : Option (Sum ((List UInt8) × (List R108) × (List R108) × Int × Int × Unit) (Sum ((List UInt8) × (List R108) × (List R108) × Int × Int × Unit) Unit)) :=
 cond (ltI t11 t10) (
 cond (inB t11 t9) (
 let u1 := (gt d108 t9 t11)
 cond (!(eqS u1.1 t1)) (
 cond (fitB 32 t5 [u1]) (
 let u2 := (addW .i64 t11 1)
 some (.inl (t1, (apL t5 [u1]), t9, t10, u2, ()))
 ) none
 ) (
 let u2 := (addW .i64 t11 1)
 some (.inl (t1, t5, t9, t10, u2, ()))
 )
 ) none
 ) (
 some (.inr (.inl (t1, t5, t9, t10, t11, ())))
 )
noncomputable def l148_0 (t1 : (List UInt8)) (t5 : (List R108)) (t9 : (List R108)) (t10 : Int) (t11 : Int) : Option (Sum ((List UInt8) × (List R108) × (List R108) × Int × Int × Unit) Unit) := loopF (fun (x : ((List UInt8) × (List R108) × (List R108) × Int × Int × Unit)) => r148_0 x.1 x.2.1 x.2.2.1 x.2.2.2.1 x.2.2.2.2.1) (t1, t5, t9, t10, t11, ())
noncomputable def g148 (p0 : (List R108)) (p1 : (List UInt8)) : Option (Unit × (((List R108) × Unit) × Unit)) :=
 Option.bind (l148_0 p1 [] p0 (lenI p0) 0) (Sum.elim (fun y1 =>
 some ((), ((y1.2.1, ()), ()))
 ) (fun y1 =>
 none
 ))
noncomputable def s148 : Su := ⟨[.c false [.sl 108 kk108], .c false [.str]], [(false, [.sl 108 kk108])], true, .inl fun x => g148 x.1.1 x.2.1.1⟩
theorem ok148 : SuOK Tryz.prog 148 s148 :=
 fl an [] [(0, ⟨[.d 1 (.str), .own 5 (.sl 108 kk108), .d 9 (.sl 108 kk108), .d 10 (.int .i64), .d 11 (.int .i64)], fun x => loopF (fun x => r148_0 x.1 x.2.1 x.2.2.1 x.2.2.2.1 x.2.2.2.2.1) x⟩)] [] Tryz.f148 (by kernel_rfl) (lp [0] (by kernel_rfl) (sc rfl (fun x => by kernel_rfl) (lp [] (by kernel_rfl) sn) sn)) fun x => by kernel_rfl
noncomputable def g90 (p0 : R36) (p1 : (List UInt8)) (p2 : Int) (p3 : Bool) (p4 : Int) : Option (Unit × (R36 × R3 × Unit)) :=
 Option.bind (g142 p0 p1 p4) fun y1 =>
 cond (!y1.2.1.1) (
 some ((), (([], 0, 0, 0, 0, [], 0, 0, [], [], [], ()), (1, ()), ()))
 ) (
 Option.bind (g61 p2 1 9007199254740992) fun y2 =>
 cond (!y2.2.1.1) (
 some ((), (([], 0, 0, 0, 0, [], 0, 0, [], [], [], ()), (4, ()), ()))
 ) (
 Option.bind (g143 p0 p4) fun y3 =>
 Option.bind (g144 y3.2.1.2.2.2.2.2.1 p1) fun y4 =>
 cond (ltI y4.2.1.1 0) (
 some ((), (([], 0, 0, 0, 0, [], 0, 0, [], [], [], ()), (5, ()), ()))
 ) (
 cond (inB y4.2.1.1 y3.2.1.2.2.2.2.2.1) (
 let u1 := (gt d108 y3.2.1.2.2.2.2.2.1 y4.2.1.1)
 cond (ltI u1.2.1 p2) (
 some ((), (([], 0, 0, 0, 0, [], 0, 0, [], [], [], ()), (7, ()), ()))
 ) (
 cond p3 (
 let u2 := (g148 y3.2.1.2.2.2.2.2.1 p1)
 Option.bind u2 fun y5 =>
 let u3 := (addW .i64 y3.2.1.2.2.1 p2)
 some ((), ((y3.2.1.1, y3.2.1.2.1, u3, y3.2.1.2.2.2.1, y3.2.1.2.2.2.2.1, y5.2.1.1, y3.2.1.2.2.2.2.2.2.1, y3.2.1.2.2.2.2.2.2.2.1, y3.2.1.2.2.2.2.2.2.2.2.1, y3.2.1.2.2.2.2.2.2.2.2.2.1, y3.2.1.2.2.2.2.2.2.2.2.2.2.1, ()), (0, ()), ()))
 ) (
 cond (inB y4.2.1.1 y3.2.1.2.2.2.2.2.1) (
 cond (eqI p2 u1.2.1) (
 let u2 := (g148 y3.2.1.2.2.2.2.2.1 p1)
 Option.bind u2 fun y5 =>
 let u3 := (addW .i64 y3.2.1.2.2.1 p2)
 some ((), ((y3.2.1.1, y3.2.1.2.1, u3, y3.2.1.2.2.2.1, y3.2.1.2.2.2.2.1, y5.2.1.1, y3.2.1.2.2.2.2.2.2.1, y3.2.1.2.2.2.2.2.2.2.1, y3.2.1.2.2.2.2.2.2.2.2.1, y3.2.1.2.2.2.2.2.2.2.2.2.1, y3.2.1.2.2.2.2.2.2.2.2.2.2.1, ()), (0, ()), ()))
 ) (
 cond (inB y4.2.1.1 y3.2.1.2.2.2.2.2.1) (
 cond (inB y4.2.1.1 y3.2.1.2.2.2.2.2.1) (
 let u2 := (addW .i64 y3.2.1.2.2.1 p2)
 some ((), ((y3.2.1.1, y3.2.1.2.1, u2, y3.2.1.2.2.2.1, y3.2.1.2.2.2.2.1, (stI y3.2.1.2.2.2.2.2.1 y4.2.1.1 (u1.1, (subW .i64 u1.2.1 p2), u1.2.2.1, ())), y3.2.1.2.2.2.2.2.2.1, y3.2.1.2.2.2.2.2.2.2.1, y3.2.1.2.2.2.2.2.2.2.2.1, y3.2.1.2.2.2.2.2.2.2.2.2.1, y3.2.1.2.2.2.2.2.2.2.2.2.2.1, ()), (0, ()), ()))
 ) none
 ) none
 )
 ) none
 )
 )
 ) none
 )
 )
 )
noncomputable def s90 : Su := ⟨[.c true kk36, .c false [.str], .c false kk3, .c false [.bool], .c false kk3], [(true, kk36), (false, kk3)], true, .inl fun x => g90 x.1 x.2.1.1 x.2.2.1.1 x.2.2.2.1.1 x.2.2.2.2.1.1⟩
theorem ok90 : SuOK Tryz.prog 90 s90 :=
 fq (ac ok61 (ac ok142 (ac ok143 (ac ok144 (ac ok148 an))))) Tryz.f90 (by kernel_rfl) fun x => by kernel_rfl
noncomputable def g91 (p0 : R36) (p1 : (List UInt8)) (p2 : Int) : Option (Unit × (R36 × R3 × Unit)) :=
 Option.bind (g142 p0 p1 p2) fun y1 =>
 cond (!y1.2.1.1) (
 some ((), (([], 0, 0, 0, 0, [], 0, 0, [], [], [], ()), (1, ()), ()))
 ) (
 Option.bind (g143 p0 p2) fun y2 =>
 Option.bind (g144 y2.2.1.2.2.2.2.2.1 p1) fun y3 =>
 cond (ltI y3.2.1.1 0) (
 some ((), (([], 0, 0, 0, 0, [], 0, 0, [], [], [], ()), (5, ()), ()))
 ) (
 Option.bind (g148 y2.2.1.2.2.2.2.2.1 p1) fun y4 =>
 some ((), ((y2.2.1.1, y2.2.1.2.1, y2.2.1.2.2.1, y2.2.1.2.2.2.1, y2.2.1.2.2.2.2.1, y4.2.1.1, y2.2.1.2.2.2.2.2.2.1, y2.2.1.2.2.2.2.2.2.2.1, y2.2.1.2.2.2.2.2.2.2.2.1, y2.2.1.2.2.2.2.2.2.2.2.2.1, y2.2.1.2.2.2.2.2.2.2.2.2.2.1, ()), (0, ()), ()))
 )
 )
noncomputable def s91 : Su := ⟨[.c true kk36, .c false [.str], .c false kk3], [(true, kk36), (false, kk3)], true, .inl fun x => g91 x.1 x.2.1.1 x.2.2.1.1⟩
theorem ok91 : SuOK Tryz.prog 91 s91 :=
 fq (ac ok142 (ac ok143 (ac ok144 (ac ok148 an)))) Tryz.f91 (by kernel_rfl) fun x => by kernel_rfl
noncomputable def g92 (p0 : R36) (p1 : R36) (p2 : (List UInt8)) (p3 : Int) : Option (Unit × (R36 × R36 × R3 × Unit)) :=
 Option.bind (g142 p0 p2 p3) fun y1 =>
 cond (!y1.2.1.1) (
 some ((), (([], 0, 0, 0, 0, [], 0, 0, [], [], [], ()), ([], 0, 0, 0, 0, [], 0, 0, [], [], [], ()), (1, ()), ()))
 ) (
 Option.bind (g22 p1) fun y2 =>
 cond (!y2.2.1.1) (
 some ((), (([], 0, 0, 0, 0, [], 0, 0, [], [], [], ()), ([], 0, 0, 0, 0, [], 0, 0, [], [], [], ()), (1, ()), ()))
 ) (
 cond (eqS p0.1 p1.1) (
 some ((), (([], 0, 0, 0, 0, [], 0, 0, [], [], [], ()), ([], 0, 0, 0, 0, [], 0, 0, [], [], [], ()), (4, ()), ()))
 ) (
 Option.bind (g143 p0 p3) fun y3 =>
 Option.bind (g143 p1 p3) fun y4 =>
 Option.bind (g144 y3.2.1.2.2.2.2.2.1 p2) fun y5 =>
 cond (ltI y5.2.1.1 0) (
 some ((), (([], 0, 0, 0, 0, [], 0, 0, [], [], [], ()), ([], 0, 0, 0, 0, [], 0, 0, [], [], [], ()), (5, ()), ()))
 ) (
 Option.bind (g144 y4.2.1.2.2.2.2.2.1 p2) fun y6 =>
 cond (leI 0 y6.2.1.1) (
 some ((), (([], 0, 0, 0, 0, [], 0, 0, [], [], [], ()), ([], 0, 0, 0, 0, [], 0, 0, [], [], [], ()), (6, ()), ()))
 ) (
 cond (eqI (lenI y4.2.1.2.2.2.2.2.1) 4) (
 some ((), (([], 0, 0, 0, 0, [], 0, 0, [], [], [], ()), ([], 0, 0, 0, 0, [], 0, 0, [], [], [], ()), (10, ()), ()))
 ) (
 cond (inB y5.2.1.1 y3.2.1.2.2.2.2.2.1) (
 Option.bind (g25 y4.2.1 p3) fun y7 =>
 let u1 := (gt d108 y3.2.1.2.2.2.2.2.1 y5.2.1.1)
 cond (ltI y7.2.1.1 u1.2.1) (
 some ((), (([], 0, 0, 0, 0, [], 0, 0, [], [], [], ()), ([], 0, 0, 0, 0, [], 0, 0, [], [], [], ()), (7, ()), ()))
 ) (
 cond (inB y5.2.1.1 y3.2.1.2.2.2.2.2.1) (
 Option.bind (g146 y4.2.1.2.2.2.2.2.1 u1) fun y8 =>
 Option.bind (g148 y3.2.1.2.2.2.2.2.1 p2) fun y9 =>
 some ((), ((y3.2.1.1, y3.2.1.2.1, y3.2.1.2.2.1, y3.2.1.2.2.2.1, y3.2.1.2.2.2.2.1, y9.2.1.1, y3.2.1.2.2.2.2.2.2.1, y3.2.1.2.2.2.2.2.2.2.1, y3.2.1.2.2.2.2.2.2.2.2.1, y3.2.1.2.2.2.2.2.2.2.2.2.1, y3.2.1.2.2.2.2.2.2.2.2.2.2.1, ()), (y4.2.1.1, y4.2.1.2.1, y4.2.1.2.2.1, y4.2.1.2.2.2.1, y4.2.1.2.2.2.2.1, y8.2.1.1, y4.2.1.2.2.2.2.2.2.1, y4.2.1.2.2.2.2.2.2.2.1, y4.2.1.2.2.2.2.2.2.2.2.1, y4.2.1.2.2.2.2.2.2.2.2.2.1, y4.2.1.2.2.2.2.2.2.2.2.2.2.1, ()), (0, ()), ()))
 ) none
 )
 ) none
 )
 )
 )
 )
 )
 )
noncomputable def s92 : Su := ⟨[.c true kk36, .c true kk36, .c false [.str], .c false kk3], [(true, kk36), (true, kk36), (false, kk3)], true, .inl fun x => g92 x.1 x.2.1 x.2.2.1.1 x.2.2.2.1.1⟩
def rh92 : List SE := []
noncomputable def lo92 : Nat → Option (Lo rh92)
 | _ => none
noncomputable def ga92 : List (Nat × Su) := [(22, s22), (142, s142), (143, s143), (144, s144), (25, s25), (146, s146), (148, s148)]
noncomputable def EL92 : En := ⟨95, tt, gaOf ga92, rh92, lo92, [], fun _ => none⟩
noncomputable def rg92 : Nat → Option (St → Tr St)
 | 16 => some (hoistT EL92 (opsOf (regOf 16 (bodyOf Tryz.f92))) [(12, 10)])
 | 18 => some (lateT EL92 (opsOf (regOf 18 (bodyOf Tryz.f92))) 2 [1])
 | _ => none
noncomputable def E92 : En := ⟨95, tt, gaOf ga92, rh92, lo92, [], rg92⟩
theorem t92 (x : PT s92.ps) : (fnT E92 (bodyOf Tryz.f92) Tryz.f92.results.toList s92.ps s92.rs true x).run = g92 x.1 x.2.1 x.2.2.1.1 x.2.2.2.1.1 := by kernel_rfl
theorem hga92 : GAok Tryz.prog E92 := gaok_of (l := ga92) ⟨ok22, ok142, ok143, ok144, ok25, ok146, ok148, trivial⟩
theorem hgaL92_16 : GAok Tryz.prog EL92 := gaok_of (l := ga92) ⟨ok22, ok142, ok143, ok144, ok25, ok146, ok148, trivial⟩
theorem R92_16 : RegSem Tryz.prog E92 (regOf 16 (bodyOf Tryz.f92)) (hoistT EL92 (opsOf (regOf 16 (bodyOf Tryz.f92))) [(12, 10)]) :=
 regSem_rg rfl rfl (hoist_of (E := EL92) (hTT hT) hgaL92_16 hmix (c := (regOf 16 (bodyOf Tryz.f92))) (id := 16) (by kernel_rfl))
theorem hgaL92_18 : GAok Tryz.prog EL92 := gaok_of (l := ga92) ⟨ok22, ok142, ok143, ok144, ok25, ok146, ok148, trivial⟩
theorem R92_18 : RegSem Tryz.prog E92 (regOf 18 (bodyOf Tryz.f92)) (lateT EL92 (opsOf (regOf 18 (bodyOf Tryz.f92))) 2 [1]) :=
 regSem_rg rfl rfl (late_of (E := EL92) (hTT hT) hgaL92_18 hmix (c := (regOf 18 (bodyOf Tryz.f92))) (id := 18) (by kernel_rfl))
theorem ok92 : SuOK Tryz.prog 92 s92 :=
 fn_ok (E := E92) (hTT hT) hga92 hmix (fn := Tryz.f92) (c := (bodyOf Tryz.f92)) (by kernel_rfl) (by kernel_rfl) (by kernel_rfl) rfl (loopsOK_reg [] (by kernel_rfl) trivial [(16, regOf 16 (bodyOf Tryz.f92)), (18, regOf 18 (bodyOf Tryz.f92))] (by kernel_rfl) ⟨regL rfl R92_16, regL rfl R92_18, trivial⟩) fun x y h => ⟨y.1, fun _ => rfl, (t92 x).trans h⟩
noncomputable def r68_0 (t0 : Int) (t3 : (List UInt8)) : Option (Sum (Int × (List UInt8) × Unit) (Sum (Int × (List UInt8) × Unit) Unit)) :=
 cond (ltI 9 t0) (
 let u1 := (strOf [((cvtW .u8 (addW .i64 48 (remI t0 10))), ())])
 cond (fitS u1 t3) (
 some (.inl ((quoW .i64 t0 10), (apS u1 t3), ()))
 ) none
 ) (
 some (.inr (.inl (t0, t3, ())))
 )
noncomputable def l68_0 (t0 : Int) (t3 : (List UInt8)) : Option (Sum (Int × (List UInt8) × Unit) Unit) := loopF (fun (x : (Int × (List UInt8) × Unit)) => r68_0 x.1 x.2.1) (t0, t3, ())
noncomputable def g68 (p0 : Int) : Option (Unit × (R9 × Unit)) :=
 Option.bind (g62 p0) fun y1 =>
 cond (!y1.2.1.1) (
 some ((), (([], ()), ()))
 ) (
 Option.bind (l68_0 p0 []) (Sum.elim (fun y2 =>
 let u1 := (strOf [((cvtW .u8 (addW .i64 48 y2.1)), ())])
 cond (fitS u1 y2.2.1) (
 some ((), (((apS u1 y2.2.1), ()), ()))
 ) none
 ) (fun y2 =>
 none
 ))
 )
noncomputable def s68 : Su := ⟨[.c false kk3], [(false, [.str])], true, .inl fun x => g68 x.1.1⟩
theorem ok68 : SuOK Tryz.prog 68 s68 :=
 fl (ac ok62 an) [] [(0, ⟨[.d 0 (.int .i64), .d 3 (.str)], fun x => loopF (fun x => r68_0 x.1 x.2.1) x⟩)] [] Tryz.f68 (by kernel_rfl) (lp [0] (by kernel_rfl) (sc rfl (fun x => by kernel_rfl) (lp [] (by kernel_rfl) sn) sn)) fun x => by kernel_rfl
noncomputable def r24_0 (t1 : Int) (t5 : (List UInt8)) : Option (Sum (Int × (List UInt8) × Unit) (Sum (Int × (List UInt8) × Unit) Unit)) :=
 cond (ltI (lenI t5) t1) (
 cond (fitS [48] t5) (
 some (.inl (t1, (apS [48] t5), ()))
 ) none
 ) (
 some (.inr (.inl (t1, t5, ())))
 )
noncomputable def l24_0 (t1 : Int) (t5 : (List UInt8)) : Option (Sum (Int × (List UInt8) × Unit) Unit) := loopF (fun (x : (Int × (List UInt8) × Unit)) => r24_0 x.1 x.2.1) (t1, t5, ())
noncomputable def g24 (p0 : Int) (p1 : Int) : Option (Unit × (R9 × Unit)) :=
 Option.bind (g68 p0) fun y1 =>
 cond (cond (cond (cond (eqS y1.2.1.1 []) true (ltI p1 1)) true (ltI 18 p1)) true (ltI p1 (lenI y1.2.1.1))) (
 some ((), (([], ()), ()))
 ) (
 Option.bind (l24_0 p1 y1.2.1.1) (Sum.elim (fun y2 =>
 some ((), ((y2.2.1, ()), ()))
 ) (fun y2 =>
 none
 ))
 )
noncomputable def s24 : Su := ⟨[.c false kk3, .c false kk3], [(false, [.str])], true, .inl fun x => g24 x.1.1 x.2.1.1⟩
theorem ok24 : SuOK Tryz.prog 24 s24 :=
 fl (ac ok68 an) [] [(0, ⟨[.d 1 (.int .i64), .d 5 (.str)], fun x => loopF (fun x => r24_0 x.1 x.2.1) x⟩)] [] Tryz.f24 (by kernel_rfl) (lp [0] (by kernel_rfl) (sc rfl (fun x => by kernel_rfl) (lp [] (by kernel_rfl) sn) sn)) fun x => by kernel_rfl
noncomputable def g6 (p0 : R36) (p1 : Int) : Option (Unit × (R9 × R3 × Unit)) :=
 Option.bind (g22 p0) fun y1 =>
 cond (!y1.2.1.1) (
 some ((), (([], ()), (1, ()), ()))
 ) (
 Option.bind (g23 p1) fun y2 =>
 cond (!y2.2.1.1) (
 some ((), (([], ()), (1, ()), ()))
 ) (
 Option.bind (g25 p0 p1) fun y3 =>
 Option.bind (g24 y3.2.1.1 16) fun y4 =>
 cond (fitS y4.2.1.1 [32]) (
 Option.bind (g24 p0.2.2.1 16) fun y5 =>
 let u1 := (apS y4.2.1.1 [32])
 cond (fitS u1 y5.2.1.1) (
 some ((), (((apS u1 y5.2.1.1), ()), (0, ()), ()))
 ) none
 ) none
 )
 )
noncomputable def s6 : Su := ⟨[.c true kk36, .c false kk3], [(false, [.str]), (false, kk3)], true, .inl fun x => g6 x.1 x.2.1.1⟩
theorem ok6 : SuOK Tryz.prog 6 s6 :=
 fq (ac ok23 (ac ok22 (ac ok25 (ac ok24 an)))) Tryz.f6 (by kernel_rfl) fun x => by kernel_rfl
noncomputable def g93 (p0 : R36) (p1 : Int) : Option (Unit × (R36 × R3 × Unit)) :=
 Option.bind (g22 p0) fun y1 =>
 cond (!y1.2.1.1) (
 some ((), (([], 0, 0, 0, 0, [], 0, 0, [], [], [], ()), (1, ()), ()))
 ) (
 Option.bind (g23 p1) fun y2 =>
 cond (!y2.2.1.1) (
 some ((), (([], 0, 0, 0, 0, [], 0, 0, [], [], [], ()), (1, ()), ()))
 ) (
 Option.bind (g143 p0 p1) fun y3 =>
 some ((), (y3.2.1, (0, ()), ()))
 )
 )
noncomputable def s93 : Su := ⟨[.c true kk36, .c false kk3], [(true, kk36), (false, kk3)], true, .inl fun x => g93 x.1 x.2.1.1⟩
theorem ok93 : SuOK Tryz.prog 93 s93 :=
 fq (ac ok23 (ac ok22 (ac ok143 an))) Tryz.f93 (by kernel_rfl) fun x => by kernel_rfl
noncomputable def g39 (p0 : R36) (p1 : R36) (p2 : (Int × (List UInt8) × (List UInt8) × (List UInt8) × (List UInt8) × (List UInt8) × Int × Int × Unit)) (p3 : Int) : Option (Unit × (R36 × R36 × R3 × R9 × Unit)) :=
 cond (eqI p2.1 1) (
 Option.bind (g88 p0 p2.2.2.2.1 p2.2.2.2.2.2.2.1 p2.2.2.2.2.2.2.2.1 p3) fun y1 =>
 some ((), (y1.2.1, p1, y1.2.2.1, ([], ()), ()))
 ) (
 cond (eqI p2.1 2) (
 Option.bind (g89 p0 p2.2.2.2.1 p2.2.2.2.2.2.2.1 p3) fun y1 =>
 some ((), (y1.2.1, p1, y1.2.2.1, ([], ()), ()))
 ) (
 cond (eqI p2.1 3) (
 let u1 := (g90 p0 p2.2.2.2.1 p2.2.2.2.2.2.2.1 (eqI p2.1 4) p3)
 Option.bind u1 fun y1 =>
 some ((), (y1.2.1, p1, y1.2.2.1, ([], ()), ()))
 ) (
 cond (eqI p2.1 4) (
 let u1 := (g90 p0 p2.2.2.2.1 p2.2.2.2.2.2.2.1 (eqI p2.1 4) p3)
 Option.bind u1 fun y1 =>
 some ((), (y1.2.1, p1, y1.2.2.1, ([], ()), ()))
 ) (
 cond (eqI p2.1 5) (
 Option.bind (g91 p0 p2.2.2.2.1 p3) fun y1 =>
 some ((), (y1.2.1, p1, y1.2.2.1, ([], ()), ()))
 ) (
 cond (eqI p2.1 6) (
 Option.bind (g92 p0 p1 p2.2.2.2.1 p3) fun y1 =>
 some ((), (y1.2.1, y1.2.2.1, y1.2.2.2.1, ([], ()), ()))
 ) (
 cond (eqI p2.1 7) (
 Option.bind (g6 p0 p3) fun y1 =>
 some ((), (p0, p1, y1.2.2.1, y1.2.1, ()))
 ) (
 Option.bind (g93 p0 p3) fun y1 =>
 some ((), (y1.2.1, p1, y1.2.2.1, ([], ()), ()))
 )
 )
 )
 )
 )
 )
 )
noncomputable def s39 : Su := ⟨[.c true kk36, .c true kk36, .c true [.int .i64, .str, .str, .str, .str, .str, .int .i64, .int .i64], .c false kk3], [(true, kk36), (true, kk36), (false, kk3), (false, [.str])], false, .inl fun x => g39 x.1 x.2.1 x.2.2.1 x.2.2.2.1.1⟩
def rh39 : List SE := []
noncomputable def lo39 : Nat → Option (Lo rh39)
 | _ => none
noncomputable def ga39 : List (Nat × Su) := [(88, s88.ro), (89, s89.ro), (90, s90.ro), (91, s91.ro), (92, s92.ro), (6, s6), (93, s93.ro)]
noncomputable def EL39 : En := ⟨102, tt, gaOf ga39, rh39, lo39, [999999], fun _ => none⟩
noncomputable def rg39 : Nat → Option (St → Tr St)
 | 20 => some (hlT EL39 (opsOf (regOf 20 (bodyOf Tryz.f39))) [(4, 2), (4, 3)] 4 [1])
 | _ => none
noncomputable def E39 : En := ⟨102, tt, gaOf ga39, rh39, lo39, [999999], rg39⟩
theorem t39 (x : PT s39.ps) : (fnT E39 (bodyOf Tryz.f39) Tryz.f39.results.toList s39.ps s39.rs false x).run = g39 x.1 x.2.1 x.2.2.1 x.2.2.2.1.1 := by kernel_rfl
theorem hga39 : GAok Tryz.prog E39 := gaok_of (l := ga39) ⟨(ok88.ro rfl rfl), (ok89.ro rfl rfl), (ok90.ro rfl rfl), (ok91.ro rfl rfl), (ok92.ro rfl rfl), ok6, (ok93.ro rfl rfl), trivial⟩
theorem hgaL39_20 : GAok Tryz.prog EL39 := gaok_of (l := ga39) ⟨(ok88.ro rfl rfl), (ok89.ro rfl rfl), (ok90.ro rfl rfl), (ok91.ro rfl rfl), (ok92.ro rfl rfl), ok6, (ok93.ro rfl rfl), trivial⟩
theorem R39_20 : RegSem Tryz.prog E39 (regOf 20 (bodyOf Tryz.f39)) (hlT EL39 (opsOf (regOf 20 (bodyOf Tryz.f39))) [(4, 2), (4, 3)] 4 [1]) :=
 regSem_rg rfl rfl (hl_of (E := EL39) (hTT hT) hgaL39_20 hmix (c := (regOf 20 (bodyOf Tryz.f39))) (id := 20) (by kernel_rfl))
theorem ok39 : SuOK Tryz.prog 39 s39 :=
 fn_ok (E := E39) (hTT hT) hga39 hmix (fn := Tryz.f39) (c := (bodyOf Tryz.f39)) (by kernel_rfl) (by kernel_rfl) (by kernel_rfl) rfl (loopsOK_reg [] (by kernel_rfl) trivial [(20, regOf 20 (bodyOf Tryz.f39))] (by kernel_rfl) ⟨regL rfl R39_20, trivial⟩) fun x y h => ⟨y.1, fun _ => rfl, (t39 x).trans h⟩
noncomputable def r40_0 (t8 : (List R36)) (t9 : Int) (t10 : Int) (b2 : ((List R36) × Unit)) (b3 : ((List R36) × Unit)) : Option (Sum ((List R36) × Int × Int × ((List R36) × Unit) × ((List R36) × Unit) × Unit) (Sum ((List R36) × Int × Int × ((List R36) × Unit) × ((List R36) × Unit) × Unit) Unit)) :=
 cond (ltI t10 t9) (
 cond (inB t10 t8) (
 Option.bind (g41 (gt d36 t8 t10)) fun y1 =>
 cond (fitB 160 b3.1 [y1.2.1]) (
 some (.inl (t8, t9, (addW .i64 t10 1), b2, ((apL b3.1 [y1.2.1]), ()), ()))
 ) none
 ) none
 ) (
 some (.inr (.inl (t8, t9, t10, b2, b3, ())))
 )
noncomputable def l40_0 (t8 : (List R36)) (t9 : Int) (t10 : Int) (b2 : ((List R36) × Unit)) (b3 : ((List R36) × Unit)) : Option (Sum ((List R36) × Int × Int × ((List R36) × Unit) × ((List R36) × Unit) × Unit) Unit) := loopF (fun (x : ((List R36) × Int × Int × ((List R36) × Unit) × ((List R36) × Unit) × Unit)) => r40_0 x.1 x.2.1 x.2.2.1 x.2.2.2.1 x.2.2.2.2.1) (t8, t9, t10, b2, b3, ())
noncomputable def g40 (p0 : ((List R36) × Unit)) : Option (Unit × (((List R36) × Unit) × Unit)) :=
 Option.bind (l40_0 p0.1 (lenI p0.1) 0 ([], ()) ([], ())) (Sum.elim (fun y1 =>
 some ((), (y1.2.2.2.2.1, ()))
 ) (fun y1 =>
 none
 ))
noncomputable def s40 : Su := ⟨[.c true [.sl 36 kk36]], [(true, [.sl 36 kk36])], true, .inl fun x => g40 x.1⟩
theorem ok40 : SuOK Tryz.prog 40 s40 :=
 fl (ac ok41 an) [] [(0, ⟨[.d 8 (.sl 36 kk36), .d 9 (.int .i64), .d 10 (.int .i64), .box 2 [(true, .sl 36 kk36)], .box 3 [(true, .sl 36 kk36)]], fun x => loopF (fun x => r40_0 x.1 x.2.1 x.2.2.1 x.2.2.2.1 x.2.2.2.2.1) x⟩)] [] Tryz.f40 (by kernel_rfl) (lp [0] (by kernel_rfl) (sc rfl (fun x => by kernel_rfl) (lp [] (by kernel_rfl) sn) sn)) fun x => by kernel_rfl
noncomputable def g12 (p0 : ((List R36) × Unit)) (p1 : (Int × (List UInt8) × (List UInt8) × (List UInt8) × (List UInt8) × (List UInt8) × Int × Int × Unit)) (p2 : Int) : Option (Unit × (((List R36) × Unit) × R3 × R9 × Unit)) :=
 Option.bind (g36 p0) fun y1 =>
 cond (!y1.2.1.1) (
 some ((), (([], ()), (1, ()), ([], ()), ()))
 ) (
 Option.bind (g37 p1) fun y2 =>
 cond (!y2.2.1.1) (
 some ((), (([], ()), (1, ()), ([], ()), ()))
 ) (
 Option.bind (g23 p2) fun y3 =>
 cond (!y3.2.1.1) (
 some ((), (([], ()), (1, ()), ([], ()), ()))
 ) (
 Option.bind (g38 p0 p1.2.1) fun y4 =>
 cond (eqI p1.1 6) (
 Option.bind (g38 p0 p1.2.2.1) fun y5 =>
 cond (cond (ltI y4.2.1.1 0) true (ltI y5.2.1.1 0)) (
 some ((), (([], ()), (3, ()), ([], ()), ()))
 ) (
 cond (inB y4.2.1.1 p0.1) (
 cond (inB y5.2.1.1 p0.1) (
 let u1 := (gt d36 p0.1 y4.2.1.1)
 Option.bind (g39 u1 (gt d36 p0.1 y5.2.1.1) p1 p2) fun y6 =>
 cond (!(eqI y6.2.2.2.1.1 0)) (
 some ((), (([], ()), y6.2.2.2.1, ([], ()), ()))
 ) (
 let u2 := (g40 p0)
 Option.bind u2 fun y7 =>
 cond (!(eqI y5.2.1.1 y4.2.1.1)) (
 Option.bind (g41 y6.2.2.1) fun y8 =>
 cond (inB y5.2.1.1 y7.2.1.1) (
 let u3 := (g41 y6.2.1)
 Option.bind u3 fun y9 =>
 let u4 := (stI y7.2.1.1 y5.2.1.1 y8.2.1)
 cond (inB y4.2.1.1 u4) (
 some ((), (((stI u4 y4.2.1.1 y9.2.1), ()), (0, ()), y6.2.2.2.2.1, ()))
 ) none
 ) none
 ) (
 let u3 := (g41 y6.2.1)
 Option.bind u3 fun y8 =>
 cond (inB y4.2.1.1 y7.2.1.1) (
 some ((), (((stI y7.2.1.1 y4.2.1.1 y8.2.1), ()), (0, ()), y6.2.2.2.2.1, ()))
 ) none
 )
 )
 ) none
 ) none
 )
 ) (
 cond (cond (ltI y4.2.1.1 0) true (ltI y4.2.1.1 0)) (
 some ((), (([], ()), (3, ()), ([], ()), ()))
 ) (
 cond (inB y4.2.1.1 p0.1) (
 cond (inB y4.2.1.1 p0.1) (
 let u1 := (gt d36 p0.1 y4.2.1.1)
 Option.bind (g39 u1 u1 p1 p2) fun y5 =>
 cond (!(eqI y5.2.2.2.1.1 0)) (
 some ((), (([], ()), y5.2.2.2.1, ([], ()), ()))
 ) (
 let u2 := (g40 p0)
 Option.bind u2 fun y6 =>
 cond (!(eqI y4.2.1.1 y4.2.1.1)) (
 Option.bind (g41 y5.2.2.1) fun y7 =>
 cond (inB y4.2.1.1 y6.2.1.1) (
 let u3 := (g41 y5.2.1)
 Option.bind u3 fun y8 =>
 let u4 := (stI y6.2.1.1 y4.2.1.1 y7.2.1)
 cond (inB y4.2.1.1 u4) (
 some ((), (((stI u4 y4.2.1.1 y8.2.1), ()), (0, ()), y5.2.2.2.2.1, ()))
 ) none
 ) none
 ) (
 let u3 := (g41 y5.2.1)
 Option.bind u3 fun y7 =>
 cond (inB y4.2.1.1 y6.2.1.1) (
 let u4 := (stI y6.2.1.1 y4.2.1.1 y7.2.1)
 some ((), ((u4, ()), (0, ()), y5.2.2.2.2.1, ()))
 ) none
 )
 )
 ) none
 ) none
 )
 )
 )
 )
 )
noncomputable def s12 : Su := ⟨[.c true [.sl 36 kk36], .c true [.int .i64, .str, .str, .str, .str, .str, .int .i64, .int .i64], .c false kk3], [(true, [.sl 36 kk36]), (false, kk3), (false, [.str])], true, .inl fun x => g12 x.1 x.2.1 x.2.2.1.1⟩
def rh12 : List SE := []
noncomputable def lo12 : Nat → Option (Lo rh12)
 | _ => none
noncomputable def ga12 : List (Nat × Su) := [(23, s23), (36, s36), (37, s37), (38, s38), (41, s41), (39, s39), (40, s40)]
noncomputable def EL12 : En := ⟨90, tt, gaOf ga12, rh12, lo12, [], fun _ => none⟩
noncomputable def rg12 : Nat → Option (St → Tr St)
 | 9 => some (hoistT EL12 (opsOf (regOf 9 (bodyOf Tryz.f12))) [(20, 15), (20, 16), (20, 17)])
 | _ => none
noncomputable def E12 : En := ⟨90, tt, gaOf ga12, rh12, lo12, [], rg12⟩
theorem t12 (x : PT s12.ps) : (fnT E12 (bodyOf Tryz.f12) Tryz.f12.results.toList s12.ps s12.rs true x).run = g12 x.1 x.2.1 x.2.2.1.1 := by kernel_rfl
theorem hga12 : GAok Tryz.prog E12 := gaok_of (l := ga12) ⟨ok23, ok36, ok37, ok38, ok41, ok39, ok40, trivial⟩
theorem hgaL12_9 : GAok Tryz.prog EL12 := gaok_of (l := ga12) ⟨ok23, ok36, ok37, ok38, ok41, ok39, ok40, trivial⟩
theorem R12_9 : RegSem Tryz.prog E12 (regOf 9 (bodyOf Tryz.f12)) (hoistT EL12 (opsOf (regOf 9 (bodyOf Tryz.f12))) [(20, 15), (20, 16), (20, 17)]) :=
 regSem_rg rfl rfl (hoist_of (E := EL12) (hTT hT) hgaL12_9 hmix (c := (regOf 9 (bodyOf Tryz.f12))) (id := 9) (by kernel_rfl))
theorem ok12 : SuOK Tryz.prog 12 s12 :=
 fn_ok (E := E12) (hTT hT) hga12 hmix (fn := Tryz.f12) (c := (bodyOf Tryz.f12)) (by kernel_rfl) (by kernel_rfl) (by kernel_rfl) rfl (loopsOK_reg [] (by kernel_rfl) trivial [(9, regOf 9 (bodyOf Tryz.f12))] (by kernel_rfl) ⟨regL rfl R12_9, trivial⟩) fun x y h => ⟨y.1, fun _ => rfl, (t12 x).trans h⟩
noncomputable def r151_0 (t0 : (List UInt8)) (t5 : Int) (t6 : Int) : Option (Sum R93 (Sum R93 (Bool × Unit))) :=
 cond (ltI t6 t5) (
 cond (inB t6 t0) (
 let u1 := (bytI t0 t6)
 cond (ltI u1 48) (
 some (.inr (.inr (false, ())))
 ) (
 cond (inB t6 t0) (
 cond (ltI 57 u1) (
 some (.inr (.inr (false, ())))
 ) (
 some (.inl (t0, t5, (addW .i64 t6 1), ()))
 )
 ) none
 )
 ) none
 ) (
 some (.inr (.inl (t0, t5, t6, ())))
 )
noncomputable def l151_0 (t0 : (List UInt8)) (t5 : Int) (t6 : Int) : Option (Sum R93 (Bool × Unit)) := loopF (fun (x : R93) => r151_0 x.1 x.2.1 x.2.2.1) (t0, t5, t6, ())
noncomputable def g151 (p0 : (List UInt8)) : Option (Unit × ((Bool × Unit) × Unit)) :=
 Option.bind (l151_0 p0 (lenI p0) 0) (Sum.elim (fun y1 =>
 some ((), (((!(eqS y1.1 [])), ()), ()))
 ) (fun y1 =>
 some ((), (y1, ()))
 ))
noncomputable def s151 : Su := ⟨[.c false [.str]], [(false, [.bool])], true, .inl fun x => g151 x.1.1⟩
theorem ok151 : SuOK Tryz.prog 151 s151 :=
 fl an [.d 2 (.bool)] [(0, ⟨[.d 0 (.str), .d 5 (.int .i64), .d 6 (.int .i64)], fun x => loopF (fun x => r151_0 x.1 x.2.1 x.2.2.1) x⟩)] [] Tryz.f151 (by kernel_rfl) (lp [0] (by kernel_rfl) (sc rfl (fun x => by kernel_rfl) (lp [] (by kernel_rfl) sn) sn)) fun x => by kernel_rfl
noncomputable def r183_0 (t0 : (List UInt8)) (t3 : Int) (t4 : Bool) (t5 : Int) : Option (Sum ((List UInt8) × Int × Bool × Int × Unit) (Sum ((List UInt8) × Int × Bool × Int × Unit) Unit)) :=
 cond (leI 0 t5) (
 cond (inB t5 t0) (
 cond t4 (
 let u1 := (cvtW .i64 (subW .u8 (bytI t0 t5) 48))
 let u2 := (mulW .i64 u1 2)
 cond (ltI 9 u2) (
 let u3 := (subW .i64 t5 1)
 some (.inl (t0, (addW .i64 t3 (subW .i64 u2 9)), (!t4), u3, ()))
 ) (
 let u3 := (subW .i64 t5 1)
 some (.inl (t0, (addW .i64 t3 u2), (!t4), u3, ()))
 )
 ) (
 let u1 := (cvtW .i64 (subW .u8 (bytI t0 t5) 48))
 let u2 := (subW .i64 t5 1)
 some (.inl (t0, (addW .i64 t3 u1), (!t4), u2, ()))
 )
 ) none
 ) (
 some (.inr (.inl (t0, t3, t4, t5, ())))
 )
noncomputable def l183_0 (t0 : (List UInt8)) (t3 : Int) (t4 : Bool) (t5 : Int) : Option (Sum ((List UInt8) × Int × Bool × Int × Unit) Unit) := loopF (fun (x : ((List UInt8) × Int × Bool × Int × Unit)) => r183_0 x.1 x.2.1 x.2.2.1 x.2.2.2.1) (t0, t3, t4, t5, ())
noncomputable def g183 (p0 : (List UInt8)) : Option (Unit × (R3 × Unit)) :=
 Option.bind (g151 p0) fun y1 =>
 cond (!y1.2.1.1) (
 some ((), (((-1), ()), ()))
 ) (
 Option.bind (l183_0 p0 0 true (subW .i64 (lenI p0) 1)) (Sum.elim (fun y2 =>
 some ((), (((remI (subW .i64 10 (remI y2.2.1 10)) 10), ()), ()))
 ) (fun y2 =>
 none
 ))
 )
noncomputable def s183 : Su := ⟨[.c false [.str]], [(false, kk3)], true, .inl fun x => g183 x.1.1⟩
theorem ok183 : SuOK Tryz.prog 183 s183 :=
 fl (ac ok151 an) [] [(0, ⟨[.d 0 (.str), .d 3 (.int .i64), .d 4 (.bool), .d 5 (.int .i64)], fun x => loopF (fun x => r183_0 x.1 x.2.1 x.2.2.1 x.2.2.2.1) x⟩)] [] Tryz.f183 (by kernel_rfl) (lp [0] (by kernel_rfl) (sc rfl (fun x => by kernel_rfl) (lp [] (by kernel_rfl) sn) sn)) fun x => by kernel_rfl
noncomputable def g150 (p0 : (List UInt8)) : Option (Unit × ((Bool × Unit) × Unit)) :=
 let u1 := (subW .i64 (lenI p0) 1)
 cond (leI 1 u1) (
 Option.bind (g151 p0) fun y1 =>
 cond y1.2.1.1 (
 cond (cutB 0 u1 p0) (
 Option.bind (g183 (sub p0 0 u1)) fun y2 =>
 cond (inB u1 p0) (
 some ((), (((eqI y2.2.1.1 (cvtW .i64 (subW .u8 (bytI p0 u1) 48))), ()), ()))
 ) none
 ) none
 ) (
 some ((), ((false, ()), ()))
 )
 ) (
 some ((), ((false, ()), ()))
 )
noncomputable def s150 : Su := ⟨[.c false [.str]], [(false, [.bool])], true, .inl fun x => g150 x.1.1⟩
theorem ok150 : SuOK Tryz.prog 150 s150 :=
 fq (ac ok151 (ac ok183 an)) Tryz.f150 (by kernel_rfl) fun x => by kernel_rfl
noncomputable def g97 (p0 : (List UInt8)) : Option (Unit × ((Bool × Unit) × Unit)) :=
 cond (leI (lenI p0) 19) (
 Option.bind (g150 p0) fun y1 =>
 some ((), (y1.2.1, ()))
 ) (
 some ((), ((false, ()), ()))
 )
noncomputable def s97 : Su := ⟨[.c false [.str]], [(false, [.bool])], true, .inl fun x => g97 x.1.1⟩
theorem ok97 : SuOK Tryz.prog 97 s97 :=
 fq (ac ok150 an) Tryz.f97 (by kernel_rfl) fun x => by kernel_rfl
noncomputable def g76 (p0 : Int) (p1 : Int) (p2 : Int) : Option (Unit × ((Bool × Unit) × Unit)) :=
 some ((), (((cond (leI p1 p0) (leI p0 p2) false), ()), ()))
noncomputable def s76 : Su := ⟨[.c false kk3, .c false kk3, .c false kk3], [(false, [.bool])], true, .inl fun x => g76 x.1.1 x.2.1.1 x.2.2.1.1⟩
theorem ok76 : SuOK Tryz.prog 76 s76 :=
 fq an Tryz.f76 (by kernel_rfl) fun x => by kernel_rfl
noncomputable def g126 (p0 : Int) : Option (Unit × ((Bool × Unit) × Unit)) :=
 Option.bind (g76 p0 0 4611686018427387904) fun y1 =>
 some ((), (y1.2.1, ()))
noncomputable def s126 : Su := ⟨[.c false kk3], [(false, [.bool])], true, .inl fun x => g126 x.1.1⟩
theorem ok126 : SuOK Tryz.prog 126 s126 :=
 fq (ac ok76 an) Tryz.f126 (by kernel_rfl) fun x => by kernel_rfl
noncomputable def r100_0 (t0 : (List UInt8)) (t5 : Int) (t6 : Int) : Option (Sum R93 (Sum R93 (Bool × Unit))) :=
 cond (ltI t6 t5) (
 cond (inB t6 t0) (
 let u1 := (bytI t0 t6)
 cond (ltI u1 48) (
 cond (inB t6 t0) (
 cond (ltI u1 97) (
 some (.inr (.inr (false, ())))
 ) (
 cond (inB t6 t0) (
 cond (ltI 122 u1) (
 some (.inr (.inr (false, ())))
 ) (
 some (.inl (t0, t5, (addW .i64 t6 1), ()))
 )
 ) none
 )
 ) none
 ) (
 cond (inB t6 t0) (
 cond (ltI 57 u1) (
 cond (inB t6 t0) (
 cond (ltI u1 97) (
 some (.inr (.inr (false, ())))
 ) (
 cond (inB t6 t0) (
 cond (ltI 122 u1) (
 some (.inr (.inr (false, ())))
 ) (
 some (.inl (t0, t5, (addW .i64 t6 1), ()))
 )
 ) none
 )
 ) none
 ) (
 some (.inl (t0, t5, (addW .i64 t6 1), ()))
 )
 ) none
 )
 ) none
 ) (
 some (.inr (.inl (t0, t5, t6, ())))
 )
noncomputable def l100_0 (t0 : (List UInt8)) (t5 : Int) (t6 : Int) : Option (Sum R93 (Bool × Unit)) := loopF (fun (x : R93) => r100_0 x.1 x.2.1 x.2.2.1) (t0, t5, t6, ())
noncomputable def g100 (p0 : (List UInt8)) : Option (Unit × ((Bool × Unit) × Unit)) :=
 Option.bind (l100_0 p0 (lenI p0) 0) (Sum.elim (fun y1 =>
 Option.bind (g76 (lenI y1.1) 1 6) fun y2 =>
 some ((), (y2.2.1, ()))
 ) (fun y1 =>
 some ((), (y1, ()))
 ))
noncomputable def s100 : Su := ⟨[.c false [.str]], [(false, [.bool])], true, .inl fun x => g100 x.1.1⟩
theorem ok100 : SuOK Tryz.prog 100 s100 :=
 fl (ac ok76 an) [.d 2 (.bool)] [(0, ⟨[.d 0 (.str), .d 5 (.int .i64), .d 6 (.int .i64)], fun x => loopF (fun x => r100_0 x.1 x.2.1 x.2.2.1) x⟩)] [] Tryz.f100 (by kernel_rfl) (lp [0] (by kernel_rfl) (sc rfl (fun x => by kernel_rfl) (lp [] (by kernel_rfl) sn) sn)) fun x => by kernel_rfl
noncomputable def g45 (p0 : Int) : Option (Unit × ((Bool × Unit) × Unit)) :=
 Option.bind (g76 p0 0 1000000000) fun y1 =>
 some ((), (y1.2.1, ()))
noncomputable def s45 : Su := ⟨[.c false kk3], [(false, [.bool])], true, .inl fun x => g45 x.1.1⟩
theorem ok45 : SuOK Tryz.prog 45 s45 :=
 fq (ac ok76 an) Tryz.f45 (by kernel_rfl) fun x => by kernel_rfl
noncomputable def g168 (p0 : R93) : Option (Unit × ((Bool × Unit) × Unit)) :=
 Option.bind (g100 p0.1) fun y1 =>
 cond y1.2.1.1 (
 Option.bind (g76 p0.2.1 1 9007199254740992) fun y2 =>
 cond y2.2.1.1 (
 Option.bind (g45 p0.2.2.1) fun y3 =>
 some ((), (y3.2.1, ()))
 ) (
 some ((), ((false, ()), ()))
 )
 ) (
 some ((), ((false, ()), ()))
 )
noncomputable def s168 : Su := ⟨[.c true kk93], [(false, [.bool])], true, .inl fun x => g168 x.1⟩
theorem ok168 : SuOK Tryz.prog 168 s168 :=
 fq (ac ok76 (ac ok100 (ac ok45 an))) Tryz.f168 (by kernel_rfl) fun x => by kernel_rfl
noncomputable def r127_0 (t0 : (List R108)) (t5 : (List R108)) (t6 : Int) (t7 : Int) : Option (Sum ((List R108) × (List R108) × Int × Int × Unit) (Sum ((List R108) × (List R108) × Int × Int × Unit) (Bool × Unit))) :=
 cond (ltI t7 t6) (
 cond (inB t7 t5) (
 let u1 := (gt d108 t5 t7)
 Option.bind (g168 u1) fun y1 =>
 cond (!y1.2.1.1) (
 some (.inr (.inr (false, ())))
 ) (
 cond (ltI 0 t7) (
 let u2 := (subW .i64 t7 1)
 cond (inB u2 t0) (
 cond (leS u1.1 (gt d108 t0 u2).1) (
 some (.inr (.inr (false, ())))
 ) (
 some (.inl (t0, t5, t6, (addW .i64 t7 1), ()))
 )
 ) none
 ) (
 some (.inl (t0, t5, t6, (addW .i64 t7 1), ()))
 )
 )
 ) none
 ) (
 some (.inr (.inl (t0, t5, t6, t7, ())))
 )
noncomputable def l127_0 (t0 : (List R108)) (t5 : (List R108)) (t6 : Int) (t7 : Int) : Option (Sum ((List R108) × (List R108) × Int × Int × Unit) (Bool × Unit)) := loopF (fun (x : ((List R108) × (List R108) × Int × Int × Unit)) => r127_0 x.1 x.2.1 x.2.2.1 x.2.2.2.1) (t0, t5, t6, t7, ())
noncomputable def g127 (p0 : (List R108)) : Option (Unit × ((Bool × Unit) × Unit)) :=
 Option.bind (l127_0 p0 p0 (lenI p0) 0) (Sum.elim (fun y1 =>
 some ((), (((leI (lenI y1.1) 4), ()), ()))
 ) (fun y1 =>
 some ((), (y1, ()))
 ))
noncomputable def s127 : Su := ⟨[.c false [.sl 108 kk108]], [(false, [.bool])], true, .inl fun x => g127 x.1.1⟩
theorem ok127 : SuOK Tryz.prog 127 s127 :=
 fl (ac ok168 an) [.d 2 (.bool)] [(0, ⟨[.d 0 (.sl 108 kk108), .d 5 (.sl 108 kk108), .d 6 (.int .i64), .d 7 (.int .i64)], fun x => loopF (fun x => r127_0 x.1 x.2.1 x.2.2.1 x.2.2.2.1) x⟩)] [] Tryz.f127 (by kernel_rfl) (lp [0] (by kernel_rfl) (sc rfl (fun x => by kernel_rfl) (lp [] (by kernel_rfl) sn) sn)) fun x => by kernel_rfl
noncomputable def g191 (p1 : Int) : Option (Unit × (R23 × Unit)) :=
 cond (ltI p1 0) (
 none
 ) (
 let u1 := (subW .i64 p1 (subW .i64 0 0))
 cond (ltI 0 u1) (
 cond (cutB0 0 0) (
 cond (mzB 8 u1) (
 let u2 := (repI d3 u1)
 cond (cutB 0 0 u2) (
 some ((), (((tkI u2 0), ()), ()))
 ) none
 ) none
 ) none
 ) (
 some ((), (([], ()), ()))
 )
 )
noncomputable def s191 : Su := ⟨[.nil, .c false kk3], [(false, kk23)], true, .inl fun x => g191 x.1.1⟩
theorem ok191 : SuOK Tryz.prog 191 s191 :=
 fq an Tryz.f191 (by kernel_rfl) fun x => by kernel_rfl
noncomputable def r169_0 (t0 : (List R23)) (t3 : Int) (t9 : (List R23)) (t10 : Int) (t11 : Int) : Option (Sum ((List R23) × Int × (List R23) × Int × Int × Unit) (Sum ((List R23) × Int × (List R23) × Int × Int × Unit) Unit)) :=
 cond (ltI t11 t10) (
 cond (inB t11 t9) (
 let u1 := (addW .i64 t3 (lenI (gt d23 t9 t11).1))
 cond (ltI u1 0) (
 none
 ) (
 some (.inl (t0, u1, t9, t10, (addW .i64 t11 1), ()))
 )
 ) none
 ) (
 some (.inr (.inl (t0, t3, t9, t10, t11, ())))
 )
noncomputable def l169_0 (t0 : (List R23)) (t3 : Int) (t9 : (List R23)) (t10 : Int) (t11 : Int) : Option (Sum ((List R23) × Int × (List R23) × Int × Int × Unit) Unit) := loopF (fun (x : ((List R23) × Int × (List R23) × Int × Int × Unit)) => r169_0 x.1 x.2.1 x.2.2.1 x.2.2.2.1 x.2.2.2.2.1) (t0, t3, t9, t10, t11, ())
noncomputable def r169_2 (t6 : (List R3)) (t25 : (List R23)) (t26 : Int) (t27 : Int) : Option (Sum ((List R3) × (List R23) × Int × Int × Unit) (Sum ((List R3) × (List R23) × Int × Int × Unit) Unit)) :=
 cond (ltI t27 t26) (
 cond (inB t27 t25) (
 cond (fitB 8 t6 (gt d23 t25 t27).1) (
 some (.inl ((apL t6 (gt d23 t25 t27).1), t25, t26, (addW .i64 t27 1), ()))
 ) none
 ) none
 ) (
 some (.inr (.inl (t6, t25, t26, t27, ())))
 )
noncomputable def l169_2 (t6 : (List R3)) (t25 : (List R23)) (t26 : Int) (t27 : Int) : Option (Sum ((List R3) × (List R23) × Int × Int × Unit) Unit) := loopF (fun (x : ((List R3) × (List R23) × Int × Int × Unit)) => r169_2 x.1 x.2.1 x.2.2.1 x.2.2.2.1) (t6, t25, t26, t27, ())
noncomputable def g169 (p0 : (List R23)) : Option (Unit × (R23 × Unit)) :=
 Option.bind (l169_0 p0 0 p0 (lenI p0) 0) (Sum.elim (fun y1 =>
 Option.bind (g191 y1.2.1) fun y2 =>
 Option.bind (l169_2 y2.2.1.1 y1.1 (lenI y1.1) 0) (Sum.elim (fun y3 =>
 some ((), ((y3.1, ()), ()))
 ) (fun y3 =>
 none
 ))
 ) (fun y1 =>
 none
 ))
noncomputable def s169 : Su := ⟨[.c false [.sl 23 kk23]], [(false, kk23)], true, .inl fun x => g169 x.1.1⟩
theorem ok169 : SuOK Tryz.prog 169 s169 :=
 fl (ac ok191 an) [] [(0, ⟨[.d 0 (.sl 23 kk23), .d 3 (.int .i64), .d 9 (.sl 23 kk23), .d 10 (.int .i64), .d 11 (.int .i64)], fun x => loopF (fun x => r169_0 x.1 x.2.1 x.2.2.1 x.2.2.2.1 x.2.2.2.2.1) x⟩), (2, ⟨[.own 6 (.sl 3 kk3), .d 25 (.sl 23 kk23), .d 26 (.int .i64), .d 27 (.int .i64)], fun x => loopF (fun x => r169_2 x.1 x.2.1 x.2.2.1 x.2.2.2.1) x⟩)] [] Tryz.f169 (by kernel_rfl) (lp [0, 2] (by kernel_rfl) (sc rfl (fun x => by kernel_rfl) (lp [] (by kernel_rfl) sn) (sc rfl (fun x => by kernel_rfl) (lp [] (by kernel_rfl) sn) sn))) fun x => by kernel_rfl
noncomputable def r128_0 (t3 : Int) (t14 : (List R3)) (t15 : Int) (t16 : Int) (b1 : (Int × Int × (List R3) × (List R3) × Unit)) : Option (Sum (Int × (List R3) × Int × Int × (Int × Int × (List R3) × (List R3) × Unit) × Unit) (Sum (Int × (List R3) × Int × Int × (Int × Int × (List R3) × (List R3) × Unit) × Unit) (Bool × Unit))) :=
 cond (ltI t16 t15) (
 cond (inB t16 t14) (
 Option.bind (g126 (gt d3 t14 t16).1) fun y1 =>
 cond (!y1.2.1.1) (
 some (.inr (.inr (false, ())))
 ) (
 some (.inl (t3, t14, t15, (addW .i64 t16 1), b1, ()))
 )
 ) none
 ) (
 some (.inr (.inl (t3, t14, t15, t16, b1, ())))
 )
noncomputable def l128_0 (t3 : Int) (t14 : (List R3)) (t15 : Int) (t16 : Int) (b1 : (Int × Int × (List R3) × (List R3) × Unit)) : Option (Sum (Int × (List R3) × Int × Int × (Int × Int × (List R3) × (List R3) × Unit) × Unit) (Bool × Unit)) := loopF (fun (x : (Int × (List R3) × Int × Int × (Int × Int × (List R3) × (List R3) × Unit) × Unit)) => r128_0 x.1 x.2.1 x.2.2.1 x.2.2.2.1 x.2.2.2.2.1) (t3, t14, t15, t16, b1, ())
noncomputable def g128 (p0 : (Int × Int × (List R3) × (List R3) × Unit)) : Option (Unit × ((Bool × Unit) × Unit)) :=
 Option.bind (g169 [(p0.2.2.1, ()), (p0.2.2.2.1, ())]) fun y1 =>
 Option.bind (l128_0 (lenI p0.2.2.1) y1.2.1.1 (lenI y1.2.1.1) 0 p0) (Sum.elim (fun y2 =>
 Option.bind (g76 y2.2.2.2.2.1.1 1 1000) fun y3 =>
 cond y3.2.1.1 (
 Option.bind (g76 y2.1 1 8) fun y4 =>
 cond (cond y4.2.1.1 (eqI (lenI y2.2.2.2.2.1.2.2.2.1) y2.1) false) (
 Option.bind (g45 y2.2.2.2.2.1.2.1) fun y5 =>
 some ((), (y5.2.1, ()))
 ) (
 some ((), ((false, ()), ()))
 )
 ) (
 some ((), ((false, ()), ()))
 )
 ) (fun y2 =>
 some ((), (y2, ()))
 ))
noncomputable def s128 : Su := ⟨[.c true [.int .i64, .int .i64, .sl 3 kk3, .sl 3 kk3]], [(false, [.bool])], true, .inl fun x => g128 x.1⟩
theorem ok128 : SuOK Tryz.prog 128 s128 :=
 fl (ac ok76 (ac ok126 (ac ok45 (ac ok169 an)))) [.d 2 (.bool)] [(0, ⟨[.d 3 (.int .i64), .own 14 (.sl 3 kk3), .d 15 (.int .i64), .d 16 (.int .i64), .box 1 [(false, .int .i64), (false, .int .i64), (false, .sl 3 kk3), (false, .sl 3 kk3)]], fun x => loopF (fun x => r128_0 x.1 x.2.1 x.2.2.1 x.2.2.2.1 x.2.2.2.2.1) x⟩)] [] Tryz.f128 (by kernel_rfl) (lp [0] (by kernel_rfl) (sc rfl (fun x => by kernel_rfl) (lp [] (by kernel_rfl) sn) sn)) fun x => by kernel_rfl
noncomputable def g98 (p0 : (List UInt8)) (p1 : Int) : Option (Unit × ((Bool × Unit) × Unit)) :=
 Option.bind (g151 p0) fun y1 =>
 some ((), (((cond y1.2.1.1 (eqI (lenI p0) p1) false), ()), ()))
noncomputable def s98 : Su := ⟨[.c false [.str], .c false kk3], [(false, [.bool])], true, .inl fun x => g98 x.1.1 x.2.1.1⟩
theorem ok98 : SuOK Tryz.prog 98 s98 :=
 fq (ac ok151 an) Tryz.f98 (by kernel_rfl) fun x => by kernel_rfl
noncomputable def g170 (p0 : R98) : Option (Unit × ((Bool × Unit) × Unit)) :=
 Option.bind (g98 p0.1 6) fun y1 =>
 cond y1.2.1.1 (
 Option.bind (g98 p0.2.1 4) fun y2 =>
 cond y2.2.1.1 (
 Option.bind (g76 (lenI p0.2.2.1) 1 200) fun y3 =>
 some ((), (y3.2.1, ()))
 ) (
 some ((), ((false, ()), ()))
 )
 ) (
 some ((), ((false, ()), ()))
 )
noncomputable def s170 : Su := ⟨[.c true kk98], [(false, [.bool])], true, .inl fun x => g170 x.1⟩
theorem ok170 : SuOK Tryz.prog 170 s170 :=
 fq (ac ok76 (ac ok98 an)) Tryz.f170 (by kernel_rfl) fun x => by kernel_rfl
noncomputable def g193 (p0 : R98) (p1 : R9) (p2 : R9) : Option (Unit × ((Bool × Unit) × Unit)) :=
 some ((), (((cond (eqS p0.1 p1.1) (eqS p0.2.1 p2.1) false), ()), ()))
noncomputable def s193 : Su := ⟨[.c true kk98, .pt [.str], .pt [.str]], [(false, [.bool])], true, .inl fun x => g193 x.1 x.2.1 x.2.2.1⟩
theorem ok193 : SuOK Tryz.prog 193 s193 :=
 fq an Tryz.f193 (by kernel_rfl) fun x => by kernel_rfl
noncomputable def r192_0 (t0 : (List R111)) (f1 : (R9 × R9 × Unit)) (t7 : Int) (t8 : Int) : Option (Sum ((List R111) × (R9 × R9 × Unit) × Int × Int × Unit) (Sum ((List R111) × (R9 × R9 × Unit) × Int × Int × Unit) R3)) :=
 cond (ltI t8 t7) (
 cond (inB t8 t0) (
 Option.bind (g193 (gt d111 t0 t8) f1.1 f1.2.1) fun y1 =>
 cond y1.2.1.1 (
 some (.inr (.inr (t8, ())))
 ) (
 some (.inl (t0, f1, t7, (addW .i64 t8 1), ()))
 )
 ) none
 ) (
 some (.inr (.inl (t0, f1, t7, t8, ())))
 )
noncomputable def l192_0 (t0 : (List R111)) (f1 : (R9 × R9 × Unit)) (t7 : Int) (t8 : Int) : Option (Sum ((List R111) × (R9 × R9 × Unit) × Int × Int × Unit) R3) := loopF (fun (x : ((List R111) × (R9 × R9 × Unit) × Int × Int × Unit)) => r192_0 x.1 x.2.1 x.2.2.1 x.2.2.2.1) (t0, f1, t7, t8, ())
noncomputable def g192 (p0 : (List R111)) (c1_0 : R9) (c1_1 : R9) : Option (Unit × (R3 × Unit)) :=
 Option.bind (l192_0 p0 (c1_0, c1_1, ()) (lenI p0) 0) (Sum.elim (fun y1 =>
 some ((), (((-1), ()), ()))
 ) (fun y1 =>
 some ((), (y1, ()))
 ))
noncomputable def s192 : Su := ⟨[.c false [.sl 111 kk111], .fn 193 [.p [.str], .p [.str]]], [(false, kk3)], true, .inl fun x => g192 x.1.1 x.2.1.1 x.2.1.2.1⟩
theorem ok192 : SuOK Tryz.prog 192 s192 :=
 fl (ac ok193 an) [.d 4 (.int .i64)] [(0, ⟨[.d 0 (.sl 111 kk111), .fn 1 193 [.p [.str], .p [.str]], .d 7 (.int .i64), .d 8 (.int .i64)], fun x => loopF (fun x => r192_0 x.1 x.2.1 x.2.2.1 x.2.2.2.1) x⟩)] [] Tryz.f192 (by kernel_rfl) (lp [0] (by kernel_rfl) (sc rfl (fun x => by kernel_rfl) (lp [] (by kernel_rfl) sn) sn)) fun x => by kernel_rfl
noncomputable def g171 (p0 : (List R111)) (p1 : (List UInt8)) (p2 : (List UInt8)) : Option (Unit × (R3 × Unit)) :=
 Option.bind (g192 p0 (p1, ()) (p2, ())) fun y1 =>
 some ((), (y1.2.1, ()))
noncomputable def s171 : Su := ⟨[.c false [.sl 111 kk111], .c false [.str], .c false [.str]], [(false, kk3)], true, .inl fun x => g171 x.1.1 x.2.1.1 x.2.2.1.1⟩
theorem ok171 : SuOK Tryz.prog 171 s171 :=
 fq (ac ok192 an) Tryz.f171 (by kernel_rfl) fun x => by kernel_rfl
noncomputable def r129_0 (t0 : (List R111)) (t5 : (List R111)) (t6 : Int) (t7 : Int) : Option (Sum ((List R111) × (List R111) × Int × Int × Unit) (Sum ((List R111) × (List R111) × Int × Int × Unit) (Bool × Unit))) :=
 cond (ltI t7 t6) (
 cond (inB t7 t5) (
 let u1 := (gt d111 t5 t7)
 Option.bind (g170 u1) fun y1 =>
 cond (!y1.2.1.1) (
 some (.inr (.inr (false, ())))
 ) (
 Option.bind (g171 t0 u1.1 u1.2.1) fun y2 =>
 cond (!(eqI y2.2.1.1 t7)) (
 some (.inr (.inr (false, ())))
 ) (
 some (.inl (t0, t5, t6, (addW .i64 t7 1), ()))
 )
 )
 ) none
 ) (
 some (.inr (.inl (t0, t5, t6, t7, ())))
 )
noncomputable def l129_0 (t0 : (List R111)) (t5 : (List R111)) (t6 : Int) (t7 : Int) : Option (Sum ((List R111) × (List R111) × Int × Int × Unit) (Bool × Unit)) := loopF (fun (x : ((List R111) × (List R111) × Int × Int × Unit)) => r129_0 x.1 x.2.1 x.2.2.1 x.2.2.2.1) (t0, t5, t6, t7, ())
noncomputable def g129 (p0 : (List R111)) : Option (Unit × ((Bool × Unit) × Unit)) :=
 Option.bind (l129_0 p0 p0 (lenI p0) 0) (Sum.elim (fun y1 =>
 some ((), (((leI (lenI y1.1) 6), ()), ()))
 ) (fun y1 =>
 some ((), (y1, ()))
 ))
noncomputable def s129 : Su := ⟨[.c false [.sl 111 kk111]], [(false, [.bool])], true, .inl fun x => g129 x.1.1⟩
theorem ok129 : SuOK Tryz.prog 129 s129 :=
 fl (ac ok170 (ac ok171 an)) [.d 2 (.bool)] [(0, ⟨[.d 0 (.sl 111 kk111), .d 5 (.sl 111 kk111), .d 6 (.int .i64), .d 7 (.int .i64)], fun x => loopF (fun x => r129_0 x.1 x.2.1 x.2.2.1 x.2.2.2.1) x⟩)] [] Tryz.f129 (by kernel_rfl) (lp [0] (by kernel_rfl) (sc rfl (fun x => by kernel_rfl) (lp [] (by kernel_rfl) sn) sn)) fun x => by kernel_rfl
noncomputable def g130 (p0 : Int) (p1 : Int) : Option (Unit × (R3 × Unit)) :=
 let u1 := (mxI 0 (mnI p1 4611686018427387904))
 let u2 := (mxI 0 (mnI p0 4611686018427387904))
 cond (ltI (subW .i64 4611686018427387904 u1) u2) (
 some ((), ((4611686018427387904, ()), ()))
 ) (
 some ((), (((addW .i64 u2 u1), ()), ()))
 )
noncomputable def s130 : Su := ⟨[.c false kk3, .c false kk3], [(false, kk3)], true, .inl fun x => g130 x.1.1 x.2.1.1⟩
theorem ok130 : SuOK Tryz.prog 130 s130 :=
 fq an Tryz.f130 (by kernel_rfl) fun x => by kernel_rfl
noncomputable def r131_0 (t3 : Int) (t6 : (List R108)) (t7 : Int) (t8 : Int) : Option (Sum (Int × (List R108) × Int × Int × Unit) (Sum (Int × (List R108) × Int × Int × Unit) Unit)) :=
 cond (ltI t8 t7) (
 cond (inB t8 t6) (
 Option.bind (g130 t3 (gt d108 t6 t8).2.1) fun y1 =>
 some (.inl (y1.2.1.1, t6, t7, (addW .i64 t8 1), ()))
 ) none
 ) (
 some (.inr (.inl (t3, t6, t7, t8, ())))
 )
noncomputable def l131_0 (t3 : Int) (t6 : (List R108)) (t7 : Int) (t8 : Int) : Option (Sum (Int × (List R108) × Int × Int × Unit) Unit) := loopF (fun (x : (Int × (List R108) × Int × Int × Unit)) => r131_0 x.1 x.2.1 x.2.2.1 x.2.2.2.1) (t3, t6, t7, t8, ())
noncomputable def g131 (p0 : (List R108)) : Option (Unit × (R3 × Unit)) :=
 Option.bind (l131_0 0 p0 (lenI p0) 0) (Sum.elim (fun y1 =>
 some ((), ((y1.1, ()), ()))
 ) (fun y1 =>
 none
 ))
noncomputable def s131 : Su := ⟨[.c false [.sl 108 kk108]], [(false, kk3)], true, .inl fun x => g131 x.1.1⟩
theorem ok131 : SuOK Tryz.prog 131 s131 :=
 fl (ac ok130 an) [] [(0, ⟨[.d 3 (.int .i64), .d 6 (.sl 108 kk108), .d 7 (.int .i64), .d 8 (.int .i64)], fun x => loopF (fun x => r131_0 x.1 x.2.1 x.2.2.1 x.2.2.2.1) x⟩)] [] Tryz.f131 (by kernel_rfl) (lp [0] (by kernel_rfl) (sc rfl (fun x => by kernel_rfl) (lp [] (by kernel_rfl) sn) sn)) fun x => by kernel_rfl
noncomputable def g73 (p0 : R36) : Option (Unit × ((Bool × Unit) × Unit)) :=
 Option.bind (g97 p0.1) fun y1 =>
 cond y1.2.1.1 (
 Option.bind (g76 p0.2.1 0 9007199254740992) fun y2 =>
 cond y2.2.1.1 (
 Option.bind (g76 p0.2.2.2.1 0 1000) fun y3 =>
 cond y3.2.1.1 (
 Option.bind (g76 p0.2.2.2.2.1 0 9007199254740992) fun y4 =>
 cond y4.2.1.1 (
 Option.bind (g126 p0.2.2.1) fun y5 =>
 cond y5.2.1.1 (
 Option.bind (g127 p0.2.2.2.2.2.1) fun y6 =>
 cond y6.2.1.1 (
 Option.bind (g128 (p0.2.2.2.2.2.2.1, p0.2.2.2.2.2.2.2.1, p0.2.2.2.2.2.2.2.2.1, p0.2.2.2.2.2.2.2.2.2.1, ())) fun y7 =>
 cond y7.2.1.1 (
 Option.bind (g129 p0.2.2.2.2.2.2.2.2.2.2.1) fun y8 =>
 cond y8.2.1.1 (
 Option.bind (g131 p0.2.2.2.2.2.1) fun y9 =>
 Option.bind (g130 p0.2.2.1 y9.2.1.1) fun y10 =>
 some ((), (((leI y10.2.1.1 p0.2.1), ()), ()))
 ) (
 some ((), ((false, ()), ()))
 )
 ) (
 some ((), ((false, ()), ()))
 )
 ) (
 some ((), ((false, ()), ()))
 )
 ) (
 some ((), ((false, ()), ()))
 )
 ) (
 some ((), ((false, ()), ()))
 )
 ) (
 some ((), ((false, ()), ()))
 )
 ) (
 some ((), ((false, ()), ()))
 )
 ) (
 some ((), ((false, ()), ()))
 )
noncomputable def s73 : Su := ⟨[.c true kk36], [(false, [.bool])], true, .inl fun x => g73 x.1⟩
theorem ok73 : SuOK Tryz.prog 73 s73 :=
 fq (ac ok97 (ac ok76 (ac ok126 (ac ok127 (ac ok128 (ac ok129 (ac ok130 (ac ok131 an)))))))) Tryz.f73 (by kernel_rfl) fun x => by kernel_rfl
noncomputable def r43_0 (t6 : (List R36)) (t7 : Int) (t8 : Int) (b1 : ((List R36) × Unit)) : Option (Sum ((List R36) × Int × Int × ((List R36) × Unit) × Unit) (Sum ((List R36) × Int × Int × ((List R36) × Unit) × Unit) (Bool × Unit))) :=
 cond (ltI t8 t7) (
 cond (inB t8 t6) (
 let u1 := (gt d36 t6 t8)
 Option.bind (g73 u1) fun y1 =>
 cond (!y1.2.1.1) (
 some (.inr (.inr (false, ())))
 ) (
 cond (ltI 0 t8) (
 let u2 := (subW .i64 t8 1)
 cond (inB u2 b1.1) (
 cond (leS u1.1 (gt d36 b1.1 u2).1) (
 some (.inr (.inr (false, ())))
 ) (
 some (.inl (t6, t7, (addW .i64 t8 1), b1, ()))
 )
 ) none
 ) (
 some (.inl (t6, t7, (addW .i64 t8 1), b1, ()))
 )
 )
 ) none
 ) (
 some (.inr (.inl (t6, t7, t8, b1, ())))
 )
noncomputable def l43_0 (t6 : (List R36)) (t7 : Int) (t8 : Int) (b1 : ((List R36) × Unit)) : Option (Sum ((List R36) × Int × Int × ((List R36) × Unit) × Unit) (Bool × Unit)) := loopF (fun (x : ((List R36) × Int × Int × ((List R36) × Unit) × Unit)) => r43_0 x.1 x.2.1 x.2.2.1 x.2.2.2.1) (t6, t7, t8, b1, ())
noncomputable def g43 (p0 : ((List R36) × Unit)) : Option (Unit × ((Bool × Unit) × Unit)) :=
 Option.bind (l43_0 p0.1 (lenI p0.1) 0 p0) (Sum.elim (fun y1 =>
 some ((), (((leI (lenI y1.2.2.2.1.1) 6), ()), ()))
 ) (fun y1 =>
 some ((), (y1, ()))
 ))
noncomputable def s43 : Su := ⟨[.c true [.sl 36 kk36]], [(false, [.bool])], true, .inl fun x => g43 x.1⟩
theorem ok43 : SuOK Tryz.prog 43 s43 :=
 fl (ac ok73 an) [.d 2 (.bool)] [(0, ⟨[.d 6 (.sl 36 kk36), .d 7 (.int .i64), .d 8 (.int .i64), .box 1 [(false, .sl 36 kk36)]], fun x => loopF (fun x => r43_0 x.1 x.2.1 x.2.2.1 x.2.2.2.1) x⟩)] [] Tryz.f43 (by kernel_rfl) (lp [0] (by kernel_rfl) (sc rfl (fun x => by kernel_rfl) (lp [] (by kernel_rfl) sn) sn)) fun x => by kernel_rfl
noncomputable def g149  : Option (Unit × (((List R121) × Unit) × Unit)) :=
 some ((), (([([48, 49, 48, 48], [48, 48], [97, 117, 116, 104], [(4, ()), (14, ()), (38, ())], ()), ([48, 49, 48, 48], [48, 50], [109, 111, 114, 101], [(4, ()), (38, ())], ()), ([48, 50, 50, 48], [48, 49], [112, 97, 114, 116], [(4, ()), (38, ())], ()), ([48, 50, 50, 48], [48, 48], [102, 105, 110, 97, 108], [(4, ()), (38, ())], ()), ([48, 50, 50, 48], [50, 48], [102, 114, 101, 101], [(38, ())], ()), ([48, 50, 48, 48], [52, 48], [109, 111, 118, 101], [(38, ()), (103, ())], ()), ([48, 49, 48, 48], [51, 49], [97, 115, 107], [], ()), ([48, 50, 48, 48], [57, 48], [115, 119, 101, 101, 112], [], ())], ()), ()))
noncomputable def s149 : Su := ⟨[], [(false, [.sl 121 kk121])], false, .inl fun x => g149 ⟩
theorem ok149 : SuOK Tryz.prog 149 s149 :=
 fl an [] [] [999999] Tryz.f149 (by kernel_rfl) (lp [] (by kernel_rfl) sn) fun x => by kernel_rfl
noncomputable def g96 (p0 : Int) : Option (Unit × (R121 × Unit)) :=
 Option.bind (g76 p0 1 8) fun y1 =>
 cond (!y1.2.1.1) (
 some ((), (([], [], [], [], ()), ()))
 ) (
 Option.bind (g149) fun y2 =>
 let u1 := (subW .i64 p0 1)
 cond (inB u1 y2.2.1.1) (
 some ((), ((gt d121 y2.2.1.1 u1), ()))
 ) none
 )
noncomputable def s96 : Su := ⟨[.c false kk3], [(true, kk121)], false, .inl fun x => g96 x.1.1⟩
theorem ok96 : SuOK Tryz.prog 96 s96 :=
 fl (ac ok76 (ac ok149 an)) [] [] [999999] Tryz.f96 (by kernel_rfl) (lp [] (by kernel_rfl) sn) fun x => by kernel_rfl
noncomputable def r184_0 (t0 : (List R3)) (t1 : Int) (t7 : Int) (t8 : Int) : Option (Sum ((List R3) × Int × Int × Int × Unit) (Sum ((List R3) × Int × Int × Int × Unit) R3)) :=
 cond (ltI t8 t7) (
 cond (inB t8 t0) (
 cond (eqI t1 (gt d3 t0 t8).1) (
 some (.inr (.inr (t8, ())))
 ) (
 some (.inl (t0, t1, t7, (addW .i64 t8 1), ()))
 )
 ) none
 ) (
 some (.inr (.inl (t0, t1, t7, t8, ())))
 )
noncomputable def l184_0 (t0 : (List R3)) (t1 : Int) (t7 : Int) (t8 : Int) : Option (Sum ((List R3) × Int × Int × Int × Unit) R3) := loopF (fun (x : ((List R3) × Int × Int × Int × Unit)) => r184_0 x.1 x.2.1 x.2.2.1 x.2.2.2.1) (t0, t1, t7, t8, ())
noncomputable def g184 (p0 : (List R3)) (p1 : Int) : Option (Unit × (R3 × Unit)) :=
 Option.bind (l184_0 p0 p1 (lenI p0) 0) (Sum.elim (fun y1 =>
 some ((), (((-1), ()), ()))
 ) (fun y1 =>
 some ((), (y1, ()))
 ))
noncomputable def s184 : Su := ⟨[.c false kk23, .c false kk3], [(false, kk3)], true, .inl fun x => g184 x.1.1 x.2.1.1⟩
theorem ok184 : SuOK Tryz.prog 184 s184 :=
 fl an [.d 4 (.int .i64)] [(0, ⟨[.d 0 (.sl 3 kk3), .d 1 (.int .i64), .d 7 (.int .i64), .d 8 (.int .i64)], fun x => loopF (fun x => r184_0 x.1 x.2.1 x.2.2.1 x.2.2.2.1) x⟩)] [] Tryz.f184 (by kernel_rfl) (lp [0] (by kernel_rfl) (sc rfl (fun x => by kernel_rfl) (lp [] (by kernel_rfl) sn) sn)) fun x => by kernel_rfl
noncomputable def g152 (p0 : (List R3)) (p1 : Int) : Option (Unit × ((Bool × Unit) × Unit)) :=
 Option.bind (g184 p0 p1) fun y1 =>
 some ((), (((leI 0 y1.2.1.1), ()), ()))
noncomputable def s152 : Su := ⟨[.c false kk23, .c false kk3], [(false, [.bool])], true, .inl fun x => g152 x.1.1 x.2.1.1⟩
theorem ok152 : SuOK Tryz.prog 152 s152 :=
 fq (ac ok184 an) Tryz.f152 (by kernel_rfl) fun x => by kernel_rfl
noncomputable def g99 (p0 : Int) (p1 : Int) : Option (Unit × ((Bool × Unit) × Unit)) :=
 Option.bind (g96 p0) fun y1 =>
 Option.bind (g152 y1.2.1.2.2.2.1 p1) fun y2 =>
 some ((), (y2.2.1, ()))
noncomputable def s99 : Su := ⟨[.c false kk3, .c false kk3], [(false, [.bool])], true, .inl fun x => g99 x.1.1 x.2.1.1⟩
theorem ok99 : SuOK Tryz.prog 99 s99 :=
 fq (ac ok96 (ac ok152 an)) Tryz.f99 (by kernel_rfl) fun x => by kernel_rfl
noncomputable def g44 (p0 : (Int × (List UInt8) × (List UInt8) × (List UInt8) × (List UInt8) × (List UInt8) × Int × Int × Unit)) : Option (Unit × ((Bool × Unit) × Unit)) :=
 Option.bind (g96 p0.1) fun y1 =>
 cond (cond (eqS y1.2.1.2.2.1 []) true (!(eqS p0.2.2.2.2.2.1 y1.2.1.1))) (
 some ((), ((false, ()), ()))
 ) (
 Option.bind (g97 p0.2.1) fun y2 =>
 cond (!y2.2.1.1) (
 some ((), ((false, ()), ()))
 ) (
 Option.bind (g98 p0.2.2.2.2.1 6) fun y3 =>
 cond (!y3.2.1.1) (
 some ((), ((false, ()), ()))
 ) (
 Option.bind (g99 p0.1 38) fun y4 =>
 cond y4.2.1.1 (
 Option.bind (g100 p0.2.2.2.1) fun y5 =>
 let u1 := (g99 p0.1 4)
 Option.bind u1 fun y6 =>
 cond y6.2.1.1 (
 let u2 := (g76 p0.2.2.2.2.2.2.1 0 999999999999)
 Option.bind u2 fun y7 =>
 let u3 := (g99 p0.1 14)
 Option.bind u3 fun y8 =>
 cond y8.2.1.1 (
 let u4 := (g76 p0.2.2.2.2.2.2.2.1 0 9999)
 Option.bind u4 fun y9 =>
 let u5 := (g99 p0.1 103)
 Option.bind u5 fun y10 =>
 cond y10.2.1.1 (
 let u6 := (g97 p0.2.2.1)
 Option.bind u6 fun y11 =>
 let u7 := (cond y5.2.1.1 y7.2.1.1 false)
 let u8 := (cond u7 y9.2.1.1 false)
 some ((), (((cond u8 y11.2.1.1 false), ()), ()))
 ) (
 let u6 := (cond y5.2.1.1 y7.2.1.1 false)
 let u7 := (cond u6 y9.2.1.1 false)
 let u8 := (eqS p0.2.2.1 [])
 some ((), (((cond u7 u8 false), ()), ()))
 )
 ) (
 let u4 := (g99 p0.1 103)
 Option.bind u4 fun y9 =>
 cond y9.2.1.1 (
 let u5 := (g97 p0.2.2.1)
 Option.bind u5 fun y10 =>
 let u6 := (cond y5.2.1.1 y7.2.1.1 false)
 let u7 := (cond u6 (eqI p0.2.2.2.2.2.2.2.1 0) false)
 some ((), (((cond u7 y10.2.1.1 false), ()), ()))
 ) (
 let u5 := (cond y5.2.1.1 y7.2.1.1 false)
 let u6 := (cond u5 (eqI p0.2.2.2.2.2.2.2.1 0) false)
 let u7 := (eqS p0.2.2.1 [])
 some ((), (((cond u6 u7 false), ()), ()))
 )
 )
 ) (
 let u2 := (g99 p0.1 14)
 Option.bind u2 fun y7 =>
 cond y7.2.1.1 (
 let u3 := (g76 p0.2.2.2.2.2.2.2.1 0 9999)
 Option.bind u3 fun y8 =>
 let u4 := (g99 p0.1 103)
 Option.bind u4 fun y9 =>
 cond y9.2.1.1 (
 let u5 := (g97 p0.2.2.1)
 Option.bind u5 fun y10 =>
 let u6 := (cond y5.2.1.1 (eqI p0.2.2.2.2.2.2.1 0) false)
 let u7 := (cond u6 y8.2.1.1 false)
 some ((), (((cond u7 y10.2.1.1 false), ()), ()))
 ) (
 let u5 := (cond y5.2.1.1 (eqI p0.2.2.2.2.2.2.1 0) false)
 let u6 := (cond u5 y8.2.1.1 false)
 let u7 := (eqS p0.2.2.1 [])
 some ((), (((cond u6 u7 false), ()), ()))
 )
 ) (
 let u3 := (g99 p0.1 103)
 Option.bind u3 fun y8 =>
 cond y8.2.1.1 (
 let u4 := (g97 p0.2.2.1)
 Option.bind u4 fun y9 =>
 let u5 := (cond y5.2.1.1 (eqI p0.2.2.2.2.2.2.1 0) false)
 let u6 := (cond u5 (eqI p0.2.2.2.2.2.2.2.1 0) false)
 some ((), (((cond u6 y9.2.1.1 false), ()), ()))
 ) (
 let u4 := (cond y5.2.1.1 (eqI p0.2.2.2.2.2.2.1 0) false)
 let u5 := (cond u4 (eqI p0.2.2.2.2.2.2.2.1 0) false)
 let u6 := (eqS p0.2.2.1 [])
 some ((), (((cond u5 u6 false), ()), ()))
 )
 )
 )
 ) (
 let u1 := (g99 p0.1 4)
 Option.bind u1 fun y5 =>
 cond y5.2.1.1 (
 let u2 := (g76 p0.2.2.2.2.2.2.1 0 999999999999)
 Option.bind u2 fun y6 =>
 let u3 := (g99 p0.1 14)
 Option.bind u3 fun y7 =>
 cond y7.2.1.1 (
 let u4 := (g76 p0.2.2.2.2.2.2.2.1 0 9999)
 Option.bind u4 fun y8 =>
 let u5 := (g99 p0.1 103)
 Option.bind u5 fun y9 =>
 cond y9.2.1.1 (
 let u6 := (g97 p0.2.2.1)
 Option.bind u6 fun y10 =>
 let u7 := (eqS p0.2.2.2.1 [])
 let u8 := (cond u7 y6.2.1.1 false)
 let u9 := (cond u8 y8.2.1.1 false)
 some ((), (((cond u9 y10.2.1.1 false), ()), ()))
 ) (
 let u6 := (eqS p0.2.2.2.1 [])
 let u7 := (cond u6 y6.2.1.1 false)
 let u8 := (cond u7 y8.2.1.1 false)
 let u9 := (eqS p0.2.2.1 [])
 some ((), (((cond u8 u9 false), ()), ()))
 )
 ) (
 let u4 := (g99 p0.1 103)
 Option.bind u4 fun y8 =>
 cond y8.2.1.1 (
 let u5 := (g97 p0.2.2.1)
 Option.bind u5 fun y9 =>
 let u6 := (eqS p0.2.2.2.1 [])
 let u7 := (cond u6 y6.2.1.1 false)
 let u8 := (cond u7 (eqI p0.2.2.2.2.2.2.2.1 0) false)
 some ((), (((cond u8 y9.2.1.1 false), ()), ()))
 ) (
 let u5 := (eqS p0.2.2.2.1 [])
 let u6 := (cond u5 y6.2.1.1 false)
 let u7 := (cond u6 (eqI p0.2.2.2.2.2.2.2.1 0) false)
 let u8 := (eqS p0.2.2.1 [])
 some ((), (((cond u7 u8 false), ()), ()))
 )
 )
 ) (
 let u2 := (g99 p0.1 14)
 Option.bind u2 fun y6 =>
 cond y6.2.1.1 (
 let u3 := (g76 p0.2.2.2.2.2.2.2.1 0 9999)
 Option.bind u3 fun y7 =>
 let u4 := (g99 p0.1 103)
 Option.bind u4 fun y8 =>
 cond y8.2.1.1 (
 let u5 := (g97 p0.2.2.1)
 Option.bind u5 fun y9 =>
 let u6 := (eqS p0.2.2.2.1 [])
 let u7 := (cond u6 (eqI p0.2.2.2.2.2.2.1 0) false)
 let u8 := (cond u7 y7.2.1.1 false)
 some ((), (((cond u8 y9.2.1.1 false), ()), ()))
 ) (
 let u5 := (eqS p0.2.2.2.1 [])
 let u6 := (cond u5 (eqI p0.2.2.2.2.2.2.1 0) false)
 let u7 := (cond u6 y7.2.1.1 false)
 let u8 := (eqS p0.2.2.1 [])
 some ((), (((cond u7 u8 false), ()), ()))
 )
 ) (
 let u3 := (g99 p0.1 103)
 Option.bind u3 fun y7 =>
 cond y7.2.1.1 (
 let u4 := (g97 p0.2.2.1)
 Option.bind u4 fun y8 =>
 let u5 := (eqS p0.2.2.2.1 [])
 let u6 := (cond u5 (eqI p0.2.2.2.2.2.2.1 0) false)
 let u7 := (cond u6 (eqI p0.2.2.2.2.2.2.2.1 0) false)
 some ((), (((cond u7 y8.2.1.1 false), ()), ()))
 ) (
 let u4 := (eqS p0.2.2.2.1 [])
 let u5 := (cond u4 (eqI p0.2.2.2.2.2.2.1 0) false)
 let u6 := (cond u5 (eqI p0.2.2.2.2.2.2.2.1 0) false)
 let u7 := (eqS p0.2.2.1 [])
 some ((), (((cond u6 u7 false), ()), ()))
 )
 )
 )
 )
 )
 )
 )
noncomputable def s44 : Su := ⟨[.c true [.int .i64, .str, .str, .str, .str, .str, .int .i64, .int .i64]], [(false, [.bool])], true, .inl fun x => g44 x.1⟩
theorem ok44 : SuOK Tryz.prog 44 s44 :=
 fq (ac ok97 (ac ok76 (ac ok100 (ac ok98 (ac ok96 (ac ok99 an)))))) Tryz.f44 (by kernel_rfl) fun x => by kernel_rfl
noncomputable def g102 (p0 : R36) (p1 : R9) : Option (Unit × ((Bool × Unit) × Unit)) :=
 some ((), (((eqS p0.1 p1.1), ()), ()))
noncomputable def s102 : Su := ⟨[.c true kk36, .pt [.str]], [(false, [.bool])], true, .inl fun x => g102 x.1 x.2.1⟩
theorem ok102 : SuOK Tryz.prog 102 s102 :=
 fq an Tryz.f102 (by kernel_rfl) fun x => by kernel_rfl
noncomputable def r101_0 (t0 : (List R36)) (f1 : (R9 × Unit)) (t7 : Int) (t8 : Int) : Option (Sum ((List R36) × (R9 × Unit) × Int × Int × Unit) (Sum ((List R36) × (R9 × Unit) × Int × Int × Unit) R3)) :=
 cond (ltI t8 t7) (
 cond (inB t8 t0) (
 Option.bind (g102 (gt d36 t0 t8) f1.1) fun y1 =>
 cond y1.2.1.1 (
 some (.inr (.inr (t8, ())))
 ) (
 some (.inl (t0, f1, t7, (addW .i64 t8 1), ()))
 )
 ) none
 ) (
 some (.inr (.inl (t0, f1, t7, t8, ())))
 )
noncomputable def l101_0 (t0 : (List R36)) (f1 : (R9 × Unit)) (t7 : Int) (t8 : Int) : Option (Sum ((List R36) × (R9 × Unit) × Int × Int × Unit) R3) := loopF (fun (x : ((List R36) × (R9 × Unit) × Int × Int × Unit)) => r101_0 x.1 x.2.1 x.2.2.1 x.2.2.2.1) (t0, f1, t7, t8, ())
noncomputable def g101 (p0 : (List R36)) (c1_0 : R9) : Option (Unit × (R3 × Unit)) :=
 Option.bind (l101_0 p0 (c1_0, ()) (lenI p0) 0) (Sum.elim (fun y1 =>
 some ((), (((-1), ()), ()))
 ) (fun y1 =>
 some ((), (y1, ()))
 ))
noncomputable def s101 : Su := ⟨[.c false [.sl 36 kk36], .fn 102 [.p [.str]]], [(false, kk3)], true, .inl fun x => g101 x.1.1 x.2.1.1⟩
theorem ok101 : SuOK Tryz.prog 101 s101 :=
 fl (ac ok102 an) [.d 4 (.int .i64)] [(0, ⟨[.d 0 (.sl 36 kk36), .fn 1 102 [.p [.str]], .d 7 (.int .i64), .d 8 (.int .i64)], fun x => loopF (fun x => r101_0 x.1 x.2.1 x.2.2.1 x.2.2.2.1) x⟩)] [] Tryz.f101 (by kernel_rfl) (lp [0] (by kernel_rfl) (sc rfl (fun x => by kernel_rfl) (lp [] (by kernel_rfl) sn) sn)) fun x => by kernel_rfl
noncomputable def g46 (p0 : ((List R36) × Unit)) (p1 : (List UInt8)) : Option (Unit × (R3 × Unit)) :=
 Option.bind (g101 p0.1 (p1, ())) fun y1 =>
 some ((), (y1.2.1, ()))
noncomputable def s46 : Su := ⟨[.c true [.sl 36 kk36], .c false [.str]], [(false, kk3)], true, .inl fun x => g46 x.1 x.2.1.1⟩
theorem ok46 : SuOK Tryz.prog 46 s46 :=
 fq (ac ok101 an) Tryz.f46 (by kernel_rfl) fun x => by kernel_rfl
noncomputable def g153 (p0 : List R108) : Option (Unit × ((List R108) × Unit) × Unit) := cond (fitB 32 ([] : List R108) p0) (some ((), ((p0, ()), ()))) none
noncomputable def s153 : Su := ⟨[.c false [.sl 108 kk108]], [(false, [.sl 108 kk108])], true, .inl fun x => g153 x.1.1⟩
noncomputable def E153 : En := ⟨8, tt, gaOf [], [], fun _ => none, [], fun _ => none⟩
noncomputable def st153 (x : PT s153.ps) : St := ⟨[(2, .v .nil), (0, .v (.d (.sl 108 kk108) x.1.1))], []⟩
theorem t153 (x : PT s153.ps) (b : Bool) : ((codeT E153 (.seq (codeR (codeL (codeR (bodyOf Tryz.f153)))) (codeR (codeR (bodyOf Tryz.f153)))) (((st153 x).bindT 3 (.v (.d (.sl 108 kk108) x.1.1), none)).bindT 4 (.v (.d .bool b), none))).bind (finT E153 Tryz.f153.results.toList s153.ps s153.rs s153.fresh)).run =
 cond b (some ((), (([], ()), ()))) (g153 x.1.1) := by kernel_rfl
theorem ok153 : SuOK Tryz.prog 153 s153 :=
 fn_nil (E := E153) (hTT hT) (gaok_of (l := []) trivial) hmix (fn := Tryz.f153) (c0 := codeL (bodyOf Tryz.f153)) (cc := codeR (codeL (codeR (bodyOf Tryz.f153)))) (c3 := codeR (codeR (bodyOf Tryz.f153))) (id := regId (codeL (codeL (codeR (bodyOf Tryz.f153)))))
  (o1 := opAt (codeL (codeL (codeR (bodyOf Tryz.f153)))) 0) (o2 := opAt (codeL (codeL (codeR (bodyOf Tryz.f153)))) 1) (by kernel_rfl) (by kernel_rfl) (by kernel_rfl) rfl
  (loopsOK_free (fun _ => rfl) _ (by kernel_rfl)) (loopsOK_free (fun _ => rfl) _ (by kernel_rfl)) (loopsOK_free (fun _ => rfl) _ (by kernel_rfl)) (t0 := 0) (t3 := 3) (t4 := 4) (ty := 32) (ty' := 32) (e := 108) (e' := 108) (by' := 24) (fl := []) (ks := kk108) (by kernel_rfl) (by kernel_rfl) (by kernel_rfl) (by kernel_rfl) (by kernel_rfl) (by kernel_rfl) (by kernel_rfl) (by kernel_rfl) (by kernel_rfl)
  st153 (fun x => x.1.1) (fun x => by kernel_rfl) (fun x => by kernel_rfl) fun x y hy b hb => by
   refine ⟨y.1, fun _ => rfl, ?_⟩
   rw [t153]
   have hy : g153 x.1.1 = some y := hy
   cases b with
   | false => exact hy
   | true =>
     have he : x.1.1 = ([] : List R108) := hb rfl
     rw [he] at hy
     exact hy
noncomputable def g185 (p0 : List R3) : Option (Unit × R23 × Unit) := cond (fitB 8 ([] : List R3) p0) (some ((), ((p0, ()), ()))) none
noncomputable def s185 : Su := ⟨[.c false kk23], [(false, kk23)], true, .inl fun x => g185 x.1.1⟩
noncomputable def E185 : En := ⟨8, tt, gaOf [], [], fun _ => none, [], fun _ => none⟩
noncomputable def st185 (x : PT s185.ps) : St := ⟨[(2, .v .nil), (0, .v (.d (.sl 3 kk3) x.1.1))], []⟩
theorem t185 (x : PT s185.ps) (b : Bool) : ((codeT E185 (.seq (codeR (codeL (codeR (bodyOf Tryz.f185)))) (codeR (codeR (bodyOf Tryz.f185)))) (((st185 x).bindT 3 (.v (.d (.sl 3 kk3) x.1.1), none)).bindT 4 (.v (.d .bool b), none))).bind (finT E185 Tryz.f185.results.toList s185.ps s185.rs s185.fresh)).run =
 cond b (some ((), (([], ()), ()))) (g185 x.1.1) := by kernel_rfl
theorem ok185 : SuOK Tryz.prog 185 s185 :=
 fn_nil (E := E185) (hTT hT) (gaok_of (l := []) trivial) hmix (fn := Tryz.f185) (c0 := codeL (bodyOf Tryz.f185)) (cc := codeR (codeL (codeR (bodyOf Tryz.f185)))) (c3 := codeR (codeR (bodyOf Tryz.f185))) (id := regId (codeL (codeL (codeR (bodyOf Tryz.f185)))))
  (o1 := opAt (codeL (codeL (codeR (bodyOf Tryz.f185)))) 0) (o2 := opAt (codeL (codeL (codeR (bodyOf Tryz.f185)))) 1) (by kernel_rfl) (by kernel_rfl) (by kernel_rfl) rfl
  (loopsOK_free (fun _ => rfl) _ (by kernel_rfl)) (loopsOK_free (fun _ => rfl) _ (by kernel_rfl)) (loopsOK_free (fun _ => rfl) _ (by kernel_rfl)) (t0 := 0) (t3 := 3) (t4 := 4) (ty := 23) (ty' := 23) (e := 3) (e' := 3) (by' := 24) (fl := []) (ks := kk3) (by kernel_rfl) (by kernel_rfl) (by kernel_rfl) (by kernel_rfl) (by kernel_rfl) (by kernel_rfl) (by kernel_rfl) (by kernel_rfl) (by kernel_rfl)
  st185 (fun x => x.1.1) (fun x => by kernel_rfl) (fun x => by kernel_rfl) fun x y hy b hb => by
   refine ⟨y.1, fun _ => rfl, ?_⟩
   rw [t185]
   have hy : g185 x.1.1 = some y := hy
   cases b with
   | false => exact hy
   | true =>
     have he : x.1.1 = ([] : List R3) := hb rfl
     rw [he] at hy
     exact hy
noncomputable def g154 (p0 : (Int × Int × (List R3) × (List R3) × Unit)) : Option (Unit × ((Int × Int × (List R3) × (List R3) × Unit) × Unit)) :=
 Option.bind (g185 p0.2.2.1) fun y1 =>
 Option.bind (g185 p0.2.2.2.1) fun y2 =>
 some ((), ((p0.1, p0.2.1, y1.2.1.1, y2.2.1.1, ()), ()))
noncomputable def s154 : Su := ⟨[.c true [.int .i64, .int .i64, .sl 3 kk3, .sl 3 kk3]], [(true, [.int .i64, .int .i64, .sl 3 kk3, .sl 3 kk3])], true, .inl fun x => g154 x.1⟩
theorem ok154 : SuOK Tryz.prog 154 s154 :=
 fq (ac ok185 an) Tryz.f154 (by kernel_rfl) fun x => by kernel_rfl
noncomputable def g186 (p0 : List R5) : Option (Unit × ((List R5) × Unit) × Unit) := cond (fitB 1 ([] : List R5) p0) (some ((), ((p0, ()), ()))) none
noncomputable def s186 : Su := ⟨[.c false [.sl 5 kk5]], [(false, [.sl 5 kk5])], true, .inl fun x => g186 x.1.1⟩
noncomputable def E186 : En := ⟨8, tt, gaOf [], [], fun _ => none, [], fun _ => none⟩
noncomputable def st186 (x : PT s186.ps) : St := ⟨[(2, .v .nil), (0, .v (.d (.sl 5 kk5) x.1.1))], []⟩
theorem t186 (x : PT s186.ps) (b : Bool) : ((codeT E186 (.seq (codeR (codeL (codeR (bodyOf Tryz.f186)))) (codeR (codeR (bodyOf Tryz.f186)))) (((st186 x).bindT 3 (.v (.d (.sl 5 kk5) x.1.1), none)).bindT 4 (.v (.d .bool b), none))).bind (finT E186 Tryz.f186.results.toList s186.ps s186.rs s186.fresh)).run =
 cond b (some ((), (([], ()), ()))) (g186 x.1.1) := by kernel_rfl
theorem ok186 : SuOK Tryz.prog 186 s186 :=
 fn_nil (E := E186) (hTT hT) (gaok_of (l := []) trivial) hmix (fn := Tryz.f186) (c0 := codeL (bodyOf Tryz.f186)) (cc := codeR (codeL (codeR (bodyOf Tryz.f186)))) (c3 := codeR (codeR (bodyOf Tryz.f186))) (id := regId (codeL (codeL (codeR (bodyOf Tryz.f186)))))
  (o1 := opAt (codeL (codeL (codeR (bodyOf Tryz.f186)))) 0) (o2 := opAt (codeL (codeL (codeR (bodyOf Tryz.f186)))) 1) (by kernel_rfl) (by kernel_rfl) (by kernel_rfl) rfl
  (loopsOK_free (fun _ => rfl) _ (by kernel_rfl)) (loopsOK_free (fun _ => rfl) _ (by kernel_rfl)) (loopsOK_free (fun _ => rfl) _ (by kernel_rfl)) (t0 := 0) (t3 := 3) (t4 := 4) (ty := 96) (ty' := 96) (e := 5) (e' := 5) (by' := 24) (fl := []) (ks := kk5) (by kernel_rfl) (by kernel_rfl) (by kernel_rfl) (by kernel_rfl) (by kernel_rfl) (by kernel_rfl) (by kernel_rfl) (by kernel_rfl) (by kernel_rfl)
  st186 (fun x => x.1.1) (fun x => by kernel_rfl) (fun x => by kernel_rfl) fun x y hy b hb => by
   refine ⟨y.1, fun _ => rfl, ?_⟩
   rw [t186]
   have hy : g186 x.1.1 = some y := hy
   cases b with
   | false => exact hy
   | true =>
     have he : x.1.1 = ([] : List R5) := hb rfl
     rw [he] at hy
     exact hy
noncomputable def r155_0 (t3 : (List R111)) (t7 : (List R111)) (t8 : Int) (t9 : Int) : Option (Sum ((List R111) × (List R111) × Int × Int × Unit) (Sum ((List R111) × (List R111) × Int × Int × Unit) Unit)) :=
 cond (ltI t9 t8) (
 cond (inB t9 t7) (
 let u1 := (gt d111 t7 t9)
 Option.bind (g186 u1.2.2.1) fun y1 =>
 cond (fitB 56 t3 [(u1.1, u1.2.1, y1.2.1.1, ())]) (
 some (.inl ((apL t3 [(u1.1, u1.2.1, y1.2.1.1, ())]), t7, t8, (addW .i64 t9 1), ()))
 ) none
 ) none
 ) (
 some (.inr (.inl (t3, t7, t8, t9, ())))
 )
noncomputable def l155_0 (t3 : (List R111)) (t7 : (List R111)) (t8 : Int) (t9 : Int) : Option (Sum ((List R111) × (List R111) × Int × Int × Unit) Unit) := loopF (fun (x : ((List R111) × (List R111) × Int × Int × Unit)) => r155_0 x.1 x.2.1 x.2.2.1 x.2.2.2.1) (t3, t7, t8, t9, ())
noncomputable def g155 (p0 : (List R111)) : Option (Unit × (((List R111) × Unit) × Unit)) :=
 Option.bind (l155_0 [] p0 (lenI p0) 0) (Sum.elim (fun y1 =>
 some ((), ((y1.1, ()), ()))
 ) (fun y1 =>
 none
 ))
noncomputable def s155 : Su := ⟨[.c false [.sl 111 kk111]], [(false, [.sl 111 kk111])], true, .inl fun x => g155 x.1.1⟩
theorem ok155 : SuOK Tryz.prog 155 s155 :=
 fl (ac ok186 an) [] [(0, ⟨[.own 3 (.sl 111 kk111), .d 7 (.sl 111 kk111), .d 8 (.int .i64), .d 9 (.int .i64)], fun x => loopF (fun x => r155_0 x.1 x.2.1 x.2.2.1 x.2.2.2.1) x⟩)] [] Tryz.f155 (by kernel_rfl) (lp [0] (by kernel_rfl) (sc rfl (fun x => by kernel_rfl) (lp [] (by kernel_rfl) sn) sn)) fun x => by kernel_rfl
noncomputable def g104 (p0 : R36) : Option (Unit × (R36 × Unit)) :=
 Option.bind (g153 p0.2.2.2.2.2.1) fun y1 =>
 Option.bind (g154 (p0.2.2.2.2.2.2.1, p0.2.2.2.2.2.2.2.1, p0.2.2.2.2.2.2.2.2.1, p0.2.2.2.2.2.2.2.2.2.1, ())) fun y2 =>
 Option.bind (g155 p0.2.2.2.2.2.2.2.2.2.2.1) fun y3 =>
 some ((), ((p0.1, p0.2.1, p0.2.2.1, p0.2.2.2.1, p0.2.2.2.2.1, y1.2.1.1, y2.2.1.1, y2.2.1.2.1, y2.2.1.2.2.1, y2.2.1.2.2.2.1, y3.2.1.1, ()), ()))
noncomputable def s104 : Su := ⟨[.c true kk36], [(true, kk36)], true, .inl fun x => g104 x.1⟩
theorem ok104 : SuOK Tryz.prog 104 s104 :=
 fq (ac ok153 (ac ok154 (ac ok155 an))) Tryz.f104 (by kernel_rfl) fun x => by kernel_rfl
noncomputable def r103_0 (f1 : Unit) (t10 : (List R36)) (t11 : Int) (t12 : Int) (b4 : ((List R36) × Unit)) (b5 : ((List R36) × Unit)) : Option (Sum (Unit × (List R36) × Int × Int × ((List R36) × Unit) × ((List R36) × Unit) × Unit) (Sum (Unit × (List R36) × Int × Int × ((List R36) × Unit) × ((List R36) × Unit) × Unit) Unit)) :=
 cond (ltI t12 t11) (
 cond (inB t12 t10) (
 Option.bind (g104 (gt d36 t10 t12)) fun y1 =>
 cond (fitB 160 b5.1 [y1.2.1]) (
 some (.inl ((), t10, t11, (addW .i64 t12 1), b4, ((apL b5.1 [y1.2.1]), ()), ()))
 ) none
 ) none
 ) (
 some (.inr (.inl ((), t10, t11, t12, b4, b5, ())))
 )
noncomputable def l103_0 (f1 : Unit) (t10 : (List R36)) (t11 : Int) (t12 : Int) (b4 : ((List R36) × Unit)) (b5 : ((List R36) × Unit)) : Option (Sum (Unit × (List R36) × Int × Int × ((List R36) × Unit) × ((List R36) × Unit) × Unit) Unit) := loopF (fun (x : (Unit × (List R36) × Int × Int × ((List R36) × Unit) × ((List R36) × Unit) × Unit)) => r103_0 x.1 x.2.1 x.2.2.1 x.2.2.2.1 x.2.2.2.2.1 x.2.2.2.2.2.1) (f1, t10, t11, t12, b4, b5, ())
noncomputable def g103 (p0 : ((List R36) × Unit)) : Option (Unit × (((List R36) × Unit) × Unit)) :=
 Option.bind (l103_0 () p0.1 (lenI p0.1) 0 ([], ()) ([], ())) (Sum.elim (fun y1 =>
 some ((), (y1.2.2.2.2.2.1, ()))
 ) (fun y1 =>
 none
 ))
noncomputable def s103 : Su := ⟨[.c true [.sl 36 kk36], .fn 104 []], [(true, [.sl 36 kk36])], true, .inl fun x => g103 x.1⟩
theorem ok103 : SuOK Tryz.prog 103 s103 :=
 fl (ac ok104 an) [] [(0, ⟨[.fn 1 104 [], .d 10 (.sl 36 kk36), .d 11 (.int .i64), .d 12 (.int .i64), .box 4 [(true, .sl 36 kk36)], .box 5 [(true, .sl 36 kk36)]], fun x => loopF (fun x => r103_0 x.1 x.2.1 x.2.2.1 x.2.2.2.1 x.2.2.2.2.1 x.2.2.2.2.2.1) x⟩)] [] Tryz.f103 (by kernel_rfl) (lp [0] (by kernel_rfl) (sc rfl (fun x => by kernel_rfl) (lp [] (by kernel_rfl) sn) sn)) fun x => by kernel_rfl
noncomputable def g47 (p0 : ((List R36) × Unit)) : Option (Unit × (((List R36) × Unit) × Unit)) :=
 Option.bind (g103 p0) fun y1 =>
 some ((), (y1.2.1, ()))
noncomputable def s47 : Su := ⟨[.c true [.sl 36 kk36]], [(true, [.sl 36 kk36])], true, .inl fun x => g47 x.1⟩
theorem ok47 : SuOK Tryz.prog 47 s47 :=
 fq (ac ok103 an) Tryz.f47 (by kernel_rfl) fun x => by kernel_rfl
noncomputable def g173 (p0 : R93) (p1 : Int) : Option (Unit × ((Bool × Unit) × Unit)) :=
 some ((), (((ltI p1 p0.2.2.1), ()), ()))
noncomputable def s173 : Su := ⟨[.c true kk93, .c false kk3], [(false, [.bool])], true, .inl fun x => g173 x.1 x.2.1.1⟩
theorem ok173 : SuOK Tryz.prog 173 s173 :=
 fq an Tryz.f173 (by kernel_rfl) fun x => by kernel_rfl
noncomputable def g172 (p0 : R93) (p1 : R3) : Option (Unit × ((Bool × Unit) × Unit)) :=
 Option.bind (g173 p0 p1.1) fun y1 =>
 some ((), (((!y1.2.1.1), ()), ()))
noncomputable def s172 : Su := ⟨[.c true kk93, .pt [.int .i64]], [(false, [.bool])], true, .inl fun x => g172 x.1 x.2.1⟩
theorem ok172 : SuOK Tryz.prog 172 s172 :=
 fq (ac ok173 an) Tryz.f172 (by kernel_rfl) fun x => by kernel_rfl
noncomputable def r156_0 (t0 : (List R108)) (f1 : (R3 × Unit)) (t7 : Int) (t8 : Int) : Option (Sum ((List R108) × (R3 × Unit) × Int × Int × Unit) (Sum ((List R108) × (R3 × Unit) × Int × Int × Unit) R3)) :=
 cond (ltI t8 t7) (
 cond (inB t8 t0) (
 Option.bind (g172 (gt d108 t0 t8) f1.1) fun y1 =>
 cond y1.2.1.1 (
 some (.inr (.inr (t8, ())))
 ) (
 some (.inl (t0, f1, t7, (addW .i64 t8 1), ()))
 )
 ) none
 ) (
 some (.inr (.inl (t0, f1, t7, t8, ())))
 )
noncomputable def l156_0 (t0 : (List R108)) (f1 : (R3 × Unit)) (t7 : Int) (t8 : Int) : Option (Sum ((List R108) × (R3 × Unit) × Int × Int × Unit) R3) := loopF (fun (x : ((List R108) × (R3 × Unit) × Int × Int × Unit)) => r156_0 x.1 x.2.1 x.2.2.1 x.2.2.2.1) (t0, f1, t7, t8, ())
noncomputable def g156 (p0 : (List R108)) (c1_0 : R3) : Option (Unit × (R3 × Unit)) :=
 Option.bind (l156_0 p0 (c1_0, ()) (lenI p0) 0) (Sum.elim (fun y1 =>
 some ((), (((-1), ()), ()))
 ) (fun y1 =>
 some ((), (y1, ()))
 ))
noncomputable def s156 : Su := ⟨[.c false [.sl 108 kk108], .fn 172 [.p [.int .i64]]], [(false, kk3)], true, .inl fun x => g156 x.1.1 x.2.1.1⟩
theorem ok156 : SuOK Tryz.prog 156 s156 :=
 fl (ac ok172 an) [.d 4 (.int .i64)] [(0, ⟨[.d 0 (.sl 108 kk108), .fn 1 172 [.p [.int .i64]], .d 7 (.int .i64), .d 8 (.int .i64)], fun x => loopF (fun x => r156_0 x.1 x.2.1 x.2.2.1 x.2.2.2.1) x⟩)] [] Tryz.f156 (by kernel_rfl) (lp [0] (by kernel_rfl) (sc rfl (fun x => by kernel_rfl) (lp [] (by kernel_rfl) sn) sn)) fun x => by kernel_rfl
noncomputable def r162_0 (t0 : (List R108)) (f1 : (R3 × Unit)) (t5 : Int) (t6 : Int) : Option (Sum ((List R108) × (R3 × Unit) × Int × Int × Unit) (Sum ((List R108) × (R3 × Unit) × Int × Int × Unit) Unit)) :=
 cond (ltI t6 (lenI t0)) (
 cond (inB t6 t0) (
 let u1 := (gt d108 t0 t6)
 Option.bind (g172 u1 f1.1) fun y1 =>
 cond (!y1.2.1.1) (
 cond (inB t5 t0) (
 let u2 := (gt d108 t0 t5)
 let u3 := (stI t0 t5 (u1.1, u2.2.1, u2.2.2.1, ()))
 let u4 := (gt d108 u3 t5)
 let u5 := (stI u3 t5 (u4.1, u1.2.1, u4.2.2.1, ()))
 let u6 := (gt d108 u5 t5)
 let u7 := (addW .i64 t6 1)
 some (.inl ((stI u5 t5 (u6.1, u6.2.1, u1.2.2.1, ())), f1, (addW .i64 t5 1), u7, ()))
 ) none
 ) (
 let u2 := (addW .i64 t6 1)
 some (.inl (t0, f1, t5, u2, ()))
 )
 ) none
 ) (
 some (.inr (.inl (t0, f1, t5, t6, ())))
 )
noncomputable def l162_0 (t0 : (List R108)) (f1 : (R3 × Unit)) (t5 : Int) (t6 : Int) : Option (Sum ((List R108) × (R3 × Unit) × Int × Int × Unit) Unit) := loopF (fun (x : ((List R108) × (R3 × Unit) × Int × Int × Unit)) => r162_0 x.1 x.2.1 x.2.2.1 x.2.2.2.1) (t0, f1, t5, t6, ())
noncomputable def g162 (p0 : (List R108)) (c1_0 : R3) : Option (Unit × (((List R108) × Unit) × Unit)) :=
 Option.bind (g156 p0 c1_0) fun y1 =>
 cond (eqI y1.2.1.1 (-1)) (
 some ((), ((p0, ()), ()))
 ) (
 Option.bind (l162_0 p0 (c1_0, ()) y1.2.1.1 (addW .i64 y1.2.1.1 1)) (Sum.elim (fun y2 =>
 cond (cutB y2.2.2.1 (lenI y2.1) y2.1) (
 let u1 := (clrI d108 y2.1 y2.2.2.1)
 cond (cutB 0 y2.2.2.1 u1) (
 some ((), (((tkI u1 y2.2.2.1), ()), ()))
 ) none
 ) none
 ) (fun y2 =>
 none
 ))
 )
noncomputable def s162 : Su := ⟨[.mv (.sl 108 kk108), .fn 172 [.p [.int .i64]]], [(false, [.sl 108 kk108])], true, .inl fun x => g162 x.1 x.2.1.1⟩
def sg162_0 : List SE := [.own 0 (.sl 108 kk108), .fn 1 172 [.p [.int .i64]], .d 5 (.int .i64), .d 6 (.int .i64)]
def rh162 : List SE := []
noncomputable def lo162 : Nat → Option (Lo rh162)
 | 0 => some ⟨sg162_0, fun x => l162_0 x.1 x.2.1 x.2.2.1 x.2.2.2.1⟩
 | _ => none
noncomputable def ga162 : List (Nat × Su) := [(172, s172), (156, s156)]
noncomputable def rg162 : Nat → Option (St → Tr St)
 | 11 => some (clearF 36 37 38 0 5 kk108)
 | _ => none
noncomputable def E162 : En := ⟨42, tt, gaOf ga162, rh162, lo162, [], rg162⟩
theorem t162_0 (x : SigT sg162_0) : (roundT E162 0 sg162_0 (loopOf 0 (bodyOf Tryz.f162)) x).run = r162_0 x.1 x.2.1 x.2.2.1 x.2.2.2.1 := by kernel_rfl
theorem t162 (x : PT s162.ps) : (fnT E162 (bodyOf Tryz.f162) Tryz.f162.results.toList s162.ps s162.rs true x).run = g162 x.1 x.2.1.1 := by kernel_rfl
theorem hga162 : GAok Tryz.prog E162 := gaok_of (l := ga162) ⟨ok172, ok156, trivial⟩
theorem R162_11 : RegSem Tryz.prog E162 (regOf 11 (bodyOf Tryz.f162)) (clearF 36 37 38 0 5 kk108) :=
 clear_sem (E := E162) (hTT hT) (rid := 11) (ta := 36) (tb := 37) (tc := 38) (t0 := 0) (tI := 5) (ty := 32) (o1 := opAt (regOf 11 (bodyOf Tryz.f162)) 0) (o2 := opAt (regOf 11 (bodyOf Tryz.f162)) 1) (o3 := opAt (regOf 11 (bodyOf Tryz.f162)) 2) (o4 := opAt (regOf 11 (bodyOf Tryz.f162)) 3) (c := callOf (opAt (regOf 11 (bodyOf Tryz.f162)) 3)) (te := ⟨true, kk108, 0, 32, [(0, 9), (1, 3), (2, 3)]⟩)
  (by kernel_rfl) (by kernel_rfl) (by kernel_rfl) (by kernel_rfl) (by kernel_rfl) (by kernel_rfl) (by kernel_rfl) (by kernel_rfl) (by kernel_rfl) (by kernel_rfl) (by kernel_rfl) (by kernel_rfl) (by kernel_rfl) (by kernel_rfl) (by kernel_rfl) (by kernel_rfl) (by kernel_rfl) (by kernel_rfl) (by kernel_rfl) (by kernel_rfl) (by kernel_rfl)
theorem L162_0 : LoopSem Tryz.prog E162 0 (.loop (loopOf 0 (bodyOf Tryz.f162))) ⟨sg162_0, fun x => l162_0 x.1 x.2.1 x.2.2.1 x.2.2.2.1⟩ :=
 sem_of (hTT hT) hga162 hmix (step := fun (x : SigT sg162_0) => r162_0 x.1 x.2.1 x.2.2.1 x.2.2.2.1) t162_0 (loopsOK_reg [] (by kernel_rfl) trivial [] (by kernel_rfl) trivial)
theorem ok162 : SuOK Tryz.prog 162 s162 :=
 fn_ok (E := E162) (hTT hT) hga162 hmix (fn := Tryz.f162) (c := (bodyOf Tryz.f162)) (by kernel_rfl) (by kernel_rfl) (by kernel_rfl) rfl (loopsOK_reg [(0, .loop (loopOf 0 (bodyOf Tryz.f162)))] (by kernel_rfl) ⟨semL rfl L162_0, trivial⟩ [(11, regOf 11 (bodyOf Tryz.f162))] (by kernel_rfl) ⟨regL rfl R162_11, trivial⟩) fun x y h => ⟨y.1, fun _ => rfl, (t162 x).trans h⟩
noncomputable def g132 (p0 : (List R108)) (p1 : Int) : Option (Unit × (((List R108) × Unit) × Unit)) :=
 Option.bind (g153 p0) fun y1 =>
 Option.bind (g162 y1.2.1.1 (p1, ())) fun y2 =>
 some ((), (y2.2.1, ()))
noncomputable def s132 : Su := ⟨[.c false [.sl 108 kk108], .c false kk3], [(false, [.sl 108 kk108])], true, .inl fun x => g132 x.1.1 x.2.1.1⟩
theorem ok132 : SuOK Tryz.prog 132 s132 :=
 fq (ac ok153 (ac ok162 an)) Tryz.f132 (by kernel_rfl) fun x => by kernel_rfl
noncomputable def g74 (p0 : R36) (p1 : Int) : Option (Unit × (R36 × Unit)) :=
 Option.bind (g104 p0) fun y1 =>
 Option.bind (g73 p0) fun y2 =>
 cond y2.2.1.1 (
 Option.bind (g45 p1) fun y3 =>
 cond y3.2.1.1 (
 Option.bind (g132 p0.2.2.2.2.2.1 p1) fun y4 =>
 some ((), ((y1.2.1.1, y1.2.1.2.1, y1.2.1.2.2.1, y1.2.1.2.2.2.1, y1.2.1.2.2.2.2.1, y4.2.1.1, y1.2.1.2.2.2.2.2.2.1, y1.2.1.2.2.2.2.2.2.2.1, y1.2.1.2.2.2.2.2.2.2.2.1, y1.2.1.2.2.2.2.2.2.2.2.2.1, y1.2.1.2.2.2.2.2.2.2.2.2.2.1, ()), ()))
 ) (
 some ((), (y1.2.1, ()))
 )
 ) (
 some ((), (y1.2.1, ()))
 )
noncomputable def s74 : Su := ⟨[.c true kk36, .c false kk3], [(true, kk36)], true, .inl fun x => g74 x.1 x.2.1.1⟩
theorem ok74 : SuOK Tryz.prog 74 s74 :=
 fq (ac ok45 (ac ok73 (ac ok104 (ac ok132 an)))) Tryz.f74 (by kernel_rfl) fun x => by kernel_rfl
noncomputable def g29 (p0 : R36) (p1 : Int) : Option (Unit × (R36 × R3 × Unit)) :=
 Option.bind (g73 p0) fun y1 =>
 cond (!y1.2.1.1) (
 some ((), (([], 0, 0, 0, 0, [], 0, 0, [], [], [], ()), (1, ()), ()))
 ) (
 Option.bind (g45 p1) fun y2 =>
 cond (!y2.2.1.1) (
 some ((), (([], 0, 0, 0, 0, [], 0, 0, [], [], [], ()), (1, ()), ()))
 ) (
 Option.bind (g74 p0 p1) fun y3 =>
 some ((), (y3.2.1, (0, ()), ()))
 )
 )
noncomputable def s29 : Su := ⟨[.c true kk36, .c false kk3], [(true, kk36), (false, kk3)], true, .inl fun x => g29 x.1 x.2.1.1⟩
theorem ok29 : SuOK Tryz.prog 29 s29 :=
 fq (ac ok45 (ac ok73 (ac ok74 an))) Tryz.f29 (by kernel_rfl) fun x => by kernel_rfl
noncomputable def g157 (p0 : R93) (p1 : R9) : Option (Unit × ((Bool × Unit) × Unit)) :=
 some ((), (((eqS p0.1 p1.1), ()), ()))
noncomputable def s157 : Su := ⟨[.c true kk93, .pt [.str]], [(false, [.bool])], true, .inl fun x => g157 x.1 x.2.1⟩
theorem ok157 : SuOK Tryz.prog 157 s157 :=
 fq an Tryz.f157 (by kernel_rfl) fun x => by kernel_rfl
noncomputable def r156v1_0 (t0 : (List R108)) (f1 : (R9 × Unit)) (t7 : Int) (t8 : Int) : Option (Sum ((List R108) × (R9 × Unit) × Int × Int × Unit) (Sum ((List R108) × (R9 × Unit) × Int × Int × Unit) R3)) :=
 cond (ltI t8 t7) (
 cond (inB t8 t0) (
 Option.bind (g157 (gt d108 t0 t8) f1.1) fun y1 =>
 cond y1.2.1.1 (
 some (.inr (.inr (t8, ())))
 ) (
 some (.inl (t0, f1, t7, (addW .i64 t8 1), ()))
 )
 ) none
 ) (
 some (.inr (.inl (t0, f1, t7, t8, ())))
 )
noncomputable def l156v1_0 (t0 : (List R108)) (f1 : (R9 × Unit)) (t7 : Int) (t8 : Int) : Option (Sum ((List R108) × (R9 × Unit) × Int × Int × Unit) R3) := loopF (fun (x : ((List R108) × (R9 × Unit) × Int × Int × Unit)) => r156v1_0 x.1 x.2.1 x.2.2.1 x.2.2.2.1) (t0, f1, t7, t8, ())
noncomputable def g156v1 (p0 : (List R108)) (c1_0 : R9) : Option (Unit × (R3 × Unit)) :=
 Option.bind (l156v1_0 p0 (c1_0, ()) (lenI p0) 0) (Sum.elim (fun y1 =>
 some ((), (((-1), ()), ()))
 ) (fun y1 =>
 some ((), (y1, ()))
 ))
noncomputable def s156v1 : Su := ⟨[.c false [.sl 108 kk108], .fn 157 [.p [.str]]], [(false, kk3)], true, .inl fun x => g156v1 x.1.1 x.2.1.1⟩
theorem ok156v1 : SuOK Tryz.prog 156 s156v1 :=
 fl (ac ok157 an) [.d 4 (.int .i64)] [(0, ⟨[.d 0 (.sl 108 kk108), .fn 1 157 [.p [.str]], .d 7 (.int .i64), .d 8 (.int .i64)], fun x => loopF (fun x => r156v1_0 x.1 x.2.1 x.2.2.1 x.2.2.2.1) x⟩)] [] Tryz.f156 (by kernel_rfl) (lp [0] (by kernel_rfl) (sc rfl (fun x => by kernel_rfl) (lp [] (by kernel_rfl) sn) sn)) fun x => by kernel_rfl
noncomputable def g105 (p0 : (List R108)) (p1 : (List UInt8)) : Option (Unit × (R3 × Unit)) :=
 Option.bind (g156v1 p0 (p1, ())) fun y1 =>
 some ((), (y1.2.1, ()))
noncomputable def s105 : Su := ⟨[.c false [.sl 108 kk108], .c false [.str]], [(false, kk3)], true, .inl fun x => g105 x.1.1 x.2.1.1⟩
theorem ok105 : SuOK Tryz.prog 105 s105 :=
 fq (ac ok156v1 an) Tryz.f105 (by kernel_rfl) fun x => by kernel_rfl
noncomputable def g78 (p0 : (List R108)) (p1 : Int) : Option (Unit × (R3 × Unit)) :=
 Option.bind (g132 p0 p1) fun y1 =>
 Option.bind (g131 y1.2.1.1) fun y2 =>
 some ((), (y2.2.1, ()))
noncomputable def s78 : Su := ⟨[.c false [.sl 108 kk108], .c false kk3], [(false, kk3)], true, .inl fun x => g78 x.1.1 x.2.1.1⟩
theorem ok78 : SuOK Tryz.prog 78 s78 :=
 fq (ac ok131 (ac ok132 an)) Tryz.f78 (by kernel_rfl) fun x => by kernel_rfl
noncomputable def g31 (p0 : R36) (p1 : Int) : Option (Unit × (R3 × Unit)) :=
 Option.bind (g73 p0) fun y1 =>
 cond (!y1.2.1.1) (
 some ((), ((0, ()), ()))
 ) (
 Option.bind (g45 p1) fun y2 =>
 cond (!y2.2.1.1) (
 some ((), ((0, ()), ()))
 ) (
 Option.bind (g78 p0.2.2.2.2.2.1 p1) fun y3 =>
 some ((), (((subW .i64 (subW .i64 p0.2.1 p0.2.2.1) y3.2.1.1), ()), ()))
 )
 )
noncomputable def s31 : Su := ⟨[.c true kk36, .c false kk3], [(false, kk3)], true, .inl fun x => g31 x.1 x.2.1.1⟩
theorem ok31 : SuOK Tryz.prog 31 s31 :=
 fq (ac ok45 (ac ok73 (ac ok78 an))) Tryz.f31 (by kernel_rfl) fun x => by kernel_rfl
noncomputable def r190_0 (t0 : (List R3)) (t1 : Int) (t5 : (List R3)) (t11 : Int) (t12 : Int) : Option (Sum ((List R3) × Int × (List R3) × Int × Int × Unit) (Sum ((List R3) × Int × (List R3) × Int × Int × Unit) Unit)) :=
 cond (ltI t12 t11) (
 cond (leI t1 t12) (
 let u1 := (subW .i64 t12 t1)
 cond (inB u1 t0) (
 cond (inB t12 t5) (
 let u2 := (addW .i64 t12 1)
 some (.inl (t0, t1, (stI t5 t12 (gt d3 t0 u1)), t11, u2, ()))
 ) none
 ) none
 ) (
 let u1 := (addW .i64 t12 1)
 some (.inl (t0, t1, t5, t11, u1, ()))
 )
 ) (
 some (.inr (.inl (t0, t1, t5, t11, t12, ())))
 )
noncomputable def l190_0 (t0 : (List R3)) (t1 : Int) (t5 : (List R3)) (t11 : Int) (t12 : Int) : Option (Sum ((List R3) × Int × (List R3) × Int × Int × Unit) Unit) := loopF (fun (x : ((List R3) × Int × (List R3) × Int × Int × Unit)) => r190_0 x.1 x.2.1 x.2.2.1 x.2.2.2.1 x.2.2.2.2.1) (t0, t1, t5, t11, t12, ())
noncomputable def g190 (p0 : (List R3)) (p1 : Int) : Option (Unit × (R23 × Unit)) :=
 let u1 := (lenI p0)
 cond (mkB 8 u1) (
 Option.bind (l190_0 p0 p1 (repI d3 u1) u1 0) (Sum.elim (fun y1 =>
 some ((), ((y1.2.2.1, ()), ()))
 ) (fun y1 =>
 none
 ))
 ) none
noncomputable def s190 : Su := ⟨[.c false kk23, .c false kk3], [(false, kk23)], true, .inl fun x => g190 x.1.1 x.2.1.1⟩
theorem ok190 : SuOK Tryz.prog 190 s190 :=
 fl an [] [(0, ⟨[.d 0 (.sl 3 kk3), .d 1 (.int .i64), .own 5 (.sl 3 kk3), .d 11 (.int .i64), .d 12 (.int .i64)], fun x => loopF (fun x => r190_0 x.1 x.2.1 x.2.2.1 x.2.2.2.1 x.2.2.2.2.1) x⟩)] [] Tryz.f190 (by kernel_rfl) (lp [0] (by kernel_rfl) (sc rfl (fun x => by kernel_rfl) (lp [] (by kernel_rfl) sn) sn)) fun x => by kernel_rfl
noncomputable def g161 (p0 : (Int × Int × (List R3) × (List R3) × Unit)) (p1 : Int) : Option (Unit × ((Int × Int × (List R3) × (List R3) × Unit) × Unit)) :=
 Option.bind (g154 p0) fun y1 =>
 Option.bind (g128 p0) fun y2 =>
 cond (!y2.2.1.1) (
 some ((), (y1.2.1, ()))
 ) (
 Option.bind (g45 p1) fun y3 =>
 cond (!y3.2.1.1) (
 some ((), (y1.2.1, ()))
 ) (
 cond (!(eqI p0.1 0)) (
 let u1 := (quoW .i64 p1 p0.1)
 cond (leI u1 p0.2.1) (
 some ((), (y1.2.1, ()))
 ) (
 cond (!(eqI p0.1 0)) (
 cond (!(eqI p0.1 0)) (
 let u2 := (subW .i64 u1 p0.2.1)
 Option.bind (g190 p0.2.2.1 u2) fun y4 =>
 Option.bind (g190 p0.2.2.2.1 u2) fun y5 =>
 some ((), ((p0.1, u1, y4.2.1.1, y5.2.1.1, ()), ()))
 ) none
 ) none
 )
 ) none
 )
 )
noncomputable def s161 : Su := ⟨[.c true [.int .i64, .int .i64, .sl 3 kk3, .sl 3 kk3], .c false kk3], [(true, [.int .i64, .int .i64, .sl 3 kk3, .sl 3 kk3])], true, .inl fun x => g161 x.1 x.2.1.1⟩
theorem ok161 : SuOK Tryz.prog 161 s161 :=
 fq (ac ok45 (ac ok128 (ac ok154 (ac ok190 an)))) Tryz.f161 (by kernel_rfl) fun x => by kernel_rfl
noncomputable def r187_0 (t3 : Int) (t6 : (List R3)) (t7 : Int) (t8 : Int) : Option (Sum (Int × (List R3) × Int × Int × Unit) (Sum (Int × (List R3) × Int × Int × Unit) Unit)) :=
 cond (ltI t8 t7) (
 cond (inB t8 t6) (
 Option.bind (g130 t3 (gt d3 t6 t8).1) fun y1 =>
 some (.inl (y1.2.1.1, t6, t7, (addW .i64 t8 1), ()))
 ) none
 ) (
 some (.inr (.inl (t3, t6, t7, t8, ())))
 )
noncomputable def l187_0 (t3 : Int) (t6 : (List R3)) (t7 : Int) (t8 : Int) : Option (Sum (Int × (List R3) × Int × Int × Unit) Unit) := loopF (fun (x : (Int × (List R3) × Int × Int × Unit)) => r187_0 x.1 x.2.1 x.2.2.1 x.2.2.2.1) (t3, t6, t7, t8, ())
noncomputable def g187 (p0 : (List R3)) : Option (Unit × (R3 × Unit)) :=
 Option.bind (l187_0 0 p0 (lenI p0) 0) (Sum.elim (fun y1 =>
 some ((), ((y1.1, ()), ()))
 ) (fun y1 =>
 none
 ))
noncomputable def s187 : Su := ⟨[.c false kk23], [(false, kk3)], true, .inl fun x => g187 x.1.1⟩
theorem ok187 : SuOK Tryz.prog 187 s187 :=
 fl (ac ok130 an) [] [(0, ⟨[.d 3 (.int .i64), .d 6 (.sl 3 kk3), .d 7 (.int .i64), .d 8 (.int .i64)], fun x => loopF (fun x => r187_0 x.1 x.2.1 x.2.2.1 x.2.2.2.1) x⟩)] [] Tryz.f187 (by kernel_rfl) (lp [0] (by kernel_rfl) (sc rfl (fun x => by kernel_rfl) (lp [] (by kernel_rfl) sn) sn)) fun x => by kernel_rfl
noncomputable def g158 (p0 : (Int × Int × (List R3) × (List R3) × Unit)) (p1 : Int) : Option (Unit × (R3 × Unit)) :=
 Option.bind (g128 p0) fun y1 =>
 cond (!y1.2.1.1) (
 some ((), ((0, ()), ()))
 ) (
 Option.bind (g45 p1) fun y2 =>
 cond (!y2.2.1.1) (
 some ((), ((0, ()), ()))
 ) (
 Option.bind (g161 p0 p1) fun y3 =>
 Option.bind (g187 y3.2.1.2.2.1) fun y4 =>
 some ((), (y4.2.1, ()))
 )
 )
noncomputable def s158 : Su := ⟨[.c true [.int .i64, .int .i64, .sl 3 kk3, .sl 3 kk3], .c false kk3], [(false, kk3)], true, .inl fun x => g158 x.1 x.2.1.1⟩
theorem ok158 : SuOK Tryz.prog 158 s158 :=
 fq (ac ok45 (ac ok128 (ac ok161 (ac ok187 an)))) Tryz.f158 (by kernel_rfl) fun x => by kernel_rfl
noncomputable def g159 (p0 : (Int × Int × (List R3) × (List R3) × Unit)) (p1 : Int) : Option (Unit × (R3 × Unit)) :=
 Option.bind (g128 p0) fun y1 =>
 cond (!y1.2.1.1) (
 some ((), ((0, ()), ()))
 ) (
 Option.bind (g45 p1) fun y2 =>
 cond (!y2.2.1.1) (
 some ((), ((0, ()), ()))
 ) (
 Option.bind (g161 p0 p1) fun y3 =>
 Option.bind (g187 y3.2.1.2.2.2.1) fun y4 =>
 some ((), (y4.2.1, ()))
 )
 )
noncomputable def s159 : Su := ⟨[.c true [.int .i64, .int .i64, .sl 3 kk3, .sl 3 kk3], .c false kk3], [(false, kk3)], true, .inl fun x => g159 x.1 x.2.1.1⟩
theorem ok159 : SuOK Tryz.prog 159 s159 :=
 fq (ac ok45 (ac ok128 (ac ok161 (ac ok187 an)))) Tryz.f159 (by kernel_rfl) fun x => by kernel_rfl
noncomputable def g106 (p0 : R36) (p1 : Int) (p2 : Int) : Option (Unit × (R3 × Unit)) :=
 Option.bind (g31 p0 p2) fun y1 =>
 cond (ltI y1.2.1.1 p1) (
 some ((), ((7, ()), ()))
 ) (
 Option.bind (g158 (p0.2.2.2.2.2.2.1, p0.2.2.2.2.2.2.2.1, p0.2.2.2.2.2.2.2.2.1, p0.2.2.2.2.2.2.2.2.2.1, ()) p2) fun y2 =>
 Option.bind (g130 y2.2.1.1 1) fun y3 =>
 cond (ltI p0.2.2.2.1 y3.2.1.1) (
 some ((), ((8, ()), ()))
 ) (
 Option.bind (g159 (p0.2.2.2.2.2.2.1, p0.2.2.2.2.2.2.2.1, p0.2.2.2.2.2.2.2.2.1, p0.2.2.2.2.2.2.2.2.2.1, ()) p2) fun y4 =>
 Option.bind (g130 y4.2.1.1 p1) fun y5 =>
 cond (ltI p0.2.2.2.2.1 y5.2.1.1) (
 some ((), ((9, ()), ()))
 ) (
 some ((), ((0, ()), ()))
 )
 )
 )
noncomputable def s106 : Su := ⟨[.c true kk36, .c false kk3, .c false kk3], [(false, kk3)], true, .inl fun x => g106 x.1 x.2.1.1 x.2.2.1.1⟩
theorem ok106 : SuOK Tryz.prog 106 s106 :=
 fq (ac ok130 (ac ok31 (ac ok158 (ac ok159 an)))) Tryz.f106 (by kernel_rfl) fun x => by kernel_rfl
noncomputable def g163 (p0 : R93) (p1 : R9) : Option (Unit × ((Bool × Unit) × Unit)) :=
 some ((), (((eqS p0.1 p1.1), ()), ()))
noncomputable def s163 : Su := ⟨[.c true kk93, .pt [.str]], [(false, [.bool])], true, .inl fun x => g163 x.1 x.2.1⟩
theorem ok163 : SuOK Tryz.prog 163 s163 :=
 fq an Tryz.f163 (by kernel_rfl) fun x => by kernel_rfl
noncomputable def r156v2_0 (t0 : (List R108)) (f1 : (R9 × Unit)) (t7 : Int) (t8 : Int) : Option (Sum ((List R108) × (R9 × Unit) × Int × Int × Unit) (Sum ((List R108) × (R9 × Unit) × Int × Int × Unit) R3)) :=
 cond (ltI t8 t7) (
 cond (inB t8 t0) (
 Option.bind (g163 (gt d108 t0 t8) f1.1) fun y1 =>
 cond y1.2.1.1 (
 some (.inr (.inr (t8, ())))
 ) (
 some (.inl (t0, f1, t7, (addW .i64 t8 1), ()))
 )
 ) none
 ) (
 some (.inr (.inl (t0, f1, t7, t8, ())))
 )
noncomputable def l156v2_0 (t0 : (List R108)) (f1 : (R9 × Unit)) (t7 : Int) (t8 : Int) : Option (Sum ((List R108) × (R9 × Unit) × Int × Int × Unit) R3) := loopF (fun (x : ((List R108) × (R9 × Unit) × Int × Int × Unit)) => r156v2_0 x.1 x.2.1 x.2.2.1 x.2.2.2.1) (t0, f1, t7, t8, ())
noncomputable def g156v2 (p0 : (List R108)) (c1_0 : R9) : Option (Unit × (R3 × Unit)) :=
 Option.bind (l156v2_0 p0 (c1_0, ()) (lenI p0) 0) (Sum.elim (fun y1 =>
 some ((), (((-1), ()), ()))
 ) (fun y1 =>
 some ((), (y1, ()))
 ))
noncomputable def s156v2 : Su := ⟨[.c false [.sl 108 kk108], .fn 163 [.p [.str]]], [(false, kk3)], true, .inl fun x => g156v2 x.1.1 x.2.1.1⟩
theorem ok156v2 : SuOK Tryz.prog 156 s156v2 :=
 fl (ac ok163 an) [.d 4 (.int .i64)] [(0, ⟨[.d 0 (.sl 108 kk108), .fn 1 163 [.p [.str]], .d 7 (.int .i64), .d 8 (.int .i64)], fun x => loopF (fun x => r156v2_0 x.1 x.2.1 x.2.2.1 x.2.2.2.1) x⟩)] [] Tryz.f156 (by kernel_rfl) (lp [0] (by kernel_rfl) (sc rfl (fun x => by kernel_rfl) (lp [] (by kernel_rfl) sn) sn)) fun x => by kernel_rfl
noncomputable def r162v1_0 (t0 : (List R108)) (f1 : (R9 × Unit)) (t5 : Int) (t6 : Int) : Option (Sum ((List R108) × (R9 × Unit) × Int × Int × Unit) (Sum ((List R108) × (R9 × Unit) × Int × Int × Unit) Unit)) :=
 cond (ltI t6 (lenI t0)) (
 cond (inB t6 t0) (
 let u1 := (gt d108 t0 t6)
 Option.bind (g163 u1 f1.1) fun y1 =>
 cond (!y1.2.1.1) (
 cond (inB t5 t0) (
 let u2 := (gt d108 t0 t5)
 let u3 := (stI t0 t5 (u1.1, u2.2.1, u2.2.2.1, ()))
 let u4 := (gt d108 u3 t5)
 let u5 := (stI u3 t5 (u4.1, u1.2.1, u4.2.2.1, ()))
 let u6 := (gt d108 u5 t5)
 let u7 := (addW .i64 t6 1)
 some (.inl ((stI u5 t5 (u6.1, u6.2.1, u1.2.2.1, ())), f1, (addW .i64 t5 1), u7, ()))
 ) none
 ) (
 let u2 := (addW .i64 t6 1)
 some (.inl (t0, f1, t5, u2, ()))
 )
 ) none
 ) (
 some (.inr (.inl (t0, f1, t5, t6, ())))
 )
noncomputable def l162v1_0 (t0 : (List R108)) (f1 : (R9 × Unit)) (t5 : Int) (t6 : Int) : Option (Sum ((List R108) × (R9 × Unit) × Int × Int × Unit) Unit) := loopF (fun (x : ((List R108) × (R9 × Unit) × Int × Int × Unit)) => r162v1_0 x.1 x.2.1 x.2.2.1 x.2.2.2.1) (t0, f1, t5, t6, ())
noncomputable def g162v1 (p0 : (List R108)) (c1_0 : R9) : Option (Unit × (((List R108) × Unit) × Unit)) :=
 Option.bind (g156v2 p0 c1_0) fun y1 =>
 cond (eqI y1.2.1.1 (-1)) (
 some ((), ((p0, ()), ()))
 ) (
 Option.bind (l162v1_0 p0 (c1_0, ()) y1.2.1.1 (addW .i64 y1.2.1.1 1)) (Sum.elim (fun y2 =>
 cond (cutB y2.2.2.1 (lenI y2.1) y2.1) (
 let u1 := (clrI d108 y2.1 y2.2.2.1)
 cond (cutB 0 y2.2.2.1 u1) (
 some ((), (((tkI u1 y2.2.2.1), ()), ()))
 ) none
 ) none
 ) (fun y2 =>
 none
 ))
 )
noncomputable def s162v1 : Su := ⟨[.mv (.sl 108 kk108), .fn 163 [.p [.str]]], [(false, [.sl 108 kk108])], true, .inl fun x => g162v1 x.1 x.2.1.1⟩
def sg162v1_0 : List SE := [.own 0 (.sl 108 kk108), .fn 1 163 [.p [.str]], .d 5 (.int .i64), .d 6 (.int .i64)]
def rh162v1 : List SE := []
noncomputable def lo162v1 : Nat → Option (Lo rh162v1)
 | 0 => some ⟨sg162v1_0, fun x => l162v1_0 x.1 x.2.1 x.2.2.1 x.2.2.2.1⟩
 | _ => none
noncomputable def ga162v1 : List (Nat × Su) := [(163, s163), (156, s156v2)]
noncomputable def rg162v1 : Nat → Option (St → Tr St)
 | 11 => some (clearF 36 37 38 0 5 kk108)
 | _ => none
noncomputable def E162v1 : En := ⟨42, tt, gaOf ga162v1, rh162v1, lo162v1, [], rg162v1⟩
theorem t162v1_0 (x : SigT sg162v1_0) : (roundT E162v1 0 sg162v1_0 (loopOf 0 (bodyOf Tryz.f162)) x).run = r162v1_0 x.1 x.2.1 x.2.2.1 x.2.2.2.1 := by kernel_rfl
theorem t162v1 (x : PT s162v1.ps) : (fnT E162v1 (bodyOf Tryz.f162) Tryz.f162.results.toList s162v1.ps s162v1.rs true x).run = g162v1 x.1 x.2.1.1 := by kernel_rfl
theorem hga162v1 : GAok Tryz.prog E162v1 := gaok_of (l := ga162v1) ⟨ok163, ok156v2, trivial⟩
theorem R162v1_11 : RegSem Tryz.prog E162v1 (regOf 11 (bodyOf Tryz.f162)) (clearF 36 37 38 0 5 kk108) :=
 clear_sem (E := E162v1) (hTT hT) (rid := 11) (ta := 36) (tb := 37) (tc := 38) (t0 := 0) (tI := 5) (ty := 32) (o1 := opAt (regOf 11 (bodyOf Tryz.f162)) 0) (o2 := opAt (regOf 11 (bodyOf Tryz.f162)) 1) (o3 := opAt (regOf 11 (bodyOf Tryz.f162)) 2) (o4 := opAt (regOf 11 (bodyOf Tryz.f162)) 3) (c := callOf (opAt (regOf 11 (bodyOf Tryz.f162)) 3)) (te := ⟨true, kk108, 0, 32, [(0, 9), (1, 3), (2, 3)]⟩)
  (by kernel_rfl) (by kernel_rfl) (by kernel_rfl) (by kernel_rfl) (by kernel_rfl) (by kernel_rfl) (by kernel_rfl) (by kernel_rfl) (by kernel_rfl) (by kernel_rfl) (by kernel_rfl) (by kernel_rfl) (by kernel_rfl) (by kernel_rfl) (by kernel_rfl) (by kernel_rfl) (by kernel_rfl) (by kernel_rfl) (by kernel_rfl) (by kernel_rfl) (by kernel_rfl)
theorem L162v1_0 : LoopSem Tryz.prog E162v1 0 (.loop (loopOf 0 (bodyOf Tryz.f162))) ⟨sg162v1_0, fun x => l162v1_0 x.1 x.2.1 x.2.2.1 x.2.2.2.1⟩ :=
 sem_of (hTT hT) hga162v1 hmix (step := fun (x : SigT sg162v1_0) => r162v1_0 x.1 x.2.1 x.2.2.1 x.2.2.2.1) t162v1_0 (loopsOK_reg [] (by kernel_rfl) trivial [] (by kernel_rfl) trivial)
theorem ok162v1 : SuOK Tryz.prog 162 s162v1 :=
 fn_ok (E := E162v1) (hTT hT) hga162v1 hmix (fn := Tryz.f162) (c := (bodyOf Tryz.f162)) (by kernel_rfl) (by kernel_rfl) (by kernel_rfl) rfl (loopsOK_reg [(0, .loop (loopOf 0 (bodyOf Tryz.f162)))] (by kernel_rfl) ⟨semL rfl L162v1_0, trivial⟩ [(11, regOf 11 (bodyOf Tryz.f162))] (by kernel_rfl) ⟨regL rfl R162v1_11, trivial⟩) fun x y h => ⟨y.1, fun _ => rfl, (t162v1 x).trans h⟩
noncomputable def g110 (p0 : (List R108)) (p1 : (List UInt8)) : Option (Unit × (((List R108) × Unit) × Unit)) :=
 Option.bind (g153 p0) fun y1 =>
 Option.bind (g162v1 y1.2.1.1 (p1, ())) fun y2 =>
 some ((), (y2.2.1, ()))
noncomputable def s110 : Su := ⟨[.c false [.sl 108 kk108], .c false [.str]], [(false, [.sl 108 kk108])], true, .inl fun x => g110 x.1.1 x.2.1.1⟩
theorem ok110 : SuOK Tryz.prog 110 s110 :=
 fq (ac ok153 (ac ok162v1 an)) Tryz.f110 (by kernel_rfl) fun x => by kernel_rfl
section
open Go.RowKit Go.Lib
theorem w160_0 (a : Option Addr) (n c i : Nat) (a2 : Option Addr) (m c2 : Nat) (w : World) (hi : i ≤ n) (hc : n ≤ c) (hm : (m : Int) = 0) :
 Calls Tryz.prog 160 #[.slice a n c, .int .i64 i, .slice a2 m c2] w fun e w' => e = .returned (.slice a n c) ∧ w' = w := by
 go_enter Tryz.func160, Tryz.ntmps160
 go_wp2
 all_goals (go_ret; exact ⟨rfl, rfl⟩)
theorem w160_1 (a : Option Addr) (n c : Nat) (a2 : Option Addr) (m c2 : Nat) (w w' : World) (v' : Value) (hc : n ≤ c) (hm : ¬ ((m : Int) = 0))
 (hr : (Builtin.append_ #[32, 32] 32 #[.slice a n c, .slice a2 m c2]).run Tryz.prog w = .ok v' w') :
 Calls Tryz.prog 160 #[.slice a n c, .int .i64 n, .slice a2 m c2] w fun e w1 => e = .returned v' ∧ w1 = w' := by
 go_enter Tryz.func160, Tryz.ntmps160
 go_wp2_with (at_builtin; refine Lib.wpList_append_run _ rfl _ _ _ _ rfl _ _ rfl rfl _ _ hr ?_)
 all_goals (go_ret; exact ⟨rfl, rfl⟩)
theorem w160_2 (b o n c i : Nat) (a2 : Option Addr) (m c2 : Nat) (w : World) (hi : i < n) (hroom : n + m ≤ c) (hb : n + m ≤ 140737488355328) (hm : 0 < m) (W1 W2 : World)
 (hov : ∀ lb cb, (callFunc 188 #[.slice a2 m c2, .slice (some ⟨b, o + (i + m) * 3, none⟩) lb cb]).run Tryz.prog w = .ok (.value (.bool false)) w)
 (hcp1 : ∀ ty dc sc, (Builtin.copy_ #[32, 32] ty #[.slice (some ⟨b, o + (i + m) * 3, none⟩) (n + m - (i + m)) dc, .slice (some ⟨b, o + i * 3, none⟩) (n + m - i) sc]).run Tryz.prog w.drew = .ok (goInt (n - i : Nat)) W1)
 (hcp2 : ∀ ty dc, (Builtin.copy_ #[32, 32] ty #[.slice (some ⟨b, o + i * 3, none⟩) (n + m - i) dc, .slice a2 m c2]).run Tryz.prog W1 = .ok (goInt m) W2) :
 Calls Tryz.prog 160 #[.slice (some ⟨b, o, none⟩) n c, .int .i64 i, .slice a2 m c2] w fun e w1 => e = .returned (.slice (some ⟨b, o, none⟩) (n + m) c) ∧ w1 = W2 := by
 have hz1 : ¬ ((m : Int) = 0) := by omega
 have hz2 : ¬ ((i : Int) = (n : Int)) := by omega
 have hw1 : IntKind.i64.wrap ((i : Int) + (m : Int)) = (i : Int) + (m : Int) := by rw [IntKind.wrap_i64]; omega
 have hb1 : (0 : Int) ≤ (i : Int) + (m : Int) := by omega
 have hin : i ≤ n := by omega
 have htn : ((i : Int) + (m : Int)).toNat = i + m := by omega
 have hb2 : ¬ (c = i + m) := by omega
 have hb3 : (i : Int) ≤ (n : Int) + (m : Int) := by omega
 have hb4 : ¬ (c = i) := by omega
 go_enter Tryz.func160, Tryz.ntmps160
 go_wp2_with (simp only [hov])
 go_region_law (refine step_copy_runI rfl _ _ 32 32 rfl _ _ (by simp [Act.eval, Act.put]) (by simp [Act.eval, Act.put]) (hcp1 _ _ _) ?_)
 go_wp2_with (at_builtin; refine wpList_copy_runI _ rfl _ _ 32 32 rfl _ _ rfl rfl (hcp2 _ _) ?_)
 go_ret
 exact ⟨rfl, rfl⟩
theorem w160_3 (b o n c i : Nat) (a2 : Option Addr) (m c2 : Nat) (w : World) (hi : i < n) (hnc : n ≤ c) (hroom : c < n + m) (hc63 : n + m ≤ 140737488355328) (hm : 0 < m) (W1 W2 W3 : World) (N G : Nat) (hG : n + m ≤ G) (hG63 : G ≤ 9223372036854775807)
 (hrz : ∀ ty, (Builtin.append_ #[32, 3] ty #[.slice (some ⟨b, o, none⟩) i c, .int .i64 ((n : Int) + (m : Int) - (i : Int))]).run Tryz.prog w = .ok (.slice (some ⟨N, 0, none⟩) (n + m) G) W1)
 (hcp1 : ∀ ty dc, (Builtin.copy_ #[32, 32] ty #[.slice (some ⟨N, i * 3, none⟩) (n + m - i) dc, .slice a2 m c2]).run Tryz.prog W1 = .ok (goInt m) W2)
 (hcp2 : ∀ ty dc sc, (Builtin.copy_ #[32, 32] ty #[.slice (some ⟨N, (i + m) * 3, none⟩) (n + m - (i + m)) dc, .slice (some ⟨b, o + i * 3, none⟩) (n - i) sc]).run Tryz.prog W2.drew = .ok (goInt (n - i : Nat)) W3) :
 Calls Tryz.prog 160 #[.slice (some ⟨b, o, none⟩) n c, .int .i64 i, .slice a2 m c2] w fun e w1 => e = .returned (.slice (some ⟨N, 0, none⟩) (n + m) G) ∧ w1 = W3 := by
 have hz1 : ¬ ((m : Int) = 0) := by omega
 have hz2 : ¬ ((i : Int) = (n : Int)) := by omega
 have hz3 : (c : Int) < (n : Int) + (m : Int) := by omega
 have hw1 : IntKind.i64.wrap ((i : Int) + (m : Int)) = (i : Int) + (m : Int) := by rw [IntKind.wrap_i64]; omega
 have hb1 : (0 : Int) ≤ (i : Int) + (m : Int) := by omega
 have hin : i ≤ n := by omega
 have htn : ((i : Int) + (m : Int)).toNat = i + m := by omega
 have hb3 : (i : Int) ≤ (n : Int) := by omega
 have hGi : ¬ (G = i) := by omega
 have hGim : ¬ (G = i + m) := by omega
 have hci : ¬ (c = i) := by omega
 go_enter Tryz.func160, Tryz.ntmps160
 go_wp2_with (first
  | (at_builtin; refine Lib.wpList_append_run _ rfl _ _ _ _ rfl _ _ rfl rfl _ _ (hrz _) ?_)
  | (at_builtin; refine wpList_copy_runI _ rfl _ _ 32 32 rfl _ _ rfl rfl (hcp1 _ _) ?_))
 go_region_law (refine step_copy_runI rfl _ _ 32 32 rfl (.slice (some ⟨N, (i + m) * 3, none⟩) (n + m - (i + m)) (G - (i + m))) (.slice (some ⟨b, o + i * 3, none⟩) (n - i) (c - i)) (by simp [Act.eval, Act.put]) (by simp [Act.eval, Act.put]) (hcp2 _ _ _) ?_)
 go_wp2
 go_ret
 exact ⟨rfl, rfl⟩
theorem w160 : InsWalk Tryz.prog 160 32 188 3 := ⟨w160_0, w160_1, w160_2, w160_3⟩
end
noncomputable def g160 (p0 : List R108) (p1 : Int) (p2 : List R108) : Option (Unit × ((List R108) × Unit) × Unit) := insF 32 p0 p1 p2
noncomputable def s160 : Su := ⟨[.mv (.sl 108 kk108), .c false kk3, .mv (.sl 108 kk108)], [(false, [.sl 108 kk108])], true, .inl fun x => g160 x.1 x.2.1.1 x.2.2.1⟩
theorem ok160 : SuOK Tryz.prog 160 s160 :=
 insert_ok (f := 160) (T := 32) (ov := 188) (e := 108) (te := ⟨true, [.str, .int .i64, .int .i64], 0, 32, [(0, 9), (1, 3), (2, 3)]⟩) (fn := Tryz.f160) (fo := Tryz.f188) (c := bodyOf Tryz.f160) (tR := 4) (by kernel_rfl) (by kernel_rfl) (by kernel_rfl) (by kernel_rfl) (by kernel_rfl) (hT 108 _ (by kernel_rfl)) (by kernel_rfl) (by kernel_rfl) (by kernel_rfl)
  (by kernel_rfl) (by kernel_rfl) (by kernel_rfl) (by kernel_rfl) (by kernel_rfl) w160 rfl
noncomputable def r107_0 (t6 : (List R108)) (t7 : Int) (b3 : R93) : Option (Sum ((List R108) × Int × R93 × Unit) (Sum ((List R108) × Int × R93 × Unit) Unit)) :=
 cond (ltI t7 (lenI t6)) (
 cond (inB t7 t6) (
 cond (ltS (gt d108 t6 t7).1 b3.1) (
 some (.inl (t6, (addW .i64 t7 1), b3, ()))
 ) (
 some (.inr (.inl (t6, t7, b3, ())))
 )
 ) none
 ) (
 some (.inr (.inl (t6, t7, b3, ())))
 )
noncomputable def l107_0 (t6 : (List R108)) (t7 : Int) (b3 : R93) : Option (Sum ((List R108) × Int × R93 × Unit) Unit) := loopF (fun (x : ((List R108) × Int × R93 × Unit)) => r107_0 x.1 x.2.1 x.2.2.1) (t6, t7, b3, ())
noncomputable def g107 (p0 : (List R108)) (p1 : R93) : Option (Unit × (((List R108) × Unit) × (Bool × Unit) × Unit)) :=
 Option.bind (g127 p0) fun y1 =>
 cond (!y1.2.1.1) (
 some ((), (([], ()), (false, ()), ()))
 ) (
 Option.bind (g110 p0 p1.1) fun y2 =>
 Option.bind (l107_0 y2.2.1.1 0 p1) (Sum.elim (fun y3 =>
 Option.bind (g160 y3.1 y3.2.1 [y3.2.2.1]) fun y4 =>
 Option.bind (g127 y4.2.1.1) fun y5 =>
 cond (!y5.2.1.1) (
 some ((), (([], ()), (false, ()), ()))
 ) (
 some ((), (y4.2.1, (true, ()), ()))
 )
 ) (fun y3 =>
 none
 ))
 )
noncomputable def s107 : Su := ⟨[.c false [.sl 108 kk108], .c true kk93], [(false, [.sl 108 kk108]), (false, [.bool])], true, .inl fun x => g107 x.1.1 x.2.1⟩
theorem ok107 : SuOK Tryz.prog 107 s107 :=
 fl (ac ok127 (ac ok110 (ac ok160 an))) [] [(0, ⟨[.own 6 (.sl 108 kk108), .d 7 (.int .i64), .box 3 [(false, .str), (false, .int .i64), (false, .int .i64)]], fun x => loopF (fun x => r107_0 x.1 x.2.1 x.2.2.1) x⟩)] [] Tryz.f107 (by kernel_rfl) (lp [0] (by kernel_rfl) (sc rfl (fun x => by kernel_rfl) (lp [] (by kernel_rfl) sn) sn)) fun x => by kernel_rfl
noncomputable def g108 (p0 : (Int × Int × (List R3) × (List R3) × Unit)) (p1 : Int) (p2 : Int) : Option (Unit × ((Int × Int × (List R3) × (List R3) × Unit) × Unit)) :=
 Option.bind (g128 p0) fun y1 =>
 cond (!y1.2.1.1) (
 let u1 := (g154 p0)
 Option.bind u1 fun y2 =>
 some ((), (y2.2.1, ()))
 ) (
 Option.bind (g45 p1) fun y2 =>
 cond (!y2.2.1.1) (
 let u1 := (g154 p0)
 Option.bind u1 fun y3 =>
 some ((), (y3.2.1, ()))
 ) (
 Option.bind (g126 p2) fun y3 =>
 cond (!y3.2.1.1) (
 let u1 := (g154 p0)
 Option.bind u1 fun y4 =>
 some ((), (y4.2.1, ()))
 ) (
 Option.bind (g161 p0 p1) fun y4 =>
 cond (inB 0 y4.2.1.2.2.1) (
 Option.bind (g130 (gt d3 y4.2.1.2.2.1 0).1 1) fun y5 =>
 cond (inB 0 y4.2.1.2.2.2.1) (
 Option.bind (g130 (gt d3 y4.2.1.2.2.2.1 0).1 p2) fun y6 =>
 cond (inB 0 y4.2.1.2.2.1) (
 cond (inB 0 y4.2.1.2.2.2.1) (
 some ((), ((y4.2.1.1, y4.2.1.2.1, (stI y4.2.1.2.2.1 0 y5.2.1), (stI y4.2.1.2.2.2.1 0 y6.2.1), ()), ()))
 ) none
 ) none
 ) none
 ) none
 )
 )
 )
noncomputable def s108 : Su := ⟨[.c true [.int .i64, .int .i64, .sl 3 kk3, .sl 3 kk3], .c false kk3, .c false kk3], [(true, [.int .i64, .int .i64, .sl 3 kk3, .sl 3 kk3])], true, .inl fun x => g108 x.1 x.2.1.1 x.2.2.1.1⟩
def rh108 : List SE := []
noncomputable def lo108 : Nat → Option (Lo rh108)
 | _ => none
noncomputable def ga108 : List (Nat × Su) := [(126, s126), (45, s45), (128, s128), (130, s130), (154, s154), (161, s161)]
noncomputable def EL108 : En := ⟨44, tt, gaOf ga108, rh108, lo108, [], fun _ => none⟩
noncomputable def rg108 : Nat → Option (St → Tr St)
 | 4 => some (lateT EL108 (opsOf (regOf 4 (bodyOf Tryz.f108))) 16 [2, 3])
 | _ => none
noncomputable def E108 : En := ⟨44, tt, gaOf ga108, rh108, lo108, [], rg108⟩
theorem t108 (x : PT s108.ps) : (fnT E108 (bodyOf Tryz.f108) Tryz.f108.results.toList s108.ps s108.rs true x).run = g108 x.1 x.2.1.1 x.2.2.1.1 := by kernel_rfl
theorem hga108 : GAok Tryz.prog E108 := gaok_of (l := ga108) ⟨ok126, ok45, ok128, ok130, ok154, ok161, trivial⟩
theorem hgaL108_4 : GAok Tryz.prog EL108 := gaok_of (l := ga108) ⟨ok126, ok45, ok128, ok130, ok154, ok161, trivial⟩
theorem R108_4 : RegSem Tryz.prog E108 (regOf 4 (bodyOf Tryz.f108)) (lateT EL108 (opsOf (regOf 4 (bodyOf Tryz.f108))) 16 [2, 3]) :=
 regSem_rg rfl rfl (late_of (E := EL108) (hTT hT) hgaL108_4 hmix (c := (regOf 4 (bodyOf Tryz.f108))) (id := 4) (by kernel_rfl))
theorem ok108 : SuOK Tryz.prog 108 s108 :=
 fn_ok (E := E108) (hTT hT) hga108 hmix (fn := Tryz.f108) (c := (bodyOf Tryz.f108)) (by kernel_rfl) (by kernel_rfl) (by kernel_rfl) rfl (loopsOK_reg [] (by kernel_rfl) trivial [(4, regOf 4 (bodyOf Tryz.f108))] (by kernel_rfl) ⟨regL rfl R108_4, trivial⟩) fun x y h => ⟨y.1, fun _ => rfl, (t108 x).trans h⟩
noncomputable def g48 (p0 : R36) (p1 : (List UInt8)) (p2 : Int) (p3 : Int) (p4 : Int) : Option (Unit × (R36 × R3 × Unit)) :=
 Option.bind (g29 p0 p4) fun y1 =>
 cond (!(eqI y1.2.2.1.1 0)) (
 some ((), (([], 0, 0, 0, 0, [], 0, 0, [], [], [], ()), (1, ()), ()))
 ) (
 Option.bind (g100 p1) fun y2 =>
 cond (!y2.2.1.1) (
 some ((), (([], 0, 0, 0, 0, [], 0, 0, [], [], [], ()), (1, ()), ()))
 ) (
 Option.bind (g76 p2 1 9007199254740992) fun y3 =>
 cond (!y3.2.1.1) (
 some ((), (([], 0, 0, 0, 0, [], 0, 0, [], [], [], ()), (4, ()), ()))
 ) (
 Option.bind (g76 p3 1 9999) fun y4 =>
 let u1 := (addW .i64 p4 p3)
 cond (cond (!y4.2.1.1) true (ltI 1000000000 u1)) (
 some ((), (([], 0, 0, 0, 0, [], 0, 0, [], [], [], ()), (4, ()), ()))
 ) (
 Option.bind (g105 y1.2.1.2.2.2.2.2.1 p1) fun y5 =>
 cond (leI 0 y5.2.1.1) (
 some ((), (([], 0, 0, 0, 0, [], 0, 0, [], [], [], ()), (6, ()), ()))
 ) (
 cond (eqI (lenI y1.2.1.2.2.2.2.2.1) 4) (
 some ((), (([], 0, 0, 0, 0, [], 0, 0, [], [], [], ()), (10, ()), ()))
 ) (
 Option.bind (g106 y1.2.1 p2 p4) fun y6 =>
 cond (!(eqI y6.2.1.1 0)) (
 some ((), (([], 0, 0, 0, 0, [], 0, 0, [], [], [], ()), y6.2.1, ()))
 ) (
 Option.bind (g107 y1.2.1.2.2.2.2.2.1 (p1, p2, u1, ())) fun y7 =>
 Option.bind (g108 (y1.2.1.2.2.2.2.2.2.1, y1.2.1.2.2.2.2.2.2.2.1, y1.2.1.2.2.2.2.2.2.2.2.1, y1.2.1.2.2.2.2.2.2.2.2.2.1, ()) p4 p2) fun y8 =>
 some ((), ((y1.2.1.1, y1.2.1.2.1, y1.2.1.2.2.1, y1.2.1.2.2.2.1, y1.2.1.2.2.2.2.1, y7.2.1.1, y8.2.1.1, y8.2.1.2.1, y8.2.1.2.2.1, y8.2.1.2.2.2.1, y1.2.1.2.2.2.2.2.2.2.2.2.2.1, ()), (0, ()), ()))
 )
 )
 )
 )
 )
 )
 )
noncomputable def s48 : Su := ⟨[.c true kk36, .c false [.str], .c false kk3, .c false kk3, .c false kk3], [(true, kk36), (false, kk3)], true, .inl fun x => g48 x.1 x.2.1.1 x.2.2.1.1 x.2.2.2.1.1 x.2.2.2.2.1.1⟩
theorem ok48 : SuOK Tryz.prog 48 s48 :=
 fq (ac ok76 (ac ok100 (ac ok29 (ac ok105 (ac ok106 (ac ok107 (ac ok108 an))))))) Tryz.f48 (by kernel_rfl) fun x => by kernel_rfl
noncomputable def g109 (p0 : R36) (p1 : (List UInt8)) (p2 : Int) (p3 : Int) : Option (Unit × (R36 × R3 × R3 × Unit)) :=
 Option.bind (g29 p0 p3) fun y1 =>
 Option.bind (g105 y1.2.1.2.2.2.2.2.1 p1) fun y2 =>
 cond (!(eqI y1.2.2.1.1 0)) (
 some ((), (([], 0, 0, 0, 0, [], 0, 0, [], [], [], ()), (0, ()), (1, ()), ()))
 ) (
 Option.bind (g100 p1) fun y3 =>
 cond (!y3.2.1.1) (
 some ((), (([], 0, 0, 0, 0, [], 0, 0, [], [], [], ()), (0, ()), (1, ()), ()))
 ) (
 Option.bind (g76 p2 1 9007199254740992) fun y4 =>
 cond (!y4.2.1.1) (
 some ((), (([], 0, 0, 0, 0, [], 0, 0, [], [], [], ()), (0, ()), (4, ()), ()))
 ) (
 cond (ltI y2.2.1.1 0) (
 some ((), (([], 0, 0, 0, 0, [], 0, 0, [], [], [], ()), (0, ()), (5, ()), ()))
 ) (
 some ((), (y1.2.1, y2.2.1, (0, ()), ()))
 )
 )
 )
 )
noncomputable def s109 : Su := ⟨[.c true kk36, .c false [.str], .c false kk3, .c false kk3], [(true, kk36), (false, kk3), (false, kk3)], true, .inl fun x => g109 x.1 x.2.1.1 x.2.2.1.1 x.2.2.2.1.1⟩
theorem ok109 : SuOK Tryz.prog 109 s109 :=
 fq (ac ok76 (ac ok100 (ac ok29 (ac ok105 an)))) Tryz.f109 (by kernel_rfl) fun x => by kernel_rfl
noncomputable def g49 (p0 : R36) (p1 : (List UInt8)) (p2 : Int) (p3 : Int) : Option (Unit × (R36 × R3 × Unit)) :=
 Option.bind (g109 p0 p1 p2 p3) fun y1 =>
 cond (eqI y1.2.2.2.1.1 0) (
 Option.bind (g106 y1.2.1 p2 p3) fun y2 =>
 cond (!(eqI y2.2.1.1 0)) (
 some ((), (([], 0, 0, 0, 0, [], 0, 0, [], [], [], ()), y2.2.1, ()))
 ) (
 cond (inB y1.2.2.1.1 y1.2.1.2.2.2.2.2.1) (
 cond (inB y1.2.2.1.1 y1.2.1.2.2.2.2.2.1) (
 let u1 := (g108 (y1.2.1.2.2.2.2.2.2.1, y1.2.1.2.2.2.2.2.2.2.1, y1.2.1.2.2.2.2.2.2.2.2.1, y1.2.1.2.2.2.2.2.2.2.2.2.1, ()) p3 p2)
 Option.bind u1 fun y3 =>
 let u2 := (gt d108 y1.2.1.2.2.2.2.2.1 y1.2.2.1.1)
 let u3 := (stI y1.2.1.2.2.2.2.2.1 y1.2.2.1.1 (u2.1, (addW .i64 u2.2.1 p2), u2.2.2.1, ()))
 some ((), ((y1.2.1.1, y1.2.1.2.1, y1.2.1.2.2.1, y1.2.1.2.2.2.1, y1.2.1.2.2.2.2.1, u3, y3.2.1.1, y3.2.1.2.1, y3.2.1.2.2.1, y3.2.1.2.2.2.1, y1.2.1.2.2.2.2.2.2.2.2.2.2.1, ()), (0, ()), ()))
 ) none
 ) none
 )
 ) (
 cond (!(eqI y1.2.2.2.1.1 0)) (
 some ((), (([], 0, 0, 0, 0, [], 0, 0, [], [], [], ()), y1.2.2.2.1, ()))
 ) (
 cond (inB y1.2.2.1.1 y1.2.1.2.2.2.2.2.1) (
 cond (inB y1.2.2.1.1 y1.2.1.2.2.2.2.2.1) (
 let u1 := (g108 (y1.2.1.2.2.2.2.2.2.1, y1.2.1.2.2.2.2.2.2.2.1, y1.2.1.2.2.2.2.2.2.2.2.1, y1.2.1.2.2.2.2.2.2.2.2.2.1, ()) p3 p2)
 Option.bind u1 fun y2 =>
 let u2 := (gt d108 y1.2.1.2.2.2.2.2.1 y1.2.2.1.1)
 let u3 := (stI y1.2.1.2.2.2.2.2.1 y1.2.2.1.1 (u2.1, (addW .i64 u2.2.1 p2), u2.2.2.1, ()))
 some ((), ((y1.2.1.1, y1.2.1.2.1, y1.2.1.2.2.1, y1.2.1.2.2.2.1, y1.2.1.2.2.2.2.1, u3, y2.2.1.1, y2.2.1.2.1, y2.2.1.2.2.1, y2.2.1.2.2.2.1, y1.2.1.2.2.2.2.2.2.2.2.2.2.1, ()), (0, ()), ()))
 ) none
 ) none
 )
 )
noncomputable def s49 : Su := ⟨[.c true kk36, .c false [.str], .c false kk3, .c false kk3], [(true, kk36), (false, kk3)], true, .inl fun x => g49 x.1 x.2.1.1 x.2.2.1.1 x.2.2.2.1.1⟩
theorem ok49 : SuOK Tryz.prog 49 s49 :=
 fq (ac ok106 (ac ok108 (ac ok109 an))) Tryz.f49 (by kernel_rfl) fun x => by kernel_rfl
noncomputable def g50 (p0 : R36) (p1 : (List UInt8)) (p2 : Int) (p3 : Bool) (p4 : Int) : Option (Unit × (R36 × R3 × Unit)) :=
 Option.bind (g109 p0 p1 p2 p4) fun y1 =>
 cond (eqI y1.2.2.2.1.1 0) (
 cond (inB y1.2.2.1.1 y1.2.1.2.2.2.2.2.1) (
 let u1 := (gt d108 y1.2.1.2.2.2.2.2.1 y1.2.2.1.1)
 cond (ltI u1.2.1 p2) (
 some ((), (([], 0, 0, 0, 0, [], 0, 0, [], [], [], ()), (7, ()), ()))
 ) (
 cond (!(eqI y1.2.2.2.1.1 0)) (
 some ((), (([], 0, 0, 0, 0, [], 0, 0, [], [], [], ()), y1.2.2.2.1, ()))
 ) (
 cond (inB y1.2.2.1.1 y1.2.1.2.2.2.2.2.1) (
 cond (inB y1.2.2.1.1 y1.2.1.2.2.2.2.2.1) (
 let u2 := (stI y1.2.1.2.2.2.2.2.1 y1.2.2.1.1 (u1.1, (subW .i64 u1.2.1 p2), u1.2.2.1, ()))
 cond (inB y1.2.2.1.1 u2) (
 let u3 := (cond (eqI (gt d108 u2 y1.2.2.1.1).2.1 0) true p3)
 cond u3 (
 let u4 := (g110 u2 p1)
 Option.bind u4 fun y2 =>
 let u5 := (addW .i64 y1.2.1.2.2.1 p2)
 some ((), ((y1.2.1.1, y1.2.1.2.1, u5, y1.2.1.2.2.2.1, y1.2.1.2.2.2.2.1, y2.2.1.1, y1.2.1.2.2.2.2.2.2.1, y1.2.1.2.2.2.2.2.2.2.1, y1.2.1.2.2.2.2.2.2.2.2.1, y1.2.1.2.2.2.2.2.2.2.2.2.1, y1.2.1.2.2.2.2.2.2.2.2.2.2.1, ()), (0, ()), ()))
 ) (
 let u4 := (addW .i64 y1.2.1.2.2.1 p2)
 some ((), ((y1.2.1.1, y1.2.1.2.1, u4, y1.2.1.2.2.2.1, y1.2.1.2.2.2.2.1, u2, y1.2.1.2.2.2.2.2.2.1, y1.2.1.2.2.2.2.2.2.2.1, y1.2.1.2.2.2.2.2.2.2.2.1, y1.2.1.2.2.2.2.2.2.2.2.2.1, y1.2.1.2.2.2.2.2.2.2.2.2.2.1, ()), (0, ()), ()))
 )
 ) none
 ) none
 ) none
 )
 )
 ) none
 ) (
 cond (!(eqI y1.2.2.2.1.1 0)) (
 some ((), (([], 0, 0, 0, 0, [], 0, 0, [], [], [], ()), y1.2.2.2.1, ()))
 ) (
 cond (inB y1.2.2.1.1 y1.2.1.2.2.2.2.2.1) (
 cond (inB y1.2.2.1.1 y1.2.1.2.2.2.2.2.1) (
 let u1 := (gt d108 y1.2.1.2.2.2.2.2.1 y1.2.2.1.1)
 let u2 := (stI y1.2.1.2.2.2.2.2.1 y1.2.2.1.1 (u1.1, (subW .i64 u1.2.1 p2), u1.2.2.1, ()))
 cond (inB y1.2.2.1.1 u2) (
 let u3 := (cond (eqI (gt d108 u2 y1.2.2.1.1).2.1 0) true p3)
 cond u3 (
 let u4 := (g110 u2 p1)
 Option.bind u4 fun y2 =>
 let u5 := (addW .i64 y1.2.1.2.2.1 p2)
 some ((), ((y1.2.1.1, y1.2.1.2.1, u5, y1.2.1.2.2.2.1, y1.2.1.2.2.2.2.1, y2.2.1.1, y1.2.1.2.2.2.2.2.2.1, y1.2.1.2.2.2.2.2.2.2.1, y1.2.1.2.2.2.2.2.2.2.2.1, y1.2.1.2.2.2.2.2.2.2.2.2.1, y1.2.1.2.2.2.2.2.2.2.2.2.2.1, ()), (0, ()), ()))
 ) (
 let u4 := (addW .i64 y1.2.1.2.2.1 p2)
 some ((), ((y1.2.1.1, y1.2.1.2.1, u4, y1.2.1.2.2.2.1, y1.2.1.2.2.2.2.1, u2, y1.2.1.2.2.2.2.2.2.1, y1.2.1.2.2.2.2.2.2.2.1, y1.2.1.2.2.2.2.2.2.2.2.1, y1.2.1.2.2.2.2.2.2.2.2.2.1, y1.2.1.2.2.2.2.2.2.2.2.2.2.1, ()), (0, ()), ()))
 )
 ) none
 ) none
 ) none
 )
 )
noncomputable def s50 : Su := ⟨[.c true kk36, .c false [.str], .c false kk3, .c false [.bool], .c false kk3], [(true, kk36), (false, kk3)], true, .inl fun x => g50 x.1 x.2.1.1 x.2.2.1.1 x.2.2.2.1.1 x.2.2.2.2.1.1⟩
theorem ok50 : SuOK Tryz.prog 50 s50 :=
 fq (ac ok110 (ac ok109 an)) Tryz.f50 (by kernel_rfl) fun x => by kernel_rfl
noncomputable def g51 (p0 : R36) (p1 : (List UInt8)) (p2 : Int) : Option (Unit × (R36 × R3 × Unit)) :=
 Option.bind (g109 p0 p1 1 p2) fun y1 =>
 cond (!(eqI y1.2.2.2.1.1 0)) (
 some ((), (([], 0, 0, 0, 0, [], 0, 0, [], [], [], ()), y1.2.2.2.1, ()))
 ) (
 Option.bind (g110 y1.2.1.2.2.2.2.2.1 p1) fun y2 =>
 some ((), ((y1.2.1.1, y1.2.1.2.1, y1.2.1.2.2.1, y1.2.1.2.2.2.1, y1.2.1.2.2.2.2.1, y2.2.1.1, y1.2.1.2.2.2.2.2.2.1, y1.2.1.2.2.2.2.2.2.2.1, y1.2.1.2.2.2.2.2.2.2.2.1, y1.2.1.2.2.2.2.2.2.2.2.2.1, y1.2.1.2.2.2.2.2.2.2.2.2.2.1, ()), (0, ()), ()))
 )
noncomputable def s51 : Su := ⟨[.c true kk36, .c false [.str], .c false kk3], [(true, kk36), (false, kk3)], true, .inl fun x => g51 x.1 x.2.1.1 x.2.2.1.1⟩
theorem ok51 : SuOK Tryz.prog 51 s51 :=
 fq (ac ok110 (ac ok109 an)) Tryz.f51 (by kernel_rfl) fun x => by kernel_rfl
noncomputable def g52 (p0 : R36) (p1 : R36) (p2 : (List UInt8)) (p3 : Int) : Option (Unit × (R36 × R36 × R3 × Unit)) :=
 Option.bind (g29 p0 p3) fun y1 =>
 Option.bind (g29 p1 p3) fun y2 =>
 Option.bind (g105 y1.2.1.2.2.2.2.2.1 p2) fun y3 =>
 cond (cond (!(eqI y1.2.2.1.1 0)) true (!(eqI y2.2.2.1.1 0))) (
 some ((), (([], 0, 0, 0, 0, [], 0, 0, [], [], [], ()), ([], 0, 0, 0, 0, [], 0, 0, [], [], [], ()), (1, ()), ()))
 ) (
 Option.bind (g100 p2) fun y4 =>
 cond (!y4.2.1.1) (
 some ((), (([], 0, 0, 0, 0, [], 0, 0, [], [], [], ()), ([], 0, 0, 0, 0, [], 0, 0, [], [], [], ()), (1, ()), ()))
 ) (
 cond (eqS p0.1 p1.1) (
 some ((), (([], 0, 0, 0, 0, [], 0, 0, [], [], [], ()), ([], 0, 0, 0, 0, [], 0, 0, [], [], [], ()), (4, ()), ()))
 ) (
 cond (ltI y3.2.1.1 0) (
 some ((), (([], 0, 0, 0, 0, [], 0, 0, [], [], [], ()), ([], 0, 0, 0, 0, [], 0, 0, [], [], [], ()), (5, ()), ()))
 ) (
 Option.bind (g105 y2.2.1.2.2.2.2.2.1 p2) fun y5 =>
 cond (leI 0 y5.2.1.1) (
 some ((), (([], 0, 0, 0, 0, [], 0, 0, [], [], [], ()), ([], 0, 0, 0, 0, [], 0, 0, [], [], [], ()), (6, ()), ()))
 ) (
 cond (eqI (lenI y2.2.1.2.2.2.2.2.1) 4) (
 some ((), (([], 0, 0, 0, 0, [], 0, 0, [], [], [], ()), ([], 0, 0, 0, 0, [], 0, 0, [], [], [], ()), (10, ()), ()))
 ) (
 cond (inB y3.2.1.1 y1.2.1.2.2.2.2.2.1) (
 Option.bind (g31 y2.2.1 p3) fun y6 =>
 let u1 := (gt d108 y1.2.1.2.2.2.2.2.1 y3.2.1.1)
 cond (ltI y6.2.1.1 u1.2.1) (
 some ((), (([], 0, 0, 0, 0, [], 0, 0, [], [], [], ()), ([], 0, 0, 0, 0, [], 0, 0, [], [], [], ()), (7, ()), ()))
 ) (
 cond (inB y3.2.1.1 y1.2.1.2.2.2.2.2.1) (
 Option.bind (g107 y2.2.1.2.2.2.2.2.1 u1) fun y7 =>
 Option.bind (g110 y1.2.1.2.2.2.2.2.1 p2) fun y8 =>
 some ((), ((y1.2.1.1, y1.2.1.2.1, y1.2.1.2.2.1, y1.2.1.2.2.2.1, y1.2.1.2.2.2.2.1, y8.2.1.1, y1.2.1.2.2.2.2.2.2.1, y1.2.1.2.2.2.2.2.2.2.1, y1.2.1.2.2.2.2.2.2.2.2.1, y1.2.1.2.2.2.2.2.2.2.2.2.1, y1.2.1.2.2.2.2.2.2.2.2.2.2.1, ()), (y2.2.1.1, y2.2.1.2.1, y2.2.1.2.2.1, y2.2.1.2.2.2.1, y2.2.1.2.2.2.2.1, y7.2.1.1, y2.2.1.2.2.2.2.2.2.1, y2.2.1.2.2.2.2.2.2.2.1, y2.2.1.2.2.2.2.2.2.2.2.1, y2.2.1.2.2.2.2.2.2.2.2.2.1, y2.2.1.2.2.2.2.2.2.2.2.2.2.1, ()), (0, ()), ()))
 ) none
 )
 ) none
 )
 )
 )
 )
 )
 )
noncomputable def s52 : Su := ⟨[.c true kk36, .c true kk36, .c false [.str], .c false kk3], [(true, kk36), (true, kk36), (false, kk3)], true, .inl fun x => g52 x.1 x.2.1 x.2.2.1.1 x.2.2.2.1.1⟩
def rh52 : List SE := []
noncomputable def lo52 : Nat → Option (Lo rh52)
 | _ => none
noncomputable def ga52 : List (Nat × Su) := [(100, s100), (29, s29), (105, s105), (31, s31), (110, s110), (107, s107)]
noncomputable def EL52 : En := ⟨100, tt, gaOf ga52, rh52, lo52, [], fun _ => none⟩
noncomputable def rg52 : Nat → Option (St → Tr St)
 | 19 => some (hoistT EL52 (opsOf (regOf 19 (bodyOf Tryz.f52))) [(12, 10)])
 | 21 => some (lateT EL52 (opsOf (regOf 21 (bodyOf Tryz.f52))) 2 [1])
 | _ => none
noncomputable def E52 : En := ⟨100, tt, gaOf ga52, rh52, lo52, [], rg52⟩
theorem t52 (x : PT s52.ps) : (fnT E52 (bodyOf Tryz.f52) Tryz.f52.results.toList s52.ps s52.rs true x).run = g52 x.1 x.2.1 x.2.2.1.1 x.2.2.2.1.1 := by kernel_rfl
theorem hga52 : GAok Tryz.prog E52 := gaok_of (l := ga52) ⟨ok100, ok29, ok105, ok31, ok110, ok107, trivial⟩
theorem hgaL52_19 : GAok Tryz.prog EL52 := gaok_of (l := ga52) ⟨ok100, ok29, ok105, ok31, ok110, ok107, trivial⟩
theorem R52_19 : RegSem Tryz.prog E52 (regOf 19 (bodyOf Tryz.f52)) (hoistT EL52 (opsOf (regOf 19 (bodyOf Tryz.f52))) [(12, 10)]) :=
 regSem_rg rfl rfl (hoist_of (E := EL52) (hTT hT) hgaL52_19 hmix (c := (regOf 19 (bodyOf Tryz.f52))) (id := 19) (by kernel_rfl))
theorem hgaL52_21 : GAok Tryz.prog EL52 := gaok_of (l := ga52) ⟨ok100, ok29, ok105, ok31, ok110, ok107, trivial⟩
theorem R52_21 : RegSem Tryz.prog E52 (regOf 21 (bodyOf Tryz.f52)) (lateT EL52 (opsOf (regOf 21 (bodyOf Tryz.f52))) 2 [1]) :=
 regSem_rg rfl rfl (late_of (E := EL52) (hTT hT) hgaL52_21 hmix (c := (regOf 21 (bodyOf Tryz.f52))) (id := 21) (by kernel_rfl))
theorem ok52 : SuOK Tryz.prog 52 s52 :=
 fn_ok (E := E52) (hTT hT) hga52 hmix (fn := Tryz.f52) (c := (bodyOf Tryz.f52)) (by kernel_rfl) (by kernel_rfl) (by kernel_rfl) rfl (loopsOK_reg [] (by kernel_rfl) trivial [(19, regOf 19 (bodyOf Tryz.f52)), (21, regOf 21 (bodyOf Tryz.f52))] (by kernel_rfl) ⟨regL rfl R52_19, regL rfl R52_21, trivial⟩) fun x y h => ⟨y.1, fun _ => rfl, (t52 x).trans h⟩
noncomputable def g75 (p0 : Int) : Option (Unit × (R9 × Unit)) := itoaG p0
noncomputable def s75 : Su := ⟨[.c false kk3], [(false, [.str])], true, .inl fun x => g75 x.1.1⟩
theorem ok75 : SuOK Tryz.prog 75 s75 := itoa_ok lay_LaysM_n171 rfl (fn := Tryz.f75) (c := bodyOf Tryz.f75) (by kernel_rfl) (by kernel_rfl) (by kernel_rfl)
noncomputable def g77 (p0 : (List UInt8)) (p1 : Int) : Option (Unit × (R9 × Unit)) := repeatG p0 p1
noncomputable def s77 : Su := ⟨[.c false [.str], .c false kk3], [(false, [.str])], true, .inl fun x => g77 x.1.1 x.2.1.1⟩
theorem ok77 : SuOK Tryz.prog 77 s77 := repeat_ok lay_Lays_n105 lay_Builder_Extra rfl (fn := Tryz.f77) (c := bodyOf Tryz.f77) (by kernel_rfl) (by kernel_rfl) (by kernel_rfl)
noncomputable def g30 (p0 : Int) (p1 : Int) : Option (Unit × (R9 × Unit)) :=
 Option.bind (g75 p0) fun y1 =>
 cond (ltI p0 0) (
 some ((), (([], ()), ()))
 ) (
 Option.bind (g76 p1 1 18) fun y2 =>
 let u1 := (lenI y1.2.1.1)
 cond (cond (!y2.2.1.1) true (ltI p1 u1)) (
 some ((), (([], ()), ()))
 ) (
 Option.bind (g77 [48] (subW .i64 p1 u1)) fun y3 =>
 cond (fitS y3.2.1.1 y1.2.1.1) (
 some ((), (((apS y3.2.1.1 y1.2.1.1), ()), ()))
 ) none
 )
 )
noncomputable def s30 : Su := ⟨[.c false kk3, .c false kk3], [(false, [.str])], true, .inl fun x => g30 x.1.1 x.2.1.1⟩
theorem ok30 : SuOK Tryz.prog 30 s30 :=
 fq (ac ok76 (ac ok75 (ac ok77 an))) Tryz.f30 (by kernel_rfl) fun x => by kernel_rfl
noncomputable def g8 (p0 : R36) (p1 : Int) : Option (Unit × (R9 × R3 × Unit)) :=
 Option.bind (g29 p0 p1) fun y1 =>
 cond (!(eqI y1.2.2.1.1 0)) (
 some ((), (([], ()), y1.2.2.1, ()))
 ) (
 Option.bind (g31 y1.2.1 p1) fun y2 =>
 Option.bind (g30 y2.2.1.1 16) fun y3 =>
 cond (fitS y3.2.1.1 [32]) (
 Option.bind (g30 y1.2.1.2.2.1 16) fun y4 =>
 let u1 := (apS y3.2.1.1 [32])
 cond (fitS u1 y4.2.1.1) (
 some ((), (((apS u1 y4.2.1.1), ()), (0, ()), ()))
 ) none
 ) none
 )
noncomputable def s8 : Su := ⟨[.c true kk36, .c false kk3], [(false, [.str]), (false, kk3)], true, .inl fun x => g8 x.1 x.2.1.1⟩
theorem ok8 : SuOK Tryz.prog 8 s8 :=
 fq (ac ok29 (ac ok31 (ac ok30 an))) Tryz.f8 (by kernel_rfl) fun x => by kernel_rfl
noncomputable def g53 (p0 : R36) (p1 : Int) : Option (Unit × (R36 × R3 × Unit)) :=
 Option.bind (g29 p0 p1) fun y1 =>
 some ((), (y1.2.1, y1.2.2.1, ()))
noncomputable def s53 : Su := ⟨[.c true kk36, .c false kk3], [(true, kk36), (false, kk3)], true, .inl fun x => g53 x.1 x.2.1.1⟩
theorem ok53 : SuOK Tryz.prog 53 s53 :=
 fq (ac ok29 an) Tryz.f53 (by kernel_rfl) fun x => by kernel_rfl
noncomputable def g15 (p0 : ((List R36) × Unit)) (p1 : (Int × (List UInt8) × (List UInt8) × (List UInt8) × (List UInt8) × (List UInt8) × Int × Int × Unit)) (p2 : Int) : Option (Unit × (((List R36) × Unit) × R3 × R9 × Unit)) :=
 Option.bind (g43 p0) fun y1 =>
 cond (!y1.2.1.1) (
 some ((), (([], ()), (1, ()), ([], ()), ()))
 ) (
 Option.bind (g44 p1) fun y2 =>
 cond (!y2.2.1.1) (
 some ((), (([], ()), (1, ()), ([], ()), ()))
 ) (
 Option.bind (g45 p2) fun y3 =>
 cond (!y3.2.1.1) (
 some ((), (([], ()), (1, ()), ([], ()), ()))
 ) (
 Option.bind (g46 p0 p1.2.1) fun y4 =>
 cond (eqI p1.1 6) (
 Option.bind (g46 p0 p1.2.2.1) fun y5 =>
 cond (ltI y4.2.1.1 0) (
 some ((), (([], ()), (3, ()), ([], ()), ()))
 ) (
 cond (cond (eqI p1.1 6) (ltI y5.2.1.1 0) false) (
 some ((), (([], ()), (3, ()), ([], ()), ()))
 ) (
 let u1 := (g47 p0)
 Option.bind u1 fun y6 =>
 cond (inB y4.2.1.1 y6.2.1.1) (
 cond (eqI p1.1 1) (
 let u2 := (gt d36 y6.2.1.1 y4.2.1.1)
 Option.bind (g48 u2 p1.2.2.2.1 p1.2.2.2.2.2.2.1 p1.2.2.2.2.2.2.2.1 p2) fun y7 =>
 cond (!(eqI y7.2.2.1.1 0)) (
 some ((), (([], ()), y7.2.2.1, ([], ()), ()))
 ) (
 cond (inB y4.2.1.1 y6.2.1.1) (
 some ((), (((stI y6.2.1.1 y4.2.1.1 y7.2.1), ()), (0, ()), ([], ()), ()))
 ) none
 )
 ) (
 cond (eqI p1.1 2) (
 let u2 := (gt d36 y6.2.1.1 y4.2.1.1)
 Option.bind (g49 u2 p1.2.2.2.1 p1.2.2.2.2.2.2.1 p2) fun y7 =>
 cond (!(eqI y7.2.2.1.1 0)) (
 some ((), (([], ()), y7.2.2.1, ([], ()), ()))
 ) (
 cond (inB y4.2.1.1 y6.2.1.1) (
 some ((), (((stI y6.2.1.1 y4.2.1.1 y7.2.1), ()), (0, ()), ([], ()), ()))
 ) none
 )
 ) (
 cond (eqI p1.1 3) (
 let u2 := (gt d36 y6.2.1.1 y4.2.1.1)
 let u3 := (g50 u2 p1.2.2.2.1 p1.2.2.2.2.2.2.1 (eqI p1.1 4) p2)
 Option.bind u3 fun y7 =>
 cond (!(eqI y7.2.2.1.1 0)) (
 some ((), (([], ()), y7.2.2.1, ([], ()), ()))
 ) (
 cond (inB y4.2.1.1 y6.2.1.1) (
 some ((), (((stI y6.2.1.1 y4.2.1.1 y7.2.1), ()), (0, ()), ([], ()), ()))
 ) none
 )
 ) (
 cond (eqI p1.1 4) (
 let u2 := (gt d36 y6.2.1.1 y4.2.1.1)
 let u3 := (g50 u2 p1.2.2.2.1 p1.2.2.2.2.2.2.1 (eqI p1.1 4) p2)
 Option.bind u3 fun y7 =>
 cond (!(eqI y7.2.2.1.1 0)) (
 some ((), (([], ()), y7.2.2.1, ([], ()), ()))
 ) (
 cond (inB y4.2.1.1 y6.2.1.1) (
 some ((), (((stI y6.2.1.1 y4.2.1.1 y7.2.1), ()), (0, ()), ([], ()), ()))
 ) none
 )
 ) (
 cond (eqI p1.1 5) (
 let u2 := (gt d36 y6.2.1.1 y4.2.1.1)
 Option.bind (g51 u2 p1.2.2.2.1 p2) fun y7 =>
 cond (!(eqI y7.2.2.1.1 0)) (
 some ((), (([], ()), y7.2.2.1, ([], ()), ()))
 ) (
 cond (inB y4.2.1.1 y6.2.1.1) (
 some ((), (((stI y6.2.1.1 y4.2.1.1 y7.2.1), ()), (0, ()), ([], ()), ()))
 ) none
 )
 ) (
 cond (eqI p1.1 6) (
 cond (inB y5.2.1.1 y6.2.1.1) (
 let u2 := (gt d36 y6.2.1.1 y4.2.1.1)
 Option.bind (g52 u2 (gt d36 y6.2.1.1 y5.2.1.1) p1.2.2.2.1 p2) fun y7 =>
 cond (inB y5.2.1.1 y6.2.1.1) (
 cond (!(eqI y7.2.2.2.1.1 0)) (
 some ((), (([], ()), y7.2.2.2.1, ([], ()), ()))
 ) (
 let u3 := (stI y6.2.1.1 y5.2.1.1 y7.2.2.1)
 cond (inB y4.2.1.1 u3) (
 some ((), (((stI u3 y4.2.1.1 y7.2.1), ()), (0, ()), ([], ()), ()))
 ) none
 )
 ) none
 ) none
 ) (
 cond (eqI p1.1 7) (
 let u2 := (gt d36 y6.2.1.1 y4.2.1.1)
 Option.bind (g8 u2 p2) fun y7 =>
 cond (!(eqI y7.2.2.1.1 0)) (
 some ((), (([], ()), y7.2.2.1, ([], ()), ()))
 ) (
 cond (inB y4.2.1.1 y6.2.1.1) (
 let u3 := (selfN 4 y4.2.1.1 y4.2.1.1)
 cond u3 (
 some ((), (((stI y6.2.1.1 y4.2.1.1 u2), ()), (0, ()), y7.2.1, ()))
 ) none
 ) none
 )
 ) (
 let u2 := (gt d36 y6.2.1.1 y4.2.1.1)
 Option.bind (g53 u2 p2) fun y7 =>
 cond (!(eqI y7.2.2.1.1 0)) (
 some ((), (([], ()), y7.2.2.1, ([], ()), ()))
 ) (
 cond (inB y4.2.1.1 y6.2.1.1) (
 some ((), (((stI y6.2.1.1 y4.2.1.1 y7.2.1), ()), (0, ()), ([], ()), ()))
 ) none
 )
 )
 )
 )
 )
 )
 )
 )
 ) none
 )
 )
 ) (
 cond (ltI y4.2.1.1 0) (
 some ((), (([], ()), (3, ()), ([], ()), ()))
 ) (
 cond (cond (eqI p1.1 6) (ltI (-1) 0) false) (
 some ((), (([], ()), (3, ()), ([], ()), ()))
 ) (
 let u1 := (g47 p0)
 Option.bind u1 fun y5 =>
 cond (inB y4.2.1.1 y5.2.1.1) (
 cond (eqI p1.1 1) (
 let u2 := (gt d36 y5.2.1.1 y4.2.1.1)
 Option.bind (g48 u2 p1.2.2.2.1 p1.2.2.2.2.2.2.1 p1.2.2.2.2.2.2.2.1 p2) fun y6 =>
 cond (!(eqI y6.2.2.1.1 0)) (
 some ((), (([], ()), y6.2.2.1, ([], ()), ()))
 ) (
 cond (inB y4.2.1.1 y5.2.1.1) (
 some ((), (((stI y5.2.1.1 y4.2.1.1 y6.2.1), ()), (0, ()), ([], ()), ()))
 ) none
 )
 ) (
 cond (eqI p1.1 2) (
 let u2 := (gt d36 y5.2.1.1 y4.2.1.1)
 Option.bind (g49 u2 p1.2.2.2.1 p1.2.2.2.2.2.2.1 p2) fun y6 =>
 cond (!(eqI y6.2.2.1.1 0)) (
 some ((), (([], ()), y6.2.2.1, ([], ()), ()))
 ) (
 cond (inB y4.2.1.1 y5.2.1.1) (
 some ((), (((stI y5.2.1.1 y4.2.1.1 y6.2.1), ()), (0, ()), ([], ()), ()))
 ) none
 )
 ) (
 cond (eqI p1.1 3) (
 let u2 := (gt d36 y5.2.1.1 y4.2.1.1)
 let u3 := (g50 u2 p1.2.2.2.1 p1.2.2.2.2.2.2.1 (eqI p1.1 4) p2)
 Option.bind u3 fun y6 =>
 cond (!(eqI y6.2.2.1.1 0)) (
 some ((), (([], ()), y6.2.2.1, ([], ()), ()))
 ) (
 cond (inB y4.2.1.1 y5.2.1.1) (
 some ((), (((stI y5.2.1.1 y4.2.1.1 y6.2.1), ()), (0, ()), ([], ()), ()))
 ) none
 )
 ) (
 cond (eqI p1.1 4) (
 let u2 := (gt d36 y5.2.1.1 y4.2.1.1)
 let u3 := (g50 u2 p1.2.2.2.1 p1.2.2.2.2.2.2.1 (eqI p1.1 4) p2)
 Option.bind u3 fun y6 =>
 cond (!(eqI y6.2.2.1.1 0)) (
 some ((), (([], ()), y6.2.2.1, ([], ()), ()))
 ) (
 cond (inB y4.2.1.1 y5.2.1.1) (
 some ((), (((stI y5.2.1.1 y4.2.1.1 y6.2.1), ()), (0, ()), ([], ()), ()))
 ) none
 )
 ) (
 cond (eqI p1.1 5) (
 let u2 := (gt d36 y5.2.1.1 y4.2.1.1)
 Option.bind (g51 u2 p1.2.2.2.1 p2) fun y6 =>
 cond (!(eqI y6.2.2.1.1 0)) (
 some ((), (([], ()), y6.2.2.1, ([], ()), ()))
 ) (
 cond (inB y4.2.1.1 y5.2.1.1) (
 some ((), (((stI y5.2.1.1 y4.2.1.1 y6.2.1), ()), (0, ()), ([], ()), ()))
 ) none
 )
 ) (
 cond (eqI p1.1 6) (
 cond (inB (-1) y5.2.1.1) (
 let u2 := (gt d36 y5.2.1.1 y4.2.1.1)
 Option.bind (g52 u2 (gt d36 y5.2.1.1 (-1)) p1.2.2.2.1 p2) fun y6 =>
 cond (inB (-1) y5.2.1.1) (
 cond (!(eqI y6.2.2.2.1.1 0)) (
 some ((), (([], ()), y6.2.2.2.1, ([], ()), ()))
 ) (
 let u3 := (stI y5.2.1.1 (-1) y6.2.2.1)
 cond (inB y4.2.1.1 u3) (
 some ((), (((stI u3 y4.2.1.1 y6.2.1), ()), (0, ()), ([], ()), ()))
 ) none
 )
 ) none
 ) none
 ) (
 cond (eqI p1.1 7) (
 let u2 := (gt d36 y5.2.1.1 y4.2.1.1)
 Option.bind (g8 u2 p2) fun y6 =>
 cond (!(eqI y6.2.2.1.1 0)) (
 some ((), (([], ()), y6.2.2.1, ([], ()), ()))
 ) (
 cond (inB y4.2.1.1 y5.2.1.1) (
 let u3 := (selfN 4 y4.2.1.1 y4.2.1.1)
 cond u3 (
 some ((), (((stI y5.2.1.1 y4.2.1.1 u2), ()), (0, ()), y6.2.1, ()))
 ) none
 ) none
 )
 ) (
 let u2 := (gt d36 y5.2.1.1 y4.2.1.1)
 Option.bind (g53 u2 p2) fun y6 =>
 cond (!(eqI y6.2.2.1.1 0)) (
 some ((), (([], ()), y6.2.2.1, ([], ()), ()))
 ) (
 cond (inB y4.2.1.1 y5.2.1.1) (
 some ((), (((stI y5.2.1.1 y4.2.1.1 y6.2.1), ()), (0, ()), ([], ()), ()))
 ) none
 )
 )
 )
 )
 )
 )
 )
 )
 ) none
 )
 )
 )
 )
 )
 )
noncomputable def s15 : Su := ⟨[.c true [.sl 36 kk36], .c true [.int .i64, .str, .str, .str, .str, .str, .int .i64, .int .i64], .c false kk3], [(true, [.sl 36 kk36]), (false, kk3), (false, [.str])], true, .inl fun x => g15 x.1 x.2.1 x.2.2.1.1⟩
def rh15 : List SE := []
noncomputable def lo15 : Nat → Option (Lo rh15)
 | _ => none
noncomputable def ga15 : List (Nat × Su) := [(45, s45), (43, s43), (44, s44), (46, s46), (47, s47), (48, s48), (49, s49), (50, s50), (51, s51), (52, s52), (8, s8), (53, s53)]
noncomputable def EL15 : En := ⟨158, tt, gaOf ga15, rh15, lo15, [], fun _ => none⟩
noncomputable def rg15 : Nat → Option (St → Tr St)
 | 22 => some (hlT EL15 (opsOf (regOf 22 (bodyOf Tryz.f15))) [(17, 2), (17, 15), (17, 16)] 17 [0, 1])
 | _ => none
noncomputable def E15 : En := ⟨158, tt, gaOf ga15, rh15, lo15, [], rg15⟩
theorem t15 (x : PT s15.ps) : (fnT E15 (bodyOf Tryz.f15) Tryz.f15.results.toList s15.ps s15.rs true x).run = g15 x.1 x.2.1 x.2.2.1.1 := by kernel_rfl
theorem hga15 : GAok Tryz.prog E15 := gaok_of (l := ga15) ⟨ok45, ok43, ok44, ok46, ok47, ok48, ok49, ok50, ok51, ok52, ok8, ok53, trivial⟩
theorem hgaL15_22 : GAok Tryz.prog EL15 := gaok_of (l := ga15) ⟨ok45, ok43, ok44, ok46, ok47, ok48, ok49, ok50, ok51, ok52, ok8, ok53, trivial⟩
theorem R15_22 : RegSem Tryz.prog E15 (regOf 22 (bodyOf Tryz.f15)) (hlT EL15 (opsOf (regOf 22 (bodyOf Tryz.f15))) [(17, 2), (17, 15), (17, 16)] 17 [0, 1]) :=
 regSem_rg rfl rfl (hl_of (E := EL15) (hTT hT) hgaL15_22 hmix (c := (regOf 22 (bodyOf Tryz.f15))) (id := 22) (by kernel_rfl))
theorem ok15 : SuOK Tryz.prog 15 s15 :=
 fn_ok (E := E15) (hTT hT) hga15 hmix (fn := Tryz.f15) (c := (bodyOf Tryz.f15)) (by kernel_rfl) (by kernel_rfl) (by kernel_rfl) rfl (loopsOK_reg [] (by kernel_rfl) trivial [(22, regOf 22 (bodyOf Tryz.f15))] (by kernel_rfl) ⟨regL rfl R15_22, trivial⟩) fun x y h => ⟨y.1, fun _ => rfl, (t15 x).trans h⟩
noncomputable def g79 (p0 : R93) (p1 : R93) : Option (Unit × ((Bool × Unit) × Unit)) :=
 cond (!(eqS p0.1 p1.1)) (
 some ((), ((false, ()), ()))
 ) (
 cond (!(eqI p0.2.1 p1.2.1)) (
 some ((), ((false, ()), ()))
 ) (
 cond (!(eqI p0.2.2.1 p1.2.2.1)) (
 some ((), ((false, ()), ()))
 ) (
 some ((), ((true, ()), ()))
 )
 )
 )
noncomputable def s79 : Su := ⟨[.c true kk93, .c true kk93], [(false, [.bool])], true, .inl fun x => g79 x.1 x.2.1⟩
theorem ok79 : SuOK Tryz.prog 79 s79 :=
 fq an Tryz.f79 (by kernel_rfl) fun x => by kernel_rfl
noncomputable def r32_0 (t0 : (List R108)) (t1 : (List R108)) (t5 : Int) : Option (Sum ((List R108) × (List R108) × Int × Unit) (Sum ((List R108) × (List R108) × Int × Unit) (Bool × Unit))) :=
 cond (ltI t5 (lenI t0)) (
 cond (inB t5 t0) (
 cond (inB t5 t1) (
 Option.bind (g79 (gt d108 t0 t5) (gt d108 t1 t5)) fun y1 =>
 cond (!y1.2.1.1) (
 some (.inr (.inr (false, ())))
 ) (
 some (.inl (t0, t1, (addW .i64 t5 1), ()))
 )
 ) none
 ) none
 ) (
 some (.inr (.inl (t0, t1, t5, ())))
 )
noncomputable def l32_0 (t0 : (List R108)) (t1 : (List R108)) (t5 : Int) : Option (Sum ((List R108) × (List R108) × Int × Unit) (Bool × Unit)) := loopF (fun (x : ((List R108) × (List R108) × Int × Unit)) => r32_0 x.1 x.2.1 x.2.2.1) (t0, t1, t5, ())
noncomputable def g32 (p0 : (List R108)) (p1 : (List R108)) : Option (Unit × ((Bool × Unit) × Unit)) :=
 cond (!(eqI (lenI p0) (lenI p1))) (
 some ((), ((false, ()), ()))
 ) (
 Option.bind (l32_0 p0 p1 0) (Sum.elim (fun y1 =>
 some ((), ((true, ()), ()))
 ) (fun y1 =>
 some ((), (y1, ()))
 ))
 )
noncomputable def s32 : Su := ⟨[.c false [.sl 108 kk108], .c false [.sl 108 kk108]], [(false, [.bool])], true, .inl fun x => g32 x.1.1 x.2.1.1⟩
theorem ok32 : SuOK Tryz.prog 32 s32 :=
 fl (ac ok79 an) [.d 4 (.bool)] [(0, ⟨[.d 0 (.sl 108 kk108), .d 1 (.sl 108 kk108), .d 5 (.int .i64)], fun x => loopF (fun x => r32_0 x.1 x.2.1 x.2.2.1) x⟩)] [] Tryz.f32 (by kernel_rfl) (lp [0] (by kernel_rfl) (sc rfl (fun x => by kernel_rfl) (lp [] (by kernel_rfl) sn) sn)) fun x => by kernel_rfl
noncomputable def r80_0 (t0 : (List R3)) (t1 : (List R3)) (t5 : Int) : Option (Sum ((List R3) × (List R3) × Int × Unit) (Sum ((List R3) × (List R3) × Int × Unit) (Bool × Unit))) :=
 cond (ltI t5 (lenI t0)) (
 cond (inB t5 t0) (
 cond (inB t5 t1) (
 cond (!(eqI (gt d3 t0 t5).1 (gt d3 t1 t5).1)) (
 some (.inr (.inr (false, ())))
 ) (
 some (.inl (t0, t1, (addW .i64 t5 1), ()))
 )
 ) none
 ) none
 ) (
 some (.inr (.inl (t0, t1, t5, ())))
 )
noncomputable def l80_0 (t0 : (List R3)) (t1 : (List R3)) (t5 : Int) : Option (Sum ((List R3) × (List R3) × Int × Unit) (Bool × Unit)) := loopF (fun (x : ((List R3) × (List R3) × Int × Unit)) => r80_0 x.1 x.2.1 x.2.2.1) (t0, t1, t5, ())
noncomputable def g80 (p0 : (List R3)) (p1 : (List R3)) : Option (Unit × ((Bool × Unit) × Unit)) :=
 cond (!(eqI (lenI p0) (lenI p1))) (
 some ((), ((false, ()), ()))
 ) (
 Option.bind (l80_0 p0 p1 0) (Sum.elim (fun y1 =>
 some ((), ((true, ()), ()))
 ) (fun y1 =>
 some ((), (y1, ()))
 ))
 )
noncomputable def s80 : Su := ⟨[.c false kk23, .c false kk23], [(false, [.bool])], true, .inl fun x => g80 x.1.1 x.2.1.1⟩
theorem ok80 : SuOK Tryz.prog 80 s80 :=
 fl an [.d 4 (.bool)] [(0, ⟨[.d 0 (.sl 3 kk3), .d 1 (.sl 3 kk3), .d 5 (.int .i64)], fun x => loopF (fun x => r80_0 x.1 x.2.1 x.2.2.1) x⟩)] [] Tryz.f80 (by kernel_rfl) (lp [0] (by kernel_rfl) (sc rfl (fun x => by kernel_rfl) (lp [] (by kernel_rfl) sn) sn)) fun x => by kernel_rfl
noncomputable def g33 (p0 : (Int × Int × (List R3) × (List R3) × Unit)) (p1 : (Int × Int × (List R3) × (List R3) × Unit)) : Option (Unit × ((Bool × Unit) × Unit)) :=
 cond (!(eqI p0.1 p1.1)) (
 some ((), ((false, ()), ()))
 ) (
 cond (!(eqI p0.2.1 p1.2.1)) (
 some ((), ((false, ()), ()))
 ) (
 Option.bind (g80 p0.2.2.1 p1.2.2.1) fun y1 =>
 cond (!y1.2.1.1) (
 some ((), ((false, ()), ()))
 ) (
 Option.bind (g80 p0.2.2.2.1 p1.2.2.2.1) fun y2 =>
 cond (!y2.2.1.1) (
 some ((), ((false, ()), ()))
 ) (
 some ((), ((true, ()), ()))
 )
 )
 )
 )
noncomputable def s33 : Su := ⟨[.c true [.int .i64, .int .i64, .sl 3 kk3, .sl 3 kk3], .c true [.int .i64, .int .i64, .sl 3 kk3, .sl 3 kk3]], [(false, [.bool])], true, .inl fun x => g33 x.1 x.2.1⟩
theorem ok33 : SuOK Tryz.prog 33 s33 :=
 fq (ac ok80 an) Tryz.f33 (by kernel_rfl) fun x => by kernel_rfl
noncomputable def r140_0 (t0 : (List R5)) (t1 : (List R5)) (t5 : Int) : Option (Sum ((List R5) × (List R5) × Int × Unit) (Sum ((List R5) × (List R5) × Int × Unit) (Bool × Unit))) :=
 cond (ltI t5 (lenI t0)) (
 cond (inB t5 t0) (
 cond (inB t5 t1) (
 cond (!(eqI (gt d5 t0 t5).1 (gt d5 t1 t5).1)) (
 some (.inr (.inr (false, ())))
 ) (
 some (.inl (t0, t1, (addW .i64 t5 1), ()))
 )
 ) none
 ) none
 ) (
 some (.inr (.inl (t0, t1, t5, ())))
 )
noncomputable def l140_0 (t0 : (List R5)) (t1 : (List R5)) (t5 : Int) : Option (Sum ((List R5) × (List R5) × Int × Unit) (Bool × Unit)) := loopF (fun (x : ((List R5) × (List R5) × Int × Unit)) => r140_0 x.1 x.2.1 x.2.2.1) (t0, t1, t5, ())
noncomputable def g140 (p0 : (List R5)) (p1 : (List R5)) : Option (Unit × ((Bool × Unit) × Unit)) :=
 cond (!(eqI (lenI p0) (lenI p1))) (
 some ((), ((false, ()), ()))
 ) (
 Option.bind (l140_0 p0 p1 0) (Sum.elim (fun y1 =>
 some ((), ((true, ()), ()))
 ) (fun y1 =>
 some ((), (y1, ()))
 ))
 )
noncomputable def s140 : Su := ⟨[.c false [.sl 5 kk5], .c false [.sl 5 kk5]], [(false, [.bool])], true, .inl fun x => g140 x.1.1 x.2.1.1⟩
theorem ok140 : SuOK Tryz.prog 140 s140 :=
 fl an [.d 4 (.bool)] [(0, ⟨[.d 0 (.sl 5 kk5), .d 1 (.sl 5 kk5), .d 5 (.int .i64)], fun x => loopF (fun x => r140_0 x.1 x.2.1 x.2.2.1) x⟩)] [] Tryz.f140 (by kernel_rfl) (lp [0] (by kernel_rfl) (sc rfl (fun x => by kernel_rfl) (lp [] (by kernel_rfl) sn) sn)) fun x => by kernel_rfl
noncomputable def g81 (p0 : R98) (p1 : R98) : Option (Unit × ((Bool × Unit) × Unit)) :=
 cond (!(eqS p0.1 p1.1)) (
 some ((), ((false, ()), ()))
 ) (
 cond (!(eqS p0.2.1 p1.2.1)) (
 some ((), ((false, ()), ()))
 ) (
 Option.bind (g140 p0.2.2.1 p1.2.2.1) fun y1 =>
 cond (!y1.2.1.1) (
 some ((), ((false, ()), ()))
 ) (
 some ((), ((true, ()), ()))
 )
 )
 )
noncomputable def s81 : Su := ⟨[.c true kk98, .c true kk98], [(false, [.bool])], true, .inl fun x => g81 x.1 x.2.1⟩
theorem ok81 : SuOK Tryz.prog 81 s81 :=
 fq (ac ok140 an) Tryz.f81 (by kernel_rfl) fun x => by kernel_rfl
noncomputable def r34_0 (t0 : (List R111)) (t1 : (List R111)) (t5 : Int) : Option (Sum ((List R111) × (List R111) × Int × Unit) (Sum ((List R111) × (List R111) × Int × Unit) (Bool × Unit))) :=
 cond (ltI t5 (lenI t0)) (
 cond (inB t5 t0) (
 cond (inB t5 t1) (
 Option.bind (g81 (gt d111 t0 t5) (gt d111 t1 t5)) fun y1 =>
 cond (!y1.2.1.1) (
 some (.inr (.inr (false, ())))
 ) (
 some (.inl (t0, t1, (addW .i64 t5 1), ()))
 )
 ) none
 ) none
 ) (
 some (.inr (.inl (t0, t1, t5, ())))
 )
noncomputable def l34_0 (t0 : (List R111)) (t1 : (List R111)) (t5 : Int) : Option (Sum ((List R111) × (List R111) × Int × Unit) (Bool × Unit)) := loopF (fun (x : ((List R111) × (List R111) × Int × Unit)) => r34_0 x.1 x.2.1 x.2.2.1) (t0, t1, t5, ())
noncomputable def g34 (p0 : (List R111)) (p1 : (List R111)) : Option (Unit × ((Bool × Unit) × Unit)) :=
 cond (!(eqI (lenI p0) (lenI p1))) (
 some ((), ((false, ()), ()))
 ) (
 Option.bind (l34_0 p0 p1 0) (Sum.elim (fun y1 =>
 some ((), ((true, ()), ()))
 ) (fun y1 =>
 some ((), (y1, ()))
 ))
 )
noncomputable def s34 : Su := ⟨[.c false [.sl 111 kk111], .c false [.sl 111 kk111]], [(false, [.bool])], true, .inl fun x => g34 x.1.1 x.2.1.1⟩
theorem ok34 : SuOK Tryz.prog 34 s34 :=
 fl (ac ok81 an) [.d 4 (.bool)] [(0, ⟨[.d 0 (.sl 111 kk111), .d 1 (.sl 111 kk111), .d 5 (.int .i64)], fun x => loopF (fun x => r34_0 x.1 x.2.1 x.2.2.1) x⟩)] [] Tryz.f34 (by kernel_rfl) (lp [0] (by kernel_rfl) (sc rfl (fun x => by kernel_rfl) (lp [] (by kernel_rfl) sn) sn)) fun x => by kernel_rfl
noncomputable def g9 (p0 : R36) (p1 : R36) : Option (Unit × ((Bool × Unit) × Unit)) :=
 cond (!(eqS p0.1 p1.1)) (
 some ((), ((false, ()), ()))
 ) (
 cond (!(eqI p0.2.1 p1.2.1)) (
 some ((), ((false, ()), ()))
 ) (
 cond (!(eqI p0.2.2.1 p1.2.2.1)) (
 some ((), ((false, ()), ()))
 ) (
 cond (!(eqI p0.2.2.2.1 p1.2.2.2.1)) (
 some ((), ((false, ()), ()))
 ) (
 cond (!(eqI p0.2.2.2.2.1 p1.2.2.2.2.1)) (
 some ((), ((false, ()), ()))
 ) (
 Option.bind (g32 p0.2.2.2.2.2.1 p1.2.2.2.2.2.1) fun y1 =>
 cond (!y1.2.1.1) (
 some ((), ((false, ()), ()))
 ) (
 Option.bind (g33 (p0.2.2.2.2.2.2.1, p0.2.2.2.2.2.2.2.1, p0.2.2.2.2.2.2.2.2.1, p0.2.2.2.2.2.2.2.2.2.1, ()) (p1.2.2.2.2.2.2.1, p1.2.2.2.2.2.2.2.1, p1.2.2.2.2.2.2.2.2.1, p1.2.2.2.2.2.2.2.2.2.1, ())) fun y2 =>
 cond (!y2.2.1.1) (
 some ((), ((false, ()), ()))
 ) (
 Option.bind (g34 p0.2.2.2.2.2.2.2.2.2.2.1 p1.2.2.2.2.2.2.2.2.2.2.1) fun y3 =>
 cond (!y3.2.1.1) (
 some ((), ((false, ()), ()))
 ) (
 some ((), ((true, ()), ()))
 )
 )
 )
 )
 )
 )
 )
 )
noncomputable def s9 : Su := ⟨[.c true kk36, .c true kk36], [(false, [.bool])], true, .inl fun x => g9 x.1 x.2.1⟩
theorem ok9 : SuOK Tryz.prog 9 s9 :=
 fq (ac ok32 (ac ok33 (ac ok34 an))) Tryz.f9 (by kernel_rfl) fun x => by kernel_rfl
noncomputable def r54_0 (t0 : (List R36)) (t1 : (List R36)) (t5 : Int) : Option (Sum ((List R36) × (List R36) × Int × Unit) (Sum ((List R36) × (List R36) × Int × Unit) (Bool × Unit))) :=
 cond (ltI t5 (lenI t0)) (
 cond (inB t5 t0) (
 cond (inB t5 t1) (
 Option.bind (g9 (gt d36 t0 t5) (gt d36 t1 t5)) fun y1 =>
 cond (!y1.2.1.1) (
 some (.inr (.inr (false, ())))
 ) (
 some (.inl (t0, t1, (addW .i64 t5 1), ()))
 )
 ) none
 ) none
 ) (
 some (.inr (.inl (t0, t1, t5, ())))
 )
noncomputable def l54_0 (t0 : (List R36)) (t1 : (List R36)) (t5 : Int) : Option (Sum ((List R36) × (List R36) × Int × Unit) (Bool × Unit)) := loopF (fun (x : ((List R36) × (List R36) × Int × Unit)) => r54_0 x.1 x.2.1 x.2.2.1) (t0, t1, t5, ())
noncomputable def g54 (p0 : (List R36)) (p1 : (List R36)) : Option (Unit × ((Bool × Unit) × Unit)) :=
 cond (!(eqI (lenI p0) (lenI p1))) (
 some ((), ((false, ()), ()))
 ) (
 Option.bind (l54_0 p0 p1 0) (Sum.elim (fun y1 =>
 some ((), ((true, ()), ()))
 ) (fun y1 =>
 some ((), (y1, ()))
 ))
 )
noncomputable def s54 : Su := ⟨[.c false [.sl 36 kk36], .c false [.sl 36 kk36]], [(false, [.bool])], true, .inl fun x => g54 x.1.1 x.2.1.1⟩
theorem ok54 : SuOK Tryz.prog 54 s54 :=
 fl (ac ok9 an) [.d 4 (.bool)] [(0, ⟨[.d 0 (.sl 36 kk36), .d 1 (.sl 36 kk36), .d 5 (.int .i64)], fun x => loopF (fun x => r54_0 x.1 x.2.1 x.2.2.1) x⟩)] [] Tryz.f54 (by kernel_rfl) (lp [0] (by kernel_rfl) (sc rfl (fun x => by kernel_rfl) (lp [] (by kernel_rfl) sn) sn)) fun x => by kernel_rfl
noncomputable def g16 (p0 : ((List R36) × Unit)) (p1 : ((List R36) × Unit)) : Option (Unit × ((Bool × Unit) × Unit)) :=
 Option.bind (g54 p0.1 p1.1) fun y1 =>
 cond (!y1.2.1.1) (
 some ((), ((false, ()), ()))
 ) (
 some ((), ((true, ()), ()))
 )
noncomputable def s16 : Su := ⟨[.c true [.sl 36 kk36], .c true [.sl 36 kk36]], [(false, [.bool])], true, .inl fun x => g16 x.1 x.2.1⟩
theorem ok16 : SuOK Tryz.prog 16 s16 :=
 fq (ac ok54 an) Tryz.f16 (by kernel_rfl) fun x => by kernel_rfl
noncomputable def r111_0 (t0 : Int) (t3 : (List UInt8)) : Option (Sum (Int × (List UInt8) × Unit) (Sum (Int × (List UInt8) × Unit) Unit)) :=
 cond (ltI 0 t0) (
 let u1 := (strOf [((cvtW .u8 (addW .i64 48 (remI t0 10))), ())])
 cond (fitS u1 t3) (
 some (.inl ((quoW .i64 t0 10), (apS u1 t3), ()))
 ) none
 ) (
 some (.inr (.inl (t0, t3, ())))
 )
noncomputable def l111_0 (t0 : Int) (t3 : (List UInt8)) : Option (Sum (Int × (List UInt8) × Unit) Unit) := loopF (fun (x : (Int × (List UInt8) × Unit)) => r111_0 x.1 x.2.1) (t0, t3, ())
noncomputable def g111 (p0 : Int) : Option (Unit × (R9 × Unit)) :=
 cond (leI p0 0) (
 some ((), (([109, 48], ()), ()))
 ) (
 Option.bind (l111_0 p0 []) (Sum.elim (fun y1 =>
 cond (fitS [109] y1.2.1) (
 some ((), (((apS [109] y1.2.1), ()), ()))
 ) none
 ) (fun y1 =>
 none
 ))
 )
noncomputable def s111 : Su := ⟨[.c false kk3], [(false, [.str])], true, .inl fun x => g111 x.1.1⟩
theorem ok111 : SuOK Tryz.prog 111 s111 :=
 fl an [] [(0, ⟨[.d 0 (.int .i64), .d 3 (.str)], fun x => loopF (fun x => r111_0 x.1 x.2.1) x⟩)] [] Tryz.f111 (by kernel_rfl) (lp [0] (by kernel_rfl) (sc rfl (fun x => by kernel_rfl) (lp [] (by kernel_rfl) sn) sn)) fun x => by kernel_rfl
noncomputable def r112_0 (t0 : (List R108)) (t1 : Int) (t5 : Int) : Option (Sum ((List R108) × Int × Int × Unit) (Sum ((List R108) × Int × Int × Unit) Unit)) :=
 cond (ltI t5 (lenI t0)) (
 Option.bind (g111 t1) fun y1 =>
 cond (inB t5 t0) (
 let u1 := (gt d108 t0 t5)
 let u2 := (stI t0 t5 (y1.2.1.1, u1.2.1, u1.2.2.1, ()))
 cond (inB t5 u2) (
 let u3 := (gt d108 u2 t5)
 let u4 := (addW .i64 t1 1)
 let u5 := (stI u2 t5 (u3.1, u4, u3.2.2.1, ()))
 cond (inB t5 u5) (
 let u6 := (gt d108 u5 t5)
 let u7 := (addW .i64 u4 1)
 some (.inl ((stI u5 t5 (u6.1, u6.2.1, u7, ())), (addW .i64 u7 1), (addW .i64 t5 1), ()))
 ) none
 ) none
 ) none
 ) (
 some (.inr (.inl (t0, t1, t5, ())))
 )
noncomputable def l112_0 (t0 : (List R108)) (t1 : Int) (t5 : Int) : Option (Sum ((List R108) × Int × Int × Unit) Unit) := loopF (fun (x : ((List R108) × Int × Int × Unit)) => r112_0 x.1 x.2.1 x.2.2.1) (t0, t1, t5, ())
noncomputable def g112 (p0 : (List R108)) (p1 : Int) : Option ((((List R108) × Unit) × Unit) × (R3 × Unit)) :=
 Option.bind (l112_0 p0 p1 0) (Sum.elim (fun y1 =>
 some (((y1.1, ()), ()), ((y1.2.1, ()), ()))
 ) (fun y1 =>
 none
 ))
noncomputable def s112 : Su := ⟨[.io false [.sl 108 kk108], .c false kk3], [(false, kk3)], true, .inl fun x => g112 x.1.1 x.2.1.1⟩
theorem ok112 : SuOK Tryz.prog 112 s112 :=
 fl (ac ok111 an) [] [(0, ⟨[.own 0 (.sl 108 kk108), .d 1 (.int .i64), .d 5 (.int .i64)], fun x => loopF (fun x => r112_0 x.1 x.2.1 x.2.2.1) x⟩)] [0] Tryz.f112 (by kernel_rfl) (lp [0] (by kernel_rfl) (sc rfl (fun x => by kernel_rfl) (lp [] (by kernel_rfl) sn) sn)) fun x => by kernel_rfl
noncomputable def r113_0 (t0 : (List R3)) (t1 : Int) (t5 : Int) : Option (Sum ((List R3) × Int × Int × Unit) (Sum ((List R3) × Int × Int × Unit) Unit)) :=
 cond (ltI t5 (lenI t0)) (
 cond (inB t5 t0) (
 some (.inl ((stI t0 t5 (t1, ())), (addW .i64 t1 1), (addW .i64 t5 1), ()))
 ) none
 ) (
 some (.inr (.inl (t0, t1, t5, ())))
 )
noncomputable def l113_0 (t0 : (List R3)) (t1 : Int) (t5 : Int) : Option (Sum ((List R3) × Int × Int × Unit) Unit) := loopF (fun (x : ((List R3) × Int × Int × Unit)) => r113_0 x.1 x.2.1 x.2.2.1) (t0, t1, t5, ())
noncomputable def g113 (p0 : (List R3)) (p1 : Int) : Option ((R23 × Unit) × (R3 × Unit)) :=
 Option.bind (l113_0 p0 p1 0) (Sum.elim (fun y1 =>
 some (((y1.1, ()), ()), ((y1.2.1, ()), ()))
 ) (fun y1 =>
 none
 ))
noncomputable def s113 : Su := ⟨[.io false [.sl 3 kk3], .c false kk3], [(false, kk3)], true, .inl fun x => g113 x.1.1 x.2.1.1⟩
theorem ok113 : SuOK Tryz.prog 113 s113 :=
 fl an [] [(0, ⟨[.own 0 (.sl 3 kk3), .d 1 (.int .i64), .d 5 (.int .i64)], fun x => loopF (fun x => r113_0 x.1 x.2.1 x.2.2.1) x⟩)] [0] Tryz.f113 (by kernel_rfl) (lp [0] (by kernel_rfl) (sc rfl (fun x => by kernel_rfl) (lp [] (by kernel_rfl) sn) sn)) fun x => by kernel_rfl
noncomputable def r164_0 (t0 : (List R5)) (t1 : Int) (t5 : Int) : Option (Sum ((List R5) × Int × Int × Unit) (Sum ((List R5) × Int × Int × Unit) Unit)) :=
 cond (ltI t5 (lenI t0)) (
 cond (inB t5 t0) (
 some (.inl ((stI t0 t5 ((cvtW .u8 t1), ())), (addW .i64 t1 1), (addW .i64 t5 1), ()))
 ) none
 ) (
 some (.inr (.inl (t0, t1, t5, ())))
 )
noncomputable def l164_0 (t0 : (List R5)) (t1 : Int) (t5 : Int) : Option (Sum ((List R5) × Int × Int × Unit) Unit) := loopF (fun (x : ((List R5) × Int × Int × Unit)) => r164_0 x.1 x.2.1 x.2.2.1) (t0, t1, t5, ())
noncomputable def g164 (p0 : (List R5)) (p1 : Int) : Option ((((List R5) × Unit) × Unit) × (R3 × Unit)) :=
 Option.bind (l164_0 p0 p1 0) (Sum.elim (fun y1 =>
 some (((y1.1, ()), ()), ((y1.2.1, ()), ()))
 ) (fun y1 =>
 none
 ))
noncomputable def s164 : Su := ⟨[.io false [.sl 5 kk5], .c false kk3], [(false, kk3)], true, .inl fun x => g164 x.1.1 x.2.1.1⟩
theorem ok164 : SuOK Tryz.prog 164 s164 :=
 fl an [] [(0, ⟨[.own 0 (.sl 5 kk5), .d 1 (.int .i64), .d 5 (.int .i64)], fun x => loopF (fun x => r164_0 x.1 x.2.1 x.2.2.1) x⟩)] [0] Tryz.f164 (by kernel_rfl) (lp [0] (by kernel_rfl) (sc rfl (fun x => by kernel_rfl) (lp [] (by kernel_rfl) sn) sn)) fun x => by kernel_rfl
noncomputable def r114_0 (t0 : (List R111)) (t1 : Int) (t5 : Int) : Option (Sum ((List R111) × Int × Int × Unit) (Sum ((List R111) × Int × Int × Unit) Unit)) :=
 cond (ltI t5 (lenI t0)) (
 Option.bind (g111 t1) fun y1 =>
 cond (inB t5 t0) (
 let u1 := (addW .i64 t1 1)
 Option.bind (g111 u1) fun y2 =>
 let u2 := (gt d111 t0 t5)
 let u3 := (stI t0 t5 (y1.2.1.1, u2.2.1, u2.2.2.1, ()))
 cond (inB t5 u3) (
 let u4 := (gt d111 u3 t5)
 let u5 := (stI u3 t5 (u4.1, y2.2.1.1, u4.2.2.1, ()))
 cond (inB t5 u5) (
 let u6 := (gt d111 u5 t5)
 Option.bind (g164 u6.2.2.1 (addW .i64 u1 1)) fun y3 =>
 some (.inl ((stI u5 t5 (u6.1, u6.2.1, y3.1.1.1, ())), y3.2.1.1, (addW .i64 t5 1), ()))
 ) none
 ) none
 ) none
 ) (
 some (.inr (.inl (t0, t1, t5, ())))
 )
noncomputable def l114_0 (t0 : (List R111)) (t1 : Int) (t5 : Int) : Option (Sum ((List R111) × Int × Int × Unit) Unit) := loopF (fun (x : ((List R111) × Int × Int × Unit)) => r114_0 x.1 x.2.1 x.2.2.1) (t0, t1, t5, ())
noncomputable def g114 (p0 : (List R111)) (p1 : Int) : Option ((((List R111) × Unit) × Unit) × (R3 × Unit)) :=
 Option.bind (l114_0 p0 p1 0) (Sum.elim (fun y1 =>
 some (((y1.1, ()), ()), ((y1.2.1, ()), ()))
 ) (fun y1 =>
 none
 ))
noncomputable def s114 : Su := ⟨[.io false [.sl 111 kk111], .c false kk3], [(false, kk3)], true, .inl fun x => g114 x.1.1 x.2.1.1⟩
theorem ok114 : SuOK Tryz.prog 114 s114 :=
 fl (ac ok111 (ac ok164 an)) [] [(0, ⟨[.own 0 (.sl 111 kk111), .d 1 (.int .i64), .d 5 (.int .i64)], fun x => loopF (fun x => r114_0 x.1 x.2.1 x.2.2.1) x⟩)] [0] Tryz.f114 (by kernel_rfl) (lp [0] (by kernel_rfl) (sc rfl (fun x => by kernel_rfl) (lp [] (by kernel_rfl) sn) sn)) fun x => by kernel_rfl
noncomputable def r55_0 (t0 : (List R36)) (t1 : Int) (t5 : Int) : Option (Sum ((List R36) × Int × Int × Unit) (Sum ((List R36) × Int × Int × Unit) Unit)) :=
 cond (ltI t5 (lenI t0)) (
 Option.bind (g111 t1) fun y1 =>
 cond (inB t5 t0) (
 let u1 := (gt d36 t0 t5)
 let u2 := (stI t0 t5 (y1.2.1.1, u1.2.1, u1.2.2.1, u1.2.2.2.1, u1.2.2.2.2.1, u1.2.2.2.2.2.1, u1.2.2.2.2.2.2.1, u1.2.2.2.2.2.2.2.1, u1.2.2.2.2.2.2.2.2.1, u1.2.2.2.2.2.2.2.2.2.1, u1.2.2.2.2.2.2.2.2.2.2.1, ()))
 cond (inB t5 u2) (
 let u3 := (gt d36 u2 t5)
 let u4 := (addW .i64 t1 1)
 let u5 := (stI u2 t5 (u3.1, u4, u3.2.2.1, u3.2.2.2.1, u3.2.2.2.2.1, u3.2.2.2.2.2.1, u3.2.2.2.2.2.2.1, u3.2.2.2.2.2.2.2.1, u3.2.2.2.2.2.2.2.2.1, u3.2.2.2.2.2.2.2.2.2.1, u3.2.2.2.2.2.2.2.2.2.2.1, ()))
 cond (inB t5 u5) (
 let u6 := (gt d36 u5 t5)
 let u7 := (addW .i64 u4 1)
 let u8 := (stI u5 t5 (u6.1, u6.2.1, u7, u6.2.2.2.1, u6.2.2.2.2.1, u6.2.2.2.2.2.1, u6.2.2.2.2.2.2.1, u6.2.2.2.2.2.2.2.1, u6.2.2.2.2.2.2.2.2.1, u6.2.2.2.2.2.2.2.2.2.1, u6.2.2.2.2.2.2.2.2.2.2.1, ()))
 cond (inB t5 u8) (
 let u9 := (gt d36 u8 t5)
 let u10 := (addW .i64 u7 1)
 let u11 := (stI u8 t5 (u9.1, u9.2.1, u9.2.2.1, u10, u9.2.2.2.2.1, u9.2.2.2.2.2.1, u9.2.2.2.2.2.2.1, u9.2.2.2.2.2.2.2.1, u9.2.2.2.2.2.2.2.2.1, u9.2.2.2.2.2.2.2.2.2.1, u9.2.2.2.2.2.2.2.2.2.2.1, ()))
 cond (inB t5 u11) (
 let u12 := (gt d36 u11 t5)
 let u13 := (addW .i64 u10 1)
 let u14 := (stI u11 t5 (u12.1, u12.2.1, u12.2.2.1, u12.2.2.2.1, u13, u12.2.2.2.2.2.1, u12.2.2.2.2.2.2.1, u12.2.2.2.2.2.2.2.1, u12.2.2.2.2.2.2.2.2.1, u12.2.2.2.2.2.2.2.2.2.1, u12.2.2.2.2.2.2.2.2.2.2.1, ()))
 cond (inB t5 u14) (
 let u15 := (gt d36 u14 t5)
 Option.bind (g112 u15.2.2.2.2.2.1 (addW .i64 u13 1)) fun y2 =>
 let u16 := (stI u14 t5 (u15.1, u15.2.1, u15.2.2.1, u15.2.2.2.1, u15.2.2.2.2.1, y2.1.1.1, u15.2.2.2.2.2.2.1, u15.2.2.2.2.2.2.2.1, u15.2.2.2.2.2.2.2.2.1, u15.2.2.2.2.2.2.2.2.2.1, u15.2.2.2.2.2.2.2.2.2.2.1, ()))
 cond (inB t5 u16) (
 let u17 := (gt d36 u16 t5)
 let u18 := (stI u16 t5 (u17.1, u17.2.1, u17.2.2.1, u17.2.2.2.1, u17.2.2.2.2.1, u17.2.2.2.2.2.1, y2.2.1.1, u17.2.2.2.2.2.2.2.1, u17.2.2.2.2.2.2.2.2.1, u17.2.2.2.2.2.2.2.2.2.1, u17.2.2.2.2.2.2.2.2.2.2.1, ()))
 cond (inB t5 u18) (
 let u19 := (gt d36 u18 t5)
 let u20 := (addW .i64 y2.2.1.1 1)
 let u21 := (stI u18 t5 (u19.1, u19.2.1, u19.2.2.1, u19.2.2.2.1, u19.2.2.2.2.1, u19.2.2.2.2.2.1, u19.2.2.2.2.2.2.1, u20, u19.2.2.2.2.2.2.2.2.1, u19.2.2.2.2.2.2.2.2.2.1, u19.2.2.2.2.2.2.2.2.2.2.1, ()))
 cond (inB t5 u21) (
 let u22 := (gt d36 u21 t5)
 Option.bind (g113 u22.2.2.2.2.2.2.2.2.1 (addW .i64 u20 1)) fun y3 =>
 let u23 := (stI u21 t5 (u22.1, u22.2.1, u22.2.2.1, u22.2.2.2.1, u22.2.2.2.2.1, u22.2.2.2.2.2.1, u22.2.2.2.2.2.2.1, u22.2.2.2.2.2.2.2.1, y3.1.1.1, u22.2.2.2.2.2.2.2.2.2.1, u22.2.2.2.2.2.2.2.2.2.2.1, ()))
 cond (inB t5 u23) (
 let u24 := (gt d36 u23 t5)
 Option.bind (g113 u24.2.2.2.2.2.2.2.2.2.1 y3.2.1.1) fun y4 =>
 let u25 := (stI u23 t5 (u24.1, u24.2.1, u24.2.2.1, u24.2.2.2.1, u24.2.2.2.2.1, u24.2.2.2.2.2.1, u24.2.2.2.2.2.2.1, u24.2.2.2.2.2.2.2.1, u24.2.2.2.2.2.2.2.2.1, y4.1.1.1, u24.2.2.2.2.2.2.2.2.2.2.1, ()))
 cond (inB t5 u25) (
 let u26 := (gt d36 u25 t5)
 Option.bind (g114 u26.2.2.2.2.2.2.2.2.2.2.1 y4.2.1.1) fun y5 =>
 some (.inl ((stI u25 t5 (u26.1, u26.2.1, u26.2.2.1, u26.2.2.2.1, u26.2.2.2.2.1, u26.2.2.2.2.2.1, u26.2.2.2.2.2.2.1, u26.2.2.2.2.2.2.2.1, u26.2.2.2.2.2.2.2.2.1, u26.2.2.2.2.2.2.2.2.2.1, y5.1.1.1, ())), y5.2.1.1, (addW .i64 t5 1), ()))
 ) none
 ) none
 ) none
 ) none
 ) none
 ) none
 ) none
 ) none
 ) none
 ) none
 ) none
 ) (
 some (.inr (.inl (t0, t1, t5, ())))
 )
noncomputable def l55_0 (t0 : (List R36)) (t1 : Int) (t5 : Int) : Option (Sum ((List R36) × Int × Int × Unit) Unit) := loopF (fun (x : ((List R36) × Int × Int × Unit)) => r55_0 x.1 x.2.1 x.2.2.1) (t0, t1, t5, ())
noncomputable def g55 (p0 : (List R36)) (p1 : Int) : Option ((((List R36) × Unit) × Unit) × (R3 × Unit)) :=
 Option.bind (l55_0 p0 p1 0) (Sum.elim (fun y1 =>
 some (((y1.1, ()), ()), ((y1.2.1, ()), ()))
 ) (fun y1 =>
 none
 ))
noncomputable def s55 : Su := ⟨[.io false [.sl 36 kk36], .c false kk3], [(false, kk3)], true, .inl fun x => g55 x.1.1 x.2.1.1⟩
theorem ok55 : SuOK Tryz.prog 55 s55 :=
 fl (ac ok111 (ac ok112 (ac ok113 (ac ok114 an)))) [] [(0, ⟨[.own 0 (.sl 36 kk36), .d 1 (.int .i64), .d 5 (.int .i64)], fun x => loopF (fun x => r55_0 x.1 x.2.1 x.2.2.1) x⟩)] [0] Tryz.f55 (by kernel_rfl) (lp [0] (by kernel_rfl) (sc rfl (fun x => by kernel_rfl) (lp [] (by kernel_rfl) sn) sn)) fun x => by kernel_rfl
noncomputable def g17 (p0 : ((List R36) × Unit)) (p1 : Int) : Option ((((List R36) × Unit) × Unit) × (R3 × Unit)) :=
 Option.bind (g55 p0.1 p1) fun y1 =>
 some ((y1.1.1, ()), (y1.2.1, ()))
noncomputable def s17 : Su := ⟨[.io true [.sl 36 kk36], .c false kk3], [(false, kk3)], true, .inl fun x => g17 x.1 x.2.1.1⟩
theorem ok17 : SuOK Tryz.prog 17 s17 :=
 fl (ac ok55 an) [] [] [0] Tryz.f17 (by kernel_rfl) (lp [] (by kernel_rfl) sn) fun x => by kernel_rfl
noncomputable def r115_0 (t0 : (List R108)) (t1 : Int) (t5 : Int) : Option (Sum ((List R108) × Int × Int × Unit) (Sum ((List R108) × Int × Int × Unit) R3)) :=
 cond (ltI t5 (lenI t0)) (
 cond (inB t5 t0) (
 Option.bind (g111 t1) fun y1 =>
 let u1 := (gt d108 t0 t5)
 cond (!(eqS u1.1 y1.2.1.1)) (
 some (.inr (.inr ((-1), ())))
 ) (
 cond (inB t5 t0) (
 let u2 := (addW .i64 t1 1)
 cond (!(eqI u1.2.1 u2)) (
 some (.inr (.inr ((-1), ())))
 ) (
 cond (inB t5 t0) (
 let u3 := (addW .i64 u2 1)
 cond (!(eqI u1.2.2.1 u3)) (
 some (.inr (.inr ((-1), ())))
 ) (
 some (.inl (t0, (addW .i64 u3 1), (addW .i64 t5 1), ()))
 )
 ) none
 )
 ) none
 )
 ) none
 ) (
 some (.inr (.inl (t0, t1, t5, ())))
 )
noncomputable def l115_0 (t0 : (List R108)) (t1 : Int) (t5 : Int) : Option (Sum ((List R108) × Int × Int × Unit) R3) := loopF (fun (x : ((List R108) × Int × Int × Unit)) => r115_0 x.1 x.2.1 x.2.2.1) (t0, t1, t5, ())
noncomputable def g115 (p0 : (List R108)) (p1 : Int) : Option (Unit × (R3 × Unit)) :=
 Option.bind (l115_0 p0 p1 0) (Sum.elim (fun y1 =>
 some ((), ((y1.2.1, ()), ()))
 ) (fun y1 =>
 some ((), (y1, ()))
 ))
noncomputable def s115 : Su := ⟨[.c false [.sl 108 kk108], .c false kk3], [(false, kk3)], true, .inl fun x => g115 x.1.1 x.2.1.1⟩
theorem ok115 : SuOK Tryz.prog 115 s115 :=
 fl (ac ok111 an) [.d 4 (.int .i64)] [(0, ⟨[.d 0 (.sl 108 kk108), .d 1 (.int .i64), .d 5 (.int .i64)], fun x => loopF (fun x => r115_0 x.1 x.2.1 x.2.2.1) x⟩)] [] Tryz.f115 (by kernel_rfl) (lp [0] (by kernel_rfl) (sc rfl (fun x => by kernel_rfl) (lp [] (by kernel_rfl) sn) sn)) fun x => by kernel_rfl
noncomputable def r116_0 (t0 : (List R3)) (t1 : Int) (t5 : Int) : Option (Sum ((List R3) × Int × Int × Unit) (Sum ((List R3) × Int × Int × Unit) R3)) :=
 cond (ltI t5 (lenI t0)) (
 cond (inB t5 t0) (
 cond (!(eqI (gt d3 t0 t5).1 t1)) (
 some (.inr (.inr ((-1), ())))
 ) (
 some (.inl (t0, (addW .i64 t1 1), (addW .i64 t5 1), ()))
 )
 ) none
 ) (
 some (.inr (.inl (t0, t1, t5, ())))
 )
noncomputable def l116_0 (t0 : (List R3)) (t1 : Int) (t5 : Int) : Option (Sum ((List R3) × Int × Int × Unit) R3) := loopF (fun (x : ((List R3) × Int × Int × Unit)) => r116_0 x.1 x.2.1 x.2.2.1) (t0, t1, t5, ())
noncomputable def g116 (p0 : (List R3)) (p1 : Int) : Option (Unit × (R3 × Unit)) :=
 Option.bind (l116_0 p0 p1 0) (Sum.elim (fun y1 =>
 some ((), ((y1.2.1, ()), ()))
 ) (fun y1 =>
 some ((), (y1, ()))
 ))
noncomputable def s116 : Su := ⟨[.c false kk23, .c false kk3], [(false, kk3)], true, .inl fun x => g116 x.1.1 x.2.1.1⟩
theorem ok116 : SuOK Tryz.prog 116 s116 :=
 fl an [.d 4 (.int .i64)] [(0, ⟨[.d 0 (.sl 3 kk3), .d 1 (.int .i64), .d 5 (.int .i64)], fun x => loopF (fun x => r116_0 x.1 x.2.1 x.2.2.1) x⟩)] [] Tryz.f116 (by kernel_rfl) (lp [0] (by kernel_rfl) (sc rfl (fun x => by kernel_rfl) (lp [] (by kernel_rfl) sn) sn)) fun x => by kernel_rfl
noncomputable def r165_0 (t0 : (List R5)) (t1 : Int) (t5 : Int) : Option (Sum ((List R5) × Int × Int × Unit) (Sum ((List R5) × Int × Int × Unit) R3)) :=
 cond (ltI t5 (lenI t0)) (
 cond (inB t5 t0) (
 cond (!(eqI (gt d5 t0 t5).1 (cvtW .u8 t1))) (
 some (.inr (.inr ((-1), ())))
 ) (
 some (.inl (t0, (addW .i64 t1 1), (addW .i64 t5 1), ()))
 )
 ) none
 ) (
 some (.inr (.inl (t0, t1, t5, ())))
 )
noncomputable def l165_0 (t0 : (List R5)) (t1 : Int) (t5 : Int) : Option (Sum ((List R5) × Int × Int × Unit) R3) := loopF (fun (x : ((List R5) × Int × Int × Unit)) => r165_0 x.1 x.2.1 x.2.2.1) (t0, t1, t5, ())
noncomputable def g165 (p0 : (List R5)) (p1 : Int) : Option (Unit × (R3 × Unit)) :=
 Option.bind (l165_0 p0 p1 0) (Sum.elim (fun y1 =>
 some ((), ((y1.2.1, ()), ()))
 ) (fun y1 =>
 some ((), (y1, ()))
 ))
noncomputable def s165 : Su := ⟨[.c false [.sl 5 kk5], .c false kk3], [(false, kk3)], true, .inl fun x => g165 x.1.1 x.2.1.1⟩
theorem ok165 : SuOK Tryz.prog 165 s165 :=
 fl an [.d 4 (.int .i64)] [(0, ⟨[.d 0 (.sl 5 kk5), .d 1 (.int .i64), .d 5 (.int .i64)], fun x => loopF (fun x => r165_0 x.1 x.2.1 x.2.2.1) x⟩)] [] Tryz.f165 (by kernel_rfl) (lp [0] (by kernel_rfl) (sc rfl (fun x => by kernel_rfl) (lp [] (by kernel_rfl) sn) sn)) fun x => by kernel_rfl
noncomputable def r117_0 (t0 : (List R111)) (t1 : Int) (t5 : Int) : Option (Sum ((List R111) × Int × Int × Unit) (Sum ((List R111) × Int × Int × Unit) R3)) :=
 cond (ltI t5 (lenI t0)) (
 cond (inB t5 t0) (
 Option.bind (g111 t1) fun y1 =>
 let u1 := (gt d111 t0 t5)
 cond (!(eqS u1.1 y1.2.1.1)) (
 some (.inr (.inr ((-1), ())))
 ) (
 cond (inB t5 t0) (
 let u2 := (addW .i64 t1 1)
 Option.bind (g111 u2) fun y2 =>
 cond (!(eqS u1.2.1 y2.2.1.1)) (
 some (.inr (.inr ((-1), ())))
 ) (
 cond (inB t5 t0) (
 Option.bind (g165 u1.2.2.1 (addW .i64 u2 1)) fun y3 =>
 cond (ltI y3.2.1.1 0) (
 some (.inr (.inr ((-1), ())))
 ) (
 some (.inl (t0, y3.2.1.1, (addW .i64 t5 1), ()))
 )
 ) none
 )
 ) none
 )
 ) none
 ) (
 some (.inr (.inl (t0, t1, t5, ())))
 )
noncomputable def l117_0 (t0 : (List R111)) (t1 : Int) (t5 : Int) : Option (Sum ((List R111) × Int × Int × Unit) R3) := loopF (fun (x : ((List R111) × Int × Int × Unit)) => r117_0 x.1 x.2.1 x.2.2.1) (t0, t1, t5, ())
noncomputable def g117 (p0 : (List R111)) (p1 : Int) : Option (Unit × (R3 × Unit)) :=
 Option.bind (l117_0 p0 p1 0) (Sum.elim (fun y1 =>
 some ((), ((y1.2.1, ()), ()))
 ) (fun y1 =>
 some ((), (y1, ()))
 ))
noncomputable def s117 : Su := ⟨[.c false [.sl 111 kk111], .c false kk3], [(false, kk3)], true, .inl fun x => g117 x.1.1 x.2.1.1⟩
theorem ok117 : SuOK Tryz.prog 117 s117 :=
 fl (ac ok111 (ac ok165 an)) [.d 4 (.int .i64)] [(0, ⟨[.d 0 (.sl 111 kk111), .d 1 (.int .i64), .d 5 (.int .i64)], fun x => loopF (fun x => r117_0 x.1 x.2.1 x.2.2.1) x⟩)] [] Tryz.f117 (by kernel_rfl) (lp [0] (by kernel_rfl) (sc rfl (fun x => by kernel_rfl) (lp [] (by kernel_rfl) sn) sn)) fun x => by kernel_rfl
noncomputable def r56_0 (t0 : (List R36)) (t1 : Int) (t5 : Int) : Option (Sum ((List R36) × Int × Int × Unit) (Sum ((List R36) × Int × Int × Unit) R3)) :=
 cond (ltI t5 (lenI t0)) (
 cond (inB t5 t0) (
 Option.bind (g111 t1) fun y1 =>
 let u1 := (gt d36 t0 t5)
 cond (!(eqS u1.1 y1.2.1.1)) (
 some (.inr (.inr ((-1), ())))
 ) (
 cond (inB t5 t0) (
 let u2 := (addW .i64 t1 1)
 cond (!(eqI u1.2.1 u2)) (
 some (.inr (.inr ((-1), ())))
 ) (
 cond (inB t5 t0) (
 let u3 := (addW .i64 u2 1)
 cond (!(eqI u1.2.2.1 u3)) (
 some (.inr (.inr ((-1), ())))
 ) (
 cond (inB t5 t0) (
 let u4 := (addW .i64 u3 1)
 cond (!(eqI u1.2.2.2.1 u4)) (
 some (.inr (.inr ((-1), ())))
 ) (
 cond (inB t5 t0) (
 let u5 := (addW .i64 u4 1)
 cond (!(eqI u1.2.2.2.2.1 u5)) (
 some (.inr (.inr ((-1), ())))
 ) (
 cond (inB t5 t0) (
 Option.bind (g115 u1.2.2.2.2.2.1 (addW .i64 u5 1)) fun y2 =>
 cond (ltI y2.2.1.1 0) (
 some (.inr (.inr ((-1), ())))
 ) (
 cond (inB t5 t0) (
 cond (!(eqI u1.2.2.2.2.2.2.1 y2.2.1.1)) (
 some (.inr (.inr ((-1), ())))
 ) (
 cond (inB t5 t0) (
 let u6 := (addW .i64 y2.2.1.1 1)
 cond (!(eqI u1.2.2.2.2.2.2.2.1 u6)) (
 some (.inr (.inr ((-1), ())))
 ) (
 cond (inB t5 t0) (
 Option.bind (g116 u1.2.2.2.2.2.2.2.2.1 (addW .i64 u6 1)) fun y3 =>
 cond (ltI y3.2.1.1 0) (
 some (.inr (.inr ((-1), ())))
 ) (
 cond (inB t5 t0) (
 Option.bind (g116 u1.2.2.2.2.2.2.2.2.2.1 y3.2.1.1) fun y4 =>
 cond (ltI y4.2.1.1 0) (
 some (.inr (.inr ((-1), ())))
 ) (
 cond (inB t5 t0) (
 Option.bind (g117 u1.2.2.2.2.2.2.2.2.2.2.1 y4.2.1.1) fun y5 =>
 cond (ltI y5.2.1.1 0) (
 some (.inr (.inr ((-1), ())))
 ) (
 some (.inl (t0, y5.2.1.1, (addW .i64 t5 1), ()))
 )
 ) none
 )
 ) none
 )
 ) none
 )
 ) none
 )
 ) none
 )
 ) none
 )
 ) none
 )
 ) none
 )
 ) none
 )
 ) none
 )
 ) none
 ) (
 some (.inr (.inl (t0, t1, t5, ())))
 )
noncomputable def l56_0 (t0 : (List R36)) (t1 : Int) (t5 : Int) : Option (Sum ((List R36) × Int × Int × Unit) R3) := loopF (fun (x : ((List R36) × Int × Int × Unit)) => r56_0 x.1 x.2.1 x.2.2.1) (t0, t1, t5, ())
noncomputable def g56 (p0 : (List R36)) (p1 : Int) : Option (Unit × (R3 × Unit)) :=
 Option.bind (l56_0 p0 p1 0) (Sum.elim (fun y1 =>
 some ((), ((y1.2.1, ()), ()))
 ) (fun y1 =>
 some ((), (y1, ()))
 ))
noncomputable def s56 : Su := ⟨[.c false [.sl 36 kk36], .c false kk3], [(false, kk3)], true, .inl fun x => g56 x.1.1 x.2.1.1⟩
theorem ok56 : SuOK Tryz.prog 56 s56 :=
 fl (ac ok111 (ac ok115 (ac ok116 (ac ok117 an)))) [.d 4 (.int .i64)] [(0, ⟨[.d 0 (.sl 36 kk36), .d 1 (.int .i64), .d 5 (.int .i64)], fun x => loopF (fun x => r56_0 x.1 x.2.1 x.2.2.1) x⟩)] [] Tryz.f56 (by kernel_rfl) (lp [0] (by kernel_rfl) (sc rfl (fun x => by kernel_rfl) (lp [] (by kernel_rfl) sn) sn)) fun x => by kernel_rfl
noncomputable def g18 (p0 : ((List R36) × Unit)) (p1 : Int) : Option (Unit × (R3 × Unit)) :=
 Option.bind (g56 p0.1 p1) fun y1 =>
 cond (ltI y1.2.1.1 0) (
 some ((), (((-1), ()), ()))
 ) (
 some ((), (y1.2.1, ()))
 )
noncomputable def s18 : Su := ⟨[.c true [.sl 36 kk36], .c false kk3], [(false, kk3)], true, .inl fun x => g18 x.1 x.2.1.1⟩
theorem ok18 : SuOK Tryz.prog 18 s18 :=
 fq (ac ok56 an) Tryz.f18 (by kernel_rfl) fun x => by kernel_rfl
noncomputable def g4 (p0 : ((List R28) × Unit)) (p1 : (Int × (List UInt8) × (List UInt8) × (List UInt8) × (List UInt8) × (List UInt8) × Int × Int × Unit)) (p2 : Int) : Option (Unit × ((Bool × Unit) × Unit)) :=
 Option.bind (g10 p0 1048576) fun y1 =>
 cond (ltI y1.2.1.1 0) (
 some ((), ((true, ()), ()))
 ) (
 Option.bind (g11 p1 y1.2.1.1) fun y2 =>
 cond (ltI y2.2.1.1 0) (
 some ((), ((true, ()), ()))
 ) (
 let u1 := (g13 p0)
 Option.bind u1 fun y3 =>
 let u2 := (g14 p1)
 Option.bind u2 fun y4 =>
 Option.bind (g12 y3.2.1 y4.2.1 p2) fun y5 =>
 Option.bind u1 fun y6 =>
 Option.bind u2 fun y7 =>
 Option.bind (g15 y6.2.1 y7.2.1 p2) fun y8 =>
 let u3 := (g16 y8.2.1 y5.2.1)
 Option.bind u3 fun y9 =>
 cond (cond (cond (!y9.2.1.1) true (!(eqI y8.2.2.1.1 y5.2.2.1.1))) true (!(eqS y8.2.2.2.1.1 y5.2.2.2.1.1))) (
 some ((), ((false, ()), ()))
 ) (
 Option.bind u1 fun y10 =>
 Option.bind (g16 y6.2.1 y10.2.1) fun y11 =>
 cond (!y11.2.1.1) (
 some ((), ((false, ()), ()))
 ) (
 Option.bind (g17 y6.2.1 1) fun y12 =>
 cond (ltI y12.2.1.1 0) (
 some ((), ((false, ()), ()))
 ) (
 Option.bind u3 fun y13 =>
 cond (cond (cond (!y13.2.1.1) true (!(eqI y8.2.2.1.1 y5.2.2.1.1))) true (!(eqS y8.2.2.2.1.1 y5.2.2.2.1.1))) (
 some ((), ((false, ()), ()))
 ) (
 Option.bind (g17 y8.2.1 1) fun y14 =>
 let u4 := (g18 y14.1.1 1)
 Option.bind u4 fun y15 =>
 cond (ltI y15.2.1.1 0) (
 some ((), ((false, ()), ()))
 ) (
 cond (!(eqI y15.2.1.1 y14.2.1.1)) (
 some ((), ((false, ()), ()))
 ) (
 Option.bind u1 fun y16 =>
 Option.bind u2 fun y17 =>
 Option.bind (g15 y16.2.1 y17.2.1 p2) fun y18 =>
 Option.bind (g16 y18.2.1 y5.2.1) fun y19 =>
 cond (cond (cond (!y19.2.1.1) true (!(eqI y18.2.2.1.1 y5.2.2.1.1))) true (!(eqS y18.2.2.2.1.1 y5.2.2.2.1.1))) (
 some ((), ((false, ()), ()))
 ) (
 Option.bind u4 fun y20 =>
 cond (ltI y20.2.1.1 0) (
 some ((), ((false, ()), ()))
 ) (
 cond (!(eqI y20.2.1.1 y14.2.1.1)) (
 some ((), ((false, ()), ()))
 ) (
 some ((), ((true, ()), ()))
 )
 )
 )
 )
 )
 )
 )
 )
 )
 )
 )
noncomputable def s4 : Su := ⟨[.c true [.sl 28 kk28], .c true [.int .i64, .str, .str, .str, .str, .str, .int .i64, .int .i64], .c false kk3], [(false, [.bool])], true, .inl fun x => g4 x.1 x.2.1 x.2.2.1.1⟩
def rh4 : List SE := []
noncomputable def lo4 : Nat → Option (Lo rh4)
 | _ => none
noncomputable def ga4 : List (Nat × Su) := [(10, s10), (11, s11), (13, s13), (14, s14), (12, s12), (15, s15), (16, s16), (17, s17), (18, s18)]
noncomputable def EL4 : En := ⟨135, tt, gaOf ga4, rh4, lo4, [], fun _ => none⟩
noncomputable def rg4 : Nat → Option (St → Tr St)
 | 8 => some (hoistT EL4 (opsOf (regOf 8 (bodyOf Tryz.f4))) [(11, 8), (11, 9)])
 | 10 => some (hoistT EL4 (opsOf (regOf 10 (bodyOf Tryz.f4))) [(10, 7), (10, 8)])
 | 27 => some (hoistT EL4 (opsOf (regOf 27 (bodyOf Tryz.f4))) [(11, 8), (11, 9)])
 | _ => none
noncomputable def E4 : En := ⟨135, tt, gaOf ga4, rh4, lo4, [], rg4⟩
theorem t4 (x : PT s4.ps) : (fnT E4 (bodyOf Tryz.f4) Tryz.f4.results.toList s4.ps s4.rs true x).run = g4 x.1 x.2.1 x.2.2.1.1 := by kernel_rfl
theorem hga4 : GAok Tryz.prog E4 := gaok_of (l := ga4) ⟨ok10, ok11, ok13, ok14, ok12, ok15, ok16, ok17, ok18, trivial⟩
theorem hgaL4_8 : GAok Tryz.prog EL4 := gaok_of (l := ga4) ⟨ok10, ok11, ok13, ok14, ok12, ok15, ok16, ok17, ok18, trivial⟩
theorem R4_8 : RegSem Tryz.prog E4 (regOf 8 (bodyOf Tryz.f4)) (hoistT EL4 (opsOf (regOf 8 (bodyOf Tryz.f4))) [(11, 8), (11, 9)]) :=
 regSem_rg rfl rfl (hoist_of (E := EL4) (hTT hT) hgaL4_8 hmix (c := (regOf 8 (bodyOf Tryz.f4))) (id := 8) (by kernel_rfl))
theorem hgaL4_10 : GAok Tryz.prog EL4 := gaok_of (l := ga4) ⟨ok10, ok11, ok13, ok14, ok12, ok15, ok16, ok17, ok18, trivial⟩
theorem R4_10 : RegSem Tryz.prog E4 (regOf 10 (bodyOf Tryz.f4)) (hoistT EL4 (opsOf (regOf 10 (bodyOf Tryz.f4))) [(10, 7), (10, 8)]) :=
 regSem_rg rfl rfl (hoist_of (E := EL4) (hTT hT) hgaL4_10 hmix (c := (regOf 10 (bodyOf Tryz.f4))) (id := 10) (by kernel_rfl))
theorem hgaL4_27 : GAok Tryz.prog EL4 := gaok_of (l := ga4) ⟨ok10, ok11, ok13, ok14, ok12, ok15, ok16, ok17, ok18, trivial⟩
theorem R4_27 : RegSem Tryz.prog E4 (regOf 27 (bodyOf Tryz.f4)) (hoistT EL4 (opsOf (regOf 27 (bodyOf Tryz.f4))) [(11, 8), (11, 9)]) :=
 regSem_rg rfl rfl (hoist_of (E := EL4) (hTT hT) hgaL4_27 hmix (c := (regOf 27 (bodyOf Tryz.f4))) (id := 27) (by kernel_rfl))
theorem ok4 : SuOK Tryz.prog 4 s4 :=
 fn_ok (E := E4) (hTT hT) hga4 hmix (fn := Tryz.f4) (c := (bodyOf Tryz.f4)) (by kernel_rfl) (by kernel_rfl) (by kernel_rfl) rfl (loopsOK_reg [] (by kernel_rfl) trivial [(8, regOf 8 (bodyOf Tryz.f4)), (10, regOf 10 (bodyOf Tryz.f4)), (27, regOf 27 (bodyOf Tryz.f4))] (by kernel_rfl) ⟨regL rfl R4_8, regL rfl R4_10, regL rfl R4_27, trivial⟩) fun x y h => ⟨y.1, fun _ => rfl, (t4 x).trans h⟩
end Go.Av
