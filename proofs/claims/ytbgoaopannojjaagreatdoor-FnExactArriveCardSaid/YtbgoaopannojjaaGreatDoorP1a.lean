/- Part of a proof that the law FnExactArrive answers true for every input: the printed functions of this program and their plain laws. No conditions beyond the statement. -/
import Derived.Test.YtbgoaopannojjaaGreatDoorFw4
import Derived.Test.YtbgoaopannojjaaGreatDoorFw3
import Derived.WalkKit
import Derived.Lib.Walk
import Derived.Lib.SliceRun
import Derived.Shelf.Spec.SlicesInsert
import Derived.Test.YtbgoaopannojjaaGreatDoorProg
set_option maxRecDepth 100000
namespace Go.Av
open Go.Proofs
set_option maxHeartbeats 4000000
noncomputable section
def BA:List K:=[.str,.int .i64,.int .i64]
def l0:List K:=[.int .i64]
def ub:List K:=[.int .u8]
def Cr:List K:=[.str,.str,.sl 5 ub]
def uI:List K:=[.str,.int .i64,.int .i64,.int .i64,.int .i64,.sl 253 BA,.int .i64,.int .i64,.sl 3 l0,.sl 3 l0,.sl 255 Cr]
def Hh:List K:=[.int .i64,.sl 164 uI]
def GC:List K:=[.sl 5 ub,.int .i64,.sl 3 l0,.int .i64,.int .i64,.int .i64,.int .i64,.int .i64,.sl 5 ub]
def A9:List K:=[.str,.int .i64,.int .i64]
def xL:List K:=[.str,.str,.sl 5 ub]
def Dq:List K:=[.str,.int .i64,.int .i64,.int .i64,.int .i64,.sl 95 A9,.int .i64,.int .i64,.sl 3 l0,.sl 3 l0,.sl 166 xL]
def Mz:List K:=[.int .i64,.sl 59 Dq]
def LF:List K:=[.sl 5 ub,.int .i64,.sl 3 l0,.int .i64,.int .i64,.int .i64,.int .i64,.int .i64,.sl 5 ub]
def UM:List K:=[.str]
def D6:List K:=[.int .i64,.str]
def E5:List K:=[.str,.str,.str,.sl 3 l0]
def HI:List K:=[.sl 3 l0]
def IX:List K:=[.int .i64,.int .i64,.int .i64]
abbrev my:=((List UInt8)×Int×Int×Unit)
def d253:my:=([],0,0,())
abbrev R3:=(Int×Unit)
def d3:R3:=(0,())
abbrev R5:=(Int×Unit)
def d5:R5:=(0,())
abbrev l4:=((List UInt8)×(List UInt8)×(List R5)×Unit)
def d255:l4:=([],[],[],())
abbrev gO:=((List UInt8)×Int×Int×Int×Int×(List my)×Int×Int×(List R3)×(List R3)×(List l4)×Unit)
def d164:gO:=([],0,0,0,0,[],0,0,[],[],[],())
abbrev pU:=(Int×(List gO)×Unit)
def d81:pU:=(0,[],())
abbrev pw:=((List R5)×Int×(List R3)×Int×Int×Int×Int×Int×(List R5)×Unit)
def d83:pw:=([],0,[],0,0,0,0,0,[],())
abbrev gw:=((List UInt8)×Int×Int×Unit)
def d95:gw:=([],0,0,())
abbrev cu:=((List UInt8)×(List UInt8)×(List R5)×Unit)
def d166:cu:=([],[],[],())
abbrev dt:=((List UInt8)×Int×Int×Int×Int×(List gw)×Int×Int×(List R3)×(List R3)×(List cu)×Unit)
def d59:dt:=([],0,0,0,0,[],0,0,[],[],[],())
abbrev ea:=(Int×(List dt)×Unit)
def d89:ea:=(0,[],())
abbrev gq:=((List R5)×Int×(List R3)×Int×Int×Int×Int×Int×(List R5)×Unit)
def d62:gq:=([],0,[],0,0,0,0,0,[],())
abbrev R9:=((List UInt8)×Unit)
def d9:R9:=([],())
abbrev iI:=(Int×(List UInt8)×Unit)
def d175:iI:=(0,[],())
abbrev Gt:=((List UInt8)×(List UInt8)×(List UInt8)×(List R3)×Unit)
def d198:Gt:=([],[],[],[],())
abbrev P8:=((List R3)×Unit)
def d54:P8:=([],())
abbrev C5:=(Int×Int×Int×Unit)
def d226:C5:=(0,0,0,())
def tt:List (Nat×TI):=[(2,⟨false,[.int .i64],0,8,[]⟩),
 (3,⟨false,[.int .i64],0,8,[]⟩),
 (4,⟨false,[.bool],0,1,[]⟩),
 (5,⟨false,[.int .u8],0,1,[]⟩),
 (6,⟨false,[.int .u8],0,1,[]⟩),
 (7,⟨true,[.int .i64,.int .i64,.bool,.int .u8],0,24,[(0,2),(1,3),(2,4),(3,6)]⟩),
 (8,⟨true,[.int .i64,.int .i64,.bool,.int .u8],0,24,[(0,2),(1,3),(2,4),(3,6)]⟩),
 (9,⟨false,[.str],0,16,[]⟩),
 (10,⟨false,[.str],0,16,[]⟩),
 (11,⟨false,[.str],0,16,[]⟩),
 (12,⟨false,[.int .u64],0,8,[]⟩),
 (13,⟨true,[.str,.int .u64],0,24,[(0,9),(1,12)]⟩),
 (14,⟨true,[.str,.int .u64],0,24,[(0,9),(1,12)]⟩),
 (21,⟨false,[.int .i32],0,4,[]⟩),
 (22,⟨false,[.sl 81 Hh],81,24,[]⟩),
 (23,⟨false,[.sl 83 GC],83,24,[]⟩),
 (24,⟨true,[.sl 81 Hh,.int .i64,.int .i64,.sl 83 GC],0,64,[(0,22),(1,3),(2,3),(3,23)]⟩),
 (25,⟨true,[.sl 81 Hh,.int .i64,.int .i64,.sl 83 GC],0,64,[(0,22),(1,3),(2,3),(3,23)]⟩),
 (28,⟨false,[.sl 89 Mz],89,24,[]⟩),
 (29,⟨false,[.sl 62 LF],62,24,[]⟩),
 (30,⟨true,[.sl 89 Mz,.int .i64,.int .i64,.sl 62 LF],0,64,[(0,28),(1,3),(2,3),(3,29)]⟩),
 (31,⟨true,[.sl 89 Mz,.int .i64,.int .i64,.sl 62 LF],0,64,[(0,28),(1,3),(2,3),(3,29)]⟩),
 (39,⟨false,[.sl 5 ub],5,24,[]⟩),
 (49,⟨false,[.sl 59 Dq],59,24,[]⟩),
 (50,⟨true,[.sl 59 Dq],0,24,[(0,49)]⟩),
 (51,⟨true,[.sl 59 Dq],0,24,[(0,49)]⟩),
 (53,⟨false,[.sl 95 A9],95,24,[]⟩),
 (54,⟨false,[.sl 3 l0],3,24,[]⟩),
 (55,⟨true,[.int .i64,.int .i64,.sl 3 l0,.sl 3 l0],0,64,[(0,3),(1,3),(2,54),(3,54)]⟩),
 (56,⟨true,[.int .i64,.int .i64,.sl 3 l0,.sl 3 l0],0,64,[(0,3),(1,3),(2,54),(3,54)]⟩),
 (57,⟨false,[.sl 166 xL],166,24,[]⟩),
 (58,⟨true,[.str,.int .i64,.int .i64,.int .i64,.int .i64,.sl 95 A9,.int .i64,.int .i64,.sl 3 l0,.sl 3 l0,.sl 166 xL],0,160,[(0,9),(1,3),(2,3),(3,3),(4,3),(5,53),(6,56),(10,57)]⟩),
 (59,⟨true,[.str,.int .i64,.int .i64,.int .i64,.int .i64,.sl 95 A9,.int .i64,.int .i64,.sl 3 l0,.sl 3 l0,.sl 166 xL],0,160,[(0,9),(1,3),(2,3),(3,3),(4,3),(5,53),(6,56),(10,57)]⟩),
 (61,⟨true,[.sl 5 ub,.int .i64,.sl 3 l0,.int .i64,.int .i64,.int .i64,.int .i64,.int .i64,.sl 5 ub],0,120,[(0,39),(1,3),(2,54),(3,3),(4,3),(5,3),(6,3),(7,3),(8,39)]⟩),
 (62,⟨true,[.sl 5 ub,.int .i64,.sl 3 l0,.int .i64,.int .i64,.int .i64,.int .i64,.int .i64,.sl 5 ub],0,120,[(0,39),(1,3),(2,54),(3,3),(4,3),(5,3),(6,3),(7,3),(8,39)]⟩),
 (79,⟨false,[.sl 164 uI],164,24,[]⟩),
 (80,⟨true,[.int .i64,.sl 164 uI],0,32,[(0,3),(1,79)]⟩),
 (81,⟨true,[.int .i64,.sl 164 uI],0,32,[(0,3),(1,79)]⟩),
 (83,⟨true,[.sl 5 ub,.int .i64,.sl 3 l0,.int .i64,.int .i64,.int .i64,.int .i64,.int .i64,.sl 5 ub],0,120,[(0,39),(1,3),(2,54),(3,3),(4,3),(5,3),(6,3),(7,3),(8,39)]⟩),
 (88,⟨true,[.int .i64,.sl 59 Dq],0,32,[(0,3),(1,49)]⟩),
 (89,⟨true,[.int .i64,.sl 59 Dq],0,32,[(0,3),(1,49)]⟩),
 (94,⟨true,[.str,.int .i64,.int .i64],0,32,[(0,9),(1,3),(2,3)]⟩),
 (95,⟨true,[.str,.int .i64,.int .i64],0,32,[(0,9),(1,3),(2,3)]⟩),
 (112,⟨false,[.sl 9 UM],9,24,[]⟩),
 (129,⟨false,[.sl 175 D6],175,24,[]⟩),
 (130,⟨true,[.str,.sl 175 D6],0,40,[(0,9),(1,129)]⟩),
 (131,⟨true,[.str,.sl 175 D6],0,40,[(0,9),(1,129)]⟩),
 (150,⟨true,[.int .i64,.str,.str,.str,.str,.str,.int .i64,.int .i64],0,104,[(0,3),(1,9),(2,9),(3,9),(4,9),(5,9),(6,3),(7,3)]⟩),
 (151,⟨true,[.int .i64,.str,.str,.str,.str,.str,.int .i64,.int .i64],0,104,[(0,3),(1,9),(2,9),(3,9),(4,9),(5,9),(6,3),(7,3)]⟩),
 (160,⟨false,[.sl 253 BA],253,24,[]⟩),
 (161,⟨true,[.int .i64,.int .i64,.sl 3 l0,.sl 3 l0],0,64,[(0,3),(1,3),(2,54),(3,54)]⟩),
 (162,⟨false,[.sl 255 Cr],255,24,[]⟩),
 (163,⟨true,[.str,.int .i64,.int .i64,.int .i64,.int .i64,.sl 253 BA,.int .i64,.int .i64,.sl 3 l0,.sl 3 l0,.sl 255 Cr],0,160,[(0,9),(1,3),(2,3),(3,3),(4,3),(5,160),(6,161),(10,162)]⟩),
 (164,⟨true,[.str,.int .i64,.int .i64,.int .i64,.int .i64,.sl 253 BA,.int .i64,.int .i64,.sl 3 l0,.sl 3 l0,.sl 255 Cr],0,160,[(0,9),(1,3),(2,3),(3,3),(4,3),(5,160),(6,161),(10,162)]⟩),
 (165,⟨true,[.str,.str,.sl 5 ub],0,56,[(0,9),(1,9),(2,39)]⟩),
 (166,⟨true,[.str,.str,.sl 5 ub],0,56,[(0,9),(1,9),(2,39)]⟩),
 (174,⟨true,[.int .i64,.str],0,24,[(0,3),(1,9)]⟩),
 (175,⟨true,[.int .i64,.str],0,24,[(0,3),(1,9)]⟩),
 (191,⟨false,[.int .u32],0,4,[]⟩),
 (194,⟨false,[.int .u64],0,8,[]⟩),
 (196,⟨false,[.sl 198 E5],198,24,[]⟩),
 (197,⟨true,[.str,.str,.str,.sl 3 l0],0,72,[(0,9),(1,9),(2,9),(3,54)]⟩),
 (198,⟨true,[.str,.str,.str,.sl 3 l0],0,72,[(0,9),(1,9),(2,9),(3,54)]⟩),
 (212,⟨false,[.int .u64],0,8,[]⟩),
 (219,⟨false,[.sl 54 HI],54,24,[]⟩),
 (225,⟨true,[.int .i64,.int .i64,.int .i64],0,24,[(0,3),(1,3),(2,3)]⟩),
 (226,⟨true,[.int .i64,.int .i64,.int .i64],0,24,[(0,3),(1,3),(2,3)]⟩),
 (233,⟨false,[.int .i64],0,8,[]⟩),
 (253,⟨true,[.str,.int .i64,.int .i64],0,32,[(0,9),(1,3),(2,3)]⟩),
 (255,⟨true,[.str,.str,.sl 5 ub],0,56,[(0,9),(1,9),(2,39)]⟩),
 (261,⟨false,[.sl 226 IX],226,24,[]⟩),
 (265,⟨false,[.int .u64],0,8,[]⟩),
 (284,⟨false,[.int .i64],0,8,[]⟩),
 (306,⟨true,[.str],0,16,[(0,9)]⟩),
 (307,⟨true,[.str],0,16,[(0,9)]⟩),
 (311,⟨true,[.int .u8,.int .u8],0,2,[(0,5),(1,5)]⟩),
 (312,⟨true,[.int .u8,.int .u8],0,2,[(0,5),(1,5)]⟩),
 (321,⟨false,[.int .u8],0,1,[]⟩),
 (322,⟨false,[.int .u8],0,1,[]⟩),
 (324,⟨false,[.int .i32],0,4,[]⟩),
 (325,⟨false,[.int .i32],0,4,[]⟩)]
def E0:En:=zI 0 tt [] [] (fun _=>none) [] fun _=>none
theorem hT:bM Tryz.prog E0:=M5 (by kernel_rfl)
theorem eP:Tryz.prog.follows .mixedOrders=true:=by kernel_rfl
theorem fl {f:Nat} {s:Su} {l:List (Nat×SS)} (hl:qH Tryz.prog l) (ρ:List SE) (los:List (Nat×Lo ρ)) (pins:List Nat) (fn:Func)
 (hlo:Va Tryz.prog (HA fn.ntmps tt l ρ los pins) (ak fn) (ak fn))
 (h : (Tryz.prog.funcs[f]?, (fn.name == "runtime.NumGoroutine"), fn.body.isSome) = (some fn, false, true) := by kernel_rfl)
 (ht:∀ x,(F7 (HA fn.ntmps tt l ρ los pins) (ak fn) fn.results.toList s.ps s.rs s.fresh x).run=s.tz x:=by intro x; kernel_rfl):ar Tryz.prog f s:=by
 simp only [Prod.mk.injEq] at h
 exact flq hT eP hl (fn:=fn) (by rw [h.1,h.2.1,h.2.2]) hlo ht
theorem fq {f:Nat} {s:Su} {l:List (Nat×SS)} (hl:qH Tryz.prog l) (fn:Func)
 (h : (Tryz.prog.funcs[f]?, (fn.name == "runtime.NumGoroutine"), fn.body.isSome, dG (fun _ => false) (ak fn)) = (some fn, false, true, []) := by kernel_rfl)
 (ht:∀ x,(F7 (HA fn.ntmps tt l [] [] []) (ak fn) fn.results.toList s.ps s.rs s.fresh x).run=s.tz x:=by intro x; kernel_rfl):ar Tryz.prog f s:=by
 simp only [Prod.mk.injEq] at h
 exact flq hT eP hl (fn:=fn) (by rw [h.1,h.2.1,h.2.2.1]) (lp (n:=fn.ntmps) (tt:=tt) (l:=l) (ρ:=[]) (los:=[]) (pins:=[]) [] sn h.2.2.2) ht
def nM:List UInt8:=[0,1,2,2,3,3,3,3,4,4,4,4,4,4,4,4,5,5,5,5,5,5,5,5,5,5,5,5,5,5,5,5,6,6,6,6,6,6,6,6,6,6,6,6,6,6,6,6,6,6,6,6,6,6,6,6,6,6,6,6,6,6,6,6,7,7,7,7,7,7,7,7,7,7,7,7,7,7,7,7,7,7,7,7,7,7,7,7,7,7,7,7,7,7,7,7,7,7,7,7,7,7,7,7,7,7,7,7,7,7,7,7,7,7,7,7,7,7,7,7,7,7,7,7,7,7,7,7,8,8,8,8,8,8,8,8,8,8,8,8,8,8,8,8,8,8,8,8,8,8,8,8,8,8,8,8,8,8,8,8,8,8,8,8,8,8,8,8,8,8,8,8,8,8,8,8,8,8,8,8,8,8,8,8,8,8,8,8,8,8,8,8,8,8,8,8,8,8,8,8,8,8,8,8,8,8,8,8,8,8,8,8,8,8,8,8,8,8,8,8,8,8,8,8,8,8,8,8,8,8,8,8,8,8,8,8,8,8,8,8,8,8,8,8,8,8,8,8,8,8,8,8,8,8,8,8]
abbrev Y0:=Int×Unit
abbrev Y1:=Bool×Unit
abbrev Y2:=(List R3)×Unit
abbrev Y4:=(List dt)×Unit
abbrev Y8:=(List UInt8)×Unit
abbrev Y7:=Y0×Unit
abbrev Wm:=Int×(List dt)×Unit
abbrev WO:=(List UInt8)×Int×Unit
abbrev gX:=Unit×Y7
abbrev ed:=Unit×(Y1×Unit)
abbrev Xp:=(List dt)×Int×Int×Unit
abbrev Zr:=(List R3)×Int×Bool×Unit
abbrev S5:=(List UInt8)×Int×Int×Unit
abbrev CG:=(List UInt8)×(List iI)×Unit
abbrev SV:=Unit×(((List R9)×Unit)×Unit)
abbrev P3:=Unit×(Y2×Unit)
abbrev Y25:=(((List R9)×Unit)×Unit)×Unit
abbrev YQ:=(Y2×Unit)×Unit
abbrev ZM:=Unit×(((List ea)×Unit)×Unit)
abbrev S0:=Unit×(Y4×Unit)
abbrev PU:=(Y4×Unit)×Unit
abbrev Y32:=Unit×(((List cu)×Unit)×Unit)
abbrev LN:=Unit×(Y8×Unit)
abbrev Dx:=(List ea)×Int×Int×(List gq)×Unit
abbrev W4:=(List ea)×(List ea)×Int×Int×Unit
abbrev Y35:=(List dt)×Int×Unit×Int×Int×Unit
abbrev Xz:=Unit×(Y0×Y1×Unit)
abbrev Xm:=(List cu)×(List cu)×Int×Int×Unit
abbrev Xh:=Int×CG×Unit
abbrev Zd:=Unit×((Int×Int×(List R3)×(List R3)×Unit)×Unit)
abbrev Y52:=Unit×(Dx×Unit)
abbrev Xu:=Unit×(Y2×Y0×Y1×Unit)
abbrev Wy:=Unit×(Y8×Y0×Y1×Unit)
abbrev Tw:=(List R5)×Int×(List R3)×Int×Int×Int×Int×Int×(List R5)×Unit
abbrev Y62:=Unit×(Tw×Unit)
abbrev RM:=Int×(List UInt8)×(List UInt8)×(List UInt8)×(List UInt8)×(List UInt8)×Int×Int×Unit
abbrev Y72:=Unit×(dt×Unit)
abbrev ki:K:= .int .i64
abbrev GL:K:= .sl 253 BA
abbrev q3:K:= .sl 3 l0
abbrev q5:K:= .sl 5 ub
abbrev Gn:K:= .sl 255 Cr
abbrev Gy:K:= .sl 164 uI
abbrev RF:K:= .sl 81 Hh
abbrev SH:K:= .sl 83 GC
abbrev mi:K:= .sl 95 A9
abbrev dQ:K:= .sl 166 xL
abbrev fG:K:= .sl 59 Dq
abbrev gj:K:= .sl 89 Mz
abbrev jZ:K:= .sl 62 LF
abbrev iF:K:= .sl 175 D6
abbrev q9:K:= .sl 9 UM
abbrev c0:Option ed:=some ((),((false,()),()))
abbrev c1:Option (Unit×(RM×Y0×Unit)):=some ((),((0,[],[],[],[],[],0,0,()),(1,()),()))
abbrev c2:Option ed:=some ((),((true,()),()))
abbrev c3:Option gX:=some ((),(((-1),()),()))
abbrev c4:Option Wy:=some ((),(([],()),(0,()),(false,()),()))
abbrev c5:Option gX:=some ((),((2,()),()))
abbrev c6:Option gX:=some ((),((0,()),()))
abbrev c7:Option gX:=some ((),((1,()),()))
abbrev c8:Option (Unit×(Tw×Y1×Unit)):=some ((),(([],0,[],0,0,0,0,0,[],()),(false,()),()))
abbrev c9:Option Xu:=some ((),(([],()),(0,()),(false,()),()))
abbrev WT:Option gX:=some ((),((3,()),()))
abbrev XK:Option Xz:=some ((),((0,()),(false,()),()))
abbrev c12:Option gX:=some ((),((4,()),()))
abbrev c13:Option gX:=some ((),((6,()),()))
abbrev c14:Option gX:=some ((),((12,()),()))
abbrev c15:Option (Unit×(Y0×Y0×Y1×Unit)):=some ((),((0,()),(0,()),(false,()),()))
abbrev Ya:Option (Unit×(CG×Y0×Unit)):=some ((),(([],[],()),(2,()),()))
abbrev ZE:Option (Unit×(CG×Y0×Unit)):=some ((),(([],[],()),(4,()),()))
abbrev c18:Option LN:=some ((),(([],()),()))
abbrev c19:Option SV:=some ((),(([],()),()))
abbrev c20:Option gX:=some ((),((4611686018427387904,()),()))
abbrev c21:Option (Unit×(RM×Y0×Unit)):=some ((),((0,[],[],[],[],[],0,0,()),(2,()),()))
section
open Go.Shelf Go.RowKit Go.Lib
def sρ:Ren:=⟨fun | 129=>270 | 171=>79 | 172=>271 | 205=>329 | 243=>135 | 244=>304 | 245=>305 | 246=>184 | 247=>318 | 279=>319 | 280=>320 | 281=>321 | 282=>322 | 283=>234 | 284=>235 | 285=>236 | 286=>237 | 287=>327 | 316=>328 | 317=>287 | 318=>288 | 319=>289 | 320=>290 | 321=>333 | 322=>334 | 337=>314 | 338=>315 | n=>n,fun | 0=>0 | 2=>2 | 3=>3 | 4=>4 | 5=>5 | 9=>9 | 20=>20 | 21=>21 | 37=>39 | 46=>194 | 51=>191 | 53=>212 | 75=>242 | 76=>243 | 80=>314 | 85=>285 | 127=>304 | 143=>305 | 145=>307 | 167=>284 | 168=>287 | 171=>211 | 173=>215 | 175=>297 | 210=>300 | 212=>259 | 213=>260 | 232=>295 | 233=>296 | n=>n,fun | 15=>3 | 16=>4 | 17=>0 | 18=>1 | 19=>2 | n=>n⟩
theorem xj:LaysC.n172 Tryz.prog sρ:={ mixed:=by kernel_rfl,f129:=by kernel_rfl,f171:=by kernel_rfl,f172:=by kernel_rfl,f205:=by kernel_rfl,f243:=by kernel_rfl,f244:=by kernel_rfl,f245:=by kernel_rfl,f246:=by kernel_rfl,f247:=by kernel_rfl,f279:=by kernel_rfl,f280:=by kernel_rfl,f281:=by kernel_rfl,f282:=by kernel_rfl,f283:=by kernel_rfl,f284:=by kernel_rfl,f285:=by kernel_rfl,f286:=by kernel_rfl,f287:=by kernel_rfl,f316:=by kernel_rfl,f317:=by kernel_rfl,f318:=by kernel_rfl,f319:=by kernel_rfl,f320:=by kernel_rfl,f321:=by kernel_rfl,f322:=by kernel_rfl,f337:=by kernel_rfl,f338:=by kernel_rfl,t0:=by kernel_rfl,a0:=fun _=>by kernel_rfl,z0:=fun _=>by kernel_rfl,v0:=fun _=>by kernel_rfl,t2:=by kernel_rfl,a2:=fun _=>by kernel_rfl,z2:=fun _=>by kernel_rfl,v2:=fun _=>by kernel_rfl,t3:=by kernel_rfl,a3:=fun _=>by kernel_rfl,z3:=fun _=>by kernel_rfl,v3:=fun _=>by kernel_rfl,t4:=by kernel_rfl,a4:=fun _=>by kernel_rfl,z4:=fun _=>by kernel_rfl,v4:=fun _=>by kernel_rfl,t5:=by kernel_rfl,a5:=fun _=>by kernel_rfl,z5:=fun _=>by kernel_rfl,v5:=fun _=>by kernel_rfl,t9:=by kernel_rfl,a9:=fun _=>by kernel_rfl,z9:=fun _=>by kernel_rfl,v9:=fun _=>by kernel_rfl,t20:=by kernel_rfl,a20:=fun _=>by kernel_rfl,z20:=fun _=>by kernel_rfl,v20:=fun _=>by kernel_rfl,t21:=by kernel_rfl,a21:=fun _=>by kernel_rfl,z21:=fun _=>by kernel_rfl,v21:=fun _=>by kernel_rfl,t37:=by kernel_rfl,a37:=fun _=>by kernel_rfl,z37:=fun _=>by kernel_rfl,v37:=fun _=>by kernel_rfl,t46:=by kernel_rfl,a46:=fun _=>by kernel_rfl,z46:=fun _=>by kernel_rfl,v46:=fun _=>by kernel_rfl,t51:=by kernel_rfl,a51:=fun _=>by kernel_rfl,z51:=fun _=>by kernel_rfl,v51:=fun _=>by kernel_rfl,t53:=by kernel_rfl,a53:=fun _=>by kernel_rfl,z53:=fun _=>by kernel_rfl,v53:=fun _=>by kernel_rfl,t75:=by kernel_rfl,a75:=fun _=>by kernel_rfl,z75:=fun _=>by kernel_rfl,v75:=fun _=>by kernel_rfl,t76:=by kernel_rfl,a76:=fun _=>by kernel_rfl,z76:=fun _=>by kernel_rfl,v76:=fun _=>by kernel_rfl,t85:=by kernel_rfl,a85:=fun _=>by kernel_rfl,z85:=fun _=>by kernel_rfl,v85:=fun _=>by kernel_rfl,t127:=by kernel_rfl,a127:=fun _=>by kernel_rfl,z127:=fun _=>by kernel_rfl,v127:=fun _=>by kernel_rfl,t143:=by kernel_rfl,a143:=fun _=>by kernel_rfl,z143:=fun _=>by kernel_rfl,v143:=fun _=>by kernel_rfl,t145:=by kernel_rfl,a145:=fun _=>by kernel_rfl,z145:=fun _=>by kernel_rfl,v145:=fun _=>by kernel_rfl,t167:=by kernel_rfl,a167:=fun _=>by kernel_rfl,z167:=fun _=>by kernel_rfl,v167:=fun _=>by kernel_rfl,t168:=by kernel_rfl,a168:=fun _=>by kernel_rfl,z168:=fun _=>by kernel_rfl,v168:=fun _=>by kernel_rfl,t171:=by kernel_rfl,a171:=fun _=>by kernel_rfl,z171:=fun _=>by kernel_rfl,v171:=fun _=>by kernel_rfl,t173:=by kernel_rfl,a173:=fun _=>by kernel_rfl,z173:=fun _=>by kernel_rfl,v173:=fun _=>by kernel_rfl,t175:=by kernel_rfl,a175:=fun _=>by kernel_rfl,z175:=fun _=>by kernel_rfl,v175:=fun _=>by kernel_rfl,t210:=by kernel_rfl,a210:=fun _=>by kernel_rfl,z210:=fun _=>by kernel_rfl,v210:=fun _=>by kernel_rfl,t212:=by kernel_rfl,a212:=fun _=>by kernel_rfl,z212:=fun _=>by kernel_rfl,v212:=fun _=>by kernel_rfl,t213:=by kernel_rfl,a213:=fun _=>by kernel_rfl,z213:=fun _=>by kernel_rfl,t232:=by kernel_rfl,a232:=fun _=>by kernel_rfl,z232:=fun _=>by kernel_rfl,v232:=fun _=>by kernel_rfl,t233:=by kernel_rfl,a233:=fun _=>by kernel_rfl,z233:=fun _=>by kernel_rfl,v233:=fun _=>by kernel_rfl,g15:=by kernel_rfl,g16:=by kernel_rfl,g17:=by kernel_rfl,g18:=by kernel_rfl,g19:=by kernel_rfl,t80:=by kernel_rfl,a80:=fun _=>by kernel_rfl,z80:=fun _=>by kernel_rfl,v80:=fun _=>by kernel_rfl,i0:=by kernel_rfl,i2:=by kernel_rfl,i3:=by kernel_rfl,i4:=by kernel_rfl,i5:=by kernel_rfl,i9:=by kernel_rfl,i20:=by kernel_rfl,i21:=by kernel_rfl,i37:=by kernel_rfl,i46:=by kernel_rfl,i51:=by kernel_rfl,i53:=by kernel_rfl,i75:=by kernel_rfl,i76:=by kernel_rfl,i80:=by kernel_rfl,i85:=by kernel_rfl,i127:=by kernel_rfl,i143:=by kernel_rfl,i145:=by kernel_rfl,i167:=by kernel_rfl,i168:=by kernel_rfl,i171:=by kernel_rfl,i173:=by kernel_rfl,i175:=by kernel_rfl,i210:=by kernel_rfl,i212:=by kernel_rfl,i232:=by kernel_rfl,i233:=by kernel_rfl,m15:=by kernel_rfl,m16:=by kernel_rfl,m17:=by kernel_rfl,m18:=by kernel_rfl,m19:=by kernel_rfl,c0:=by kernel_rfl,c2:=by kernel_rfl,c3:=by kernel_rfl,c4:=by kernel_rfl,c5:=by kernel_rfl,c9:=by kernel_rfl,c20:=by kernel_rfl,c21:=by kernel_rfl,c37:=by kernel_rfl,c46:=by kernel_rfl,c51:=by kernel_rfl,c53:=by kernel_rfl,c75:=by kernel_rfl,c76:=by kernel_rfl,c80:=by kernel_rfl,c85:=by kernel_rfl,c127:=by kernel_rfl,c143:=by kernel_rfl,c145:=by kernel_rfl,c167:=by kernel_rfl,c168:=by kernel_rfl,c171:=by kernel_rfl,c173:=by kernel_rfl,c175:=by kernel_rfl,c210:=by kernel_rfl,c212:=by kernel_rfl,c213:=by kernel_rfl,c232:=by kernel_rfl,c233:=by kernel_rfl }
end
def L5 (p0:(List UInt8)×Int×Int×Unit) (p1:Int):Option gX :=
 let u1:=(aM .i64 p1 (ae p0.1))
 cond (au u1 0) (
 c3
 ) (
 some ((),((u1,()),()))
 )
def abv:Su:=⟨[.c true [.str,ki,ki],.c false [ki]],[(false,[ki])],true,.inl fun x=>L5 x.1 x.2.1.1⟩
theorem S8:ar Tryz.prog 283 abv :=
 fq an Tryz.f283
def pX (t0:List my) (t1 t5:Int):Rd ((List my)×Int×Int×Unit) Y0 :=
 cond (au t5 (ae t0)) (
 cond (aR t5 t0) (
 (L5 (gt d253 t0 t5) t1).bind fun y1 =>
 cond (au y1.2.1.1 0) (
 some (.inr (.inr ((-1),())))
 ) (
 some (.inl (t0,y1.2.1.1,(aj .i64 t5 1),()))
 )
 ) none
 ) (
 some (.inr (.inl (t0,t1,t5,())))
 )
def Ii:=kt (af (dn pX))
def M0 (p0:List my) (p1:Int):Option gX :=
 let u1:=(aM .i64 p1 (ae p0))
 cond (au u1 0) (
 c3
 ) (
 (Ii p0 u1 0).bind (Sum.elim (fun y1 =>
 some ((),((y1.2.1,()),()))
 ) (fun y1 =>
 some ((),(y1,()))
 ))
 )
def abo:Su:=⟨[.c false [GL],.c false [ki]],[(false,[ki])],true,.inl fun x=>M0 x.1.1 x.2.1.1⟩
theorem Wx:ar Tryz.prog 219 abo :=
 fl (ac S8 an) [.d 4 ki] [(0,⟨[.d 0 GL,.d 1 ki,.d 5 ki],af (dn pX)⟩)] [] Tryz.f219 (lp [0] (sc cM sn))
def GR (p0:List R3) (p1:Int):Option gX :=
 let u1:=(aM .i64 p1 (ae p0))
 cond (au u1 0) (
 c3
 ) (
 some ((),((u1,()),()))
 )
def aat:Su:=⟨[.c false [q3],.c false [ki]],[(false,[ki])],true,.inl fun x=>GR x.1.1 x.2.1.1⟩
theorem OW:ar Tryz.prog 113 aat :=
 fq an Tryz.f113
def NO (p0:Int×Int×(List R3)×(List R3)×Unit) (p1:Int):Option gX :=
 (GR p0.2.2.1 p1).bind fun y1 =>
 cond (au y1.2.1.1 0) (
 c3
 ) (
 (GR p0.2.2.2.1 y1.2.1.1).bind fun y2 =>
 cond (au y2.2.1.1 0) (
 c3
 ) (
 some ((),(y2.2.1,()))
 )
 )
def Ym:Su:=⟨[.c true [ki,ki,q3,q3],.c false [ki]],[(false,[ki])],true,.inl fun x=>NO x.1 x.2.1.1⟩
theorem Vt:ar Tryz.prog 220 Ym :=
 fq (ac OW an) Tryz.f220
def Hk (p0:List R5) (p1:Int):Option gX :=
 let u1:=(aM .i64 p1 (ae p0))
 cond (au u1 0) (
 c3
 ) (
 some ((),((u1,()),()))
 )
def XL:Su:=⟨[.c false [q5],.c false [ki]],[(false,[ki])],true,.inl fun x=>Hk x.1.1 x.2.1.1⟩
theorem O2:ar Tryz.prog 112 XL :=
 fq an Tryz.f112
def N0 (p0:(List UInt8)×(List UInt8)×(List R5)×Unit) (p1:Int):Option gX :=
 let u1:=(aM .i64 p1 (ae p0.1))
 cond (au u1 0) (
 c3
 ) (
 let u2:=(aM .i64 u1 (ae p0.2.1))
 cond (au u2 0) (
 c3
 ) (
 (Hk p0.2.2.1 u2).bind fun y1 =>
 cond (au y1.2.1.1 0) (
 c3
 ) (
 some ((),(y1.2.1,()))
 )
 )
 )
def aax:Su:=⟨[.c true [.str,.str,q5],.c false [ki]],[(false,[ki])],true,.inl fun x=>N0 x.1 x.2.1.1⟩
theorem Ws:ar Tryz.prog 284 aax :=
 fq (ac O2 an) Tryz.f284
def pq (t0:List l4) (t1 t5:Int):Rd ((List l4)×Int×Int×Unit) Y0 :=
 cond (au t5 (ae t0)) (
 cond (aR t5 t0) (
 (N0 (gt d255 t0 t5) t1).bind fun y1 =>
 cond (au y1.2.1.1 0) (
 some (.inr (.inr ((-1),())))
 ) (
 some (.inl (t0,y1.2.1.1,(aj .i64 t5 1),()))
 )
 ) none
 ) (
 some (.inr (.inl (t0,t1,t5,())))
 )
def Jt:=kt (af (dn pq))
def Nt (p0:List l4) (p1:Int):Option gX :=
 let u1:=(aM .i64 p1 (ae p0))
 cond (au u1 0) (
 c3
 ) (
 (Jt p0 u1 0).bind (Sum.elim (fun y1 =>
 some ((),((y1.2.1,()),()))
 ) (fun y1 =>
 some ((),(y1,()))
 ))
 )
def aab:Su:=⟨[.c false [Gn],.c false [ki]],[(false,[ki])],true,.inl fun x=>Nt x.1.1 x.2.1.1⟩
theorem WM:ar Tryz.prog 221 aab :=
 fl (ac Ws an) [.d 4 ki] [(0,⟨[.d 0 Gn,.d 1 ki,.d 5 ki],af (dn pq)⟩)] [] Tryz.f221 (lp [0] (sc cM sn))
def Mb (p0:(List UInt8)×Int×Int×Int×Int×(List my)×Int×Int×(List R3)×(List R3)×(List l4)×Unit) (p1:Int):Option gX :=
 let u1:=(aM .i64 p1 (ae p0.1))
 cond (au u1 0) (
 c3
 ) (
 (M0 p0.2.2.2.2.2.1 u1).bind fun y1 =>
 cond (au y1.2.1.1 0) (
 c3
 ) (
 (NO (p0.2.2.2.2.2.2.1,p0.2.2.2.2.2.2.2.1,p0.2.2.2.2.2.2.2.2.1,p0.2.2.2.2.2.2.2.2.2.1,()) y1.2.1.1).bind fun y2 =>
 cond (au y2.2.1.1 0) (
 c3
 ) (
 (Nt p0.2.2.2.2.2.2.2.2.2.2.1 y2.2.1.1).bind fun y3 =>
 cond (au y3.2.1.1 0) (
 c3
 ) (
 some ((),(y3.2.1,()))
 )
 )
 )
 )
def abq:Su:=⟨[.c true [.str,ki,ki,ki,ki,GL,ki,ki,q3,q3,Gn],.c false [ki]],[(false,[ki])],true,.inl fun x=>Mb x.1 x.2.1.1⟩
theorem WB:ar Tryz.prog 174 abq :=
 fq (ac Wx (ac Vt (ac WM an))) Tryz.f174
def oR (t0:List gO) (t1 t5:Int):Rd ((List gO)×Int×Int×Unit) Y0 :=
 cond (au t5 (ae t0)) (
 cond (aR t5 t0) (
 (Mb (gt d164 t0 t5) t1).bind fun y1 =>
 cond (au y1.2.1.1 0) (
 some (.inr (.inr ((-1),())))
 ) (
 some (.inl (t0,y1.2.1.1,(aj .i64 t5 1),()))
 )
 ) none
 ) (
 some (.inr (.inl (t0,t1,t5,())))
 )
def KT:=kt (af (dn oR))
def Oj (p0:List gO) (p1:Int):Option gX :=
 let u1:=(aM .i64 p1 (ae p0))
 cond (au u1 0) (
 c3
 ) (
 (KT p0 u1 0).bind (Sum.elim (fun y1 =>
 some ((),((y1.2.1,()),()))
 ) (fun y1 =>
 some ((),(y1,()))
 ))
 )
def aar:Su:=⟨[.c false [Gy],.c false [ki]],[(false,[ki])],true,.inl fun x=>Oj x.1.1 x.2.1.1⟩
theorem UK:ar Tryz.prog 111 aar :=
 fl (ac WB an) [.d 4 ki] [(0,⟨[.d 0 Gy,.d 1 ki,.d 5 ki],af (dn oR)⟩)] [] Tryz.f111 (lp [0] (sc cM sn))
def Xk (p0:Int×(List gO)×Unit) (p1:Int):Option gX :=
 (Oj p0.2.1 p1).bind fun y1 =>
 cond (au y1.2.1.1 0) (
 c3
 ) (
 some ((),(y1.2.1,()))
 )
def s55:Su:=⟨[.c true [ki,Gy],.c false [ki]],[(false,[ki])],true,.inl fun x=>Xk x.1 x.2.1.1⟩
theorem aav:ar Tryz.prog 55 s55 :=
 fq (ac UK an) Tryz.f55
def wG (t0:List pU) (t1 t5:Int):Rd ((List pU)×Int×Int×Unit) Y0 :=
 cond (au t5 (ae t0)) (
 cond (aR t5 t0) (
 (Xk (gt d81 t0 t5) t1).bind fun y1 =>
 cond (au y1.2.1.1 0) (
 some (.inr (.inr ((-1),())))
 ) (
 some (.inl (t0,y1.2.1.1,(aj .i64 t5 1),()))
 )
 ) none
 ) (
 some (.inr (.inl (t0,t1,t5,())))
 )
def OG:=kt (af (dn wG))
def g23 (p0:List pU) (p1:Int):Option gX :=
 let u1:=(aM .i64 p1 (ae p0))
 cond (au u1 0) (
 c3
 ) (
 (OG p0 u1 0).bind (Sum.elim (fun y1 =>
 some ((),((y1.2.1,()),()))
 ) (fun y1 =>
 some ((),(y1,()))
 ))
 )
def s23:Su:=⟨[.c false [RF],.c false [ki]],[(false,[ki])],true,.inl fun x=>g23 x.1.1 x.2.1.1⟩
theorem aaC:ar Tryz.prog 23 s23 :=
 fl (ac aav an) [.d 4 ki] [(0,⟨[.d 0 RF,.d 1 ki,.d 5 ki],af (dn wG)⟩)] [] Tryz.f23 (lp [0] (sc cM sn))
def W5 (p0:(List R5)×Int×(List R3)×Int×Int×Int×Int×Int×(List R5)×Unit) (p1:Int):Option gX :=
 (Hk p0.1 p1).bind fun y1 =>
 cond (au y1.2.1.1 0) (
 c3
 ) (
 (GR p0.2.2.1 y1.2.1.1).bind fun y2 =>
 cond (au y2.2.1.1 0) (
 c3
 ) (
 (Hk p0.2.2.2.2.2.2.2.2.1 y2.2.1.1).bind fun y3 =>
 cond (au y3.2.1.1 0) (
 c3
 ) (
 some ((),(y3.2.1,()))
 )
 )
 )
def s56:Su:=⟨[.c true [q5,ki,q3,ki,ki,ki,ki,ki,q5],.c false [ki]],[(false,[ki])],true,.inl fun x=>W5 x.1 x.2.1.1⟩
theorem abh:ar Tryz.prog 56 s56 :=
 fq (ac OW (ac O2 an)) Tryz.f56
def xO (t0:List pw) (t1 t5:Int):Rd ((List pw)×Int×Int×Unit) Y0 :=
 cond (au t5 (ae t0)) (
 cond (aR t5 t0) (
 (W5 (gt d83 t0 t5) t1).bind fun y1 =>
 cond (au y1.2.1.1 0) (
 some (.inr (.inr ((-1),())))
 ) (
 some (.inl (t0,y1.2.1.1,(aj .i64 t5 1),()))
 )
 ) none
 ) (
 some (.inr (.inl (t0,t1,t5,())))
 )
def Qb:=kt (af (dn xO))
def g24 (p0:List pw) (p1:Int):Option gX :=
 let u1:=(aM .i64 p1 (ae p0))
 cond (au u1 0) (
 c3
 ) (
 (Qb p0 u1 0).bind (Sum.elim (fun y1 =>
 some ((),((y1.2.1,()),()))
 ) (fun y1 =>
 some ((),(y1,()))
 ))
 )
def s24:Su:=⟨[.c false [SH],.c false [ki]],[(false,[ki])],true,.inl fun x=>g24 x.1.1 x.2.1.1⟩
theorem YU:ar Tryz.prog 24 s24 :=
 fl (ac abh an) [.d 4 ki] [(0,⟨[.d 0 SH,.d 1 ki,.d 5 ki],af (dn xO)⟩)] [] Tryz.f24 (lp [0] (sc cM sn))
def g7 (p0:(List pU)×Int×Int×(List pw)×Unit) (p1:Int):Option gX :=
 (g23 p0.1 p1).bind fun y1 =>
 cond (au y1.2.1.1 0) (
 c3
 ) (
 (g24 p0.2.2.2.1 y1.2.1.1).bind fun y2 =>
 cond (au y2.2.1.1 0) (
 c3
 ) (
 some ((),(y2.2.1,()))
 )
 )
def s7:Su:=⟨[.c true [RF,ki,ki,SH],.c false [ki]],[(false,[ki])],true,.inl fun x=>g7 x.1 x.2.1.1⟩
theorem ok7:ar Tryz.prog 7 s7 :=
 fq (ac aaC (ac YU an)) Tryz.f7
def Nf (p0:(List UInt8)×Int×Int×Unit):Option (Unit×(S5×Unit)) :=
 some ((),(p0,()))
def XI:Su:=⟨[.c true [.str,ki,ki]],[(true,[.str,ki,ki])],true,.inl fun x=>Nf x.1⟩
theorem Uh:ar Tryz.prog 285 XI :=
 fq an Tryz.f285
def pC (t0:List my) (t3:List gw) (t4:Int):Rd ((List my)×(List gw)×Int×Unit) Unit :=
 cond (au t4 (ae t0)) (
 cond (aR t4 t0) (
 (Nf (gt d253 t0 t4)).bind fun y1 =>
 cond (aR t4 t3) (
 let u1:=(gt d95 t3 t4)
 let u2:=(jo t3 t4 (y1.2.1.1,u1.2.1,u1.2.2.1,()))
 let u3:=(gt d95 u2 t4)
 let u4:=(jo u2 t4 (u3.1,y1.2.1.2.1,u3.2.2.1,()))
 let u5:=(gt d95 u4 t4)
 some (.inl (t0,(jo u4 t4 (u5.1,u5.2.1,y1.2.1.2.2.1,())),(aj .i64 t4 1),()))
 ) none
 ) none
 ) (
 some (.inr (.inl (t0,t3,t4,())))
 )
def JW:=kt (af (dn pC))
def Nr (p0:List my):Option (Unit×(((List gw)×Unit)×Unit)) :=
 let u1:=(ae p0)
 cond (MN 32 u1) (
 (JW p0 (wM d95 u1) 0).bind (Sum.elim (fun y1 =>
 some ((),((y1.2.1,()),()))
 ) (fun _ =>
 none
 ))
 ) none
def YA:Su:=⟨[.c false [GL]],[(false,[mi])],true,.inl fun x=>Nr x.1.1⟩
theorem U6:ar Tryz.prog 231 YA :=
 fl (ac Uh an) [] [(0,⟨[.d 0 GL,.own 3 mi,.d 4 ki],af (dn pC)⟩)] [] Tryz.f231 (lp [0] (sc cM sn))
def oV (t0 t3:List R3) (t4:Int):Rd ((List R3)×(List R3)×Int×Unit) Unit :=
 cond (au t4 (ae t0)) (
 cond (aR t4 t0) (
 cond (aR t4 t3) (
 some (.inl (t0,(jo t3 t4 (gt d3 t0 t4)),(aj .i64 t4 1),()))
 ) none
 ) none
 ) (
 some (.inr (.inl (t0,t3,t4,())))
 )
def KM:=kt (af (dn oV))
def F9 (p0:List R3):Option P3 :=
 let u1:=(ae p0)
 cond (MN 8 u1) (
 (KM p0 (wM d3 u1) 0).bind (Sum.elim (fun y1 =>
 some ((),((y1.2.1,()),()))
 ) (fun _ =>
 none
 ))
 ) none
def Y6:Su:=⟨[.c false [q3]],[(false,[q3])],true,.inl fun x=>F9 x.1.1⟩
theorem OR:ar Tryz.prog 132 Y6 :=
 fl an [] [(0,⟨[.d 0 q3,.own 3 q3,.d 4 ki],af (dn oV)⟩)] [] Tryz.f132 (lp [0] (sc cM sn))
def Mx (p0:Int×Int×(List R3)×(List R3)×Unit):Option Zd :=
 (F9 p0.2.2.1).bind fun y1 =>
 (F9 p0.2.2.2.1).bind fun y2 =>
 some ((),((p0.1,p0.2.1,y1.2.1.1,y2.2.1.1,()),()))
def YG:Su:=⟨[.c true [ki,ki,q3,q3]],[(true,[ki,ki,q3,q3])],true,.inl fun x=>Mx x.1⟩
theorem UF:ar Tryz.prog 232 YG :=
 fq (ac OR an) Tryz.f232
def uU (t0 t3:List R5) (t4:Int):Rd ((List R5)×(List R5)×Int×Unit) Unit :=
 cond (au t4 (ae t0)) (
 cond (aR t4 t0) (
 cond (aR t4 t3) (
 some (.inl (t0,(jo t3 t4 (gt d5 t0 t4)),(aj .i64 t4 1),()))
 ) none
 ) none
 ) (
 some (.inr (.inl (t0,t3,t4,())))
 )
def Pv:=kt (af (dn uU))
def g17 (p0:List R5):Option (Unit×(((List R5)×Unit)×Unit)) :=
 let u1:=(ae p0)
 cond (MN 1 u1) (
 (Pv p0 (wM d5 u1) 0).bind (Sum.elim (fun y1 =>
 some ((),((y1.2.1,()),()))
 ) (fun _ =>
 none
 ))
 ) none
def s17:Su:=⟨[.c false [q5]],[(false,[q5])],true,.inl fun x=>g17 x.1.1⟩
theorem QK:ar Tryz.prog 17 s17 :=
 fl an [] [(0,⟨[.d 0 q5,.own 3 q5,.d 4 ki],af (dn uU)⟩)] [] Tryz.f17 (lp [0] (sc cM sn))
def NV (p0:(List UInt8)×(List UInt8)×(List R5)×Unit):Option (Unit×(l4×Unit)) :=
 (g17 p0.2.2.1).bind fun y1 =>
 some ((),((p0.1,p0.2.1,y1.2.1.1,()),()))
def ZB:Su:=⟨[.c true [.str,.str,q5]],[(true,[.str,.str,q5])],true,.inl fun x=>NV x.1⟩
theorem Vg:ar Tryz.prog 286 ZB :=
 fq (ac QK an) Tryz.f286
def oq (t0:List l4) (t3:List cu) (t4:Int):Rd ((List l4)×(List cu)×Int×Unit) Unit :=
 cond (au t4 (ae t0)) (
 cond (aR t4 t0) (
 (NV (gt d255 t0 t4)).bind fun y1 =>
 cond (aR t4 t3) (
 let u1:=(gt d166 t3 t4)
 let u2:=(jo t3 t4 (y1.2.1.1,u1.2.1,u1.2.2.1,()))
 let u3:=(gt d166 u2 t4)
 let u4:=(jo u2 t4 (u3.1,y1.2.1.2.1,u3.2.2.1,()))
 let u5:=(gt d166 u4 t4)
 some (.inl (t0,(jo u4 t4 (u5.1,u5.2.1,y1.2.1.2.2.1,())),(aj .i64 t4 1),()))
 ) none
 ) none
 ) (
 some (.inr (.inl (t0,t3,t4,())))
 )
def HC:=kt (af (dn oq))
def N2 (p0:List l4):Option Y32 :=
 let u1:=(ae p0)
 cond (MN 56 u1) (
 (HC p0 (wM d166 u1) 0).bind (Sum.elim (fun y1 =>
 some ((),((y1.2.1,()),()))
 ) (fun _ =>
 none
 ))
 ) none
def YN:Su:=⟨[.c false [Gn]],[(false,[dQ])],true,.inl fun x=>N2 x.1.1⟩
theorem Tc:ar Tryz.prog 233 YN :=
 fl (ac Vg an) [] [(0,⟨[.d 0 Gn,.own 3 dQ,.d 4 ki],af (dn oq)⟩)] [] Tryz.f233 (lp [0] (sc cM sn))
def Ob (p0:(List UInt8)×Int×Int×Int×Int×(List my)×Int×Int×(List R3)×(List R3)×(List l4)×Unit):Option Y72 :=
 (Nr p0.2.2.2.2.2.1).bind fun y1 =>
 (Mx (p0.2.2.2.2.2.2.1,p0.2.2.2.2.2.2.2.1,p0.2.2.2.2.2.2.2.2.1,p0.2.2.2.2.2.2.2.2.2.1,())).bind fun y2 =>
 (N2 p0.2.2.2.2.2.2.2.2.2.2.1).bind fun y3 =>
 some ((),((p0.1,p0.2.1,p0.2.2.1,p0.2.2.2.1,p0.2.2.2.2.1,y1.2.1.1,y2.2.1.1,y2.2.1.2.1,y2.2.1.2.2.1,y2.2.1.2.2.2.1,y3.2.1.1,()),()))
def XU:Su:=⟨[.c true [.str,ki,ki,ki,ki,GL,ki,ki,q3,q3,Gn]],[(true,[.str,ki,ki,ki,ki,mi,ki,ki,q3,q3,dQ])],true,.inl fun x=>Ob x.1⟩
theorem U8:ar Tryz.prog 183 XU :=
 fq (ac U6 (ac UF (ac Tc an))) Tryz.f183
def pM (t0:List gO) (t3:List dt) (t4:Int):Rd ((List gO)×(List dt)×Int×Unit) Unit :=
 cond (au t4 (ae t0)) (
 cond (aR t4 t0) (
 (Ob (gt d164 t0 t4)).bind fun y1 =>
 cond (aR t4 t3) (
 some (.inl (t0,(jo t3 t4 y1.2.1),(aj .i64 t4 1),()))
 ) none
 ) none
 ) (
 some (.inr (.inl (t0,t3,t4,())))
 )
def JZ:=kt (af (dn pM))
def LK (p0:List gO):Option S0 :=
 let u1:=(ae p0)
 cond (MN 160 u1) (
 (JZ p0 (wM d59 u1) 0).bind (Sum.elim (fun y1 =>
 some ((),((y1.2.1,()),()))
 ) (fun _ =>
 none
 ))
 ) none
def Z7:Su:=⟨[.c false [Gy]],[(false,[fG])],true,.inl fun x=>LK x.1.1⟩
theorem Tu:ar Tryz.prog 131 Z7 :=
 fl (ac U8 an) [] [(0,⟨[.d 0 Gy,.own 3 fG,.d 4 ki],af (dn pM)⟩)] [] Tryz.f131 (lp [0] (sc cM sn))
def WX (p0:Int×(List gO)×Unit):Option (Unit×(Wm×Unit)) :=
 (LK p0.2.1).bind fun y1 =>
 some ((),((p0.1,y1.2.1.1,()),()))
def s71:Su:=⟨[.c true [ki,Gy]],[(true,[ki,fG])],true,.inl fun x=>WX x.1⟩
theorem aal:ar Tryz.prog 71 s71 :=
 fq (ac Tu an) Tryz.f71
def vI (t0:List pU) (t3:List ea) (t4:Int):Rd ((List pU)×(List ea)×Int×Unit) Unit :=
 cond (au t4 (ae t0)) (
 cond (aR t4 t0) (
 (WX (gt d81 t0 t4)).bind fun y1 =>
 cond (aR t4 t3) (
 let u1:=(jo t3 t4 (y1.2.1.1,(gt d89 t3 t4).2.1,()))
 some (.inl (t0,(jo u1 t4 ((gt d89 u1 t4).1,y1.2.1.2.1,())),(aj .i64 t4 1),()))
 ) none
 ) none
 ) (
 some (.inr (.inl (t0,t3,t4,())))
 )
def Pg:=kt (af (dn vI))
def XB (p0:List pU):Option ZM :=
 let u1:=(ae p0)
 cond (MN 32 u1) (
 (Pg p0 (wM d89 u1) 0).bind (Sum.elim (fun y1 =>
 some ((),((y1.2.1,()),()))
 ) (fun _ =>
 none
 ))
 ) none
def s30:Su:=⟨[.c false [RF]],[(false,[gj])],true,.inl fun x=>XB x.1.1⟩
theorem aaD:ar Tryz.prog 30 s30 :=
 fl (ac aal an) [] [(0,⟨[.d 0 RF,.own 3 gj,.d 4 ki],af (dn vI)⟩)] [] Tryz.f30 (lp [0] (sc cM sn))
def Xo (p0:(List R5)×Int×(List R3)×Int×Int×Int×Int×Int×(List R5)×Unit):Option Y62 :=
 (g17 p0.1).bind fun y1 =>
 (F9 p0.2.2.1).bind fun y2 =>
 (g17 p0.2.2.2.2.2.2.2.2.1).bind fun y3 =>
 some ((),((y1.2.1.1,p0.2.1,y2.2.1.1,p0.2.2.2.1,p0.2.2.2.2.1,p0.2.2.2.2.2.1,p0.2.2.2.2.2.2.1,p0.2.2.2.2.2.2.2.1,y3.2.1.1,()),()))
def s72:Su:=⟨[.c true [q5,ki,q3,ki,ki,ki,ki,ki,q5]],[(true,[q5,ki,q3,ki,ki,ki,ki,ki,q5])],true,.inl fun x=>Xo x.1⟩
theorem Zw:ar Tryz.prog 72 s72 :=
 fq (ac OR (ac QK an)) Tryz.f72
def xx (t0:List pw) (t3:List gq) (t4:Int):Rd ((List pw)×(List gq)×Int×Unit) Unit :=
 cond (au t4 (ae t0)) (
 cond (aR t4 t0) (
 (Xo (gt d83 t0 t4)).bind fun y1 =>
 cond (aR t4 t3) (
 some (.inl (t0,(jo t3 t4 y1.2.1),(aj .i64 t4 1),()))
 ) none
 ) none
 ) (
 some (.inr (.inl (t0,t3,t4,())))
 )
def OC:=kt (af (dn xx))
def Xv (p0:List pw):Option (Unit×(((List gq)×Unit)×Unit)) :=
 let u1:=(ae p0)
 cond (MN 120 u1) (
 (OC p0 (wM d62 u1) 0).bind (Sum.elim (fun y1 =>
 some ((),((y1.2.1,()),()))
 ) (fun _ =>
 none
 ))
 ) none
def s31:Su:=⟨[.c false [SH]],[(false,[jZ])],true,.inl fun x=>Xv x.1.1⟩
theorem XX:ar Tryz.prog 31 s31 :=
 fl (ac Zw an) [] [(0,⟨[.d 0 SH,.own 3 jZ,.d 4 ki],af (dn xx)⟩)] [] Tryz.f31 (lp [0] (sc cM sn))
def g9 (p0:(List pU)×Int×Int×(List pw)×Unit):Option Y52 :=
 (XB p0.1).bind fun y1 =>
 (Xv p0.2.2.2.1).bind fun y2 =>
 some ((),((y1.2.1.1,p0.2.1,p0.2.2.1,y2.2.1.1,()),()))
def s9:Su:=⟨[.c true [RF,ki,ki,SH]],[(true,[gj,ki,ki,jZ])],true,.inl fun x=>g9 x.1⟩
theorem ok9:ar Tryz.prog 9 s9 :=
 fq (ac aaD (ac XX an)) Tryz.f9
def rL (p0 p1 p2:Int):Option ed :=
 some ((),(((cond (bH p1 p0) (bH p0 p2) false),()),()))
def s39:Su:=⟨[.c false [ki],.c false [ki],.c false [ki]],[(false,[.bool])],true,.inl fun x=>rL x.1.1 x.2.1.1 x.2.2.1.1⟩
theorem q8:ar Tryz.prog 39 s39 :=
 fq an Tryz.f39
def Gi (p0:Int):Option ed :=
 (rL p0 0 1000000000).bind fun y1 =>
 some ((),(y1.2.1,()))
def s58:Su:=⟨[.c false [ki]],[(false,[.bool])],true,.inl fun x=>Gi x.1.1⟩
theorem Jw:ar Tryz.prog 58 s58 :=
 fq (ac q8 an) Tryz.f58
def WU (p0:List R5) (p1:Int):Option (Unit×(Tw×Y1×Unit)) :=
 cond (au 300 (ae p0)) (
 c8
 ) (
 (Gi p1).bind fun y1 =>
 cond (!y1.2.1.1) (
 c8
 ) (
 cond (bY 1 [] p0) (
 some ((),(((jn [] p0),0,[],0,p1,(-1),(-1),0,[],()),(true,()),()))
 ) none
 )
 )
def s47:Su:=⟨[.c false [q5],.c false [ki]],[(true,[q5,ki,q3,ki,ki,ki,ki,ki,q5]),(false,[.bool])],true,.inl fun x=>WU x.1.1 x.2.1.1⟩
theorem aa3:ar Tryz.prog 47 s47 :=
 fq (ac Jw an) Tryz.f47
def Ic (p0:Int×Int×(List R3)×(List R3)×Unit):Option Zd :=
 cond (bY 8 [] p0.2.2.1) (
 cond (bY 8 [] p0.2.2.2.1) (
 some ((),((p0.1,p0.2.1,(jn [] p0.2.2.1),(jn [] p0.2.2.2.1),()),()))
 ) none
 ) none
def aaE:Su:=⟨[.c true [ki,ki,q3,q3]],[(true,[ki,ki,q3,q3])],true,.inl fun x=>Ic x.1⟩
theorem Tq:ar Tryz.prog 117 aaE :=
 fq an Tryz.f117
def pj (t3 t7:List cu) (t8 t9:Int):Rd Xm Unit :=
 cond (au t9 t8) (
 cond (aR t9 t7) (
 let u1:=(gt d166 t7 t9)
 cond (bY 1 [] u1.2.2.1) (
 cond (bY 56 t3 [(u1.1,u1.2.1,(jn [] u1.2.2.1),())]) (
 some (.inl ((jn t3 [(u1.1,u1.2.1,(jn [] u1.2.2.1),())]),t7,t8,(aj .i64 t9 1),()))
 ) none
 ) none
 ) none
 ) (
 some (.inr (.inl (t3,t7,t8,t9,())))
 )
def JB:=mj (af (cV pj))
def MQ (p0:List cu):Option Y32 :=
 (JB [] p0 (ae p0) 0).bind (Sum.elim (fun y1 =>
 some ((),((y1.1,()),()))
 ) (fun _ =>
 none
 ))
def aaw:Su:=⟨[.c false [dQ]],[(false,[dQ])],true,.inl fun x=>MQ x.1.1⟩
theorem VA:ar Tryz.prog 118 aaw :=
 fl an [] [(0,⟨[.own 3 dQ,.d 7 dQ,.d 8 ki,.d 9 ki],af (cV pj)⟩)] [] Tryz.f118 (lp [0] (sc cM sn))
def Ug (p0:(List UInt8)×Int×Int×Int×Int×(List gw)×Int×Int×(List R3)×(List R3)×(List cu)×Unit):Option Y72 :=
 cond (bY 32 [] p0.2.2.2.2.2.1) (
 (Ic (p0.2.2.2.2.2.2.1,p0.2.2.2.2.2.2.2.1,p0.2.2.2.2.2.2.2.2.1,p0.2.2.2.2.2.2.2.2.2.1,())).bind fun y1 =>
 (MQ p0.2.2.2.2.2.2.2.2.2.2.1).bind fun y2 =>
 some ((),((p0.1,p0.2.1,p0.2.2.1,p0.2.2.2.1,p0.2.2.2.2.1,(jn [] p0.2.2.2.2.2.1),y1.2.1.1,y1.2.1.2.1,y1.2.1.2.2.1,y1.2.1.2.2.2.1,y2.2.1.1,()),()))
 ) none
def s63:Su:=⟨[.c true [.str,ki,ki,ki,ki,mi,ki,ki,q3,q3,dQ]],[(true,[.str,ki,ki,ki,ki,mi,ki,ki,q3,q3,dQ])],true,.inl fun x=>Ug x.1⟩
theorem Ol:ar Tryz.prog 63 s63 :=
 fq (ac Tq (ac VA an)) Tryz.f63
def vp (t3:List dt) (t8:Int) (t11:List ea) (t12 t13:Int) (t18:List dt) (t19 t20:Int) (b2:(List dt)×Unit) (b7:(List UInt8)×Int×Int×Int×Int×(List gw)×Int×Int×(List R3)×(List R3)×(List cu)×Unit):Rd ((List dt)×Int×(List ea)×Int×Int×(List dt)×Int×Int×Y4×dt×Unit) Unit :=
 cond (au 0 t8) (
 let u1:=(aM .i64 t8 1)
 cond (aR u1 t3) (
 cond (!(R7 (gt d59 t3 u1).1 b7.1)) (
 some (.inl (t3,u1,t11,t12,t13,t18,t19,t20,b2,b7,()))
 ) (
 some (.inr (.inl (t3,t8,t11,t12,t13,t18,t19,t20,b2,b7,())))
 )
 ) none
 ) (
 some (.inr (.inl (t3,t8,t11,t12,t13,t18,t19,t20,b2,b7,())))
 )
def Cl:=T8 (af (Bf vp))
def sX (t3:List dt) (t11:List ea) (t12 t13:Int) (t18:List dt) (t19 t20:Int) (b2:(List dt)×Unit):Rd ((List dt)×(List ea)×Int×Int×(List dt)×Int×Int×Y4×Unit) Unit :=
 cond (au t20 t19) (
 cond (aR t20 t18) (
 (Cl t3 (ae t3) t11 t12 t13 t18 t19 t20 b2 (gt d59 t18 t20)).bind (Sum.elim (fun y1 =>
 cond (dP 0 y1.2.1 y1.1) (
 cond (Tb 160 [] y1.1 y1.2.1) (
 (Ug y1.2.2.2.2.2.2.2.2.2.1).bind fun y2 =>
 let u1:=(jn [] (P6 y1.1 y1.2.1))
 cond (bY 160 u1 [y2.2.1]) (
 cond (SG y1.2.1 y1.2.1) (
 let u2:=(jn u1 [y2.2.1])
 let u3:=(Y9 y1.1 y1.2.1)
 cond (bY 160 u2 u3) (
 some (.inl ((jn u2 u3),y1.2.2.1,y1.2.2.2.1,y1.2.2.2.2.1,y1.2.2.2.2.2.1,y1.2.2.2.2.2.2.1,(aj .i64 y1.2.2.2.2.2.2.2.1 1),y1.2.2.2.2.2.2.2.2.1,()))
 ) none
 ) none
 ) none
 ) none
 ) none
 ) (fun _ =>
 some (.inr (.inr ()))
 ))
 ) none
 ) (
 some (.inr (.inl (t3,t11,t12,t13,t18,t19,t20,b2,())))
 )
def EX:=SW (af (yV sX))
def sT (t3:List dt) (t11:List ea) (t12 t13:Int) (b2:(List dt)×Unit):Rd ((List dt)×(List ea)×Int×Int×Y4×Unit) Unit :=
 cond (au t13 t12) (
 cond (aR t13 t11) (
 (EX t3 t11 t12 t13 (gt d89 t11 t13).2.1 (ae (gt d89 t11 t13).2.1) 0 b2).bind (Sum.elim (fun y1 =>
 some (.inl (y1.1,y1.2.1,y1.2.2.1,(aj .i64 y1.2.2.2.1 1),y1.2.2.2.2.2.2.2.1,()))
 ) (fun _ =>
 some (.inr (.inr ()))
 ))
 ) none
 ) (
 some (.inr (.inl (t3,t11,t12,t13,b2,())))
 )
def EC:=xS (af (ff sT))
def Pm (p0:List ea):Option S0 :=
 (EC [] p0 (ae p0) 0 ([],())).bind (Sum.elim (fun y1 =>
 some ((),((y1.1,()),()))
 ) (fun _ =>
 none
 ))
def W8:Su:=⟨[.c false [gj]],[(true,[fG])],true,.inl fun x=>Pm x.1.1⟩
def uP:List SE:=[.own 3 fG,.d 8 ki,.d 11 gj,.d 12 ki,.d 13 ki,.d 18 fG,.d 19 ki,.d 20 ki,.box 2 [(true,fG)],.box 7 [(false,.str),(false,ki),(false,ki),(false,ki),(false,ki),(false,mi),(false,ki),(false,ki),(false,q3),(false,q3),(false,dQ)]]
def uX:List SE:=[.own 3 fG,.d 11 gj,.d 12 ki,.d 13 ki,.d 18 fG,.d 19 ki,.d 20 ki,.box 2 [(true,fG)]]
def xM:List SE:=[.own 3 fG,.d 11 gj,.d 12 ki,.d 13 ki,.box 2 [(true,fG)]]
def Sv:List SE:=[]
def UQ:Nat->Option (Lo Sv)
 | 4=>some ⟨uP,Bf Cl⟩
 | 2=>some ⟨uX,yV EX⟩
 | 0=>some ⟨xM,ff EC⟩
 | _=>none
def KO:List (Nat×SS):=[(63,iS s63)]
def BJ:En:=zI 60 tt KO Sv UQ [] fun _=>none
def aaS:Nat->Option (St->Tr St)
 | 11=>some (wb BJ (fO (bh 11 (ak Tryz.f27)) 0).op 49 49 49 3 8 41 42 43 44 45 9)
 | 13=>some (AQ BJ 49 49 49 9 3 8 51 52 53 54 55)
 | _=>none
def Lh:En:=zI 60 tt KO Sv UQ [] (aaS)
theorem WH (x:bL uP):(dj Lh 4 uP (bc 4 (ak Tryz.f27)) x).run=Bf vp x:=by kernel_rfl
theorem Wa (x:bL uX):(dj Lh 2 uX (bc 2 (ak Tryz.f27)) x).run=yV sX x:=by kernel_rfl
theorem Vr (x:bL xM):(dj Lh 0 xM (bc 0 (ak Tryz.f27)) x).run=ff sT x:=by kernel_rfl
theorem t27 (x:PT W8.ps):(F7 Lh (ak Tryz.f27) Tryz.f27.results.toList W8.ps W8.rs true x).run=Pm x.1.1:=by kernel_rfl
theorem EM:dq Tryz.prog Lh:=da (l:=KO) ⟨Ol,trivial⟩
theorem G5:dq Tryz.prog BJ:=da (l:=KO) ⟨Ol,trivial⟩
theorem Q0:cP Tryz.prog Lh (bh 11 (ak Tryz.f27)) (wb BJ (fO (bh 11 (ak Tryz.f27)) 0).op 49 49 49 3 8 41 42 43 44 45 9) :=
 gD rfl rfl (HD (E:=BJ) (lC hT) G5 (cd:=(bh 11 (ak Tryz.f27))) (rid:=11) (o1:=fO (bh 11 (ak Tryz.f27)) 0) (o2:=fO (bh 11 (ak Tryz.f27)) 1) (o3:=fO (bh 11 (ak Tryz.f27)) 2) (o4:=fO (bh 11 (ak Tryz.f27)) 3) (o5:=fO (bh 11 (ak Tryz.f27)) 4) (o6:=fO (bh 11 (ak Tryz.f27)) 5) (c:=AD (fO (bh 11 (ak Tryz.f27)) 4)) (tys:=[])
  (by kernel_rfl) (by kernel_rfl) (by kernel_rfl) (by kernel_rfl) (by kernel_rfl) (by kernel_rfl) (by kernel_rfl) (by kernel_rfl) (by kernel_rfl) (by kernel_rfl) (by kernel_rfl) (by kernel_rfl) (by kernel_rfl) (by kernel_rfl) (by kernel_rfl) (by kernel_rfl) (by kernel_rfl) (by kernel_rfl) (by kernel_rfl) (by kernel_rfl) (by kernel_rfl))
theorem Gb:dq Tryz.prog BJ:=da (l:=KO) ⟨Ol,trivial⟩
theorem Qj:cP Tryz.prog Lh (bh 13 (ak Tryz.f27)) (AQ BJ 49 49 49 9 3 8 51 52 53 54 55) :=
 gD rfl rfl (MF (E:=BJ) (lC hT) Gb (cd:=(bh 13 (ak Tryz.f27))) (rid:=13) (o1:=fO (bh 13 (ak Tryz.f27)) 0) (o2:=fO (bh 13 (ak Tryz.f27)) 1) (o3:=fO (bh 13 (ak Tryz.f27)) 2) (o4:=fO (bh 13 (ak Tryz.f27)) 3) (o5:=fO (bh 13 (ak Tryz.f27)) 4) (o6:=fO (bh 13 (ak Tryz.f27)) 5) (c:=AD (fO (bh 13 (ak Tryz.f27)) 4)) (tys:=[])
  (by kernel_rfl) (by kernel_rfl) (by kernel_rfl) (by kernel_rfl) (by kernel_rfl) (by kernel_rfl) (by kernel_rfl) (by kernel_rfl) (by kernel_rfl) (by kernel_rfl) (by kernel_rfl) (by kernel_rfl) (by kernel_rfl) (by kernel_rfl) (by kernel_rfl) (by kernel_rfl) (by kernel_rfl) (by kernel_rfl) (by kernel_rfl) (by kernel_rfl) (by kernel_rfl) (by kernel_rfl))
theorem VW:cw Tryz.prog Lh 4 (.loop (bc 4 (ak Tryz.f27))) ⟨uP,Bf Cl⟩ :=
 eC (lC hT) EM eP (step:=fun (x:bL uP)=>vp x.1 x.2.1 x.2.2.1 x.2.2.2.1 x.2.2.2.2.1 x.2.2.2.2.2.1 x.2.2.2.2.2.2.1 x.2.2.2.2.2.2.2.1 x.2.2.2.2.2.2.2.2.1 x.2.2.2.2.2.2.2.2.2.1) WH (ba [] (by kernel_rfl) trivial [] (by kernel_rfl) trivial)
theorem Ur:cw Tryz.prog Lh 2 (.loop (bc 2 (ak Tryz.f27))) ⟨uX,yV EX⟩ :=
 eC (lC hT) EM eP (step:=fun (x:bL uX)=>sX x.1 x.2.1 x.2.2.1 x.2.2.2.1 x.2.2.2.2.1 x.2.2.2.2.2.1 x.2.2.2.2.2.2.1 x.2.2.2.2.2.2.2.1) Wa (ba [(4,.loop (bc 4 (ak Tryz.f27)))] (by kernel_rfl) ⟨ma rfl VW,trivial⟩ [(11,bh 11 (ak Tryz.f27)),(13,bh 13 (ak Tryz.f27))] (by kernel_rfl) ⟨xV rfl Q0,xV rfl Qj,trivial⟩)
theorem Vs:cw Tryz.prog Lh 0 (.loop (bc 0 (ak Tryz.f27))) ⟨xM,ff EC⟩ :=
 eC (lC hT) EM eP (step:=fun (x:bL xM)=>sT x.1 x.2.1 x.2.2.1 x.2.2.2.1 x.2.2.2.2.1) Vr (ba [(2,.loop (bc 2 (ak Tryz.f27)))] (by kernel_rfl) ⟨ma rfl Ur,trivial⟩ [] (by kernel_rfl) trivial)
theorem YD:ar Tryz.prog 27 W8 :=
 qv (E:=Lh) (lC hT) EM eP (fn:=Tryz.f27) (c:=(ak Tryz.f27)) (by kernel_rfl) (by kernel_rfl) (by kernel_rfl) rfl (ba [(0,.loop (bc 0 (ak Tryz.f27)))] (by kernel_rfl) ⟨ma rfl Vs,trivial⟩ [] (by kernel_rfl) trivial) fun x y h=>⟨y.1,fun _=>rfl,(t27 x).trans h⟩
def pQ (t0:List UInt8) (t3:Int):Rd WO Y1 :=
 cond (au t3 (ae t0)) (
 cond (aR t3 t0) (
 let u1:=(dx t0 t3)
 cond (au u1 48) (
 some (.inr (.inr (false,())))
 ) (
 cond (aR t3 t0) (
 cond (au 57 u1) (
 some (.inr (.inr (false,())))
 ) (
 some (.inl (t0,(aj .i64 t3 1),()))
 )
 ) none
 )
 ) none
 ) (
 some (.inr (.inl (t0,t3,())))
 )
def JP:=OJ (af (wI pQ))
def rq (p0:List UInt8):Option ed :=
 (JP p0 0).bind (Sum.elim (fun y1 =>
 some ((),(((au 0 (ae y1.1)),()),()))
 ) (fun y1 =>
 some ((),(y1,()))
 ))
def YE:Su:=⟨[.c false [.str]],[(false,[.bool])],true,.inl fun x=>rq x.1.1⟩
theorem tl:ar Tryz.prog 222 YE :=
 fl an [.d 2 .bool] [(0,⟨[.d 0 .str,.d 3 ki],af (wI pQ)⟩)] [] Tryz.f222 (lp [0] (sc cM sn))
def sH (t0:List UInt8) (t3:Int) (t4:Bool) (t5:Int):Rd ((List UInt8)×Int×Bool×Int×Unit) Unit :=
 cond (bH 0 t5) (
 cond (aR t5 t0) (
 cond t4 (
 let u1:=(aM .i64 (bG .i64 (dx t0 t5)) 48)
 let u2:=(j5 .i64 2 u1)
 cond (au 9 u2) (
 let u3:=(aM .i64 t5 1)
 some (.inl (t0,(fz (aj .i64 t3 (aM .i64 u2 9)) 10),(!t4),u3,()))
 ) (
 let u3:=(aM .i64 t5 1)
 some (.inl (t0,(fz (aj .i64 t3 u2) 10),(!t4),u3,()))
 )
 ) (
 let u1:=(aM .i64 (bG .i64 (dx t0 t5)) 48)
 let u2:=(aM .i64 t5 1)
 some (.inl (t0,(fz (aj .i64 t3 u1) 10),(!t4),u2,()))
 )
 ) none
 ) (
 some (.inr (.inl (t0,t3,t4,t5,())))
 )
def IJ:=mj (af (cV sH))
def LI (p0:List UInt8):Option gX :=
 (rq p0).bind fun y1 =>
 cond (!y1.2.1.1) (
 c3
 ) (
 (IJ p0 0 true (aM .i64 (ae p0) 1)).bind (Sum.elim (fun y2 =>
 some ((),(((fz (aM .i64 10 y2.2.1) 10),()),()))
 ) (fun _ =>
 none
 ))
 )
def XP:Su:=⟨[.c false [.str]],[(false,[ki])],true,.inl fun x=>LI x.1.1⟩
theorem V4:ar Tryz.prog 223 XP :=
 fl (ac tl an) [] [(0,⟨[.d 0 .str,.d 3 ki,.d 4 .bool,.d 5 ki],af (cV sH)⟩)] [] Tryz.f223 (lp [0] (sc cM sn))
def MV (p0:List UInt8):Option ed :=
 (rq p0).bind fun y1 =>
 let u1:=(ae p0)
 cond (cond (!y1.2.1.1) true (au u1 2)) (
 c0
 ) (
 let u2:=(aM .i64 u1 1)
 cond (dP 0 u2 p0) (
 (LI (sub p0 0 u2)).bind fun y2 =>
 cond (aR u2 p0) (
 some ((),(((aq y2.2.1.1 (aM .i64 (bG .i64 (dx p0 u2)) 48)),()),()))
 ) none
 ) none
 )
def Z8:Su:=⟨[.c false [.str]],[(false,[.bool])],true,.inl fun x=>MV x.1.1⟩
theorem Vq:ar Tryz.prog 175 Z8 :=
 fq (ac tl (ac V4 an)) Tryz.f175
def sS (p0:List UInt8):Option ed :=
 cond (bH (ae p0) 19) (
 (MV p0).bind fun y1 =>
 some ((),(y1.2.1,()))
 ) (
 c0
 )
def Zu:Su:=⟨[.c false [.str]],[(false,[.bool])],true,.inl fun x=>sS x.1.1⟩
theorem ON:ar Tryz.prog 119 Zu :=
 fq (ac Vq an) Tryz.f119
def QS (p0:Int):Option ed :=
 some ((),(((cond (bH 0 p0) (bH p0 4611686018427387904) false),()),()))
def s62:Su:=⟨[.c false [ki]],[(false,[.bool])],true,.inl fun x=>QS x.1.1⟩
theorem RD:ar Tryz.prog 62 s62 :=
 fq an Tryz.f62
def oo (t0:List UInt8) (t3:Int):Rd WO Y1 :=
 cond (au t3 (ae t0)) (
 cond (aR t3 t0) (
 let u1:=(dx t0 t3)
 cond (au u1 48) (
 cond (aR t3 t0) (
 cond (au u1 97) (
 some (.inr (.inr (false,())))
 ) (
 cond (aR t3 t0) (
 cond (au 122 u1) (
 some (.inr (.inr (false,())))
 ) (
 some (.inl (t0,(aj .i64 t3 1),()))
 )
 ) none
 )
 ) none
 ) (
 cond (aR t3 t0) (
 cond (au 57 u1) (
 cond (aR t3 t0) (
 cond (au u1 97) (
 some (.inr (.inr (false,())))
 ) (
 cond (aR t3 t0) (
 cond (au 122 u1) (
 some (.inr (.inr (false,())))
 ) (
 some (.inl (t0,(aj .i64 t3 1),()))
 )
 ) none
 )
 ) none
 ) (
 some (.inl (t0,(aj .i64 t3 1),()))
 )
 ) none
 )
 ) none
 ) (
 some (.inr (.inl (t0,t3,())))
 )
def Kq:=OJ (af (wI oo))
def KY (p0:List UInt8):Option ed :=
 (Kq p0 0).bind (Sum.elim (fun y1 =>
 (rL (ae y1.1) 1 6).bind fun y2 =>
 some ((),(y2.2.1,()))
 ) (fun y1 =>
 some ((),(y1,()))
 ))
def Z9:Su:=⟨[.c false [.str]],[(false,[.bool])],true,.inl fun x=>KY x.1.1⟩
theorem OI:ar Tryz.prog 224 Z9 :=
 fl (ac q8 an) [.d 2 .bool] [(0,⟨[.d 0 .str,.d 3 ki],af (wI oo)⟩)] [] Tryz.f224 (lp [0] (sc cM sn))
def Nu (p0:(List UInt8)×Int×Int×Unit):Option ed :=
 (KY p0.1).bind fun y1 =>
 cond y1.2.1.1 (
 (rL p0.2.1 1 9007199254740992).bind fun y2 =>
 cond y2.2.1.1 (
 (Gi p0.2.2.1).bind fun y3 =>
 some ((),(y3.2.1,()))
 ) (
 c0
 )
 ) (
 c0
 )
def ZP:Su:=⟨[.c true [.str,ki,ki]],[(false,[.bool])],true,.inl fun x=>Nu x.1⟩
theorem TP:ar Tryz.prog 176 ZP :=
 fq (ac q8 (ac Jw (ac OI an))) Tryz.f176
def oM (t0 t5:List gw) (t6 t7:Int):Rd ((List gw)×(List gw)×Int×Int×Unit) Y1 :=
 cond (au t7 t6) (
 cond (aR t7 t5) (
 let u1:=(gt d95 t5 t7)
 (Nu u1).bind fun y1 =>
 cond (!y1.2.1.1) (
 some (.inr (.inr (false,())))
 ) (
 cond (au 0 t7) (
 let u2:=(aM .i64 t7 1)
 cond (aR u2 t0) (
 cond (!(kj (gt d95 t0 u2).1 u1.1)) (
 some (.inr (.inr (false,())))
 ) (
 some (.inl (t0,t5,t6,(aj .i64 t7 1),()))
 )
 ) none
 ) (
 some (.inl (t0,t5,t6,(aj .i64 t7 1),()))
 )
 )
 ) none
 ) (
 some (.inr (.inl (t0,t5,t6,t7,())))
 )
def H6:=mj (af (cV oM))
def LR (p0:List gw):Option ed :=
 (H6 p0 p0 (ae p0) 0).bind (Sum.elim (fun y1 =>
 some ((),(((bH (ae y1.1) 4),()),()))
 ) (fun y1 =>
 some ((),(y1,()))
 ))
def Zn:Su:=⟨[.c false [mi]],[(false,[.bool])],true,.inl fun x=>LR x.1.1⟩
theorem TZ:ar Tryz.prog 120 Zn :=
 fl (ac TP an) [.d 2 .bool] [(0,⟨[.d 0 mi,.d 5 mi,.d 6 ki,.d 7 ki],af (cV oM)⟩)] [] Tryz.f120 (lp [0] (sc cM sn))
def pP (t32 t33:Int) (b1:Int×Int×(List R3)×(List R3)×Unit):Rd (Int×Int×(Int×Int×(List R3)×(List R3)×Unit)×Unit) Y1 :=
 cond (au t33 t32) (
 cond (aR t33 b1.2.2.1) (
 (QS (gt d3 b1.2.2.1 t33).1).bind fun y1 =>
 cond (!y1.2.1.1) (
 some (.inr (.inr (false,())))
 ) (
 cond (aR t33 b1.2.2.2.1) (
 (QS (gt d3 b1.2.2.2.1 t33).1).bind fun y2 =>
 cond (!y2.2.1.1) (
 some (.inr (.inr (false,())))
 ) (
 some (.inl (t32,(aj .i64 t33 1),b1,()))
 )
 ) none
 )
 ) none
 ) (
 some (.inr (.inl (t32,t33,b1,())))
 )
def Iz:=kt (af (dn pP))
def J0 (p0:Int×Int×(List R3)×(List R3)×Unit):Option ed :=
 (rL p0.1 1 1000).bind fun y1 =>
 cond (!y1.2.1.1) (
 c0
 ) (
 let u1:=(ae p0.2.2.1)
 (rL u1 1 8).bind fun y2 =>
 cond (cond (!y2.2.1.1) true (!(aq (ae p0.2.2.2.1) u1))) (
 c0
 ) (
 (Gi p0.2.1).bind fun y3 =>
 cond (!y3.2.1.1) (
 c0
 ) (
 (Iz u1 0 p0).bind (Sum.elim (fun _ =>
 c2
 ) (fun y4 =>
 some ((),(y4,()))
 ))
 )
 )
 )
def YF:Su:=⟨[.c true [ki,ki,q3,q3]],[(false,[.bool])],true,.inl fun x=>J0 x.1⟩
theorem WK:ar Tryz.prog 121 YF :=
 fl (ac q8 (ac Jw (ac RD an))) [.d 2 .bool] [(0,⟨[.d 32 ki,.d 33 ki,.box 1 [(false,ki),(false,ki),(false,q3),(false,q3)]],af (dn pP)⟩)] [] Tryz.f121 (lp [0] (sc cM sn))
def Nb (p0:(List UInt8)×(List UInt8)×(List R5)×Unit):Option ed :=
 (rq p0.1).bind fun y1 =>
 cond (cond y1.2.1.1 (aq (ae p0.1) 6) false) (
 (rq p0.2.1).bind fun y2 =>
 cond (cond y2.2.1.1 (aq (ae p0.2.1) 4) false) (
 (rL (ae p0.2.2.1) 1 200).bind fun y3 =>
 some ((),(y3.2.1,()))
 ) (
 c0
 )
 ) (
 c0
 )
def ZY:Su:=⟨[.c true [.str,.str,q5]],[(false,[.bool])],true,.inl fun x=>Nb x.1⟩
theorem Ti:ar Tryz.prog 177 ZY :=
 fq (ac q8 (ac tl an)) Tryz.f177
def oe (t0 t7:List cu) (t8 t9:Int) (t19:List cu) (t20 t21:Int) (b4:(List UInt8)×(List UInt8)×(List R5)×Unit):Rd ((List cu)×(List cu)×Int×Int×(List cu)×Int×Int×l4×Unit) Y1 :=
 cond (au t21 t20) (
 cond (aR t21 t19) (
 let u1:=(gt d166 t19 t21)
 cond (cond (cr u1.1 b4.1) (cr u1.2.1 b4.2.1) false) (
 some (.inr (.inr (false,())))
 ) (
 some (.inl (t0,t7,t8,t9,t19,t20,(aj .i64 t21 1),b4,()))
 )
 ) none
 ) (
 some (.inr (.inl (t0,t7,t8,t9,t19,t20,t21,b4,())))
 )
def Kx:=SW (af (yV oe))
def pV (t0 t7:List cu) (t8 t9:Int):Rd Xm Y1 :=
 cond (au t9 t8) (
 cond (aR t9 t7) (
 let u1:=(gt d166 t7 t9)
 (Nb u1).bind fun y1 =>
 cond (!y1.2.1.1) (
 some (.inr (.inr (false,())))
 ) (
 cond (dP 0 t9 t0) (
 let u2:=(sub t0 0 t9)
 (Kx t0 t7 t8 t9 u2 (ae u2) 0 u1).bind (Sum.elim (fun y2 =>
 some (.inl (y2.1,y2.2.1,y2.2.2.1,(aj .i64 y2.2.2.2.1 1),()))
 ) (fun y2 =>
 some (.inr (.inr (y2.1,())))
 ))
 ) none
 )
 ) none
 ) (
 some (.inr (.inl (t0,t7,t8,t9,())))
 )
def JV:=mj (af (cV pV))
def NU (p0:List cu):Option ed :=
 (JV p0 p0 (ae p0) 0).bind (Sum.elim (fun y1 =>
 some ((),(((bH (ae y1.1) 6),()),()))
 ) (fun y1 =>
 some ((),(y1,()))
 ))
def aac:Su:=⟨[.c false [dQ]],[(false,[.bool])],true,.inl fun x=>NU x.1.1⟩
theorem Uq:ar Tryz.prog 122 aac :=
 fl (ac Ti an) [.d 2 .bool] [(2,⟨[.d 0 dQ,.d 7 dQ,.d 8 ki,.d 9 ki,.d 19 dQ,.d 20 ki,.d 21 ki,.box 4 [(false,.str),(false,.str),(false,q5)]],af (yV oe)⟩),(0,⟨[.d 0 dQ,.d 7 dQ,.d 8 ki,.d 9 ki],af (cV pV)⟩)] [] Tryz.f122 (lp [0] (sc (lp [2] (sc cM sn)) sn))
def K4 (p0 p1 p2:Int):Option gX :=
 cond (au p0 p1) (
 some ((),((p1,()),()))
 ) (
 cond (au p2 p0) (
 some ((),((p2,()),()))
 ) (
 some ((),((p0,()),()))
 )
 )
def aa2:Su:=⟨[.c false [ki],.c false [ki],.c false [ki]],[(false,[ki])],true,.inl fun x=>K4 x.1.1 x.2.1.1 x.2.2.1.1⟩
theorem Uk:ar Tryz.prog 179 aa2 :=
 fq an Tryz.f179
def QP (p0 p1:Int):Option Xz :=
 (QS p0).bind fun y1 =>
 cond (!y1.2.1.1) (
 XK
 ) (
 (QS p1).bind fun y2 =>
 cond (cond (!y2.2.1.1) true (au (aM .i64 4611686018427387904 p1) p0)) (
 XK
 ) (
 some ((),(((aj .i64 p0 p1),()),(true,()),()))
 )
 )
def aaz:Su:=⟨[.c false [ki],.c false [ki]],[(false,[ki]),(false,[.bool])],true,.inl fun x=>QP x.1.1 x.2.1.1⟩
theorem Vv:ar Tryz.prog 178 aaz :=
 fq (ac RD an) Tryz.f178
def JD (p0 p1:Int):Option gX :=
 (K4 p0 0 4611686018427387904).bind fun y1 =>
 (K4 p1 0 4611686018427387904).bind fun y2 =>
 (QP y1.2.1.1 y2.2.1.1).bind fun y3 =>
 cond (!y3.2.2.1.1) (
 c20
 ) (
 some ((),(y3.2.1,()))
 )
def aaF:Su:=⟨[.c false [ki],.c false [ki]],[(false,[ki])],true,.inl fun x=>JD x.1.1 x.2.1.1⟩
theorem Pd:ar Tryz.prog 123 aaF :=
 fq (ac Uk (ac Vv an)) Tryz.f123
def pN (t3:Int) (t6:List gw) (t7 t8:Int):Rd (Int×(List gw)×Int×Int×Unit) Unit :=
 cond (au t8 t7) (
 cond (aR t8 t6) (
 (JD t3 (gt d95 t6 t8).2.1).bind fun y1 =>
 some (.inl (y1.2.1.1,t6,t7,(aj .i64 t8 1),()))
 ) none
 ) (
 some (.inr (.inl (t3,t6,t7,t8,())))
 )
def IK:=mj (af (cV pN))
def NH (p0:List gw):Option gX :=
 (IK 0 p0 (ae p0) 0).bind (Sum.elim (fun y1 =>
 some ((),((y1.1,()),()))
 ) (fun _ =>
 none
 ))
def aaV:Su:=⟨[.c false [mi]],[(false,[ki])],true,.inl fun x=>NH x.1.1⟩
theorem Tg:ar Tryz.prog 124 aaV :=
 fl (ac Pd an) [] [(0,⟨[.d 3 ki,.d 6 mi,.d 7 ki,.d 8 ki],af (cV pN)⟩)] [] Tryz.f124 (lp [0] (sc cM sn))
def Xa (p0:(List UInt8)×Int×Int×Int×Int×(List gw)×Int×Int×(List R3)×(List R3)×(List cu)×Unit):Option ed :=
 (sS p0.1).bind fun y1 =>
 cond (!y1.2.1.1) (
 c0
 ) (
 (rL p0.2.1 0 9007199254740992).bind fun y2 =>
 cond (!y2.2.1.1) (
 c0
 ) (
 (rL p0.2.2.2.1 0 1000).bind fun y3 =>
 cond (!y3.2.1.1) (
 c0
 ) (
 (rL p0.2.2.2.2.1 0 9007199254740992).bind fun y4 =>
 cond (!y4.2.1.1) (
 c0
 ) (
 (QS p0.2.2.1).bind fun y5 =>
 cond (!y5.2.1.1) (
 c0
 ) (
 (LR p0.2.2.2.2.2.1).bind fun y6 =>
 cond y6.2.1.1 (
 (J0 (p0.2.2.2.2.2.2.1,p0.2.2.2.2.2.2.2.1,p0.2.2.2.2.2.2.2.2.1,p0.2.2.2.2.2.2.2.2.2.1,())).bind fun y7 =>
 cond y7.2.1.1 (
 (NU p0.2.2.2.2.2.2.2.2.2.2.1).bind fun y8 =>
 cond y8.2.1.1 (
 (NH p0.2.2.2.2.2.1).bind fun y9 =>
 (JD p0.2.2.1 y9.2.1.1).bind fun y10 =>
 some ((),(((bH y10.2.1.1 p0.2.1),()),()))
 ) (
 c0
 )
 ) (
 c0
 )
 ) (
 c0
 )
 )
 )
 )
 )
 )
def s64:Su:=⟨[.c true [.str,ki,ki,ki,ki,mi,ki,ki,q3,q3,dQ]],[(false,[.bool])],true,.inl fun x=>Xa x.1⟩
theorem Yh:ar Tryz.prog 64 s64 :=
 fq (ac q8 (ac ON (ac RD (ac TZ (ac WK (ac Uq (ac Pd (ac Tg an)))))))) Tryz.f64
def pO (t6:List dt) (t7 t8:Int) (b1:(List dt)×Unit):Rd ((List dt)×Int×Int×Y4×Unit) Y1 :=
 cond (au t8 t7) (
 cond (aR t8 t6) (
 let u1:=(gt d59 t6 t8)
 (Xa u1).bind fun y1 =>
 cond (!y1.2.1.1) (
 some (.inr (.inr (false,())))
 ) (
 cond (au 0 t8) (
 let u2:=(aM .i64 t8 1)
 cond (aR u2 b1.1) (
 cond (!(kj (gt d59 b1.1 u2).1 u1.1)) (
 some (.inr (.inr (false,())))
 ) (
 some (.inl (t6,t7,(aj .i64 t8 1),b1,()))
 )
 ) none
 ) (
 some (.inl (t6,t7,(aj .i64 t8 1),b1,()))
 )
 )
 ) none
 ) (
 some (.inr (.inl (t6,t7,t8,b1,())))
 )
def Lq:=mj (af (cV pO))
def Ip (p0:(List dt)×Unit):Option ed :=
 (Lq p0.1 (ae p0.1) 0 p0).bind (Sum.elim (fun y1 =>
 some ((),(((bH (ae y1.2.2.2.1.1) 6),()),()))
 ) (fun y1 =>
 some ((),(y1,()))
 ))
def Y3:Su:=⟨[.c true [fG]],[(false,[.bool])],true,.inl fun x=>Ip x.1⟩
theorem TQ:ar Tryz.prog 100 Y3 :=
 fl (ac Yh an) [.d 2 .bool] [(0,⟨[.d 6 fG,.d 7 ki,.d 8 ki,.box 1 [(false,fG)]],af (cV pO)⟩)] [] Tryz.f100 (lp [0] (sc cM sn))
def oI (t0:List UInt8) (t3 t4:Int):Rd S5 Unit :=
 cond (au t4 (ae t0)) (
 cond (aR t4 t0) (
 some (.inl (t0,(zK .i64 (j5 .i64 (AW .i64 t3 (bG .i64 (dx t0 t4))) 16777619) 4294967295),(aj .i64 t4 1),()))
 ) none
 ) (
 some (.inr (.inl (t0,t3,t4,())))
 )
def Kg:=kt (af (dn oI))
def LD (p0:List UInt8):Option gX :=
 (Kg p0 2166136261 0).bind (Sum.elim (fun y1 =>
 some ((),((y1.2.1,()),()))
 ) (fun _ =>
 none
 ))
def YH:Su:=⟨[.c false [.str]],[(false,[ki])],true,.inl fun x=>LD x.1.1⟩
theorem VK:ar Tryz.prog 163 YH :=
 fl an [] [(0,⟨[.d 0 .str,.d 3 ki,.d 4 ki],af (dn oI)⟩)] [] Tryz.f163 (lp [0] (sc cM sn))
def B5 (p0:List UInt8) (p1:Int):Option gX :=
 cond (au p1 1) (
 c6
 ) (
 (LD p0).bind fun y1 =>
 cond (!(aq p1 0)) (
 some ((),(((fz y1.2.1.1 p1),()),()))
 ) none
 )
def X8:Su:=⟨[.c false [.str],.c false [ki]],[(false,[ki])],true,.inl fun x=>B5 x.1.1 x.2.1.1⟩
theorem Pj:ar Tryz.prog 101 X8 :=
 fq (ac VK an) Tryz.f101
def wT (t0:List ea) (t3:Int) (t11:List ea) (t12 t13:Int) (t23:List dt) (t24 t25:Int) (b4:Int×(List dt)×Unit):Rd ((List ea)×Int×(List ea)×Int×Int×(List dt)×Int×Int×Wm×Unit) Y1 :=
 cond (au t25 t24) (
 cond (aR t25 t23) (
 (B5 (gt d59 t23 t25).1 (ae t0)).bind fun y1 =>
 cond (!(aq y1.2.1.1 t3)) (
 some (.inr (.inr (false,())))
 ) (
 cond (au 0 t25) (
 let u1:=(aM .i64 t25 1)
 cond (aR u1 b4.2.1) (
 cond (!(kj (gt d59 b4.2.1 u1).1 (gt d59 t23 t25).1)) (
 some (.inr (.inr (false,())))
 ) (
 some (.inl (t0,t3,t11,t12,t13,t23,t24,(aj .i64 t25 1),b4,()))
 )
 ) none
 ) (
 some (.inl (t0,t3,t11,t12,t13,t23,t24,(aj .i64 t25 1),b4,()))
 )
 )
 ) none
 ) (
 some (.inr (.inl (t0,t3,t11,t12,t13,t23,t24,t25,b4,())))
 )
def Ox:=TB (af (Dl wT))
def xb (t0 t11:List ea) (t12 t13:Int):Rd W4 Y1 :=
 cond (au t13 t12) (
 cond (aR t13 t11) (
 let u1:=(gt d89 t11 t13)
 (rL u1.1 (-1) 11).bind fun y1 =>
 cond (!y1.2.1.1) (
 some (.inr (.inr (false,())))
 ) (
 (Ox t0 t13 t11 t12 t13 u1.2.1 (ae u1.2.1) 0 u1).bind (Sum.elim (fun y2 =>
 some (.inl (y2.1,y2.2.2.1,y2.2.2.2.1,(aj .i64 y2.2.2.2.2.1 1),()))
 ) (fun y2 =>
 some (.inr (.inr (y2.1,())))
 ))
 )
 ) none
 ) (
 some (.inr (.inl (t0,t11,t12,t13,())))
 )
def U0:=mj (af (cV xb))
def Xn (p0:List ea):Option ed :=
 let u1:=(ae p0)
 (rL u1 1 5).bind fun y1 =>
 cond (!y1.2.1.1) (
 c0
 ) (
 (U0 p0 p0 u1 0).bind (Sum.elim (fun y2 =>
 (Pm y2.1).bind fun y3 =>
 (Ip y3.2.1).bind fun y4 =>
 some ((),(y4.2.1,()))
 ) (fun y2 =>
 some ((),(y2,()))
 ))
 )
def s57:Su:=⟨[.c false [gj]],[(false,[.bool])],true,.inl fun x=>Xn x.1.1⟩
theorem ZG:ar Tryz.prog 57 s57 :=
 fl (ac q8 (ac YD (ac TQ (ac Pj an)))) [.d 2 .bool] [(2,⟨[.d 0 gj,.d 3 ki,.d 11 gj,.d 12 ki,.d 13 ki,.d 23 fG,.d 24 ki,.d 25 ki,.box 4 [(false,ki),(false,fG)]],af (Dl wT)⟩),(0,⟨[.d 0 gj,.d 11 gj,.d 12 ki,.d 13 ki],af (cV xb)⟩)] [] Tryz.f57 (lp [0] (sc (lp [2] (sc cM sn)) sn))
def oB (t1:Int) (t7:List R3) (t8 t9:Int):Rd (Int×(List R3)×Int×Int×Unit) Y1 :=
 cond (au t9 t8) (
 cond (aR t9 t7) (
 cond (aq (gt d3 t7 t9).1 t1) (
 some (.inr (.inr (true,())))
 ) (
 some (.inl (t1,t7,t8,(aj .i64 t9 1),()))
 )
 ) none
 ) (
 some (.inr (.inl (t1,t7,t8,t9,())))
 )
def Q8:=mj (af (cV oB))
def Me (p0:List R3) (p1:Int):Option ed :=
 (Q8 p1 p0 (ae p0) 0).bind (Sum.elim (fun _ =>
 c0
 ) (fun y1 =>
 some ((),(y1,()))
 ))
def aag:Su:=⟨[.c false [q3],.c false [ki]],[(false,[.bool])],true,.inl fun x=>Me x.1.1 x.2.1.1⟩
theorem VB:ar Tryz.prog 114 aag :=
 fl an [.d 4 .bool] [(0,⟨[.d 1 ki,.d 7 q3,.d 8 ki,.d 9 ki],af (cV oB)⟩)] [] Tryz.f114 (lp [0] (sc cM sn))
def xF (t1:Int) (t5:List R3) (t11:List gq) (t12 t13:Int) (t23:List R3) (t24 t25:Int):Rd (Int×(List R3)×(List gq)×Int×Int×(List R3)×Int×Int×Unit) Y1 :=
 cond (au t25 t24) (
 cond (aR t25 t23) (
 let u1:=(gt d3 t23 t25)
 cond (aq u1.1 (-1)) (
 let u2:=(aj .i64 t25 1)
 some (.inl (t1,t5,t11,t12,t13,t23,t24,u2,()))
 ) (
 cond (bH t1 u1.1) (
 some (.inr (.inr (false,())))
 ) (
 (Me t5 u1.1).bind fun y1 =>
 cond y1.2.1.1 (
 some (.inr (.inr (false,())))
 ) (
 cond (bY 8 t5 [u1]) (
 let u2:=(aj .i64 t25 1)
 some (.inl (t1,(jn t5 [u1]),t11,t12,t13,t23,t24,u2,()))
 ) none
 )
 )
 )
 ) none
 ) (
 some (.inr (.inl (t1,t5,t11,t12,t13,t23,t24,t25,())))
 )
def OF:=SW (af (yV xF))
def wN (t1:Int) (t5:List R3) (t11:List gq) (t12 t13:Int):Rd (Int×(List R3)×(List gq)×Int×Int×Unit) Y1 :=
 cond (au t13 t12) (
 cond (aR t13 t11) (
 let u1:=(gt d62 t11 t13)
 (OF t1 t5 t11 t12 t13 [(u1.2.2.2.2.1,()),(u1.2.2.2.2.2.1,()),(u1.2.2.2.2.2.2.1,())] (ae [(u1.2.2.2.2.1,()),(u1.2.2.2.2.2.1,()),(u1.2.2.2.2.2.2.1,())]) 0).bind (Sum.elim (fun y1 =>
 some (.inl (y1.1,y1.2.1,y1.2.2.1,y1.2.2.2.1,(aj .i64 y1.2.2.2.2.1 1),()))
 ) (fun y1 =>
 some (.inr (.inr (y1.1,())))
 ))
 ) none
 ) (
 some (.inr (.inl (t1,t5,t11,t12,t13,())))
 )
def UO:=xS (af (ff wN))
def WV (p0:List gq) (p1:Int):Option ed :=
 (UO p1 [] p0 (ae p0) 0).bind (Sum.elim (fun _ =>
 c2
 ) (fun y1 =>
 some ((),(y1,()))
 ))
def s59:Su:=⟨[.c false [jZ],.c false [ki]],[(false,[.bool])],true,.inl fun x=>WV x.1.1 x.2.1.1⟩
theorem ZZ:ar Tryz.prog 59 s59 :=
 fl (ac VB an) [.d 4 .bool] [(2,⟨[.d 1 ki,.own 5 q3,.d 11 jZ,.d 12 ki,.d 13 ki,.own 23 q3,.d 24 ki,.d 25 ki],af (yV xF)⟩),(0,⟨[.d 1 ki,.own 5 q3,.d 11 jZ,.d 12 ki,.d 13 ki],af (ff wN)⟩)] [] Tryz.f59 (lp [0] (sc (lp [2] (sc cM sn)) sn))
def N9 (p0:(List R5)×Int×(List R3)×Int×Int×Int×Int×Int×(List R5)×Unit):Option ed :=
 cond (aq p0.2.1 1) (
 let u1:=(ae p0.2.2.1)
 some ((),(((cond (bH 0 p0.2.2.2.1) (au p0.2.2.2.1 u1) false),()),()))
 ) (
 cond (aq p0.2.1 2) (
 let u1:=(ae p0.2.2.1)
 some ((),(((cond (aq p0.2.2.2.1 u1) (au 0 u1) false),()),()))
 ) (
 cond (aq p0.2.1 3) (
 let u1:=(ae p0.2.2.1)
 (rL p0.2.2.2.1 1 u1).bind fun y1 =>
 some ((),(y1.2.1,()))
 ) (
 some ((),(((aq p0.2.2.2.1 0),()),()))
 )
 )
 )
def aaK:Su:=⟨[.c true [q5,ki,q3,ki,ki,ki,ki,ki,q5]],[(false,[.bool])],true,.inl fun x=>N9 x.1⟩
theorem TD:ar Tryz.prog 115 aaK :=
 fq (ac q8 an) Tryz.f115
def pT (t0:List R5) (t1 t2:Int) (t9:List UInt8) (t10:Int):Rd ((List R5)×Int×Int×(List UInt8)×Int×Unit) Unit :=
 cond (au t10 (aj .i64 t1 (mg .i64 (aj .i64 t2 1) 2))) (
 cond (aR t10 t0) (
 cond (aR t10 t0) (
 let u1:=(bG .i64 (gt d5 t0 t10).1)
 let u2:=(strOf [((bG .u8 (aj .i64 48 (mg .i64 u1 16))),()),((bG .u8 (aj .i64 48 (fz u1 16))),())])
 cond (GG t9 u2) (
 some (.inl (t0,t1,t2,(PL t9 u2),(aj .i64 t10 1),()))
 ) none
 ) none
 ) none
 ) (
 some (.inr (.inl (t0,t1,t2,t9,t10,())))
 )
def Kj:=xS (af (ff pT))
def vJ (p0:List R5) (p1 p2:Int):Option Wy :=
 let u1:=(ae p0)
 cond (cond (cond (cond (au p2 1) true (au 38 p2)) true (au p1 0)) true (au u1 p1)) (
 c4
 ) (
 cond (au (aM .i64 u1 p1) (mg .i64 (aj .i64 p2 1) 2)) (
 c4
 ) (
 (Kj p0 p1 p2 [] p1).bind (Sum.elim (fun y1 =>
 cond (aq (fz y1.2.2.1 2) 1) (
 cond (aR 0 y1.2.2.2.1) (
 cond (!(aq (dx y1.2.2.2.1 0) 48)) (
 c4
 ) (
 let u2:=(ae y1.2.2.2.1)
 cond (dP 1 u2 y1.2.2.2.1) (
 let u3:=(sub y1.2.2.2.1 1 u2)
 (rq u3).bind fun y2 =>
 cond (!y2.2.1.1) (
 c4
 ) (
 some ((),((u3,()),((aj .i64 y1.2.1 (mg .i64 (aj .i64 y1.2.2.1 1) 2)),()),(true,()),()))
 )
 ) none
 )
 ) none
 ) (
 (rq y1.2.2.2.1).bind fun y2 =>
 cond (!y2.2.1.1) (
 c4
 ) (
 some ((),((y1.2.2.2.1,()),((aj .i64 y1.2.1 (mg .i64 (aj .i64 y1.2.2.1 1) 2)),()),(true,()),()))
 )
 )
 ) (fun _ =>
 none
 ))
 )
 )
def XH:Su:=⟨[.c false [q5],.c false [ki],.c false [ki]],[(false,[.str]),(false,[ki]),(false,[.bool])],true,.inl fun x=>vJ x.1.1 x.2.1.1 x.2.2.1.1⟩
theorem HW:ar Tryz.prog 180 XH :=
 fl (ac tl an) [] [(0,⟨[.d 0 q5,.d 1 ki,.d 2 ki,.d 9 .str,.d 10 ki],af (ff pT)⟩)] [] Tryz.f180 (lp [0] (sc cM sn))
def sE (t0:List R5) (t1:Int) (t7:List R3) (t8:Int):Rd ((List R5)×Int×(List R3)×Int×Unit) Unit :=
 cond (bH t8 64) (
 let u1:=(aM .i64 t8 1)
 let u2:=(aj .i64 t1 (mg .i64 u1 8))
 cond (aR u2 t0) (
 let u3:=(aM .i64 7 (fz u1 8))
 cond (bH 0 u3) (
 cond (aq (fz (iQ .i64 (bG .i64 (gt d5 t0 u2).1) u3) 2) 1) (
 cond (bY 8 t7 [(t8,())]) (
 let u4:=(aj .i64 t8 1)
 some (.inl (t0,t1,(jn t7 [(t8,())]),u4,()))
 ) none
 ) (
 let u4:=(aj .i64 t8 1)
 some (.inl (t0,t1,t7,u4,()))
 )
 ) none
 ) none
 ) (
 some (.inr (.inl (t0,t1,t7,t8,())))
 )
def K7:=mj (af (cV sE))
def Da (p0:List R5) (p1:Int):Option Xu :=
 cond (cond (au p1 0) true (au (aM .i64 (ae p0) 8) p1)) (
 c9
 ) (
 (K7 p0 p1 [] 1).bind (Sum.elim (fun y1 =>
 some ((),((y1.2.2.1,()),((aj .i64 y1.2.1 8),()),(true,()),()))
 ) (fun _ =>
 none
 ))
 )
def aaq:Su:=⟨[.c false [q5],.c false [ki]],[(false,[q3]),(false,[ki]),(false,[.bool])],true,.inl fun x=>Da x.1.1 x.2.1.1⟩
theorem UW:ar Tryz.prog 225 aaq :=
 fl an [] [(0,⟨[.d 0 q5,.d 1 ki,.own 7 q3,.d 8 ki],af (cV sE)⟩)] [] Tryz.f225 (lp [0] (sc cM sn))
def FA (p0:Int):Option gX :=
 cond (aq p0 3) (
 c7
 ) (
 cond (aq p0 4) (
 c7
 ) (
 cond (aq p0 7) (
 c7
 ) (
 cond (aq p0 11) (
 c7
 ) (
 cond (aq p0 14) (
 c7
 ) (
 cond (aq p0 49) (
 c7
 ) (
 cond (aq p0 37) (
 c5
 ) (
 cond (aq p0 38) (
 c5
 ) (
 cond (aq p0 39) (
 c5
 ) (
 cond (aq p0 41) (
 c5
 ) (
 cond (aq p0 95) (
 c5
 ) (
 cond (aq p0 2) (
 WT
 ) (
 cond (aq p0 102) (
 c12
 ) (
 cond (aq p0 103) (
 c12
 ) (
 cond (aq p0 48) (
 some ((),((5,()),()))
 ) (
 cond (aq p0 54) (
 some ((),((5,()),()))
 ) (
 c6
 )
 )
 )
 )
 )
 )
 )
 )
 )
 )
 )
 )
 )
 )
 )
 )
def Yg:Su:=⟨[.c false [ki]],[(false,[ki])],true,.inl fun x=>FA x.1.1⟩
theorem Lg:ar Tryz.prog 226 Yg :=
 fq an Tryz.f226
def oZ (t0:List R5) (t6:Int) (t8:List R3) (t9:Bool) (t28:List R3) (t29 t30:Int):Rd ((List R5)×Int×(List R3)×Bool×(List R3)×Int×Int×Unit) Zr :=
 cond (au t30 t29) (
 cond (aR t30 t28) (
 let u1:=(gt d3 t28 t30)
 cond (aq u1.1 1) (
 let u2:=(aj .i64 t30 1)
 some (.inl (t0,t6,t8,true,t28,t29,u2,()))
 ) (
 cond (bY 8 t8 [u1]) (
 let u2:=(aj .i64 t30 1)
 some (.inl (t0,t6,(jn t8 [u1]),t9,t28,t29,u2,()))
 ) none
 )
 ) none
 ) (
 some (.inr (.inl (t0,t6,t8,t9,t28,t29,t30,())))
 )
def Kz:=Xl (af (Kl oZ))
def oG (t8:List R3) (t13:Int) (t56:List R3) (t57 t58:Int):Rd ((List R3)×Int×(List R3)×Int×Int×Unit) Zr :=
 cond (au t58 t57) (
 cond (aR t58 t56) (
 cond (bY 8 t8 [((aj .i64 (gt d3 t56 t58).1 64),())]) (
 some (.inl ((jn t8 [((aj .i64 (gt d3 t56 t58).1 64),())]),t13,t56,t57,(aj .i64 t58 1),()))
 ) none
 ) none
 ) (
 some (.inr (.inl (t8,t13,t56,t57,t58,())))
 )
def Jr:=xS (af (ff oG))
def oF (_:Unit) (t6:Int) (t8:List R3) (t70 t71:Int):Rd (Unit×Int×(List R3)×Int×Int×Unit) Zr :=
 cond (au t71 t70) (
 cond (aR t71 t8) (
 (FA (gt d3 t8 t71).1).bind fun y1 =>
 cond (aq y1.2.1.1 0) (
 some (.inr (.inr ([],0,false,())))
 ) (
 some (.inl ((),t6,t8,t70,(aj .i64 t71 1),()))
 )
 ) none
 ) (
 some (.inr (.inl ((),t6,t8,t70,t71,())))
 )
def D3:=xS (af (ff oF))
def Ir (p0:List R5):Option Xu :=
 (Da p0 2).bind fun y1 =>
 cond (!y1.2.2.2.1.1) (
 c9
 ) (
 (Kz p0 y1.2.2.1.1 [] false y1.2.1.1 (ae y1.2.1.1) 0).bind (Sum.elim (fun y2 =>
 cond y2.2.2.2.1 (
 (Da y2.1 y2.2.1).bind fun y3 =>
 let u1:=(ae y3.2.1.1)
 cond (cond (!y3.2.2.2.1.1) true (aq u1 0)) (
 c9
 ) (
 (Jr y2.2.2.1 y3.2.2.1.1 y3.2.1.1 u1 0).bind (Sum.elim (fun y4 =>
 (D3 () y4.2.1 y4.1 (ae y4.1) 0).bind (Sum.elim (fun y5 =>
 some ((),((y5.2.2.1,()),(y5.2.1,()),(true,()),()))
 ) (fun y5 =>
 some ((),((y5.1,()),(y5.2.1,()),(y5.2.2.1,()),()))
 ))
 ) (fun y4 =>
 some ((),((y4.1,()),(y4.2.1,()),(y4.2.2.1,()),()))
 ))
 )
 ) (
 (D3 () y2.2.1 y2.2.2.1 (ae y2.2.2.1) 0).bind (Sum.elim (fun y3 =>
 some ((),((y3.2.2.1,()),(y3.2.1,()),(true,()),()))
 ) (fun y3 =>
 some ((),((y3.1,()),(y3.2.1,()),(y3.2.2.1,()),()))
 ))
 )
 ) (fun y2 =>
 some ((),((y2.1,()),(y2.2.1,()),(y2.2.2.1,()),()))
 ))
 )
def abn:Su:=⟨[.c false [q5]],[(false,[q3]),(false,[ki]),(false,[.bool])],true,.inl fun x=>Ir x.1.1⟩
theorem T9:ar Tryz.prog 181 abn :=
 fl (ac UW (ac Lg an)) [.own 2 q3,.d 3 ki,.d 4 .bool] [(0,⟨[.d 0 q5,.d 6 ki,.own 8 q3,.d 9 .bool,.own 28 q3,.d 29 ki,.d 30 ki],af (Kl oZ)⟩),(2,⟨[.own 8 q3,.d 13 ki,.own 56 q3,.d 57 ki,.d 58 ki],af (ff oG)⟩),(4,⟨[.al 69 8,.d 6 ki,.own 8 q3,.d 70 ki,.d 71 ki],af (ff oF)⟩)] [] Tryz.f181 (lp [0,2,4] (sc cM (sc cM (sc cM sn))))
def Kf (p0:Int):Option gX :=
 cond (aq p0 2) (
 some ((),((19,()),()))
 ) (
 cond (aq p0 3) (
 c13
 ) (
 cond (aq p0 11) (
 c13
 ) (
 cond (aq p0 38) (
 c13
 ) (
 cond (aq p0 4) (
 c14
 ) (
 cond (aq p0 37) (
 c14
 ) (
 cond (aq p0 95) (
 c14
 ) (
 cond (aq p0 7) (
 some ((),((10,()),()))
 ) (
 cond (aq p0 14) (
 c12
 ) (
 cond (aq p0 39) (
 c5
 ) (
 cond (aq p0 41) (
 some ((),((8,()),()))
 ) (
 cond (aq p0 49) (
 WT
 ) (
 cond (aq p0 102) (
 some ((),((20,()),()))
 ) (
 cond (aq p0 103) (
 some ((),((20,()),()))
 ) (
 cond (aq p0 48) (
 some ((),((60,()),()))
 ) (
 cond (aq p0 54) (
 some ((),((60,()),()))
 ) (
 c6
 )
 )
 )
 )
 )
 )
 )
 )
 )
 )
 )
 )
 )
 )
 )
 )
def YL:Su:=⟨[.c false [ki]],[(false,[ki])],true,.inl fun x=>Kf x.1.1⟩
theorem PO:ar Tryz.prog 227 YL :=
 fq an Tryz.f227
def VV (p0:Int):Option gX :=
 cond (aq p0 3) (
 c5
 ) (
 cond (aq p0 4) (
 c5
 ) (
 cond (aq p0 5) (
 WT
 ) (
 c6
 )
 )
 )
def ZU:Su:=⟨[.c false [ki]],[(false,[ki])],true,.inl fun x=>VV x.1.1⟩
theorem VZ:ar Tryz.prog 228 ZU :=
 fq an Tryz.f228
def pR (t0:List UInt8) (t4 t5:Int):Rd S5 Unit :=
 cond (au t5 (ae t0)) (
 cond (aR t5 t0) (
 some (.inl (t0,(aM .i64 (aj .i64 (j5 .i64 t4 10) (bG .i64 (dx t0 t5))) 48),(aj .i64 t5 1),()))
 ) none
 ) (
 some (.inr (.inl (t0,t4,t5,())))
 )
def HJ:=kt (af (dn pR))
def ud (p0:List UInt8):Option Xz :=
 (rq p0).bind fun y1 =>
 cond (cond (!y1.2.1.1) true (au 18 (ae p0))) (
 XK
 ) (
 (HJ p0 0 0).bind (Sum.elim (fun y2 =>
 some ((),((y2.2.1,()),(true,()),()))
 ) (fun _ =>
 none
 ))
 )
def X6:Su:=⟨[.c false [.str]],[(false,[ki]),(false,[.bool])],true,.inl fun x=>ud x.1.1⟩
theorem Pr:ar Tryz.prog 205 X6 :=
 fl (ac tl an) [] [(0,⟨[.d 0 .str,.d 4 ki,.d 5 ki],af (dn pR)⟩)] [] Tryz.f205 (lp [0] (sc cM sn))
def H9 (p0:List R5) (p1 p2:Int):Option (Unit×(Y0×Y0×Y1×Unit)) :=
 cond (cond (!(aq p2 2)) (!(aq p2 3)) false) (
 c15
 ) (
 (vJ p0 p1 p2).bind fun y1 =>
 (ud y1.2.1.1).bind fun y2 =>
 some ((),(y2.2.1,y1.2.2.1,y1.2.2.2.1,()))
 )
def ZH:Su:=⟨[.c false [q5],.c false [ki],.c false [ki]],[(false,[ki]),(false,[ki]),(false,[.bool])],true,.inl fun x=>H9 x.1.1 x.2.1.1 x.2.2.1.1⟩
theorem Vu:ar Tryz.prog 229 ZH :=
 fq (ac HW (ac Pr an)) Tryz.f229
def oH (t0:List UInt8) (t3:Int):Rd WO Y1 :=
 cond (au t3 (ae t0)) (
 cond (aR t3 t0) (
 let u1:=(dx t0 t3)
 cond (au u1 32) (
 some (.inr (.inr (false,())))
 ) (
 cond (aR t3 t0) (
 cond (au 126 u1) (
 some (.inr (.inr (false,())))
 ) (
 some (.inl (t0,(aj .i64 t3 1),()))
 )
 ) none
 )
 ) none
 ) (
 some (.inr (.inl (t0,t3,())))
 )
def II:=OJ (af (wI oH))
def Ad (p0:List UInt8):Option ed :=
 (II p0 0).bind (Sum.elim (fun _ =>
 c2
 ) (fun y1 =>
 some ((),(y1,()))
 ))
def aan:Su:=⟨[.c false [.str]],[(false,[.bool])],true,.inl fun x=>Ad x.1.1⟩
theorem P2:ar Tryz.prog 230 aan :=
 fl an [.d 2 .bool] [(0,⟨[.d 0 .str,.d 3 ki],af (wI oH)⟩)] [] Tryz.f230 (lp [0] (sc cM sn))
def LZ (p0:List R5) (p1 p2:Int):Option Wy :=
 (FA p2).bind fun y1 =>
 (Kf p2).bind fun y2 =>
 cond (cond (aq y1.2.1.1 0) true (au p1 0)) (
 c4
 ) (
 let u1:=(VV y1.2.1.1)
 Option.bind u1 fun y3 =>
 cond (au 0 y3.2.1.1) (
 Option.bind u1 fun y4 =>
 (H9 p0 p1 y4.2.1.1).bind fun y5 =>
 cond (!y5.2.2.2.1.1) (
 c4
 ) (
 (rL y5.2.1.1 1 y2.2.1.1).bind fun y6 =>
 cond (!y6.2.1.1) (
 c4
 ) (
 let u2:=(cond (aq y1.2.1.1 1) true (aq y1.2.1.1 3))
 cond u2 (
 (vJ p0 y5.2.2.1.1 y5.2.1.1).bind fun y7 =>
 some ((),(y7.2.1,y7.2.2.1,y7.2.2.2.1,()))
 ) (
 let u3:=(ae p0)
 cond (cond (au u3 y5.2.2.1.1) true (au (aM .i64 u3 y5.2.2.1.1) y5.2.1.1)) (
 c4
 ) (
 let u4:=(aj .i64 y5.2.2.1.1 y5.2.1.1)
 let u5:=(dP y5.2.2.1.1 u4 p0)
 cond u5 (
 let u6:=(strOf (sub p0 y5.2.2.1.1 u4))
 (Ad u6).bind fun y7 =>
 cond (!y7.2.1.1) (
 c4
 ) (
 cond u5 (
 some ((),((u6,()),(u4,()),(true,()),()))
 ) none
 )
 ) none
 )
 )
 )
 )
 ) (
 let u2:=(cond (aq y1.2.1.1 1) true (aq y1.2.1.1 3))
 cond u2 (
 (vJ p0 p1 y2.2.1.1).bind fun y4 =>
 some ((),(y4.2.1,y4.2.2.1,y4.2.2.2.1,()))
 ) (
 let u3:=(ae p0)
 cond (cond (au u3 p1) true (au (aM .i64 u3 p1) y2.2.1.1)) (
 c4
 ) (
 let u4:=(aj .i64 p1 y2.2.1.1)
 let u5:=(dP p1 u4 p0)
 cond u5 (
 let u6:=(strOf (sub p0 p1 u4))
 (Ad u6).bind fun y4 =>
 cond (!y4.2.1.1) (
 c4
 ) (
 cond u5 (
 some ((),((u6,()),(u4,()),(true,()),()))
 ) none
 )
 ) none
 )
 )
 )
 )
def aam:Su:=⟨[.c false [q5],.c false [ki],.c false [ki]],[(false,[.str]),(false,[ki]),(false,[.bool])],true,.inl fun x=>LZ x.1.1 x.2.1.1 x.2.2.1.1⟩
theorem Uj:ar Tryz.prog 182 aam :=
 fq (ac q8 (ac HW (ac Lg (ac PO (ac VZ (ac Vu (ac P2 an))))))) Tryz.f182
def pL (t0:List R5) (t8:Int) (t35:List R3) (t36 t37:Int) (b2 b9:(List UInt8)×(List iI)×Unit):Rd ((List R5)×Int×(List R3)×Int×Int×CG×CG×Unit) Xh :=
 cond (au t37 t36) (
 cond (aR t37 t35) (
 (LZ t0 t8 (gt d3 t35 t37).1).bind fun y1 =>
 cond (!y1.2.2.2.1.1) (
 some (.inr (.inr (3,([],[],()),())))
 ) (
 cond (bY 24 b9.2.1 [((gt d3 t35 t37).1,y1.2.1.1,())]) (
 some (.inl (t0,y1.2.2.1.1,t35,t36,(aj .i64 t37 1),b2,(b9.1,(jn b9.2.1 [((gt d3 t35 t37).1,y1.2.1.1,())]),()),()))
 ) none
 )
 ) none
 ) (
 some (.inr (.inl (t0,t8,t35,t36,t37,b2,b9,())))
 )
def JR:=Xl (af (Kl pL))
def Nw (p0:List R5):Option (Unit×(CG×Y0×Unit)) :=
 (vJ p0 0 4).bind fun y1 =>
 cond (!y1.2.2.2.1.1) (
 some ((),(([],[],()),(1,()),()))
 ) (
 (Ir p0).bind fun y2 =>
 cond (!y2.2.2.2.1.1) (
 Ya
 ) (
 (JR p0 y2.2.2.1.1 y2.2.1.1 (ae y2.2.1.1) 0 ([],[],()) (y1.2.1.1,[],())).bind (Sum.elim (fun y3 =>
 cond (!(aq y3.2.1 (ae y3.1))) (
 ZE
 ) (
 some ((),(y3.2.2.2.2.2.2.1,(0,()),()))
 )
 ) (fun y3 =>
 some ((),(y3.2.1,(y3.1,()),()))
 ))
 )
 )
def YO:Su:=⟨[.c false [q5]],[(true,[.str,iF]),(false,[ki])],true,.inl fun x=>Nw x.1.1⟩
theorem Wn:ar Tryz.prog 127 YO :=
 fl (ac HW (ac T9 (ac Uj an))) [.d 3 ki,.box 2 [(false,.str),(true,iF)]] [(0,⟨[.d 0 q5,.d 8 ki,.own 35 q3,.d 36 ki,.d 37 ki,.box 2 [(false,.str),(true,iF)],.box 9 [(false,.str),(true,iF)]],af (Kl pL)⟩)] [] Tryz.f127 (lp [0] (sc cM sn))
def Ma (p0:Int) (p1:List UInt8):Option ed :=
 (Kf p0).bind fun y1 =>
 (FA p0).bind fun y2 =>
 cond (aq y2.2.1.1 1) (
 let u1:=(rq p1)
 Option.bind u1 fun y3 =>
 let u2:=(ae p1)
 some ((),(((cond y3.2.1.1 (aq u2 y1.2.1.1) false),()),()))
 ) (
 cond (aq y2.2.1.1 2) (
 let u1:=(Ad p1)
 Option.bind u1 fun y3 =>
 let u2:=(ae p1)
 some ((),(((cond y3.2.1.1 (aq u2 y1.2.1.1) false),()),()))
 ) (
 cond (aq y2.2.1.1 3) (
 let u1:=(rq p1)
 Option.bind u1 fun y3 =>
 let u2:=(ae p1)
 some ((),(((cond y3.2.1.1 (bH u2 y1.2.1.1) false),()),()))
 ) (
 cond (aq y2.2.1.1 4) (
 let u1:=(Ad p1)
 Option.bind u1 fun y3 =>
 cond y3.2.1.1 (
 let u2:=(ae p1)
 let u3:=(rL u2 1 y1.2.1.1)
 Option.bind u3 fun y4 =>
 some ((),(y4.2.1,()))
 ) (
 c0
 )
 ) (
 cond (aq y2.2.1.1 5) (
 let u1:=(Ad p1)
 Option.bind u1 fun y3 =>
 cond y3.2.1.1 (
 let u2:=(ae p1)
 let u3:=(rL u2 1 y1.2.1.1)
 Option.bind u3 fun y4 =>
 some ((),(y4.2.1,()))
 ) (
 c0
 )
 ) (
 c0
 )
 )
 )
 )
 )
def ZR:Su:=⟨[.c false [ki],.c false [.str]],[(false,[.bool])],true,.inl fun x=>Ma x.1.1 x.2.1.1⟩
theorem Vy:ar Tryz.prog 256 ZR :=
 fq (ac q8 (ac tl (ac Lg (ac PO (ac P2 an))))) Tryz.f256
def nU (t16:List iI) (t17 t18:Int) (b1:(List UInt8)×(List iI)×Unit):Rd ((List iI)×Int×Int×CG×Unit) Y1 :=
 cond (au t18 t17) (
 cond (aR t18 t16) (
 let u1:=(gt d175 t16 t18)
 (Ma u1.1 u1.2.1).bind fun y1 =>
 cond (!y1.2.1.1) (
 some (.inr (.inr (false,())))
 ) (
 cond (au 0 t18) (
 let u2:=(aM .i64 t18 1)
 cond (aR u2 b1.2.1) (
 cond (bH u1.1 (gt d175 b1.2.1 u2).1) (
 some (.inr (.inr (false,())))
 ) (
 some (.inl (t16,t17,(aj .i64 t18 1),b1,()))
 )
 ) none
 ) (
 some (.inl (t16,t17,(aj .i64 t18 1),b1,()))
 )
 )
 ) none
 ) (
 some (.inr (.inl (t16,t17,t18,b1,())))
 )
def Dd:=mj (af (cV nU))
def Mr (p0:(List UInt8)×(List iI)×Unit):Option ed :=
 (rq p0.1).bind fun y1 =>
 cond (cond (!y1.2.1.1) true (!(aq (ae p0.1) 4))) (
 c0
 ) (
 (Dd p0.2.1 (ae p0.2.1) 0 p0).bind (Sum.elim (fun _ =>
 c2
 ) (fun y2 =>
 some ((),(y2,()))
 ))
 )
def YB:Su:=⟨[.c true [.str,iF]],[(false,[.bool])],true,.inl fun x=>Mr x.1⟩
theorem Ua:ar Tryz.prog 199 YB :=
 fl (ac tl (ac Vy an)) [.d 2 .bool] [(0,⟨[.d 16 iF,.d 17 ki,.d 18 ki,.box 1 [(false,.str),(false,iF)]],af (cV nU)⟩)] [] Tryz.f199 (lp [0] (sc cM sn))
def RI (p0:List UInt8):Option ed :=
 some ((),(((cond (cond (cr p0 [48,49,48,48]) true (cr p0 [48,50,48,48])) true (cr p0 [48,50,50,48])),()),()))
def ZF:Su:=⟨[.c false [.str]],[(false,[.bool])],true,.inl fun x=>RI x.1.1⟩
theorem Uc:ar Tryz.prog 200 ZF :=
 fq an Tryz.f200
def pg (t1:Int) (t9:List iI) (t10 t11:Int):Rd (Int×(List iI)×Int×Int×Unit) ((List UInt8)×Bool×Unit) :=
 cond (au t11 t10) (
 cond (aR t11 t9) (
 let u1:=(gt d175 t9 t11)
 cond (aq u1.1 t1) (
 some (.inr (.inr (u1.2.1,true,())))
 ) (
 some (.inl (t1,t9,t10,(aj .i64 t11 1),()))
 )
 ) none
 ) (
 some (.inr (.inl (t1,t9,t10,t11,())))
 )
def H5:=mj (af (cV pg))
def j6 (p0:(List UInt8)×(List iI)×Unit) (p1:Int):Option (Unit×(Y8×Y1×Unit)) :=
 (H5 p1 p0.2.1 (ae p0.2.1) 0).bind (Sum.elim (fun _ =>
 some ((),(([],()),(false,()),()))
 ) (fun y1 =>
 some ((),((y1.1,()),(y1.2.1,()),()))
 ))
def Yc:Su:=⟨[.c true [.str,iF],.c false [ki]],[(false,[.str]),(false,[.bool])],true,.inl fun x=>j6 x.1 x.2.1.1⟩
theorem TE:ar Tryz.prog 128 Yc :=
 fl an [.d 4 .str,.d 5 .bool] [(0,⟨[.d 1 ki,.d 9 iF,.d 10 ki,.d 11 ki],af (cV pg)⟩)] [] Tryz.f128 (lp [0] (sc cM sn))
def AG (p0:Int):Option ed :=
 (rL p0 1 8).bind fun y1 =>
 some ((),(y1.2.1,()))
def Zv:Su:=⟨[.c false [ki]],[(false,[.bool])],true,.inl fun x=>AG x.1.1⟩
theorem Ff:ar Tryz.prog 259 Zv :=
 fq (ac q8 an) Tryz.f259
def TW  : Option SV :=
 some ((),(([([],()),([48,49,48,48],()),([48,49,48,48],()),([48,50,50,48],()),([48,50,50,48],()),([48,50,50,48],()),([48,50,48,48],()),([48,49,48,48],()),([48,50,48,48],())],()),()))
def Zz:Su:=⟨[],[(false,[q9])],true,.inl fun x=>TW ⟩
theorem Vc:ar Tryz.prog 296 Zz :=
 fq an Tryz.f296
def Ga (p0:Int):Option LN :=
 (AG p0).bind fun y1 =>
 cond (!y1.2.1.1) (
 c18
 ) (
 (TW).bind fun y2 =>
 cond (aR p0 y2.2.1.1) (
 some ((),((gt d9 y2.2.1.1 p0),()))
 ) none
 )
def ZT:Su:=⟨[.c false [ki]],[(false,[.str])],true,.inl fun x=>Ga x.1.1⟩
theorem P4:ar Tryz.prog 257 ZT :=
 fq (ac Ff (ac Vc an)) Tryz.f257
def UT  : Option SV :=
 some ((),(([([],()),([48,48],()),([48,50],()),([48,49],()),([48,48],()),([50,48],()),([52,48],()),([51,49],()),([57,48],())],()),()))
def XZ:Su:=⟨[],[(false,[q9])],true,.inl fun x=>UT ⟩
theorem Tt:ar Tryz.prog 297 XZ :=
 fq an Tryz.f297
def Qf (p0:Int):Option LN :=
 (AG p0).bind fun y1 =>
 cond (!y1.2.1.1) (
 c18
 ) (
 (UT).bind fun y2 =>
 cond (aR p0 y2.2.1.1) (
 some ((),((gt d9 y2.2.1.1 p0),()))
 ) none
 )
def aaP:Su:=⟨[.c false [ki]],[(false,[.str])],true,.inl fun x=>Qf x.1.1⟩
theorem UL:ar Tryz.prog 258 aaP :=
 fq (ac Ff (ac Tt an)) Tryz.f258
def xE (t0 t1:List UInt8) (t5:Int):Rd ((List UInt8)×(List UInt8)×Int×Unit) Y0 :=
 cond (bH t5 8) (
 (Ga t5).bind fun y1 =>
 cond (cr y1.2.1.1 t0) (
 (Qf t5).bind fun y2 =>
 cond (dP 0 2 t1) (
 cond (cr y2.2.1.1 (sub t1 0 2)) (
 some (.inr (.inr (t5,())))
 ) (
 some (.inl (t0,t1,(aj .i64 t5 1),()))
 )
 ) none
 ) (
 some (.inl (t0,t1,(aj .i64 t5 1),()))
 )
 ) (
 some (.inr (.inl (t0,t1,t5,())))
 )
def Iu:=kt (af (dn xE))
def KI (p0 p1:List UInt8):Option gX :=
 (Iu p0 p1 1).bind (Sum.elim (fun _ =>
 c6
 ) (fun y1 =>
 some ((),(y1,()))
 ))
def abi:Su:=⟨[.c false [.str],.c false [.str]],[(false,[ki])],true,.inl fun x=>KI x.1.1 x.2.1.1⟩
theorem Vz:ar Tryz.prog 201 abi :=
 fl (ac P4 (ac UL an)) [.d 4 ki] [(0,⟨[.d 0 .str,.d 1 .str,.d 5 ki],af (dn xE)⟩)] [] Tryz.f201 (lp [0] (sc cM sn))
def F4 (p0:Int):Option ed :=
 (AG p0).bind fun y1 =>
 some ((),(((cond y1.2.1.1 (au p0 7) false),()),()))
def aaB:Su:=⟨[.c false [ki]],[(false,[.bool])],true,.inl fun x=>F4 x.1.1⟩
theorem Pc:ar Tryz.prog 202 aaB :=
 fq (ac Ff an) Tryz.f202
def zu (t0:List UInt8) (t3:Int):Rd WO Unit :=
 cond (au 0 t3) (
 let u1:=(aM .i64 t3 1)
 cond (aR u1 t0) (
 cond (aq (dx t0 u1) 32) (
 some (.inl (t0,u1,()))
 ) (
 some (.inr (.inl (t0,t3,())))
 )
 ) none
 ) (
 some (.inr (.inl (t0,t3,())))
 )
def KB:=OJ (af (wI zu))
def M8 (p0:List UInt8):Option LN :=
 (KB p0 (ae p0)).bind (Sum.elim (fun y1 =>
 cond (dP 0 y1.2.1 y1.1) (
 some ((),(((sub y1.1 0 y1.2.1),()),()))
 ) none
 ) (fun _ =>
 none
 ))
def aak:Su:=⟨[.c false [.str]],[(false,[.str])],true,.inl fun x=>M8 x.1.1⟩
theorem UB:ar Tryz.prog 203 aak :=
 fl an [] [(0,⟨[.d 0 .str,.d 3 ki],af (wI zu)⟩)] [] Tryz.f203 (lp [0] (sc cM sn))
def AH (p0:Int):Option ed :=
 (rL p0 1 4).bind fun y1 =>
 some ((),(y1.2.1,()))
def X0:Su:=⟨[.c false [ki]],[(false,[.bool])],true,.inl fun x=>AH x.1.1⟩
theorem PC:ar Tryz.prog 204 X0 :=
 fq (ac q8 an) Tryz.f204
def lg (p0:Int×(List UInt8)×(List UInt8)×(List UInt8)×(List UInt8)×(List UInt8)×Int×Int×Unit):Option ed :=
 (AG p0.1).bind fun y1 =>
 cond (!y1.2.1.1) (
 c0
 ) (
 (Ga p0.1).bind fun y2 =>
 cond (!(cr p0.2.2.2.2.2.1 y2.2.1.1)) (
 c0
 ) (
 (sS p0.2.1).bind fun y3 =>
 cond (!y3.2.1.1) (
 c0
 ) (
 (rq p0.2.2.2.2.1).bind fun y4 =>
 cond (cond (!y4.2.1.1) true (!(aq (ae p0.2.2.2.2.1) 6))) (
 c0
 ) (
 let u1:=(F4 p0.1)
 Option.bind u1 fun y5 =>
 cond y5.2.1.1 (
 (KY p0.2.2.2.1).bind fun y6 =>
 cond (!y6.2.1.1) (
 c0
 ) (
 Option.bind u1 fun y7 =>
 cond (cond (!y7.2.1.1) (!(cr p0.2.2.2.1 [])) false) (
 c0
 ) (
 let u2:=(AH p0.1)
 Option.bind u2 fun y8 =>
 cond y8.2.1.1 (
 let u3:=(rL p0.2.2.2.2.2.2.1 0 999999999999)
 Option.bind u3 fun y9 =>
 cond (!y9.2.1.1) (
 c0
 ) (
 Option.bind u2 fun y10 =>
 cond (cond (!y10.2.1.1) (!(aq p0.2.2.2.2.2.2.1 0)) false) (
 c0
 ) (
 cond (aq p0.1 1) (
 let u4:=(rL p0.2.2.2.2.2.2.2.1 0 9999)
 Option.bind u4 fun y11 =>
 cond (!y11.2.1.1) (
 c0
 ) (
 let u5:=(cond (!(aq p0.1 1)) (!(aq p0.2.2.2.2.2.2.2.1 0)) false)
 cond u5 (
 c0
 ) (
 cond (aq p0.1 6) (
 let u6:=(sS p0.2.2.1)
 Option.bind u6 fun y12 =>
 cond y12.2.1.1 (
 c2
 ) (
 some ((),(((cond (!(aq p0.1 6)) (cr p0.2.2.1 []) false),()),()))
 )
 ) (
 some ((),(((cond (!(aq p0.1 6)) (cr p0.2.2.1 []) false),()),()))
 )
 )
 )
 ) (
 let u4:=(cond (!(aq p0.1 1)) (!(aq p0.2.2.2.2.2.2.2.1 0)) false)
 cond u4 (
 c0
 ) (
 cond (aq p0.1 6) (
 let u5:=(sS p0.2.2.1)
 Option.bind u5 fun y11 =>
 cond y11.2.1.1 (
 c2
 ) (
 some ((),(((cond (!(aq p0.1 6)) (cr p0.2.2.1 []) false),()),()))
 )
 ) (
 some ((),(((cond (!(aq p0.1 6)) (cr p0.2.2.1 []) false),()),()))
 )
 )
 )
 )
 )
 ) (
 Option.bind u2 fun y9 =>
 let u3:=(cond (!y9.2.1.1) (!(aq p0.2.2.2.2.2.2.1 0)) false)
 cond u3 (
 c0
 ) (
 cond (aq p0.1 1) (
 let u4:=(rL p0.2.2.2.2.2.2.2.1 0 9999)
 Option.bind u4 fun y10 =>
 cond (!y10.2.1.1) (
 c0
 ) (
 let u5:=(cond (!(aq p0.1 1)) (!(aq p0.2.2.2.2.2.2.2.1 0)) false)
 cond u5 (
 c0
 ) (
 cond (aq p0.1 6) (
 let u6:=(sS p0.2.2.1)
 Option.bind u6 fun y11 =>
 cond y11.2.1.1 (
 c2
 ) (
 some ((),(((cond (!(aq p0.1 6)) (cr p0.2.2.1 []) false),()),()))
 )
 ) (
 some ((),(((cond (!(aq p0.1 6)) (cr p0.2.2.1 []) false),()),()))
 )
 )
 )
 ) (
 let u4:=(cond (!(aq p0.1 1)) (!(aq p0.2.2.2.2.2.2.2.1 0)) false)
 cond u4 (
 c0
 ) (
 cond (aq p0.1 6) (
 let u5:=(sS p0.2.2.1)
 Option.bind u5 fun y10 =>
 cond y10.2.1.1 (
 c2
 ) (
 some ((),(((cond (!(aq p0.1 6)) (cr p0.2.2.1 []) false),()),()))
 )
 ) (
 some ((),(((cond (!(aq p0.1 6)) (cr p0.2.2.1 []) false),()),()))
 )
 )
 )
 )
 )
 )
 )
 ) (
 Option.bind u1 fun y6 =>
 cond (cond (!y6.2.1.1) (!(cr p0.2.2.2.1 [])) false) (
 c0
 ) (
 let u2:=(AH p0.1)
 Option.bind u2 fun y7 =>
 cond y7.2.1.1 (
 let u3:=(rL p0.2.2.2.2.2.2.1 0 999999999999)
 Option.bind u3 fun y8 =>
 cond (!y8.2.1.1) (
 c0
 ) (
 Option.bind u2 fun y9 =>
 let u4:=(cond (!y9.2.1.1) (!(aq p0.2.2.2.2.2.2.1 0)) false)
 cond u4 (
 c0
 ) (
 cond (aq p0.1 1) (
 let u5:=(rL p0.2.2.2.2.2.2.2.1 0 9999)
 Option.bind u5 fun y10 =>
 cond (!y10.2.1.1) (
 c0
 ) (
 let u6:=(cond (!(aq p0.1 1)) (!(aq p0.2.2.2.2.2.2.2.1 0)) false)
 cond u6 (
 c0
 ) (
 cond (aq p0.1 6) (
 let u7:=(sS p0.2.2.1)
 Option.bind u7 fun y11 =>
 cond y11.2.1.1 (
 c2
 ) (
 some ((),(((cond (!(aq p0.1 6)) (cr p0.2.2.1 []) false),()),()))
 )
 ) (
 some ((),(((cond (!(aq p0.1 6)) (cr p0.2.2.1 []) false),()),()))
 )
 )
 )
 ) (
 let u5:=(cond (!(aq p0.1 1)) (!(aq p0.2.2.2.2.2.2.2.1 0)) false)
 cond u5 (
 c0
 ) (
 cond (aq p0.1 6) (
 let u6:=(sS p0.2.2.1)
 Option.bind u6 fun y10 =>
 cond y10.2.1.1 (
 c2
 ) (
 some ((),(((cond (!(aq p0.1 6)) (cr p0.2.2.1 []) false),()),()))
 )
 ) (
 some ((),(((cond (!(aq p0.1 6)) (cr p0.2.2.1 []) false),()),()))
 )
 )
 )
 )
 )
 ) (
 Option.bind u2 fun y8 =>
 cond (cond (!y8.2.1.1) (!(aq p0.2.2.2.2.2.2.1 0)) false) (
 c0
 ) (
 cond (aq p0.1 1) (
 let u3:=(rL p0.2.2.2.2.2.2.2.1 0 9999)
 Option.bind u3 fun y9 =>
 cond (!y9.2.1.1) (
 c0
 ) (
 let u4:=(cond (!(aq p0.1 1)) (!(aq p0.2.2.2.2.2.2.2.1 0)) false)
 cond u4 (
 c0
 ) (
 cond (aq p0.1 6) (
 let u5:=(sS p0.2.2.1)
 Option.bind u5 fun y10 =>
 cond y10.2.1.1 (
 c2
 ) (
 some ((),(((cond (!(aq p0.1 6)) (cr p0.2.2.1 []) false),()),()))
 )
 ) (
 some ((),(((cond (!(aq p0.1 6)) (cr p0.2.2.1 []) false),()),()))
 )
 )
 )
 ) (
 let u3:=(cond (!(aq p0.1 1)) (!(aq p0.2.2.2.2.2.2.2.1 0)) false)
 cond u3 (
 c0
 ) (
 cond (aq p0.1 6) (
 let u4:=(sS p0.2.2.1)
 Option.bind u4 fun y9 =>
 cond y9.2.1.1 (
 c2
 ) (
 some ((),(((cond (!(aq p0.1 6)) (cr p0.2.2.1 []) false),()),()))
 )
 ) (
 some ((),(((cond (!(aq p0.1 6)) (cr p0.2.2.1 []) false),()),()))
 )
 )
 )
 )
 )
 )
 )
 )
 )
 )
 )
def YC:Su:=⟨[.c true [ki,.str,.str,.str,.str,.str,ki,ki]],[(false,[.bool])],true,.inl fun x=>lg x.1⟩
theorem Ud:ar Tryz.prog 206 YC :=
 fq (ac q8 (ac tl (ac ON (ac OI (ac Ff (ac P4 (ac Pc (ac PC an)))))))) Tryz.f206
def MC (p0:(List UInt8)×(List iI)×Unit):Option (Unit×(RM×Y0×Unit)) :=
 (Mr p0).bind fun y1 =>
 cond (!y1.2.1.1) (
 c1
 ) (
 (RI p0.1).bind fun y2 =>
 cond (!y2.2.1.1) (
 c21
 ) (
 (j6 p0 3).bind fun y3 =>
 cond (!y3.2.2.1.1) (
 c1
 ) (
 (KI p0.1 y3.2.1.1).bind fun y4 =>
 (j6 p0 2).bind fun y5 =>
 (j6 p0 11).bind fun y6 =>
 (F4 y4.2.1.1).bind fun y7 =>
 cond y7.2.1.1 (
 (j6 p0 38).bind fun y8 =>
 (M8 y8.2.1.1).bind fun y9 =>
 let u1:=(AH y4.2.1.1)
 Option.bind u1 fun y10 =>
 cond y10.2.1.1 (
 let u2:=(j6 p0 4)
 Option.bind u2 fun y11 =>
 let u3:=(ud y11.2.1.1)
 Option.bind u3 fun y12 =>
 cond (aq y4.2.1.1 1) (
 let u4:=(j6 p0 14)
 Option.bind u4 fun y13 =>
 (ud y13.2.1.1).bind fun y14 =>
 cond (aq y4.2.1.1 6) (
 let u5:=(j6 p0 103)
 Option.bind u5 fun y15 =>
 let u6:=(cond y3.2.2.1.1 y11.2.2.1.1 false)
 cond (!(cond u6 y13.2.2.1.1 false)) (
 c1
 ) (
 (lg (y4.2.1.1,y5.2.1.1,y15.2.1.1,y9.2.1.1,y6.2.1.1,p0.1,y12.2.1.1,y14.2.1.1,())).bind fun y16 =>
 cond (!y16.2.1.1) (
 c1
 ) (
 some ((),((y4.2.1.1,y5.2.1.1,y15.2.1.1,y9.2.1.1,y6.2.1.1,p0.1,y12.2.1.1,y14.2.1.1,()),(0,()),()))
 )
 )
 ) (
 let u5:=(cond y3.2.2.1.1 y11.2.2.1.1 false)
 cond (!(cond u5 y13.2.2.1.1 false)) (
 c1
 ) (
 (lg (y4.2.1.1,y5.2.1.1,[],y9.2.1.1,y6.2.1.1,p0.1,y12.2.1.1,y14.2.1.1,())).bind fun y15 =>
 cond (!y15.2.1.1) (
 c1
 ) (
 some ((),((y4.2.1.1,y5.2.1.1,[],y9.2.1.1,y6.2.1.1,p0.1,y12.2.1.1,y14.2.1.1,()),(0,()),()))
 )
 )
 )
 ) (
 cond (aq y4.2.1.1 6) (
 let u4:=(j6 p0 103)
 Option.bind u4 fun y13 =>
 let u5:=(cond y3.2.2.1.1 y11.2.2.1.1 false)
 cond (!u5) (
 c1
 ) (
 (lg (y4.2.1.1,y5.2.1.1,y13.2.1.1,y9.2.1.1,y6.2.1.1,p0.1,y12.2.1.1,0,())).bind fun y14 =>
 cond (!y14.2.1.1) (
 c1
 ) (
 some ((),((y4.2.1.1,y5.2.1.1,y13.2.1.1,y9.2.1.1,y6.2.1.1,p0.1,y12.2.1.1,0,()),(0,()),()))
 )
 )
 ) (
 let u4:=(cond y3.2.2.1.1 y11.2.2.1.1 false)
 cond (!u4) (
 c1
 ) (
 (lg (y4.2.1.1,y5.2.1.1,[],y9.2.1.1,y6.2.1.1,p0.1,y12.2.1.1,0,())).bind fun y13 =>
 cond (!y13.2.1.1) (
 c1
 ) (
 some ((),((y4.2.1.1,y5.2.1.1,[],y9.2.1.1,y6.2.1.1,p0.1,y12.2.1.1,0,()),(0,()),()))
 )
 )
 )
 )
 ) (
 cond (aq y4.2.1.1 1) (
 let u2:=(j6 p0 14)
 Option.bind u2 fun y11 =>
 let u3:=(ud y11.2.1.1)
 Option.bind u3 fun y12 =>
 cond (aq y4.2.1.1 6) (
 let u4:=(j6 p0 103)
 Option.bind u4 fun y13 =>
 let u5:=(cond y3.2.2.1.1 y11.2.2.1.1 false)
 cond (!u5) (
 c1
 ) (
 (lg (y4.2.1.1,y5.2.1.1,y13.2.1.1,y9.2.1.1,y6.2.1.1,p0.1,0,y12.2.1.1,())).bind fun y14 =>
 cond (!y14.2.1.1) (
 c1
 ) (
 some ((),((y4.2.1.1,y5.2.1.1,y13.2.1.1,y9.2.1.1,y6.2.1.1,p0.1,0,y12.2.1.1,()),(0,()),()))
 )
 )
 ) (
 let u4:=(cond y3.2.2.1.1 y11.2.2.1.1 false)
 cond (!u4) (
 c1
 ) (
 (lg (y4.2.1.1,y5.2.1.1,[],y9.2.1.1,y6.2.1.1,p0.1,0,y12.2.1.1,())).bind fun y13 =>
 cond (!y13.2.1.1) (
 c1
 ) (
 some ((),((y4.2.1.1,y5.2.1.1,[],y9.2.1.1,y6.2.1.1,p0.1,0,y12.2.1.1,()),(0,()),()))
 )
 )
 )
 ) (
 cond (aq y4.2.1.1 6) (
 let u2:=(j6 p0 103)
 Option.bind u2 fun y11 =>
 cond (!y3.2.2.1.1) (
 c1
 ) (
 (lg (y4.2.1.1,y5.2.1.1,y11.2.1.1,y9.2.1.1,y6.2.1.1,p0.1,0,0,())).bind fun y12 =>
 cond (!y12.2.1.1) (
 c1
 ) (
 some ((),((y4.2.1.1,y5.2.1.1,y11.2.1.1,y9.2.1.1,y6.2.1.1,p0.1,0,0,()),(0,()),()))
 )
 )
 ) (
 cond (!y3.2.2.1.1) (
 c1
 ) (
 (lg (y4.2.1.1,y5.2.1.1,[],y9.2.1.1,y6.2.1.1,p0.1,0,0,())).bind fun y11 =>
 cond (!y11.2.1.1) (
 c1
 ) (
 some ((),((y4.2.1.1,y5.2.1.1,[],y9.2.1.1,y6.2.1.1,p0.1,0,0,()),(0,()),()))
 )
 )
 )
 )
 )
 ) (
 let u1:=(AH y4.2.1.1)
 Option.bind u1 fun y8 =>
 cond y8.2.1.1 (
 let u2:=(j6 p0 4)
 Option.bind u2 fun y9 =>
 let u3:=(ud y9.2.1.1)
 Option.bind u3 fun y10 =>
 cond (aq y4.2.1.1 1) (
 let u4:=(j6 p0 14)
 Option.bind u4 fun y11 =>
 let u5:=(ud y11.2.1.1)
 Option.bind u5 fun y12 =>
 cond (aq y4.2.1.1 6) (
 let u6:=(j6 p0 103)
 Option.bind u6 fun y13 =>
 let u7:=(cond y3.2.2.1.1 y9.2.2.1.1 false)
 cond (!(cond u7 y11.2.2.1.1 false)) (
 c1
 ) (
 (lg (y4.2.1.1,y5.2.1.1,y13.2.1.1,[],y6.2.1.1,p0.1,y10.2.1.1,y12.2.1.1,())).bind fun y14 =>
 cond (!y14.2.1.1) (
 c1
 ) (
 some ((),((y4.2.1.1,y5.2.1.1,y13.2.1.1,[],y6.2.1.1,p0.1,y10.2.1.1,y12.2.1.1,()),(0,()),()))
 )
 )
 ) (
 let u6:=(cond y3.2.2.1.1 y9.2.2.1.1 false)
 cond (!(cond u6 y11.2.2.1.1 false)) (
 c1
 ) (
 (lg (y4.2.1.1,y5.2.1.1,[],[],y6.2.1.1,p0.1,y10.2.1.1,y12.2.1.1,())).bind fun y13 =>
 cond (!y13.2.1.1) (
 c1
 ) (
 some ((),((y4.2.1.1,y5.2.1.1,[],[],y6.2.1.1,p0.1,y10.2.1.1,y12.2.1.1,()),(0,()),()))
 )
 )
 )
 ) (
 cond (aq y4.2.1.1 6) (
 let u4:=(j6 p0 103)
 Option.bind u4 fun y11 =>
 let u5:=(cond y3.2.2.1.1 y9.2.2.1.1 false)
 cond (!u5) (
 c1
 ) (
 (lg (y4.2.1.1,y5.2.1.1,y11.2.1.1,[],y6.2.1.1,p0.1,y10.2.1.1,0,())).bind fun y12 =>
 cond (!y12.2.1.1) (
 c1
 ) (
 some ((),((y4.2.1.1,y5.2.1.1,y11.2.1.1,[],y6.2.1.1,p0.1,y10.2.1.1,0,()),(0,()),()))
 )
 )
 ) (
 let u4:=(cond y3.2.2.1.1 y9.2.2.1.1 false)
 cond (!u4) (
 c1
 ) (
 (lg (y4.2.1.1,y5.2.1.1,[],[],y6.2.1.1,p0.1,y10.2.1.1,0,())).bind fun y11 =>
 cond (!y11.2.1.1) (
 c1
 ) (
 some ((),((y4.2.1.1,y5.2.1.1,[],[],y6.2.1.1,p0.1,y10.2.1.1,0,()),(0,()),()))
 )
 )
 )
 )
 ) (
 cond (aq y4.2.1.1 1) (
 let u2:=(j6 p0 14)
 Option.bind u2 fun y9 =>
 let u3:=(ud y9.2.1.1)
 Option.bind u3 fun y10 =>
 cond (aq y4.2.1.1 6) (
 let u4:=(j6 p0 103)
 Option.bind u4 fun y11 =>
 let u5:=(cond y3.2.2.1.1 y9.2.2.1.1 false)
 cond (!u5) (
 c1
 ) (
 (lg (y4.2.1.1,y5.2.1.1,y11.2.1.1,[],y6.2.1.1,p0.1,0,y10.2.1.1,())).bind fun y12 =>
 cond (!y12.2.1.1) (
 c1
 ) (
 some ((),((y4.2.1.1,y5.2.1.1,y11.2.1.1,[],y6.2.1.1,p0.1,0,y10.2.1.1,()),(0,()),()))
 )
 )
 ) (
 let u4:=(cond y3.2.2.1.1 y9.2.2.1.1 false)
 cond (!u4) (
 c1
 ) (
 (lg (y4.2.1.1,y5.2.1.1,[],[],y6.2.1.1,p0.1,0,y10.2.1.1,())).bind fun y11 =>
 cond (!y11.2.1.1) (
 c1
 ) (
 some ((),((y4.2.1.1,y5.2.1.1,[],[],y6.2.1.1,p0.1,0,y10.2.1.1,()),(0,()),()))
 )
 )
 )
 ) (
 cond (aq y4.2.1.1 6) (
 let u2:=(j6 p0 103)
 Option.bind u2 fun y9 =>
 cond (!y3.2.2.1.1) (
 c1
 ) (
 (lg (y4.2.1.1,y5.2.1.1,y9.2.1.1,[],y6.2.1.1,p0.1,0,0,())).bind fun y10 =>
 cond (!y10.2.1.1) (
 c1
 ) (
 some ((),((y4.2.1.1,y5.2.1.1,y9.2.1.1,[],y6.2.1.1,p0.1,0,0,()),(0,()),()))
 )
 )
 ) (
 cond (!y3.2.2.1.1) (
 c1
 ) (
 (lg (y4.2.1.1,y5.2.1.1,[],[],y6.2.1.1,p0.1,0,0,())).bind fun y9 =>
 cond (!y9.2.1.1) (
 c1
 ) (
 some ((),((y4.2.1.1,y5.2.1.1,[],[],y6.2.1.1,p0.1,0,0,()),(0,()),()))
 )
 )
 )
 )
 )
 )
 )
 )
 )
def aaU:Su:=⟨[.c true [.str,iF]],[(true,[ki,.str,.str,.str,.str,.str,ki,ki]),(false,[ki])],true,.inl fun x=>MC x.1⟩
theorem T4:ar Tryz.prog 164 aaU :=
 fq (ac Pr (ac Ua (ac Uc (ac TE (ac Vz (ac Pc (ac UB (ac PC (ac Ud an))))))))) Tryz.f164
def MT (p0:List R5):Option SV :=
 (Nw p0).bind fun y1 =>
 cond (!(aq y1.2.2.1.1 0)) (
 c19
 ) (
 (MC y1.2.1).bind fun y2 =>
 cond (!(aq y2.2.2.1.1 0)) (
 c19
 ) (
 cond (cond (!(aq y2.2.1.1 6)) true (cr y2.2.1.2.2.1 y2.2.1.2.1)) (
 some ((),(([(y2.2.1.2.1,())],()),()))
 ) (
 cond (kj y2.2.1.2.2.1 y2.2.1.2.1) (
 some ((),(([(y2.2.1.2.2.1,()),(y2.2.1.2.1,())],()),()))
 ) (
 some ((),(([(y2.2.1.2.1,()),(y2.2.1.2.2.1,())],()),()))
 )
 )
 )
 )
def Zq:Su:=⟨[.c false [q5]],[(false,[q9])],true,.inl fun x=>MT x.1.1⟩
theorem WG:ar Tryz.prog 103 Zq :=
 fq (ac Wn (ac T4 an)) Tryz.f103
def C8 (t1:Int) (t5:List R3) (t8 t9:Int) (t12:List R9) (t13 t14:Int):Rd (Int×(List R3)×Int×Int×(List R9)×Int×Int×Unit) Unit :=
 cond (au t9 (ae t5)) (
 cond (aR t9 t5) (
 cond (au (gt d3 t5 t9).1 t8) (
 some (.inl (t1,t5,t8,(aj .i64 t9 1),t12,t13,t14,()))
 ) (
 some (.inr (.inl (t1,t5,t8,t9,t12,t13,t14,())))
 )
 ) none
 ) (
 some (.inr (.inl (t1,t5,t8,t9,t12,t13,t14,())))
 )
def rO:=Xl (af (Kl C8))
def mB (t1:Int) (t5:List R3) (t12:List R9) (t13 t14:Int):Rd (Int×(List R3)×(List R9)×Int×Int×Unit) Unit :=
 cond (au t14 t13) (
 cond (aR t14 t12) (
 (B5 (gt d9 t12 t14).1 t1).bind fun y1 =>
 (rO t1 t5 y1.2.1.1 0 t12 t13 t14).bind (Sum.elim (fun y2 =>
 let u1:=(ae y2.2.1)
 cond (au y2.2.2.2.1 u1) (
 cond (aR y2.2.2.2.1 y2.2.1) (
 cond (aq (gt d3 y2.2.1 y2.2.2.2.1).1 y2.2.2.1) (
 let u2:=(aj .i64 y2.2.2.2.2.2.2.1 1)
 some (.inl (y2.1,y2.2.1,y2.2.2.2.2.1,y2.2.2.2.2.2.1,u2,()))
 ) (
 let u2:=(dP 0 y2.2.2.2.1 y2.2.1)
 cond u2 (
 let u3:=(P6 y2.2.1 y2.2.2.2.1)
 let u4:=(bY 8 [] u3)
 cond u4 (
 let u5:=(jn [] u3)
 let u6:=(bY 8 u5 [(y2.2.2.1,())])
 cond u6 (
 let u7:=(dP y2.2.2.2.1 u1 y2.2.1)
 cond u7 (
 let u8:=(jn u5 [(y2.2.2.1,())])
 let u9:=(sub y2.2.1 y2.2.2.2.1 u1)
 let u10:=(bY 8 u8 u9)
 cond u10 (
 let u11:=(aj .i64 y2.2.2.2.2.2.2.1 1)
 some (.inl (y2.1,(jn u8 u9),y2.2.2.2.2.1,y2.2.2.2.2.2.1,u11,()))
 ) none
 ) none
 ) none
 ) none
 ) none
 )
 ) none
 ) (
 let u2:=(dP 0 y2.2.2.2.1 y2.2.1)
 cond u2 (
 let u3:=(P6 y2.2.1 y2.2.2.2.1)
 let u4:=(bY 8 [] u3)
 cond u4 (
 let u5:=(jn [] u3)
 let u6:=(bY 8 u5 [(y2.2.2.1,())])
 cond u6 (
 let u7:=(dP y2.2.2.2.1 u1 y2.2.1)
 cond u7 (
 let u8:=(jn u5 [(y2.2.2.1,())])
 let u9:=(sub y2.2.1 y2.2.2.2.1 u1)
 let u10:=(bY 8 u8 u9)
 cond u10 (
 let u11:=(aj .i64 y2.2.2.2.2.2.2.1 1)
 some (.inl (y2.1,(jn u8 u9),y2.2.2.2.2.1,y2.2.2.2.2.2.1,u11,()))
 ) none
 ) none
 ) none
 ) none
 ) none
 )
 ) (fun _ =>
 some (.inr (.inr ()))
 ))
 ) none
 ) (
 some (.inr (.inl (t1,t5,t12,t13,t14,())))
 )
def Ab:=xS (af (ff mB))
def N4 (p0:List R9) (p1:Int):Option P3 :=
 (Ab p1 [] p0 (ae p0) 0).bind (Sum.elim (fun y1 =>
 some ((),((y1.2.1,()),()))
 ) (fun _ =>
 none
 ))
def aa4:Su:=⟨[.c false [q9],.c false [ki]],[(false,[q3])],true,.inl fun x=>N4 x.1.1 x.2.1.1⟩
theorem VU:ar Tryz.prog 102 aa4 :=
 fl (ac Pj an) [] [(2,⟨[.d 1 ki,.own 5 q3,.d 8 ki,.d 9 ki,.d 12 q9,.d 13 ki,.d 14 ki],af (Kl C8)⟩),(0,⟨[.d 1 ki,.own 5 q3,.d 12 q9,.d 13 ki,.d 14 ki],af (ff mB)⟩)] [] Tryz.f102 (lp [0] (sc (lp [2] (sc cM sn)) sn))
def W9 (p0:(List R5)×Int×(List R3)×Int×Int×Int×Int×Int×(List R5)×Unit) (p1:Int):Option P3 :=
 (MT p0.1).bind fun y1 =>
 (N4 y1.2.1.1 p1).bind fun y2 =>
 some ((),(y2.2.1,()))
def s51:Su:=⟨[.c true [q5,ki,q3,ki,ki,ki,ki,ki,q5],.c false [ki]],[(false,[q3])],true,.inl fun x=>W9 x.1 x.2.1.1⟩
theorem ZJ:ar Tryz.prog 51 s51 :=
 fq (ac WG (ac VU an)) Tryz.f51
def pn (t0 t1:List R3) (t12 t13:Int):Rd ((List R3)×(List R3)×Int×Int×Unit) Y1 :=
 cond (au t13 t12) (
 cond (aR t13 t0) (
 cond (aR t13 t1) (
 cond (!(aq (gt d3 t0 t13).1 (gt d3 t1 t13).1)) (
 some (.inr (.inr (false,())))
 ) (
 some (.inl (t0,t1,t12,(aj .i64 t13 1),()))
 )
 ) none
 ) none
 ) (
 some (.inr (.inl (t0,t1,t12,t13,())))
 )
def RL:=mj (af (cV pn))
def Oh (p0 p1:List R3):Option ed :=
 let u1:=(ae p0)
 cond (!(aq u1 (ae p1))) (
 c0
 ) (
 (RL p0 p1 u1 0).bind (Sum.elim (fun _ =>
 c2
 ) (fun y1 =>
 some ((),(y1,()))
 ))
 )
def Zf:Su:=⟨[.c false [q3],.c false [q3]],[(false,[.bool])],true,.inl fun x=>Oh x.1.1 x.2.1.1⟩
theorem We:ar Tryz.prog 116 Zf :=
 fl an [.d 4 .bool] [(0,⟨[.d 0 q3,.d 1 q3,.d 12 ki,.d 13 ki],af (cV pn)⟩)] [] Tryz.f116 (lp [0] (sc cM sn))
def XA (p0:(List R5)×Int×(List R3)×Int×Int×Int×Int×Int×(List R5)×Unit) (p1:Int):Option ed :=
 (rL p1 1 5).bind fun y1 =>
 let u1:=(ae p0.2.2.2.2.2.2.2.2.1)
 cond (cond (cond (!y1.2.1.1) true (au 300 (ae p0.1))) true (au 200 u1)) (
 c0
 ) (
 (Gi p0.2.2.2.2.1).bind fun y2 =>
 cond (!y2.2.1.1) (
 c0
 ) (
 (Gi p0.2.2.2.2.2.2.2.1).bind fun y3 =>
 cond (!y3.2.1.1) (
 c0
 ) (
 (rL p0.2.1 0 5).bind fun y4 =>
 cond (!y4.2.1.1) (
 c0
 ) (
 (N9 p0).bind fun y5 =>
 cond (!y5.2.1.1) (
 c0
 ) (
 cond (cond (aq p0.2.1 0) (au 0 (ae p0.2.2.1)) false) (
 c0
 ) (
 cond (!(aq p0.2.1 0)) (
 (W9 p0 p1).bind fun y6 =>
 (Oh p0.2.2.1 y6.2.1.1).bind fun y7 =>
 cond (!y7.2.1.1) (
 c0
 ) (
 cond (bH p0.2.1 2) (
 some ((),(((cond (cond (cond (aq p0.2.2.2.2.2.1 (-1)) (aq p0.2.2.2.2.2.2.1 (-1)) false) (aq p0.2.2.2.2.2.2.2.1 0) false) (aq u1 0) false),()),()))
 ) (
 let u2:=(Gi p0.2.2.2.2.2.1)
 Option.bind u2 fun y8 =>
 cond (cond (!y8.2.1.1) true (au p0.2.2.2.2.2.1 p0.2.2.2.2.1)) (
 c0
 ) (
 cond (aq p0.2.1 5) (
 let u3:=(Gi p0.2.2.2.2.2.2.1)
 Option.bind u3 fun y9 =>
 some ((),(((cond y9.2.1.1 (bH p0.2.2.2.2.2.1 p0.2.2.2.2.2.2.1) false),()),()))
 ) (
 some ((),(((aq p0.2.2.2.2.2.2.1 (-1)),()),()))
 )
 )
 )
 )
 ) (
 cond (bH p0.2.1 2) (
 some ((),(((cond (cond (cond (aq p0.2.2.2.2.2.1 (-1)) (aq p0.2.2.2.2.2.2.1 (-1)) false) (aq p0.2.2.2.2.2.2.2.1 0) false) (aq u1 0) false),()),()))
 ) (
 let u2:=(Gi p0.2.2.2.2.2.1)
 Option.bind u2 fun y6 =>
 cond (cond (!y6.2.1.1) true (au p0.2.2.2.2.2.1 p0.2.2.2.2.1)) (
 c0
 ) (
 cond (aq p0.2.1 5) (
 let u3:=(Gi p0.2.2.2.2.2.2.1)
 Option.bind u3 fun y7 =>
 some ((),(((cond y7.2.1.1 (bH p0.2.2.2.2.2.1 p0.2.2.2.2.2.2.1) false),()),()))
 ) (
 some ((),(((aq p0.2.2.2.2.2.2.1 (-1)),()),()))
 )
 )
 )
 )
 )
 )
 )
 )
 )
 )
def s60:Su:=⟨[.c true [q5,ki,q3,ki,ki,ki,ki,ki,q5],.c false [ki]],[(false,[.bool])],true,.inl fun x=>XA x.1 x.2.1.1⟩
theorem Z3:ar Tryz.prog 60 s60 :=
 fq (ac q8 (ac Jw (ac TD (ac ZJ (ac We an))))) Tryz.f60
def vV (t1 t5:Int) (b2:(List R5)×Int×(List R3)×Int×Int×Int×Int×Int×(List R5)×Unit):Rd (Int×Int×Tw×Unit) Y1 :=
 cond (cond (au t5 b2.2.2.2.1) (au t5 (ae b2.2.2.1)) false) (
 cond (aR t5 b2.2.2.1) (
 cond (aq (gt d3 b2.2.2.1 t5).1 t1) (
 some (.inr (.inr (true,())))
 ) (
 some (.inl (t1,(aj .i64 t5 1),b2,()))
 )
 ) none
 ) (
 some (.inr (.inl (t1,t5,b2,())))
 )
def UP:=kt (af (dn vV))
def XE (p0:(List R5)×Int×(List R3)×Int×Int×Int×Int×Int×(List R5)×Unit) (p1:Int):Option ed :=
 (UP p1 0 p0).bind (Sum.elim (fun _ =>
 c0
 ) (fun y1 =>
 some ((),(y1,()))
 ))
def s61:Su:=⟨[.c true [q5,ki,q3,ki,ki,ki,ki,ki,q5],.c false [ki]],[(false,[.bool])],true,.inl fun x=>XE x.1 x.2.1.1⟩
theorem aaQ:ar Tryz.prog 61 s61 :=
 fl an [.d 4 .bool] [(0,⟨[.d 1 ki,.d 5 ki,.box 2 [(false,q5),(false,ki),(false,q3),(false,ki),(false,ki),(false,ki),(false,ki),(false,ki),(false,q5)]],af (dn vV)⟩)] [] Tryz.f61 (lp [0] (sc cM sn))
def uJ (t40:List gq) (t41 t42:Int) (b1:(List ea)×Int×Int×(List gq)×Unit):Rd ((List gq)×Int×Int×Dx×Unit) Y1 :=
 cond (au t42 t41) (
 cond (aR t42 t40) (
 let u1:=(gt d62 t40 t42)
 (XA u1 (ae b1.1)).bind fun y1 =>
 cond (cond (!y1.2.1.1) true (au b1.2.1 u1.2.2.2.2.2.2.2.1)) (
 some (.inr (.inr (false,())))
 ) (
 some (.inl (t40,t41,(aj .i64 t42 1),b1,()))
 )
 ) none
 ) (
 some (.inr (.inl (t40,t41,t42,b1,())))
 )
def JF:=mj (af (cV uJ))
def xg (t5:Int) (t61:List ea) (t62 t63:Int) (t75:List gq) (t76 t77:Int) (b1:(List ea)×Int×Int×(List gq)×Unit) (b6:Int×(List dt)×Unit):Rd (Int×(List ea)×Int×Int×(List gq)×Int×Int×Dx×Wm×Unit) Y1 :=
 cond (au t77 t76) (
 cond (aR t77 t75) (
 (XE (gt d62 t75 t77) t5).bind fun y1 =>
 cond (!(Kw y1.2.1.1 (aq b6.1 t77))) (
 some (.inr (.inr (false,())))
 ) (
 some (.inl (t5,t61,t62,t63,t75,t76,(aj .i64 t77 1),b1,b6,()))
 )
 ) none
 ) (
 some (.inr (.inl (t5,t61,t62,t63,t75,t76,t77,b1,b6,())))
 )
def Qa:=TB (af (Dl xg))
def wZ (t61:List ea) (t62 t63:Int) (b1:(List ea)×Int×Int×(List gq)×Unit):Rd ((List ea)×Int×Int×Dx×Unit) Y1 :=
 cond (au t63 t62) (
 cond (aR t63 t61) (
 let u1:=(ae b1.2.2.2.1)
 let u2:=(gt d89 t61 t63)
 cond (bH u1 u2.1) (
 some (.inr (.inr (false,())))
 ) (
 (Qa t63 t61 t62 t63 b1.2.2.2.1 u1 0 b1 u2).bind (Sum.elim (fun y1 =>
 some (.inl (y1.2.1,y1.2.2.1,(aj .i64 y1.2.2.2.1 1),y1.2.2.2.2.2.2.2.1,()))
 ) (fun y1 =>
 some (.inr (.inr (y1.1,())))
 ))
 )
 ) none
 ) (
 some (.inr (.inl (t61,t62,t63,b1,())))
 )
def O5:=mj (af (cV wZ))
def Xx (p0:(List ea)×Int×Int×(List gq)×Unit):Option ed :=
 (Xn p0.1).bind fun y1 =>
 cond (!y1.2.1.1) (
 c0
 ) (
 (Gi p0.2.1).bind fun y2 =>
 cond (!y2.2.1.1) (
 c0
 ) (
 (Gi p0.2.2.1).bind fun y3 =>
 let u1:=(ae p0.2.2.2.1)
 cond (cond (!y3.2.1.1) true (au 12 u1)) (
 c0
 ) (
 (WV p0.2.2.2.1 p0.2.2.1).bind fun y4 =>
 cond (!y4.2.1.1) (
 c0
 ) (
 (JF p0.2.2.2.1 u1 0 p0).bind (Sum.elim (fun y5 =>
 (O5 y5.2.2.2.1.1 (ae y5.2.2.2.1.1) 0 y5.2.2.2.1).bind (Sum.elim (fun _ =>
 c2
 ) (fun y6 =>
 some ((),(y6,()))
 ))
 ) (fun y5 =>
 some ((),(y5,()))
 ))
 )
 )
 )
 )
def s25:Su:=⟨[.c true [gj,ki,ki,jZ]],[(false,[.bool])],true,.inl fun x=>Xx x.1⟩
theorem aaL:ar Tryz.prog 25 s25 :=
 fl (ac Jw (ac ZG (ac ZZ (ac Z3 (ac aaQ an))))) [.d 2 .bool] [(0,⟨[.d 40 jZ,.d 41 ki,.d 42 ki,.box 1 [(false,gj),(false,ki),(false,ki),(false,jZ)]],af (cV uJ)⟩),(4,⟨[.d 5 ki,.d 61 gj,.d 62 ki,.d 63 ki,.d 75 jZ,.d 76 ki,.d 77 ki,.box 1 [(false,gj),(false,ki),(false,ki),(false,jZ)],.box 6 [(false,ki),(false,fG)]],af (Dl xg)⟩),(2,⟨[.d 61 gj,.d 62 ki,.d 63 ki,.box 1 [(false,gj),(false,ki),(false,ki),(false,jZ)]],af (cV wZ)⟩)] [] Tryz.f25 (lp [0,2] (sc cM (sc (lp [4] (sc cM sn)) sn)))
def ot (t8:List dt) (t9 t10:Int) (b2 b3:(List dt)×Unit):Rd ((List dt)×Int×Int×Y4×Y4×Unit) Unit :=
 cond (au t10 t9) (
 cond (aR t10 t8) (
 (Ug (gt d59 t8 t10)).bind fun y1 =>
 cond (bY 160 b3.1 [y1.2.1]) (
 some (.inl (t8,t9,(aj .i64 t10 1),b2,((jn b3.1 [y1.2.1]),()),()))
 ) none
 ) none
 ) (
 some (.inr (.inl (t8,t9,t10,b2,b3,())))
 )
def IG:=xS (af (ff ot))
def LM (p0:(List dt)×Unit):Option S0 :=
 (IG p0.1 (ae p0.1) 0 ([],()) ([],())).bind (Sum.elim (fun y1 =>
 some ((),(y1.2.2.2.2.1,()))
 ) (fun _ =>
 none
 ))
def Zg:Su:=⟨[.c true [fG]],[(true,[fG])],true,.inl fun x=>LM x.1⟩
theorem U4:ar Tryz.prog 156 Zg :=
 fl (ac Ol an) [] [(0,⟨[.d 8 fG,.d 9 ki,.d 10 ki,.box 2 [(true,fG)],.box 3 [(true,fG)]],af (ff ot)⟩)] [] Tryz.f156 (lp [0] (sc cM sn))
def xB (t3 t7:List ea) (t8 t9:Int):Rd W4 Unit :=
 cond (au t9 t8) (
 cond (aR t9 t7) (
 let u1:=(gt d89 t7 t9)
 (LM (u1.2.1,())).bind fun y1 =>
 cond (bY 32 t3 [(u1.1,y1.2.1.1,())]) (
 some (.inl ((jn t3 [(u1.1,y1.2.1.1,())]),t7,t8,(aj .i64 t9 1),()))
 ) none
 ) none
 ) (
 some (.inr (.inl (t3,t7,t8,t9,())))
 )
def O9:=mj (af (cV xB))
def Xy (p0:List ea):Option ZM :=
 (O9 [] p0 (ae p0) 0).bind (Sum.elim (fun y1 =>
 some ((),((y1.1,()),()))
 ) (fun _ =>
 none
 ))
def s90:Su:=⟨[.c false [gj]],[(false,[gj])],true,.inl fun x=>Xy x.1.1⟩
theorem YS:ar Tryz.prog 90 s90 :=
 fl (ac U4 an) [] [(0,⟨[.own 3 gj,.d 7 gj,.d 8 ki,.d 9 ki],af (cV xB)⟩)] [] Tryz.f90 (lp [0] (sc cM sn))
def XD (p0:(List R5)×Int×(List R3)×Int×Int×Int×Int×Int×(List R5)×Unit):Option Y62 :=
 cond (bY 1 [] p0.1) (
 cond (bY 8 [] p0.2.2.1) (
 cond (bY 1 [] p0.2.2.2.2.2.2.2.2.1) (
 some ((),(((jn [] p0.1),p0.2.1,(jn [] p0.2.2.1),p0.2.2.2.1,p0.2.2.2.2.1,p0.2.2.2.2.2.1,p0.2.2.2.2.2.2.1,p0.2.2.2.2.2.2.2.1,(jn [] p0.2.2.2.2.2.2.2.2.1),()),()))
 ) none
 ) none
 ) none
def s91:Su:=⟨[.c true [q5,ki,q3,ki,ki,ki,ki,ki,q5]],[(true,[q5,ki,q3,ki,ki,ki,ki,ki,q5])],true,.inl fun x=>XD x.1⟩
theorem Za:ar Tryz.prog 91 s91 :=
 fq an Tryz.f91
def wq (t15:List gq) (t16 t17:Int) (b2 b3:(List ea)×Int×Int×(List gq)×Unit):Rd ((List gq)×Int×Int×Dx×Dx×Unit) Unit :=
 cond (au t17 t16) (
 cond (aR t17 t15) (
 (XD (gt d62 t15 t17)).bind fun y1 =>
 cond (bY 120 b3.2.2.2.1 [y1.2.1]) (
 some (.inl (t15,t16,(aj .i64 t17 1),b2,(b3.1,b3.2.1,b3.2.2.1,(jn b3.2.2.2.1 [y1.2.1]),()),()))
 ) none
 ) none
 ) (
 some (.inr (.inl (t15,t16,t17,b2,b3,())))
 )
def PE:=xS (af (ff wq))
def W6 (p0:(List ea)×Int×Int×(List gq)×Unit):Option Y52 :=
 (Xy p0.1).bind fun y1 =>
 (PE p0.2.2.2.1 (ae p0.2.2.2.1) 0 ([],0,0,[],()) (y1.2.1.1,p0.2.1,p0.2.2.1,[],())).bind (Sum.elim (fun y2 =>
 some ((),(y2.2.2.2.2.1,()))
 ) (fun _ =>
 none
 ))
def s40:Su:=⟨[.c true [gj,ki,ki,jZ]],[(true,[gj,ki,ki,jZ])],true,.inl fun x=>W6 x.1⟩
theorem abc:ar Tryz.prog 40 s40 :=
 fl (ac YS (ac Za an)) [] [(0,⟨[.d 15 jZ,.d 16 ki,.d 17 ki,.box 2 [(true,gj),(false,ki),(false,ki),(true,jZ)],.box 3 [(true,gj),(false,ki),(false,ki),(true,jZ)]],af (ff wq)⟩)] [] Tryz.f40 (lp [0] (sc cM sn))
def g16 (p0:(List ea)×Int×Int×(List gq)×Unit) (p1:List R5):Option (Unit×(Dx×Y1×Unit)) :=
 (WU p1 p0.2.2.1).bind fun y1 =>
 (Xx p0).bind fun y2 =>
 cond (cond (cond (cond (!y2.2.1.1) true (!y1.2.2.1.1)) true (aq p0.2.2.1 1000000000)) true (aq (ae p0.2.2.2.1) 12)) (
 some ((),(([],0,0,[],()),(false,()),()))
 ) (
 (W6 p0).bind fun y3 =>
 cond (bY 120 y3.2.1.2.2.2.1 [y1.2.1]) (
 some ((),((y3.2.1.1,y3.2.1.2.1,(aj .i64 p0.2.2.1 1),(jn y3.2.1.2.2.2.1 [y1.2.1]),()),(true,()),()))
 ) none
 )
def s16:Su:=⟨[.c true [gj,ki,ki,jZ],.c false [q5]],[(true,[gj,ki,ki,jZ]),(false,[.bool])],true,.inl fun x=>g16 x.1 x.2.1.1⟩
theorem Zl:ar Tryz.prog 16 s16 :=
 fq (ac aa3 (ac aaL (ac abc an))) Tryz.f16
def nL (p0 p1 p2:Int):Option ed :=
 some ((),(((cond (bH p1 p0) (bH p0 p2) false),()),()))
def s41:Su:=⟨[.c false [ki],.c false [ki],.c false [ki]],[(false,[.bool])],true,.inl fun x=>nL x.1.1 x.2.1.1 x.2.2.1.1⟩
theorem nJ:ar Tryz.prog 41 s41 :=
 fq an Tryz.f41
def ua (p0:Int):Option ed :=
 (nL p0 0 1000000000).bind fun y1 =>
 some ((),(y1.2.1,()))
def s74:Su:=⟨[.c false [ki]],[(false,[.bool])],true,.inl fun x=>ua x.1.1⟩
theorem JS:ar Tryz.prog 74 s74 :=
 fq (ac nJ an) Tryz.f74
def Lt (p0:List R5):Option (Unit×((List R5)×Unit)×Unit):=cond (bY 1 ([]:List R5) p0) (some ((),((p0,()),()))) none
def SZ:Su:=⟨[.c false [q5]],[(false,[q5])],true,.inl fun x=>Lt x.1.1⟩
def E99:En:=zI 8 tt [] [] (fun _=>none) [] fun _=>none
def Uu (x:PT SZ.ps):St:=⟨[(2,.v .nil),(0,.v (.d q5 x.1.1))],[]⟩
theorem t99 (x:PT SZ.ps) (b:Bool):((cI E99 (.seq (di (dV (di (ak Tryz.f99)))) (di (di (ak Tryz.f99)))) (((Uu x).aA 3 (.v (.d q5 x.1.1),none)).aA 4 (.v (.d .bool b),none))).bind (Bm E99 Tryz.f99.results.toList SZ.ps SZ.rs SZ.fresh)).run =
 cond b (some ((),(([],()),()))) (Lt x.1.1):=by kernel_rfl
theorem Sp:ar Tryz.prog 99 SZ :=
 DJ (E:=E99) (lC hT) (da (l:=[]) trivial) eP (fn:=Tryz.f99) (c0:=dV (ak Tryz.f99)) (cc:=di (dV (di (ak Tryz.f99)))) (c3:=di (di (ak Tryz.f99))) (id:=JI (dV (dV (di (ak Tryz.f99)))))
  (o1:=fO (dV (dV (di (ak Tryz.f99)))) 0) (o2:=fO (dV (dV (di (ak Tryz.f99)))) 1) (by kernel_rfl) (by kernel_rfl) (by kernel_rfl) rfl
  (bE (fun _=>rfl) _ (by kernel_rfl)) (bE (fun _=>rfl) _ (by kernel_rfl)) (bE (fun _=>rfl) _ (by kernel_rfl)) (t0:=0) (t3:=3) (t4:=4) (ty:=39) (ty':=39) (e:=5) (e':=5) (by':=24) (fl:=[]) (ks:=ub) (by kernel_rfl) (by kernel_rfl) (by kernel_rfl) (by kernel_rfl) (by kernel_rfl) (by kernel_rfl) (by kernel_rfl) (by kernel_rfl) (by kernel_rfl)
  Uu (fun x=>x.1.1) (fun x=>by kernel_rfl) (fun x=>by kernel_rfl) fun x y hy b hb=>by
   refine ⟨y.1,fun _=>rfl,?_⟩
   rw [t99]
   have hy:Lt x.1.1=some y:=hy
   cases b with
   | false=>exact hy
   | true =>
     have he:x.1.1=([]:List R5):=hb rfl
     rw [he] at hy
     exact hy
def Xe (p0:List R5) (p1:Int):Option (Unit×(Tw×Y1×Unit)) :=
 cond (au 300 (ae p0)) (
 c8
 ) (
 (ua p1).bind fun y1 =>
 cond (!y1.2.1.1) (
 c8
 ) (
 (Lt p0).bind fun y2 =>
 some ((),((y2.2.1.1,0,[],0,p1,(-1),(-1),0,[],()),(true,()),()))
 )
 )
def s48:Su:=⟨[.c false [q5],.c false [ki]],[(true,[q5,ki,q3,ki,ki,ki,ki,ki,q5]),(false,[.bool])],true,.inl fun x=>Xe x.1.1 x.2.1.1⟩
theorem YY:ar Tryz.prog 48 s48 :=
 fq (ac JS (ac Sp an)) Tryz.f48
def CO (p0 p1:(List UInt8)×Int×Int×Int×Int×(List gw)×Int×Int×(List R3)×(List R3)×(List cu)×Unit):Option gX :=
 cond (kj p0.1 p1.1) (
 c3
 ) (
 cond (!(R7 p0.1 p1.1)) (
 c7
 ) (
 c6
 )
 )
def Qv:Su:=⟨[.c true [.str,ki,ki,ki,ki,mi,ki,ki,q3,q3,dQ],.c true [.str,ki,ki,ki,ki,mi,ki,ki,q3,q3,dQ]],[(false,[ki])],true,.inl fun x=>CO x.1 x.2.1⟩
theorem Cp:ar Tryz.prog 138 Qv :=
 fq an Tryz.f138
def oJ (t0:List dt) (t1 t2:Int) (_:Unit) (t8 t9:Int):Rd ((List dt)×Int×Int×Unit×Int×Int×Unit) Unit :=
 cond (au t1 t9) (
 cond (aR t9 t0) (
 let u1:=(aM .i64 t9 1)
 cond (aR u1 t0) (
 (CO (gt d59 t0 t9) (gt d59 t0 u1)).bind fun y1 =>
 cond (au y1.2.1.1 0) (
 cond (aR u1 t0) (
 cond (aR t9 t0) (
 cond (AF t9 t0 t9) (
 cond (AF u1 t0 u1) (
 some (.inl ((Hy d59 t0 t9 u1),t1,t2,(),t8,u1,()))
 ) none
 ) none
 ) none
 ) none
 ) (
 some (.inr (.inl (t0,t1,t2,(),t8,t9,())))
 )
 ) none
 ) none
 ) (
 some (.inr (.inl (t0,t1,t2,(),t8,t9,())))
 )
def AE:=UU (af (Ex oJ))
def lW (t0:List dt) (t1 t2:Int) (_:Unit) (t8:Int):Rd ((List dt)×Int×Int×Unit×Int×Unit) Unit :=
 cond (au t8 t2) (
 (AE t0 t1 t2 () t8 t8).bind (Sum.elim (fun y1 =>
 some (.inl (y1.1,y1.2.1,y1.2.2.1,(),(aj .i64 y1.2.2.2.2.1 1),()))
 ) (fun _ =>
 some (.inr (.inr ()))
 ))
 ) (
 some (.inr (.inl (t0,t1,t2,(),t8,())))
 )
def pf:=xS (af (ff lW))
def Hu (p0:List dt) (p1 p2:Int):Option PU :=
 (pf p0 p1 p2 () (aj .i64 p1 1)).bind (Sum.elim (fun y1 =>
 some (((y1.1,()),()),())
 ) (fun _ =>
 none
 ))
def NJ:Su:=⟨[.io false [fG],.c false [ki],.c false [ki],.fn 138 []],[],true,.inl fun x=>Hu x.1.1 x.2.1.1 x.2.2.1.1⟩
def qW:List SE:=[.own 0 fG,.d 1 ki,.d 2 ki,.fn 3 138 [],.d 8 ki,.d 9 ki]
def qP:List SE:=[.own 0 fG,.d 1 ki,.d 2 ki,.fn 3 138 [],.d 8 ki]
def HX:List SE:=[]
def OV:Nat->Option (Lo HX)
 | 2=>some ⟨qW,Ex AE⟩
 | 0=>some ⟨qP,ff pf⟩
 | _=>none
def Fe:List (Nat×SS):=[(138,iS Qv)]
def EP:En:=zI 53 tt Fe HX OV [0] fun _=>none
def T1:Nat->Option (St->Tr St)
 | 6=>some (swapT EP (opsOf (bh 6 (ak Tryz.f238))) [9] [(14,2),(14,3),(14,4)] 14 9 13)
 | _=>none
def B6:En:=zI 53 tt Fe HX OV [0] (T1)
theorem Ry (x:bL qW):(dj B6 2 qW (bc 2 (ak Tryz.f238)) x).run=Ex oJ x:=by kernel_rfl
theorem Sd (x:bL qP):(dj B6 0 qP (bc 0 (ak Tryz.f238)) x).run=ff lW x:=by kernel_rfl
theorem t238 (x:PT NJ.ps):(F7 B6 (ak Tryz.f238) Tryz.f238.results.toList NJ.ps NJ.rs true x).run=Hu x.1.1 x.2.1.1 x.2.2.1.1:=by kernel_rfl
theorem CN:dq Tryz.prog B6:=da (l:=Fe) ⟨Cp,trivial⟩
theorem Hp:dq Tryz.prog EP:=da (l:=Fe) ⟨Cp,trivial⟩
theorem Rr:cP Tryz.prog B6 (bh 6 (ak Tryz.f238)) (swapT EP (opsOf (bh 6 (ak Tryz.f238))) [9] [(14,2),(14,3),(14,4)] 14 9 13) :=
 gD rfl rfl (uD (E:=EP) (lC hT) Hp eP (c:=(bh 6 (ak Tryz.f238))) (id:=6) (by kernel_rfl))
theorem RR:cw Tryz.prog B6 2 (.loop (bc 2 (ak Tryz.f238))) ⟨qW,Ex AE⟩ :=
 eC (lC hT) CN eP (step:=fun (x:bL qW)=>oJ x.1 x.2.1 x.2.2.1 x.2.2.2.1 x.2.2.2.2.1 x.2.2.2.2.2.1) Ry (ba [] (by kernel_rfl) trivial [(6,bh 6 (ak Tryz.f238))] (by kernel_rfl) ⟨xV rfl Rr,trivial⟩)
theorem Sh:cw Tryz.prog B6 0 (.loop (bc 0 (ak Tryz.f238))) ⟨qP,ff pf⟩ :=
 eC (lC hT) CN eP (step:=fun (x:bL qP)=>lW x.1 x.2.1 x.2.2.1 x.2.2.2.1 x.2.2.2.2.1) Sd (ba [(2,.loop (bc 2 (ak Tryz.f238)))] (by kernel_rfl) ⟨ma rfl RR,trivial⟩ [] (by kernel_rfl) trivial)
theorem WA:ar Tryz.prog 238 NJ :=
 qv (E:=B6) (lC hT) CN eP (fn:=Tryz.f238) (c:=(ak Tryz.f238)) (by kernel_rfl) (by kernel_rfl) (by kernel_rfl) rfl (ba [(0,.loop (bc 0 (ak Tryz.f238)))] (by kernel_rfl) ⟨ma rfl Sh,trivial⟩ [] (by kernel_rfl) trivial) fun x y h=>⟨y.1,fun _=>rfl,(t238 x).trans h⟩
def pJ (t0:List dt) (t1 t2 t3 t10:Int):Rd ((List dt)×Int×Int×Int×Int×Unit) Unit :=
 cond (au t10 t3) (
 let u1:=(aj .i64 t2 t10)
 cond (aR u1 t0) (
 let u2:=(aj .i64 t1 t10)
 cond (aR u2 t0) (
 cond (AF u2 t0 u2) (
 cond (AF u1 t0 u1) (
 some (.inl ((Hy d59 t0 u2 u1),t1,t2,t3,(aj .i64 t10 1),()))
 ) none
 ) none
 ) none
 ) none
 ) (
 some (.inr (.inl (t0,t1,t2,t3,t10,())))
 )
def xo:=xS (af (ff pJ))
def zJ (p0:List dt) (p1 p2 p3:Int):Option PU :=
 (xo p0 p1 p2 p3 0).bind (Sum.elim (fun y1 =>
 some (((y1.1,()),()),())
 ) (fun _ =>
 none
 ))
def LO:Su:=⟨[.io false [fG],.c false [ki],.c false [ki],.c false [ki],.fn 138 []],[],true,.inl fun x=>zJ x.1.1 x.2.1.1 x.2.2.1.1 x.2.2.2.1.1⟩
def qQ:List SE:=[.own 0 fG,.d 1 ki,.d 2 ki,.d 3 ki,.d 10 ki]
def HY:List SE:=[]
def P0:Nat->Option (Lo HY)
 | 0=>some ⟨qQ,ff xo⟩
 | _=>none
def Fc:List (Nat×SS):=[]
def E6:En:=zI 38 tt Fc HY P0 [0] fun _=>none
def TT:Nat->Option (St->Tr St)
 | 3=>some (swapT E6 (opsOf (bh 3 (ak Tryz.f316))) [2,10] [(20,4),(20,5),(20,6),(20,7)] 20 13 19)
 | _=>none
def FU:En:=zI 38 tt Fc HY P0 [0] (TT)
theorem QG (x:bL qQ):(dj FU 0 qQ (bc 0 (ak Tryz.f316)) x).run=ff pJ x:=by kernel_rfl
theorem t316 (x:PT LO.ps):(F7 FU (ak Tryz.f316) Tryz.f316.results.toList LO.ps LO.rs true x).run=zJ x.1.1 x.2.1.1 x.2.2.1.1 x.2.2.2.1.1:=by kernel_rfl
theorem Ji:dq Tryz.prog FU:=da (l:=Fc) trivial
theorem G3:dq Tryz.prog E6:=da (l:=Fc) trivial
theorem SP:cP Tryz.prog FU (bh 3 (ak Tryz.f316)) (swapT E6 (opsOf (bh 3 (ak Tryz.f316))) [2,10] [(20,4),(20,5),(20,6),(20,7)] 20 13 19) :=
 gD rfl rfl (uD (E:=E6) (lC hT) G3 eP (c:=(bh 3 (ak Tryz.f316))) (id:=3) (by kernel_rfl))
theorem QU:cw Tryz.prog FU 0 (.loop (bc 0 (ak Tryz.f316))) ⟨qQ,ff xo⟩ :=
 eC (lC hT) Ji eP (step:=fun (x:bL qQ)=>pJ x.1 x.2.1 x.2.2.1 x.2.2.2.1 x.2.2.2.2.1) QG (ba [] (by kernel_rfl) trivial [(3,bh 3 (ak Tryz.f316))] (by kernel_rfl) ⟨xV rfl SP,trivial⟩)
theorem V7:ar Tryz.prog 316 LO :=
 qv (E:=FU) (lC hT) Ji eP (fn:=Tryz.f316) (c:=(ak Tryz.f316)) (by kernel_rfl) (by kernel_rfl) (by kernel_rfl) rfl (ba [(0,.loop (bc 0 (ak Tryz.f316)))] (by kernel_rfl) ⟨ma rfl QU,trivial⟩ [] (by kernel_rfl) trivial) fun x y h=>⟨y.1,fun _=>rfl,(t316 x).trans h⟩
def ml (t0:List dt) (t2:Int) (_:Unit) (t10 t11:Int):Rd Y35 Unit :=
 cond (!(aq t10 t11)) (
 cond (au t11 t10) (
 let u1:=(aM .i64 t2 t10)
 (zJ t0 u1 t2 t11).bind fun y1 =>
 some (.inl (y1.1.1.1,t2,(),(aM .i64 t10 t11),t11,()))
 ) (
 let u1:=(aM .i64 t2 t10)
 (zJ t0 u1 (aM .i64 (aj .i64 t2 t11) t10) t10).bind fun y1 =>
 some (.inl (y1.1.1.1,t2,(),t10,(aM .i64 t11 t10),()))
 )
 ) (
 some (.inr (.inl (t0,t2,(),t10,t11,())))
 )
def I8:=xS (af (ff ml))
def Ae (p0:List dt) (p1 p2 p3:Int):Option PU :=
 (I8 p0 p2 () (aM .i64 p2 p1) (aM .i64 p3 p2)).bind (Sum.elim (fun y1 =>
 (zJ y1.1 (aM .i64 y1.2.1 y1.2.2.2.1) y1.2.1 y1.2.2.2.1).bind fun y2 =>
 some ((y2.1.1,()),())
 ) (fun _ =>
 none
 ))
def U1:Su:=⟨[.io false [fG],.c false [ki],.c false [ki],.c false [ki],.fn 138 []],[],true,.inl fun x=>Ae x.1.1 x.2.1.1 x.2.2.1.1 x.2.2.2.1.1⟩
theorem Jz:ar Tryz.prog 291 U1 :=
 fl (ac V7 an) [] [(0,⟨[.own 0 fG,.d 2 ki,.fn 4 138 [],.d 10 ki,.d 11 ki],af (ff ml)⟩)] [0] Tryz.f291 (lp [0] (sc cM sn))
-- REC 239
def mM (t0:List dt) (t1:Int) (_:Unit) (t10 t11:Int):Rd Y35 Unit :=
 cond (au t10 t11) (
 let u1:=(bG .i64 (iQ .u64 (bG .u64 (aj .i64 t10 t11)) 1))
 cond (aR u1 t0) (
 cond (aR t1 t0) (
 (CO (gt d59 t0 u1) (gt d59 t0 t1)).bind fun y1 =>
 cond (au y1.2.1.1 0) (
 some (.inl (t0,t1,(),(aj .i64 u1 1),t11,()))
 ) (
 some (.inl (t0,t1,(),t10,u1,()))
 )
 ) none
 ) none
 ) (
 some (.inr (.inl (t0,t1,(),t10,t11,())))
 )
def xl:=xS (af (ff mM))
def oK (t0:List dt) (t10 t13:Int):Rd Xp Unit :=
 cond (au t13 (aM .i64 t10 1)) (
 let u1:=(aj .i64 t13 1)
 cond (aR u1 t0) (
 cond (aR t13 t0) (
 cond (AF t13 t0 t13) (
 cond (AF u1 t0 u1) (
 some (.inl ((Hy d59 t0 t13 u1),t10,u1,()))
 ) none
 ) none
 ) none
 ) none
 ) (
 some (.inr (.inl (t0,t10,t13,())))
 )
def xp:=kt (af (dn oK))
def mL (t0:List dt) (t2:Int) (_:Unit) (t14 t15:Int):Rd Y35 Unit :=
 cond (au t14 t15) (
 cond (aR t2 t0) (
 let u1:=(bG .i64 (iQ .u64 (bG .u64 (aj .i64 t14 t15)) 1))
 cond (aR u1 t0) (
 (CO (gt d59 t0 t2) (gt d59 t0 u1)).bind fun y1 =>
 cond (!(au y1.2.1.1 0)) (
 some (.inl (t0,t2,(),(aj .i64 u1 1),t15,()))
 ) (
 some (.inl (t0,t2,(),t14,u1,()))
 )
 ) none
 ) none
 ) (
 some (.inr (.inl (t0,t2,(),t14,t15,())))
 )
def xN:=xS (af (ff mL))
def qc (t0:List dt) (t14 t17:Int):Rd Xp Unit :=
 cond (au t14 t17) (
 let u1:=(aM .i64 t17 1)
 cond (aR u1 t0) (
 cond (aR t17 t0) (
 cond (AF t17 t0 t17) (
 cond (AF u1 t0 u1) (
 some (.inl ((Hy d59 t0 t17 u1),t14,u1,()))
 ) none
 ) none
 ) none
 ) none
 ) (
 some (.inr (.inl (t0,t14,t17,())))
 )
def wh:=kt (af (dn qc))
def mH (t0:List dt) (t1 t2 t3:Int) (_:Unit) (t18 t19 t20 t21 t22:Int):Rd ((List dt)×Int×Int×Int×Unit×Int×Int×Int×Int×Int×Unit) Unit :=
 cond (au t20 t21) (
 let u1:=(bG .i64 (iQ .u64 (bG .u64 (aj .i64 t20 t21)) 1))
 let u2:=(aM .i64 t22 u1)
 cond (aR u2 t0) (
 cond (aR u1 t0) (
 (CO (gt d59 t0 u2) (gt d59 t0 u1)).bind fun y1 =>
 cond (!(au y1.2.1.1 0)) (
 some (.inl (t0,t1,t2,t3,(),t18,t19,(aj .i64 u1 1),t21,t22,()))
 ) (
 some (.inl (t0,t1,t2,t3,(),t18,t19,t20,u1,t22,()))
 )
 ) none
 ) none
 ) (
 some (.inr (.inl (t0,t1,t2,t3,(),t18,t19,t20,t21,t22,())))
 )
def lT:=T8 (af (Bf mH))
def ft (n:Nat):(List dt)->Int->Int->Int->Option PU:=Nat.rec (motive:=fun _=>(List dt)->Int->Int->Int->Option PU) (fun _ _ _ _=>none) (fun _ mm=>fun p0 p1 p2 p3 =>
 cond (aq (aM .i64 p2 p1) 1) (
 (xl p0 p1 () p2 p3).bind (Sum.elim (fun y1 =>
 (xp y1.1 y1.2.2.2.1 y1.2.1).bind (Sum.elim (fun y2 =>
 some (((y2.1,()),()),())
 ) (fun _ =>
 none
 ))
 ) (fun _ =>
 none
 ))
 ) (
 cond (aq (aM .i64 p3 p2) 1) (
 (xN p0 p2 () p1 p2).bind (Sum.elim (fun y1 =>
 (wh y1.1 y1.2.2.2.1 y1.2.1).bind (Sum.elim (fun y2 =>
 some (((y2.1,()),()),())
 ) (fun _ =>
 none
 ))
 ) (fun _ =>
 none
 ))
 ) (
 let u1:=(bG .i64 (iQ .u64 (bG .u64 (aj .i64 p1 p3)) 1))
 cond (au u1 p2) (
 let u2:=(aj .i64 u1 p2)
 let u3:=(aM .i64 u2 1)
 (lT p0 p1 p2 p3 () u1 u2 (aM .i64 u2 p3) u1 u3).bind (Sum.elim (fun y1 =>
 let u4:=(aM .i64 y1.2.2.2.2.2.2.1 y1.2.2.2.2.2.2.2.1)
 let u5:=(cond (au y1.2.2.2.2.2.2.2.1 y1.2.2.1) (au y1.2.2.1 u4) false)
 cond u5 (
 let u6:=(Ae y1.1 y1.2.2.2.2.2.2.2.1 y1.2.2.1 u4)
 Option.bind u6 fun y2 =>
 let u7:=(cond (au y1.2.1 y1.2.2.2.2.2.2.2.1) (au y1.2.2.2.2.2.2.2.1 y1.2.2.2.2.2.1) false)
 cond u7 (
 let u8:=(mm y2.1.1.1 y1.2.1 y1.2.2.2.2.2.2.2.1 y1.2.2.2.2.2.1)
 Option.bind u8 fun y3 =>
 let u9:=(cond (au y1.2.2.2.2.2.1 u4) (au u4 y1.2.2.2.1) false)
 cond u9 (
 let u10:=(mm y3.1.1.1 y1.2.2.2.2.2.1 u4 y1.2.2.2.1)
 Option.bind u10 fun y4 =>
 some ((y4.1.1,()),())
 ) (
 some ((y3.1.1,()),())
 )
 ) (
 let u8:=(cond (au y1.2.2.2.2.2.1 u4) (au u4 y1.2.2.2.1) false)
 cond u8 (
 let u9:=(mm y2.1.1.1 y1.2.2.2.2.2.1 u4 y1.2.2.2.1)
 Option.bind u9 fun y3 =>
 some ((y3.1.1,()),())
 ) (
 some ((y2.1.1,()),())
 )
 )
 ) (
 let u6:=(cond (au y1.2.1 y1.2.2.2.2.2.2.2.1) (au y1.2.2.2.2.2.2.2.1 y1.2.2.2.2.2.1) false)
 cond u6 (
 let u7:=(mm y1.1 y1.2.1 y1.2.2.2.2.2.2.2.1 y1.2.2.2.2.2.1)
 Option.bind u7 fun y2 =>
 let u8:=(cond (au y1.2.2.2.2.2.1 u4) (au u4 y1.2.2.2.1) false)
 cond u8 (
 let u9:=(mm y2.1.1.1 y1.2.2.2.2.2.1 u4 y1.2.2.2.1)
 Option.bind u9 fun y3 =>
 some ((y3.1.1,()),())
 ) (
 some ((y2.1.1,()),())
 )
 ) (
 let u7:=(cond (au y1.2.2.2.2.2.1 u4) (au u4 y1.2.2.2.1) false)
 cond u7 (
 let u8:=(mm y1.1 y1.2.2.2.2.2.1 u4 y1.2.2.2.1)
 Option.bind u8 fun y2 =>
 some ((y2.1.1,()),())
 ) (
 some (((y1.1,()),()),())
 )
 )
 )
 ) (fun _ =>
 none
 ))
 ) (
 let u2:=(aj .i64 u1 p2)
 let u3:=(aM .i64 u2 1)
 (lT p0 p1 p2 p3 () u1 u2 p1 p2 u3).bind (Sum.elim (fun y1 =>
 let u4:=(aM .i64 y1.2.2.2.2.2.2.1 y1.2.2.2.2.2.2.2.1)
 let u5:=(cond (au y1.2.2.2.2.2.2.2.1 y1.2.2.1) (au y1.2.2.1 u4) false)
 cond u5 (
 let u6:=(Ae y1.1 y1.2.2.2.2.2.2.2.1 y1.2.2.1 u4)
 Option.bind u6 fun y2 =>
 let u7:=(cond (au y1.2.1 y1.2.2.2.2.2.2.2.1) (au y1.2.2.2.2.2.2.2.1 y1.2.2.2.2.2.1) false)
 cond u7 (
 let u8:=(mm y2.1.1.1 y1.2.1 y1.2.2.2.2.2.2.2.1 y1.2.2.2.2.2.1)
 Option.bind u8 fun y3 =>
 let u9:=(cond (au y1.2.2.2.2.2.1 u4) (au u4 y1.2.2.2.1) false)
 cond u9 (
 let u10:=(mm y3.1.1.1 y1.2.2.2.2.2.1 u4 y1.2.2.2.1)
 Option.bind u10 fun y4 =>
 some ((y4.1.1,()),())
 ) (
 some ((y3.1.1,()),())
 )
 ) (
 let u8:=(cond (au y1.2.2.2.2.2.1 u4) (au u4 y1.2.2.2.1) false)
 cond u8 (
 let u9:=(mm y2.1.1.1 y1.2.2.2.2.2.1 u4 y1.2.2.2.1)
 Option.bind u9 fun y3 =>
 some ((y3.1.1,()),())
 ) (
 some ((y2.1.1,()),())
 )
 )
 ) (
 let u6:=(cond (au y1.2.1 y1.2.2.2.2.2.2.2.1) (au y1.2.2.2.2.2.2.2.1 y1.2.2.2.2.2.1) false)
 cond u6 (
 let u7:=(mm y1.1 y1.2.1 y1.2.2.2.2.2.2.2.1 y1.2.2.2.2.2.1)
 Option.bind u7 fun y2 =>
 let u8:=(cond (au y1.2.2.2.2.2.1 u4) (au u4 y1.2.2.2.1) false)
 cond u8 (
 let u9:=(mm y2.1.1.1 y1.2.2.2.2.2.1 u4 y1.2.2.2.1)
 Option.bind u9 fun y3 =>
 some ((y3.1.1,()),())
 ) (
 some ((y2.1.1,()),())
 )
 ) (
 let u7:=(cond (au y1.2.2.2.2.2.1 u4) (au u4 y1.2.2.2.1) false)
 cond u7 (
 let u8:=(mm y1.1 y1.2.2.2.2.2.1 u4 y1.2.2.2.1)
 Option.bind u8 fun y2 =>
 some ((y2.1.1,()),())
 ) (
 some (((y1.1,()),()),())
 )
 )
 )
 ) (fun _ =>
 none
 ))
 )
 )
 )) n
theorem o8 (n:Nat) (p0:(List dt)) (p1:Int) (p2:Int) (p3:Int):ft (n + 1) p0 p1 p2 p3 =
 cond (aq (aM .i64 p2 p1) 1) (
  (xl p0 p1 () p2 p3).bind (Sum.elim (fun y1 =>
    (xp y1.1 y1.2.2.2.1 y1.2.1).bind (Sum.elim (fun y2 =>
      some (((y2.1,()),()),())
    ) (fun y2 =>
     none
    ))
  ) (fun y1 =>
   none
  ))
 ) (
  cond (aq (aM .i64 p3 p2) 1) (
   (xN p0 p2 () p1 p2).bind (Sum.elim (fun y1 =>
     (wh y1.1 y1.2.2.2.1 y1.2.1).bind (Sum.elim (fun y2 =>
       some (((y2.1,()),()),())
     ) (fun y2 =>
      none
     ))
   ) (fun y1 =>
    none
   ))
  ) (
   let u1:=(bG .i64 (iQ .u64 (bG .u64 (aj .i64 p1 p3)) 1))
   cond (au u1 p2) (
    let u2:=(aj .i64 u1 p2)
    let u3:=(aM .i64 u2 1)
    (lT p0 p1 p2 p3 () u1 u2 (aM .i64 u2 p3) u1 u3).bind (Sum.elim (fun y1 =>
      let u4:=(aM .i64 y1.2.2.2.2.2.2.1 y1.2.2.2.2.2.2.2.1)
      let u5:=(cond (au y1.2.2.2.2.2.2.2.1 y1.2.2.1) (au y1.2.2.1 u4) false)
      cond u5 (
       let u6:=(Ae y1.1 y1.2.2.2.2.2.2.2.1 y1.2.2.1 u4)
       Option.bind u6 fun y2 =>
       let u7:=(cond (au y1.2.1 y1.2.2.2.2.2.2.2.1) (au y1.2.2.2.2.2.2.2.1 y1.2.2.2.2.2.1) false)
       cond u7 (
        let u8:=(ft n y2.1.1.1 y1.2.1 y1.2.2.2.2.2.2.2.1 y1.2.2.2.2.2.1)
        Option.bind u8 fun y3 =>
        let u9:=(cond (au y1.2.2.2.2.2.1 u4) (au u4 y1.2.2.2.1) false)
        cond u9 (
         let u10:=(ft n y3.1.1.1 y1.2.2.2.2.2.1 u4 y1.2.2.2.1)
         Option.bind u10 fun y4 =>
         some ((y4.1.1,()),())
        ) (
         some ((y3.1.1,()),())
        )
       ) (
        let u8:=(cond (au y1.2.2.2.2.2.1 u4) (au u4 y1.2.2.2.1) false)
        cond u8 (
         let u9:=(ft n y2.1.1.1 y1.2.2.2.2.2.1 u4 y1.2.2.2.1)
         Option.bind u9 fun y3 =>
         some ((y3.1.1,()),())
        ) (
         some ((y2.1.1,()),())
        )
       )
      ) (
       let u6:=(cond (au y1.2.1 y1.2.2.2.2.2.2.2.1) (au y1.2.2.2.2.2.2.2.1 y1.2.2.2.2.2.1) false)
       cond u6 (
        let u7:=(ft n y1.1 y1.2.1 y1.2.2.2.2.2.2.2.1 y1.2.2.2.2.2.1)
        Option.bind u7 fun y2 =>
        let u8:=(cond (au y1.2.2.2.2.2.1 u4) (au u4 y1.2.2.2.1) false)
        cond u8 (
         let u9:=(ft n y2.1.1.1 y1.2.2.2.2.2.1 u4 y1.2.2.2.1)
         Option.bind u9 fun y3 =>
         some ((y3.1.1,()),())
        ) (
         some ((y2.1.1,()),())
        )
       ) (
        let u7:=(cond (au y1.2.2.2.2.2.1 u4) (au u4 y1.2.2.2.1) false)
        cond u7 (
         let u8:=(ft n y1.1 y1.2.2.2.2.2.1 u4 y1.2.2.2.1)
         Option.bind u8 fun y2 =>
         some ((y2.1.1,()),())
        ) (
         some (((y1.1,()),()),())
        )
       )
      )
    ) (fun y1 =>
     none
    ))
   ) (
    let u2:=(aj .i64 u1 p2)
    let u3:=(aM .i64 u2 1)
    (lT p0 p1 p2 p3 () u1 u2 p1 p2 u3).bind (Sum.elim (fun y1 =>
      let u4:=(aM .i64 y1.2.2.2.2.2.2.1 y1.2.2.2.2.2.2.2.1)
      let u5:=(cond (au y1.2.2.2.2.2.2.2.1 y1.2.2.1) (au y1.2.2.1 u4) false)
      cond u5 (
       let u6:=(Ae y1.1 y1.2.2.2.2.2.2.2.1 y1.2.2.1 u4)
       Option.bind u6 fun y2 =>
       let u7:=(cond (au y1.2.1 y1.2.2.2.2.2.2.2.1) (au y1.2.2.2.2.2.2.2.1 y1.2.2.2.2.2.1) false)
       cond u7 (
        let u8:=(ft n y2.1.1.1 y1.2.1 y1.2.2.2.2.2.2.2.1 y1.2.2.2.2.2.1)
        Option.bind u8 fun y3 =>
        let u9:=(cond (au y1.2.2.2.2.2.1 u4) (au u4 y1.2.2.2.1) false)
        cond u9 (
         let u10:=(ft n y3.1.1.1 y1.2.2.2.2.2.1 u4 y1.2.2.2.1)
         Option.bind u10 fun y4 =>
         some ((y4.1.1,()),())
        ) (
         some ((y3.1.1,()),())
        )
       ) (
        let u8:=(cond (au y1.2.2.2.2.2.1 u4) (au u4 y1.2.2.2.1) false)
        cond u8 (
         let u9:=(ft n y2.1.1.1 y1.2.2.2.2.2.1 u4 y1.2.2.2.1)
         Option.bind u9 fun y3 =>
         some ((y3.1.1,()),())
        ) (
         some ((y2.1.1,()),())
        )
       )
      ) (
       let u6:=(cond (au y1.2.1 y1.2.2.2.2.2.2.2.1) (au y1.2.2.2.2.2.2.2.1 y1.2.2.2.2.2.1) false)
       cond u6 (
        let u7:=(ft n y1.1 y1.2.1 y1.2.2.2.2.2.2.2.1 y1.2.2.2.2.2.1)
        Option.bind u7 fun y2 =>
        let u8:=(cond (au y1.2.2.2.2.2.1 u4) (au u4 y1.2.2.2.1) false)
        cond u8 (
         let u9:=(ft n y2.1.1.1 y1.2.2.2.2.2.1 u4 y1.2.2.2.1)
         Option.bind u9 fun y3 =>
         some ((y3.1.1,()),())
        ) (
         some ((y2.1.1,()),())
        )
       ) (
        let u7:=(cond (au y1.2.2.2.2.2.1 u4) (au u4 y1.2.2.2.1) false)
        cond u7 (
         let u8:=(ft n y1.1 y1.2.2.2.2.2.1 u4 y1.2.2.2.1)
         Option.bind u8 fun y2 =>
         some ((y2.1.1,()),())
        ) (
         some (((y1.1,()),()),())
        )
       )
      )
    ) (fun y1 =>
     none
    ))
   )
  )
 ):=rfl
def mm (p0:List dt) (p1 p2 p3:Int):Option PU:=CS fun n=>ft n p0 p1 p2 p3
def js (n:Nat):Su:=⟨[.io false [fG],.c false [ki],.c false [ki],.c false [ki],.fn 138 []],[],true,.inl fun x=>ft n x.1.1 x.2.1.1 x.2.2.1.1 x.2.2.2.1.1⟩
def Im:Su:=⟨[.io false [fG],.c false [ki],.c false [ki],.c false [ki],.fn 138 []],[],true,.inl fun x=>mm x.1.1 x.2.1.1 x.2.2.1.1 x.2.2.2.1.1⟩
def qV:List SE:=[.own 0 fG,.d 1 ki,.fn 4 138 [],.d 10 ki,.d 11 ki]
def qF:List SE:=[.own 0 fG,.d 10 ki,.d 13 ki]
def ri:List SE:=[.own 0 fG,.d 2 ki,.fn 4 138 [],.d 14 ki,.d 15 ki]
def qx:List SE:=[.own 0 fG,.d 14 ki,.d 17 ki]
def qp:List SE:=[.own 0 fG,.d 1 ki,.d 2 ki,.d 3 ki,.fn 4 138 [],.d 18 ki,.d 19 ki,.d 20 ki,.d 21 ki,.d 22 ki]
def Iv:List SE:=[]
def PJ:Nat->Option (Lo Iv)
 | 0=>some ⟨qV,ff xl⟩
 | 2=>some ⟨qF,dn xp⟩
 | 4=>some ⟨ri,ff xN⟩
 | 6=>some ⟨qx,dn wh⟩
 | 8=>some ⟨qp,Bf lT⟩
 | _=>none
def B9 (n:Nat):List (Nat×SS):=[(138,iS Qv),(239,iS (js n)),(291,iS U1)]
def tR (n:Nat):En:=zI 220 tt (B9 n) Iv PJ [0] fun _=>none
def WC (n:Nat):Nat->Option (St->Tr St)
 | 11=>some (swapT (tR n) (opsOf (bh 11 (ak Tryz.f239))) [13] [(14,2),(14,3),(14,4)] 14 9 13)
 | 23=>some (swapT (tR n) (opsOf (bh 23 (ak Tryz.f239))) [17] [(14,2),(14,3),(14,4)] 14 9 13)
 | _=>none
def po (n:Nat):En:=zI 220 tt (B9 n) Iv PJ [0] ((WC n))
theorem QZ (n:Nat) (x:bL qV):(dj (po n) 0 qV (bc 0 (ak Tryz.f239)) x).run=ff mM x:=by kernel_rfl
theorem Rh (n:Nat) (x:bL qF):(dj (po n) 2 qF (bc 2 (ak Tryz.f239)) x).run=dn oK x:=by kernel_rfl
theorem R4 (n:Nat) (x:bL ri):(dj (po n) 4 ri (bc 4 (ak Tryz.f239)) x).run=ff mL x:=by kernel_rfl
theorem SI (n:Nat) (x:bL qx):(dj (po n) 6 qx (bc 6 (ak Tryz.f239)) x).run=dn qc x:=by kernel_rfl
theorem Q7 (n:Nat) (x:bL qp):(dj (po n) 8 qp (bc 8 (ak Tryz.f239)) x).run=Bf mH x:=by kernel_rfl
theorem t239 (n:Nat) (x:PT (js (n + 1)).ps):(F7 (po n) (ak Tryz.f239) Tryz.f239.results.toList (js (n + 1)).ps (js (n + 1)).rs true x).run=ft (n + 1) x.1.1 x.2.1.1 x.2.2.1.1 x.2.2.2.1.1:=by kernel_rfl
theorem sJ (n:Nat) (hn:ar Tryz.prog 239 (js n)):dq Tryz.prog (po n):=da (l:=(B9 n)) ⟨Cp,hn,Jz,trivial⟩
theorem DN (n:Nat) (hn:ar Tryz.prog 239 (js n)):dq Tryz.prog (tR n):=da (l:=(B9 n)) ⟨Cp,hn,Jz,trivial⟩
theorem N7 (n:Nat) (hn:ar Tryz.prog 239 (js n)):cP Tryz.prog (po n) (bh 11 (ak Tryz.f239)) (swapT (tR n) (opsOf (bh 11 (ak Tryz.f239))) [13] [(14,2),(14,3),(14,4)] 14 9 13) :=
 gD rfl rfl (uD (E:=(tR n)) (lC hT) (DN n hn) eP (c:=(bh 11 (ak Tryz.f239))) (id:=11) (by kernel_rfl))
theorem D2 (n:Nat) (hn:ar Tryz.prog 239 (js n)):dq Tryz.prog (tR n):=da (l:=(B9 n)) ⟨Cp,hn,Jz,trivial⟩
theorem Mw (n:Nat) (hn:ar Tryz.prog 239 (js n)):cP Tryz.prog (po n) (bh 23 (ak Tryz.f239)) (swapT (tR n) (opsOf (bh 23 (ak Tryz.f239))) [17] [(14,2),(14,3),(14,4)] 14 9 13) :=
 gD rfl rfl (uD (E:=(tR n)) (lC hT) (D2 n hn) eP (c:=(bh 23 (ak Tryz.f239))) (id:=23) (by kernel_rfl))
theorem QJ (n:Nat) (hn:ar Tryz.prog 239 (js n)):cw Tryz.prog (po n) 0 (.loop (bc 0 (ak Tryz.f239))) ⟨qV,ff xl⟩ :=
 eC (lC hT) (sJ n hn) eP (step:=fun (x:bL qV)=>mM x.1 x.2.1 x.2.2.1 x.2.2.2.1 x.2.2.2.2.1) (QZ n) (ba [] (by kernel_rfl) trivial [] (by kernel_rfl) trivial)
theorem Q9 (n:Nat) (hn:ar Tryz.prog 239 (js n)):cw Tryz.prog (po n) 2 (.loop (bc 2 (ak Tryz.f239))) ⟨qF,dn xp⟩ :=
 eC (lC hT) (sJ n hn) eP (step:=fun (x:bL qF)=>oK x.1 x.2.1 x.2.2.1) (Rh n) (ba [] (by kernel_rfl) trivial [(11,bh 11 (ak Tryz.f239))] (by kernel_rfl) ⟨xV rfl (N7 n hn),trivial⟩)
theorem Qt (n:Nat) (hn:ar Tryz.prog 239 (js n)):cw Tryz.prog (po n) 4 (.loop (bc 4 (ak Tryz.f239))) ⟨ri,ff xN⟩ :=
 eC (lC hT) (sJ n hn) eP (step:=fun (x:bL ri)=>mL x.1 x.2.1 x.2.2.1 x.2.2.2.1 x.2.2.2.2.1) (R4 n) (ba [] (by kernel_rfl) trivial [] (by kernel_rfl) trivial)
theorem Se (n:Nat) (hn:ar Tryz.prog 239 (js n)):cw Tryz.prog (po n) 6 (.loop (bc 6 (ak Tryz.f239))) ⟨qx,dn wh⟩ :=
 eC (lC hT) (sJ n hn) eP (step:=fun (x:bL qx)=>qc x.1 x.2.1 x.2.2.1) (SI n) (ba [] (by kernel_rfl) trivial [(23,bh 23 (ak Tryz.f239))] (by kernel_rfl) ⟨xV rfl (Mw n hn),trivial⟩)
theorem SQ (n:Nat) (hn:ar Tryz.prog 239 (js n)):cw Tryz.prog (po n) 8 (.loop (bc 8 (ak Tryz.f239))) ⟨qp,Bf lT⟩ :=
 eC (lC hT) (sJ n hn) eP (step:=fun (x:bL qp)=>mH x.1 x.2.1 x.2.2.1 x.2.2.2.1 x.2.2.2.2.1 x.2.2.2.2.2.1 x.2.2.2.2.2.2.1 x.2.2.2.2.2.2.2.1 x.2.2.2.2.2.2.2.2.1 x.2.2.2.2.2.2.2.2.2.1) (Q7 n) (ba [] (by kernel_rfl) trivial [] (by kernel_rfl) trivial)
theorem JK:∀ n,ar Tryz.prog 239 (js n)
 | 0=>ar.zero fun _=>rfl
 | n + 1=>have hn:=JK n
 qv (E:=(po n)) (lC hT) (sJ n hn) eP (fn:=Tryz.f239) (c:=(ak Tryz.f239)) (by kernel_rfl) (by kernel_rfl) (by kernel_rfl) rfl (ba [(0,.loop (bc 0 (ak Tryz.f239))),(2,.loop (bc 2 (ak Tryz.f239))),(4,.loop (bc 4 (ak Tryz.f239))),(6,.loop (bc 6 (ak Tryz.f239))),(8,.loop (bc 8 (ak Tryz.f239)))] (by kernel_rfl) ⟨ma rfl (QJ n hn),ma rfl (Q9 n hn),ma rfl (Qt n hn),ma rfl (Se n hn),ma rfl (SQ n hn),trivial⟩ [] (by kernel_rfl) trivial) fun x y h=>⟨y.1,fun _=>rfl,((t239 n) x).trans h⟩
theorem U9:ar Tryz.prog 239 Im:=ar.fix (ps:=Im.ps) (rs:=Im.rs) (fr:=Im.fresh) (G:=fun n (x:PT Im.ps)=>ft n x.1.1 x.2.1.1 x.2.2.1.1 x.2.2.2.1.1) JK
def sD (t0:List dt) (t1:Int) (_:Unit) (t6 t7 t8:Int):Rd ((List dt)×Int×Unit×Int×Int×Int×Unit) Unit :=
 cond (bH t8 t1) (
 (Hu t0 t7 t8).bind fun y1 =>
 some (.inl (y1.1.1.1,t1,(),t6,t8,(aj .i64 t8 t6),()))
 ) (
 some (.inr (.inl (t0,t1,(),t6,t7,t8,())))
 )
def Dg:=UU (af (Ex sD))
def sK (t0:List dt) (t1:Int) (_:Unit) (t6 t7 t8:Int):Rd ((List dt)×Int×Unit×Int×Int×Int×Unit) Unit :=
 cond (bH t8 t1) (
 (mm t0 t7 (aj .i64 t7 t6) t8).bind fun y1 =>
 some (.inl (y1.1.1.1,t1,(),t6,t8,(aj .i64 t8 (j5 .i64 2 t6)),()))
 ) (
 some (.inr (.inl (t0,t1,(),t6,t7,t8,())))
 )
def zg:=UU (af (Ex sK))
def rM (t0:List dt) (t1:Int) (_:Unit) (t6:Int):Rd ((List dt)×Int×Unit×Int×Unit) Unit :=
 cond (au t6 t1) (
 (zg t0 t1 () t6 0 (j5 .i64 2 t6)).bind (Sum.elim (fun y1 =>
 let u1:=(aj .i64 y1.2.2.2.2.1 y1.2.2.2.1)
 cond (au u1 y1.2.1) (
 (mm y1.1 y1.2.2.2.2.1 u1 y1.2.1).bind fun y2 =>
 let u2:=(j5 .i64 y1.2.2.2.1 2)
 some (.inl (y2.1.1.1,y1.2.1,(),u2,()))
 ) (
 let u2:=(j5 .i64 y1.2.2.2.1 2)
 some (.inl (y1.1,y1.2.1,(),u2,()))
 )
 ) (fun _ =>
 some (.inr (.inr ()))
 ))
 ) (
 some (.inr (.inl (t0,t1,(),t6,())))
 )
def CU:=mj (af (cV rM))
def Rq (p0:List dt) (p1:Int):Option PU :=
 (Dg p0 p1 () 20 0 20).bind (Sum.elim (fun y1 =>
 (Hu y1.1 y1.2.2.2.2.1 y1.2.1).bind fun y2 =>
 (CU y2.1.1.1 y1.2.1 () y1.2.2.2.1).bind (Sum.elim (fun y3 =>
 some (((y3.1,()),()),())
 ) (fun _ =>
 none
 ))
 ) (fun _ =>
 none
 ))
def abt:Su:=⟨[.io false [fG],.c false [ki],.fn 138 []],[],true,.inl fun x=>Rq x.1.1 x.2.1.1⟩
theorem TA:ar Tryz.prog 186 abt :=
 fl (ac WA (ac U9 an)) [] [(0,⟨[.own 0 fG,.d 1 ki,.fn 2 138 [],.d 6 ki,.d 7 ki,.d 8 ki],af (Ex sD)⟩),(4,⟨[.own 0 fG,.d 1 ki,.fn 2 138 [],.d 6 ki,.d 7 ki,.d 8 ki],af (Ex sK)⟩),(2,⟨[.own 0 fG,.d 1 ki,.fn 2 138 [],.d 6 ki],af (cV rM)⟩)] [0] Tryz.f186 (lp [0,2] (sc cM (sc (lp [4] (sc cM sn)) sn)))
def NS (p0:List dt):Option PU :=
 (Rq p0 (ae p0)).bind fun y1 =>
 some ((y1.1.1,()),())
def Yy:Su:=⟨[.io false [fG],.fn 138 []],[],true,.inl fun x=>NS x.1.1⟩
theorem Vn:ar Tryz.prog 137 Yy :=
 fl (ac TA an) [] [] [0] Tryz.f137 cM
def JH (p0:List gw):Option (Unit×((List gw)×Unit)×Unit):=cond (bY 32 ([]:List gw) p0) (some ((),((p0,()),()))) none
def G2:Su:=⟨[.c false [mi]],[(false,[mi])],true,.inl fun x=>JH x.1.1⟩
def Qp:En:=zI 8 tt [] [] (fun _=>none) [] fun _=>none
def PH (x:PT G2.ps):St:=⟨[(2,.v .nil),(0,.v (.d mi x.1.1))],[]⟩
theorem t147 (x:PT G2.ps) (b:Bool):((cI Qp (.seq (di (dV (di (ak Tryz.f147)))) (di (di (ak Tryz.f147)))) (((PH x).aA 3 (.v (.d mi x.1.1),none)).aA 4 (.v (.d .bool b),none))).bind (Bm Qp Tryz.f147.results.toList G2.ps G2.rs G2.fresh)).run =
 cond b (some ((),(([],()),()))) (JH x.1.1):=by kernel_rfl
theorem Wc:ar Tryz.prog 147 G2 :=
 DJ (E:=Qp) (lC hT) (da (l:=[]) trivial) eP (fn:=Tryz.f147) (c0:=dV (ak Tryz.f147)) (cc:=di (dV (di (ak Tryz.f147)))) (c3:=di (di (ak Tryz.f147))) (id:=JI (dV (dV (di (ak Tryz.f147)))))
  (o1:=fO (dV (dV (di (ak Tryz.f147)))) 0) (o2:=fO (dV (dV (di (ak Tryz.f147)))) 1) (by kernel_rfl) (by kernel_rfl) (by kernel_rfl) rfl
  (bE (fun _=>rfl) _ (by kernel_rfl)) (bE (fun _=>rfl) _ (by kernel_rfl)) (bE (fun _=>rfl) _ (by kernel_rfl)) (t0:=0) (t3:=3) (t4:=4) (ty:=53) (ty':=53) (e:=95) (e':=95) (by':=24) (fl:=[]) (ks:=A9) (by kernel_rfl) (by kernel_rfl) (by kernel_rfl) (by kernel_rfl) (by kernel_rfl) (by kernel_rfl) (by kernel_rfl) (by kernel_rfl) (by kernel_rfl)
  PH (fun x=>x.1.1) (fun x=>by kernel_rfl) (fun x=>by kernel_rfl) fun x y hy b hb=>by
   refine ⟨y.1,fun _=>rfl,?_⟩
   rw [t147]
   have hy:JH x.1.1=some y:=hy
   cases b with
   | false=>exact hy
   | true =>
     have he:x.1.1=([]:List gw):=hb rfl
     rw [he] at hy
     exact hy
def BQ (p0:List R3):Option (Unit×Y2×Unit):=cond (bY 8 ([]:List R3) p0) (some ((),((p0,()),()))) none
def Gz:Su:=⟨[.c false [q3]],[(false,[q3])],true,.inl fun x=>BQ x.1.1⟩
def RH:En:=zI 8 tt [] [] (fun _=>none) [] fun _=>none
def PN (x:PT Gz.ps):St:=⟨[(2,.v .nil),(0,.v (.d q3 x.1.1))],[]⟩
theorem t157 (x:PT Gz.ps) (b:Bool):((cI RH (.seq (di (dV (di (ak Tryz.f157)))) (di (di (ak Tryz.f157)))) (((PN x).aA 3 (.v (.d q3 x.1.1),none)).aA 4 (.v (.d .bool b),none))).bind (Bm RH Tryz.f157.results.toList Gz.ps Gz.rs Gz.fresh)).run =
 cond b (some ((),(([],()),()))) (BQ x.1.1):=by kernel_rfl
theorem OX:ar Tryz.prog 157 Gz :=
 DJ (E:=RH) (lC hT) (da (l:=[]) trivial) eP (fn:=Tryz.f157) (c0:=dV (ak Tryz.f157)) (cc:=di (dV (di (ak Tryz.f157)))) (c3:=di (di (ak Tryz.f157))) (id:=JI (dV (dV (di (ak Tryz.f157)))))
  (o1:=fO (dV (dV (di (ak Tryz.f157)))) 0) (o2:=fO (dV (dV (di (ak Tryz.f157)))) 1) (by kernel_rfl) (by kernel_rfl) (by kernel_rfl) rfl
  (bE (fun _=>rfl) _ (by kernel_rfl)) (bE (fun _=>rfl) _ (by kernel_rfl)) (bE (fun _=>rfl) _ (by kernel_rfl)) (t0:=0) (t3:=3) (t4:=4) (ty:=54) (ty':=54) (e:=3) (e':=3) (by':=24) (fl:=[]) (ks:=l0) (by kernel_rfl) (by kernel_rfl) (by kernel_rfl) (by kernel_rfl) (by kernel_rfl) (by kernel_rfl) (by kernel_rfl) (by kernel_rfl) (by kernel_rfl)
  PN (fun x=>x.1.1) (fun x=>by kernel_rfl) (fun x=>by kernel_rfl) fun x y hy b hb=>by
   refine ⟨y.1,fun _=>rfl,?_⟩
   rw [t157]
   have hy:BQ x.1.1=some y:=hy
   cases b with
   | false=>exact hy
   | true =>
     have he:x.1.1=([]:List R3):=hb rfl
     rw [he] at hy
     exact hy
def Ki (p0:Int×Int×(List R3)×(List R3)×Unit):Option Zd :=
 (BQ p0.2.2.1).bind fun y1 =>
 (BQ p0.2.2.2.1).bind fun y2 =>
 some ((),((p0.1,p0.2.1,y1.2.1.1,y2.2.1.1,()),()))
def aaY:Su:=⟨[.c true [ki,ki,q3,q3]],[(true,[ki,ki,q3,q3])],true,.inl fun x=>Ki x.1⟩
theorem Ux:ar Tryz.prog 167 aaY :=
 fq (ac OX an) Tryz.f167
def pv (t3 t7:List cu) (t8 t9:Int):Rd Xm Unit :=
 cond (au t9 t8) (
 cond (aR t9 t7) (
 let u1:=(gt d166 t7 t9)
 (Lt u1.2.2.1).bind fun y1 =>
 cond (bY 56 t3 [(u1.1,u1.2.1,y1.2.1.1,())]) (
 some (.inl ((jn t3 [(u1.1,u1.2.1,y1.2.1.1,())]),t7,t8,(aj .i64 t9 1),()))
 ) none
 ) none
 ) (
 some (.inr (.inl (t3,t7,t8,t9,())))
 )
def Km:=mj (af (cV pv))
def Og (p0:List cu):Option Y32 :=
 (Km [] p0 (ae p0) 0).bind (Sum.elim (fun y1 =>
 some ((),((y1.1,()),()))
 ) (fun _ =>
 none
 ))
def Y5:Su:=⟨[.c false [dQ]],[(false,[dQ])],true,.inl fun x=>Og x.1.1⟩
theorem WJ:ar Tryz.prog 168 Y5 :=
 fl (ac Sp an) [] [(0,⟨[.own 3 dQ,.d 7 dQ,.d 8 ki,.d 9 ki],af (cV pv)⟩)] [] Tryz.f168 (lp [0] (sc cM sn))
def MW (p0:(List UInt8)×Int×Int×Int×Int×(List gw)×Int×Int×(List R3)×(List R3)×(List cu)×Unit):Option Y72 :=
 (JH p0.2.2.2.2.2.1).bind fun y1 =>
 (Ki (p0.2.2.2.2.2.2.1,p0.2.2.2.2.2.2.2.1,p0.2.2.2.2.2.2.2.2.1,p0.2.2.2.2.2.2.2.2.2.1,())).bind fun y2 =>
 (Og p0.2.2.2.2.2.2.2.2.2.2.1).bind fun y3 =>
 some ((),((p0.1,p0.2.1,p0.2.2.1,p0.2.2.2.1,p0.2.2.2.2.1,y1.2.1.1,y2.2.1.1,y2.2.1.2.1,y2.2.1.2.2.1,y2.2.1.2.2.2.1,y3.2.1.1,()),()))
def Zs:Su:=⟨[.c true [.str,ki,ki,ki,ki,mi,ki,ki,q3,q3,dQ]],[(true,[.str,ki,ki,ki,ki,mi,ki,ki,q3,q3,dQ])],true,.inl fun x=>MW x.1⟩
theorem TM:ar Tryz.prog 108 Zs :=
 fq (ac Wc (ac Ux (ac WJ an))) Tryz.f108
def pZ (_:Unit) (t10:List dt) (t11 t12:Int) (b4 b5:(List dt)×Unit):Rd (Unit×(List dt)×Int×Int×Y4×Y4×Unit) Unit :=
 cond (au t12 t11) (
 cond (aR t12 t10) (
 (MW (gt d59 t10 t12)).bind fun y1 =>
 cond (bY 160 b5.1 [y1.2.1]) (
 some (.inl ((),t10,t11,(aj .i64 t12 1),b4,((jn b5.1 [y1.2.1]),()),()))
 ) none
 ) none
 ) (
 some (.inr (.inl ((),t10,t11,t12,b4,b5,())))
 )
def Jl:=UU (af (Ex pZ))
def RP (p0:(List dt)×Unit):Option S0 :=
 (Jl () p0.1 (ae p0.1) 0 ([],()) ([],())).bind (Sum.elim (fun y1 =>
 some ((),(y1.2.2.2.2.2.1,()))
 ) (fun _ =>
 none
 ))
def Ys:Su:=⟨[.c true [fG],.fn 108 []],[(true,[fG])],true,.inl fun x=>RP x.1⟩
theorem UN:ar Tryz.prog 185 Ys :=
 fl (ac TM an) [] [(0,⟨[.fn 1 108 [],.d 10 fG,.d 11 ki,.d 12 ki,.box 4 [(true,fG)],.box 5 [(true,fG)]],af (Ex pZ)⟩)] [] Tryz.f185 (lp [0] (sc cM sn))
def HE (p0:(List dt)×Unit):Option S0 :=
 (RP p0).bind fun y1 =>
 some ((),(y1.2.1,()))
def aaX:Su:=⟨[.c true [fG]],[(true,[fG])],true,.inl fun x=>HE x.1⟩
theorem OY:ar Tryz.prog 136 aaX :=
 fq (ac UN an) Tryz.f136
def xr (t7:List ea) (t8 t9:Int) (b2 b3:(List dt)×Unit):Rd ((List ea)×Int×Int×Y4×Y4×Unit) Unit :=
 cond (au t9 t8) (
 cond (aR t9 t7) (
 (HE ((gt d89 t7 t9).2.1,())).bind fun y1 =>
 cond (bY 160 b3.1 y1.2.1.1) (
 some (.inl (t7,t8,(aj .i64 t9 1),b2,((jn b3.1 y1.2.1.1),()),()))
 ) none
 ) none
 ) (
 some (.inr (.inl (t7,t8,t9,b2,b3,())))
 )
def OM:=xS (af (ff xr))
def Ri (p0:List ea):Option S0 :=
 (OM p0 (ae p0) 0 ([],()) ([],())).bind (Sum.elim (fun y1 =>
 (NS y1.2.2.2.2.1.1).bind fun y2 =>
 some ((),(y2.1.1,()))
 ) (fun _ =>
 none
 ))
def s80:Su:=⟨[.c false [gj]],[(true,[fG])],true,.inl fun x=>Ri x.1.1⟩
theorem aah:ar Tryz.prog 80 s80 :=
 fl (ac Vn (ac OY an)) [] [(0,⟨[.d 7 gj,.d 8 ki,.d 9 ki,.box 2 [(true,fG)],.box 3 [(true,fG)]],af (ff xr)⟩)] [] Tryz.f80 (lp [0] (sc cM sn))
def qe (t0:List UInt8) (t5 t6:Int):Rd S5 Y1 :=
 cond (au t6 t5) (
 cond (aR t6 t0) (
 let u1:=(dx t0 t6)
 cond (au u1 48) (
 some (.inr (.inr (false,())))
 ) (
 cond (aR t6 t0) (
 cond (au 57 u1) (
 some (.inr (.inr (false,())))
 ) (
 some (.inl (t0,t5,(aj .i64 t6 1),()))
 )
 ) none
 )
 ) none
 ) (
 some (.inr (.inl (t0,t5,t6,())))
 )
def HV:=kt (af (dn qe))
def uf (p0:List UInt8):Option ed :=
 (HV p0 (ae p0) 0).bind (Sum.elim (fun y1 =>
 some ((),(((!(cr y1.1 [])),()),()))
 ) (fun y1 =>
 some ((),(y1,()))
 ))
def YI:Su:=⟨[.c false [.str]],[(false,[.bool])],true,.inl fun x=>uf x.1.1⟩
theorem yp:ar Tryz.prog 240 YI :=
 fl an [.d 2 .bool] [(0,⟨[.d 0 .str,.d 5 ki,.d 6 ki],af (dn qe)⟩)] [] Tryz.f240 (lp [0] (sc cM sn))
def rY (t0:List UInt8) (t3:Int) (t4:Bool) (t5:Int):Rd ((List UInt8)×Int×Bool×Int×Unit) Unit :=
 cond (bH 0 t5) (
 cond (aR t5 t0) (
 cond t4 (
 let u1:=(bG .i64 (aM .u8 (dx t0 t5) 48))
 let u2:=(j5 .i64 u1 2)
 cond (au 9 u2) (
 let u3:=(aM .i64 t5 1)
 some (.inl (t0,(aj .i64 t3 (aM .i64 u2 9)),(!t4),u3,()))
 ) (
 let u3:=(aM .i64 t5 1)
 some (.inl (t0,(aj .i64 t3 u2),(!t4),u3,()))
 )
 ) (
 let u1:=(bG .i64 (aM .u8 (dx t0 t5) 48))
 let u2:=(aM .i64 t5 1)
 some (.inl (t0,(aj .i64 t3 u1),(!t4),u2,()))
 )
 ) none
 ) (
 some (.inr (.inl (t0,t3,t4,t5,())))
 )
def Ig:=mj (af (cV rY))
def NI (p0:List UInt8):Option gX :=
 (uf p0).bind fun y1 =>
 cond (!y1.2.1.1) (
 c3
 ) (
 (Ig p0 0 true (aM .i64 (ae p0) 1)).bind (Sum.elim (fun y2 =>
 some ((),(((fz (aM .i64 10 (fz y2.2.1 10)) 10),()),()))
 ) (fun _ =>
 none
 ))
 )
def Yk:Su:=⟨[.c false [.str]],[(false,[ki])],true,.inl fun x=>NI x.1.1⟩
theorem Wg:ar Tryz.prog 241 Yk :=
 fl (ac yp an) [] [(0,⟨[.d 0 .str,.d 3 ki,.d 4 .bool,.d 5 ki],af (cV rY)⟩)] [] Tryz.f241 (lp [0] (sc cM sn))
def Nk (p0:List UInt8):Option ed :=
 let u1:=(aM .i64 (ae p0) 1)
 cond (bH 1 u1) (
 (uf p0).bind fun y1 =>
 cond y1.2.1.1 (
 cond (dP 0 u1 p0) (
 (NI (sub p0 0 u1)).bind fun y2 =>
 cond (aR u1 p0) (
 some ((),(((aq y2.2.1.1 (bG .i64 (aM .u8 (dx p0 u1) 48))),()),()))
 ) none
 ) none
 ) (
 c0
 )
 ) (
 c0
 )
def abp:Su:=⟨[.c false [.str]],[(false,[.bool])],true,.inl fun x=>Nk x.1.1⟩
theorem WN:ar Tryz.prog 187 abp :=
 fq (ac yp (ac Wg an)) Tryz.f187
def si (p0:List UInt8):Option ed :=
 cond (bH (ae p0) 19) (
 (Nk p0).bind fun y1 =>
 some ((),(y1.2.1,()))
 ) (
 c0
 )
def Z6:Su:=⟨[.c false [.str]],[(false,[.bool])],true,.inl fun x=>si x.1.1⟩
theorem O3:ar Tryz.prog 139 Z6 :=
 fq (ac WN an) Tryz.f139
def W7 (p0:Int):Option ed :=
 (nL p0 0 4611686018427387904).bind fun y1 =>
 some ((),(y1.2.1,()))
def s78:Su:=⟨[.c false [ki]],[(false,[.bool])],true,.inl fun x=>W7 x.1.1⟩
theorem Wh:ar Tryz.prog 78 s78 :=
 fq (ac nJ an) Tryz.f78
def oA (t0:List UInt8) (t5 t6:Int):Rd S5 Y1 :=
 cond (au t6 t5) (
 cond (aR t6 t0) (
 let u1:=(dx t0 t6)
 cond (au u1 48) (
 cond (aR t6 t0) (
 cond (au u1 97) (
 some (.inr (.inr (false,())))
 ) (
 cond (aR t6 t0) (
 cond (au 122 u1) (
 some (.inr (.inr (false,())))
 ) (
 some (.inl (t0,t5,(aj .i64 t6 1),()))
 )
 ) none
 )
 ) none
 ) (
 cond (aR t6 t0) (
 cond (au 57 u1) (
 cond (aR t6 t0) (
 cond (au u1 97) (
 some (.inr (.inr (false,())))
 ) (
 cond (aR t6 t0) (
 cond (au 122 u1) (
 some (.inr (.inr (false,())))
 ) (
 some (.inl (t0,t5,(aj .i64 t6 1),()))
 )
 ) none
 )
 ) none
 ) (
 some (.inl (t0,t5,(aj .i64 t6 1),()))
 )
 ) none
 )
 ) none
 ) (
 some (.inr (.inl (t0,t5,t6,())))
 )
def IL:=kt (af (dn oA))
def IC (p0:List UInt8):Option ed :=
 (IL p0 (ae p0) 0).bind (Sum.elim (fun y1 =>
 (nL (ae y1.1) 1 6).bind fun y2 =>
 some ((),(y2.2.1,()))
 ) (fun y1 =>
 some ((),(y1,()))
 ))
def aao:Su:=⟨[.c false [.str]],[(false,[.bool])],true,.inl fun x=>IC x.1.1⟩
theorem Pw:ar Tryz.prog 242 aao :=
 fl (ac nJ an) [.d 2 .bool] [(0,⟨[.d 0 .str,.d 5 ki,.d 6 ki],af (dn oA)⟩)] [] Tryz.f242 (lp [0] (sc cM sn))
def MR (p0:(List UInt8)×Int×Int×Unit):Option ed :=
 (IC p0.1).bind fun y1 =>
 cond y1.2.1.1 (
 (nL p0.2.1 1 9007199254740992).bind fun y2 =>
 cond y2.2.1.1 (
 (ua p0.2.2.1).bind fun y3 =>
 some ((),(y3.2.1,()))
 ) (
 c0
 )
 ) (
 c0
 )
def Yr:Su:=⟨[.c true [.str,ki,ki]],[(false,[.bool])],true,.inl fun x=>MR x.1⟩
theorem Ut:ar Tryz.prog 188 Yr :=
 fq (ac nJ (ac JS (ac Pw an))) Tryz.f188
def p8 (t0 t5:List gw) (t6 t7:Int):Rd ((List gw)×(List gw)×Int×Int×Unit) Y1 :=
 cond (au t7 t6) (
 cond (aR t7 t5) (
 let u1:=(gt d95 t5 t7)
 (MR u1).bind fun y1 =>
 cond (!y1.2.1.1) (
 some (.inr (.inr (false,())))
 ) (
 cond (au 0 t7) (
 let u2:=(aM .i64 t7 1)
 cond (aR u2 t0) (
 cond (R7 u1.1 (gt d95 t0 u2).1) (
 some (.inr (.inr (false,())))
 ) (
 some (.inl (t0,t5,t6,(aj .i64 t7 1),()))
 )
 ) none
 ) (
 some (.inl (t0,t5,t6,(aj .i64 t7 1),()))
 )
 )
 ) none
 ) (
 some (.inr (.inl (t0,t5,t6,t7,())))
 )
def Jx:=mj (af (cV p8))
def LJ (p0:List gw):Option ed :=
 (Jx p0 p0 (ae p0) 0).bind (Sum.elim (fun y1 =>
 some ((),(((bH (ae y1.1) 4),()),()))
 ) (fun y1 =>
 some ((),(y1,()))
 ))
def ZX:Su:=⟨[.c false [mi]],[(false,[.bool])],true,.inl fun x=>LJ x.1.1⟩
theorem T5:ar Tryz.prog 140 ZX :=
 fl (ac Ut an) [.d 2 .bool] [(0,⟨[.d 0 mi,.d 5 mi,.d 6 ki,.d 7 ki],af (cV p8)⟩)] [] Tryz.f140 (lp [0] (sc cM sn))
def Nj (p1:Int):Option P3 :=
 cond (au p1 0) (
 none
 ) (
 let u1:=(aM .i64 p1 (aM .i64 0 0))
 cond (au 0 u1) (
 cond (T2 0 0) (
 cond (Yf 8 u1) (
 let u2:=(wM d3 u1)
 cond (dP 0 0 u2) (
 some ((),(((P6 u2 0),()),()))
 ) none
 ) none
 ) none
 ) (
 some ((),(([],()),()))
 )
 )
def YV:Su:=⟨[.nil,.c false [ki]],[(false,[q3])],true,.inl fun x=>Nj x.1.1⟩
theorem WQ:ar Tryz.prog 243 YV :=
 fq an Tryz.f243
def sv (t0:List P8) (t3:Int) (t9:List P8) (t10 t11:Int):Rd ((List P8)×Int×(List P8)×Int×Int×Unit) Unit :=
 cond (au t11 t10) (
 cond (aR t11 t9) (
 let u1:=(aj .i64 t3 (ae (gt d54 t9 t11).1))
 cond (au u1 0) (
 none
 ) (
 some (.inl (t0,u1,t9,t10,(aj .i64 t11 1),()))
 )
 ) none
 ) (
 some (.inr (.inl (t0,t3,t9,t10,t11,())))
 )
def DV:=xS (af (ff sv))
def sx (t6:List R3) (t25:List P8) (t26 t27:Int):Rd ((List R3)×(List P8)×Int×Int×Unit) Unit :=
 cond (au t27 t26) (
 cond (aR t27 t25) (
 cond (bY 8 t6 (gt d54 t25 t27).1) (
 some (.inl ((jn t6 (gt d54 t25 t27).1),t25,t26,(aj .i64 t27 1),()))
 ) none
 ) none
 ) (
 some (.inr (.inl (t6,t25,t26,t27,())))
 )
def CW:=mj (af (cV sx))
def Mg (p0:List P8):Option P3 :=
 (DV p0 0 p0 (ae p0) 0).bind (Sum.elim (fun y1 =>
 (Nj y1.2.1).bind fun y2 =>
 (CW y2.2.1.1 y1.1 (ae y1.1) 0).bind (Sum.elim (fun y3 =>
 some ((),((y3.1,()),()))
 ) (fun _ =>
 none
 ))
 ) (fun _ =>
 none
 ))
def aap:Su:=⟨[.c false [.sl 54 HI]],[(false,[q3])],true,.inl fun x=>Mg x.1.1⟩
theorem WL:ar Tryz.prog 189 aap :=
 fl (ac WQ an) [] [(0,⟨[.d 0 (.sl 54 HI),.d 3 ki,.d 9 (.sl 54 HI),.d 10 ki,.d 11 ki],af (ff sv)⟩),(2,⟨[.own 6 q3,.d 25 (.sl 54 HI),.d 26 ki,.d 27 ki],af (cV sx)⟩)] [] Tryz.f189 (lp [0,2] (sc cM (sc cM sn)))
def oQ (t3:Int) (t14:List R3) (t15 t16:Int) (b1:Int×Int×(List R3)×(List R3)×Unit):Rd (Int×(List R3)×Int×Int×(Int×Int×(List R3)×(List R3)×Unit)×Unit) Y1 :=
 cond (au t16 t15) (
 cond (aR t16 t14) (
 (W7 (gt d3 t14 t16).1).bind fun y1 =>
 cond (!y1.2.1.1) (
 some (.inr (.inr (false,())))
 ) (
 some (.inl (t3,t14,t15,(aj .i64 t16 1),b1,()))
 )
 ) none
 ) (
 some (.inr (.inl (t3,t14,t15,t16,b1,())))
 )
def Ke:=xS (af (ff oQ))
def Kd (p0:Int×Int×(List R3)×(List R3)×Unit):Option ed :=
 (Mg [(p0.2.2.1,()),(p0.2.2.2.1,())]).bind fun y1 =>
 (Ke (ae p0.2.2.1) y1.2.1.1 (ae y1.2.1.1) 0 p0).bind (Sum.elim (fun y2 =>
 (nL y2.2.2.2.2.1.1 1 1000).bind fun y3 =>
 cond y3.2.1.1 (
 (nL y2.1 1 8).bind fun y4 =>
 cond (cond y4.2.1.1 (aq (ae y2.2.2.2.2.1.2.2.2.1) y2.1) false) (
 (ua y2.2.2.2.2.1.2.1).bind fun y5 =>
 some ((),(y5.2.1,()))
 ) (
 c0
 )
 ) (
 c0
 )
 ) (fun y2 =>
 some ((),(y2,()))
 ))
def YM:Su:=⟨[.c true [ki,ki,q3,q3]],[(false,[.bool])],true,.inl fun x=>Kd x.1⟩
theorem VH:ar Tryz.prog 141 YM :=
 fl (ac nJ (ac JS (ac Wh (ac WL an)))) [.d 2 .bool] [(0,⟨[.d 3 ki,.own 14 q3,.d 15 ki,.d 16 ki,.box 1 [(false,ki),(false,ki),(false,q3),(false,q3)]],af (ff oQ)⟩)] [] Tryz.f141 (lp [0] (sc cM sn))
def wY (p0:List UInt8) (p1:Int):Option ed :=
 (uf p0).bind fun y1 =>
 some ((),(((cond y1.2.1.1 (aq (ae p0) p1) false),()),()))
def aaa:Su:=⟨[.c false [.str],.c false [ki]],[(false,[.bool])],true,.inl fun x=>wY x.1.1 x.2.1.1⟩
theorem JG:ar Tryz.prog 244 aaa :=
 fq (ac yp an) Tryz.f244
def M7 (p0:(List UInt8)×(List UInt8)×(List R5)×Unit):Option ed :=
 (wY p0.1 6).bind fun y1 =>
 cond y1.2.1.1 (
 (wY p0.2.1 4).bind fun y2 =>
 cond y2.2.1.1 (
 (nL (ae p0.2.2.1) 1 200).bind fun y3 =>
 some ((),(y3.2.1,()))
 ) (
 c0
 )
 ) (
 c0
 )
def YT:Su:=⟨[.c true [.str,.str,q5]],[(false,[.bool])],true,.inl fun x=>M7 x.1⟩
theorem Ts:ar Tryz.prog 190 YT :=
 fq (ac nJ (ac JG an)) Tryz.f190
def Rp (p0:(List UInt8)×(List UInt8)×(List R5)×Unit) (p1 p2:(List UInt8)×Unit):Option ed :=
 some ((),(((cond (cr p0.1 p1.1) (cr p0.2.1 p2.1) false),()),()))
def ZV:Su:=⟨[.c true [.str,.str,q5],.pt [.str],.pt [.str]],[(false,[.bool])],true,.inl fun x=>Rp x.1 x.2.1 x.2.2.1⟩
theorem V1:ar Tryz.prog 246 ZV :=
 fq an Tryz.f246
def pI (t0:List cu) (f1:Y8×Y8×Unit) (t7 t8:Int):Rd ((List cu)×(Y8×Y8×Unit)×Int×Int×Unit) Y0 :=
 cond (au t8 t7) (
 cond (aR t8 t0) (
 (Rp (gt d166 t0 t8) f1.1 f1.2.1).bind fun y1 =>
 cond y1.2.1.1 (
 some (.inr (.inr (t8,())))
 ) (
 some (.inl (t0,f1,t7,(aj .i64 t8 1),()))
 )
 ) none
 ) (
 some (.inr (.inl (t0,f1,t7,t8,())))
 )
def Lc:=mj (af (cV pI))
def RA (p0:List cu) (c1_0 c1_1:(List UInt8)×Unit):Option gX :=
 (Lc p0 (c1_0,c1_1,()) (ae p0) 0).bind (Sum.elim (fun _ =>
 c3
 ) (fun y1 =>
 some ((),(y1,()))
 ))
def ZQ:Su:=⟨[.c false [dQ],.fn 246 [.p [.str],.p [.str]]],[(false,[ki])],true,.inl fun x=>RA x.1.1 x.2.1.1 x.2.1.2.1⟩
theorem Td:ar Tryz.prog 245 ZQ :=
 fl (ac V1 an) [.d 4 ki] [(0,⟨[.d 0 dQ,.fn 1 246 [.p [.str],.p [.str]],.d 7 ki,.d 8 ki],af (cV pI)⟩)] [] Tryz.f245 (lp [0] (sc cM sn))
def NX (p0:List cu) (p1 p2:List UInt8):Option gX :=
 (RA p0 (p1,()) (p2,())).bind fun y1 =>
 some ((),(y1.2.1,()))
def XM:Su:=⟨[.c false [dQ],.c false [.str],.c false [.str]],[(false,[ki])],true,.inl fun x=>NX x.1.1 x.2.1.1 x.2.2.1.1⟩
theorem VP:ar Tryz.prog 191 XM :=
 fq (ac Td an) Tryz.f191
def o7 (t0 t5:List cu) (t6 t7:Int):Rd Xm Y1 :=
 cond (au t7 t6) (
 cond (aR t7 t5) (
 let u1:=(gt d166 t5 t7)
 (M7 u1).bind fun y1 =>
 cond (!y1.2.1.1) (
 some (.inr (.inr (false,())))
 ) (
 (NX t0 u1.1 u1.2.1).bind fun y2 =>
 cond (!(aq y2.2.1.1 t7)) (
 some (.inr (.inr (false,())))
 ) (
 some (.inl (t0,t5,t6,(aj .i64 t7 1),()))
 )
 )
 ) none
 ) (
 some (.inr (.inl (t0,t5,t6,t7,())))
 )
def K1:=mj (af (cV o7))
def MM (p0:List cu):Option ed :=
 (K1 p0 p0 (ae p0) 0).bind (Sum.elim (fun y1 =>
 some ((),(((bH (ae y1.1) 6),()),()))
 ) (fun y1 =>
 some ((),(y1,()))
 ))
def Yl:Su:=⟨[.c false [dQ]],[(false,[.bool])],true,.inl fun x=>MM x.1.1⟩
theorem Us:ar Tryz.prog 142 Yl :=
 fl (ac Ts (ac VP an)) [.d 2 .bool] [(0,⟨[.d 0 dQ,.d 5 dQ,.d 6 ki,.d 7 ki],af (cV o7)⟩)] [] Tryz.f142 (lp [0] (sc cM sn))
def Kn (p0 p1:Int):Option gX :=
 let u1:=(Fz 0 (Hj p1 4611686018427387904))
 let u2:=(Fz 0 (Hj p0 4611686018427387904))
 cond (au (aM .i64 4611686018427387904 u1) u2) (
 c20
 ) (
 some ((),(((aj .i64 u2 u1),()),()))
 )
def aaT:Su:=⟨[.c false [ki],.c false [ki]],[(false,[ki])],true,.inl fun x=>Kn x.1.1 x.2.1.1⟩
theorem Po:ar Tryz.prog 143 aaT :=
 fq an Tryz.f143
def oS (t3:Int) (t6:List gw) (t7 t8:Int):Rd (Int×(List gw)×Int×Int×Unit) Unit :=
 cond (au t8 t7) (
 cond (aR t8 t6) (
 (Kn t3 (gt d95 t6 t8).2.1).bind fun y1 =>
 some (.inl (y1.2.1.1,t6,t7,(aj .i64 t8 1),()))
 ) none
 ) (
 some (.inr (.inl (t3,t6,t7,t8,())))
 )
def Jh:=mj (af (cV oS))
def Nh (p0:List gw):Option gX :=
 (Jh 0 p0 (ae p0) 0).bind (Sum.elim (fun y1 =>
 some ((),((y1.1,()),()))
 ) (fun _ =>
 none
 ))
def aaA:Su:=⟨[.c false [mi]],[(false,[ki])],true,.inl fun x=>Nh x.1.1⟩
theorem UC:ar Tryz.prog 144 aaA :=
 fl (ac Po an) [] [(0,⟨[.d 3 ki,.d 6 mi,.d 7 ki,.d 8 ki],af (cV oS)⟩)] [] Tryz.f144 (lp [0] (sc cM sn))
def XF (p0:(List UInt8)×Int×Int×Int×Int×(List gw)×Int×Int×(List R3)×(List R3)×(List cu)×Unit):Option ed :=
 (si p0.1).bind fun y1 =>
 cond y1.2.1.1 (
 (nL p0.2.1 0 9007199254740992).bind fun y2 =>
 cond y2.2.1.1 (
 (nL p0.2.2.2.1 0 1000).bind fun y3 =>
 cond y3.2.1.1 (
 (nL p0.2.2.2.2.1 0 9007199254740992).bind fun y4 =>
 cond y4.2.1.1 (
 (W7 p0.2.2.1).bind fun y5 =>
 cond y5.2.1.1 (
 (LJ p0.2.2.2.2.2.1).bind fun y6 =>
 cond y6.2.1.1 (
 (Kd (p0.2.2.2.2.2.2.1,p0.2.2.2.2.2.2.2.1,p0.2.2.2.2.2.2.2.2.1,p0.2.2.2.2.2.2.2.2.2.1,())).bind fun y7 =>
 cond y7.2.1.1 (
 (MM p0.2.2.2.2.2.2.2.2.2.2.1).bind fun y8 =>
 cond y8.2.1.1 (
 (Nh p0.2.2.2.2.2.1).bind fun y9 =>
 (Kn p0.2.2.1 y9.2.1.1).bind fun y10 =>
 some ((),(((bH y10.2.1.1 p0.2.1),()),()))
 ) (
 c0
 )
 ) (
 c0
 )
 ) (
 c0
 )
 ) (
 c0
 )
 ) (
 c0
 )
 ) (
 c0
 )
 ) (
 c0
 )
 ) (
 c0
 )
def s81:Su:=⟨[.c true [.str,ki,ki,ki,ki,mi,ki,ki,q3,q3,dQ]],[(false,[.bool])],true,.inl fun x=>XF x.1⟩
theorem Yo:ar Tryz.prog 81 s81 :=
 fq (ac nJ (ac O3 (ac Wh (ac T5 (ac VH (ac Us (ac Po (ac UC an)))))))) Tryz.f81
def pE (t6:List dt) (t7 t8:Int) (b1:(List dt)×Unit):Rd ((List dt)×Int×Int×Y4×Unit) Y1 :=
 cond (au t8 t7) (
 cond (aR t8 t6) (
 let u1:=(gt d59 t6 t8)
 (XF u1).bind fun y1 =>
 cond (!y1.2.1.1) (
 some (.inr (.inr (false,())))
 ) (
 cond (au 0 t8) (
 let u2:=(aM .i64 t8 1)
 cond (aR u2 b1.1) (
 cond (R7 u1.1 (gt d59 b1.1 u2).1) (
 some (.inr (.inr (false,())))
 ) (
 some (.inl (t6,t7,(aj .i64 t8 1),b1,()))
 )
 ) none
 ) (
 some (.inl (t6,t7,(aj .i64 t8 1),b1,()))
 )
 )
 ) none
 ) (
 some (.inr (.inl (t6,t7,t8,b1,())))
 )
def IB:=mj (af (cV pE))
def HO (p0:(List dt)×Unit):Option ed :=
 (IB p0.1 (ae p0.1) 0 p0).bind (Sum.elim (fun y1 =>
 some ((),(((bH (ae y1.2.2.2.1.1) 6),()),()))
 ) (fun y1 =>
 some ((),(y1,()))
 ))
def abr:Su:=⟨[.c true [fG]],[(false,[.bool])],true,.inl fun x=>HO x.1⟩
theorem TL:ar Tryz.prog 106 abr :=
 fl (ac Yo an) [.d 2 .bool] [(0,⟨[.d 6 fG,.d 7 ki,.d 8 ki,.box 1 [(false,fG)]],af (cV pE)⟩)] [] Tryz.f106 (lp [0] (sc cM sn))
def qf (t0:List UInt8) (t3 t6 t7:Int):Rd ((List UInt8)×Int×Int×Int×Unit) Unit :=
 cond (au t7 t6) (
 cond (aR t7 t0) (
 some (.inl (t0,(j5 .u32 (AW .u32 t3 (bG .u32 (dx t0 t7))) 16777619),t6,(aj .i64 t7 1),()))
 ) none
 ) (
 some (.inr (.inl (t0,t3,t6,t7,())))
 )
def KD:=mj (af (cV qf))
def LY (p0:List UInt8):Option gX :=
 (KD p0 2166136261 (ae p0) 0).bind (Sum.elim (fun y1 =>
 some ((),(((bG .i64 y1.2.1),()),()))
 ) (fun _ =>
 none
 ))
def Ze:Su:=⟨[.c false [.str]],[(false,[ki])],true,.inl fun x=>LY x.1.1⟩
theorem TU:ar Tryz.prog 166 Ze :=
 fl an [] [(0,⟨[.d 0 .str,.d 3 (.int .u32),.d 6 ki,.d 7 ki],af (cV qf)⟩)] [] Tryz.f166 (lp [0] (sc cM sn))
def Kh (p0:List UInt8) (p1:Int):Option gX :=
 cond (au p1 1) (
 c6
 ) (
 (LY p0).bind fun y1 =>
 cond (!(aq p1 0)) (
 some ((),(((fz y1.2.1.1 p1),()),()))
 ) none
 )
def YJ:Su:=⟨[.c false [.str],.c false [ki]],[(false,[ki])],true,.inl fun x=>Kh x.1.1 x.2.1.1⟩
theorem PS:ar Tryz.prog 107 YJ :=
 fq (ac TU an) Tryz.f107
def uS (t0:List ea) (t3:Int) (t7:List ea) (t8 t9:Int) (t19:List dt) (t20 t21:Int) (b4:Int×(List dt)×Unit):Rd ((List ea)×Int×(List ea)×Int×Int×(List dt)×Int×Int×Wm×Unit) Y1 :=
 cond (au t21 t20) (
 cond (aR t21 t19) (
 (Kh (gt d59 t19 t21).1 (ae t0)).bind fun y1 =>
 cond (!(aq y1.2.1.1 t3)) (
 some (.inr (.inr (false,())))
 ) (
 cond (au 0 t21) (
 let u1:=(aM .i64 t21 1)
 cond (aR u1 b4.2.1) (
 cond (R7 (gt d59 t19 t21).1 (gt d59 b4.2.1 u1).1) (
 some (.inr (.inr (false,())))
 ) (
 some (.inl (t0,t3,t7,t8,t9,t19,t20,(aj .i64 t21 1),b4,()))
 )
 ) none
 ) (
 some (.inl (t0,t3,t7,t8,t9,t19,t20,(aj .i64 t21 1),b4,()))
 )
 )
 ) none
 ) (
 some (.inr (.inl (t0,t3,t7,t8,t9,t19,t20,t21,b4,())))
 )
def OO:=TB (af (Dl uS))
def xP (t0 t7:List ea) (t8 t9:Int):Rd W4 Y1 :=
 cond (au t9 t8) (
 cond (aR t9 t7) (
 let u1:=(gt d89 t7 t9)
 (nL u1.1 (-1) 11).bind fun y1 =>
 cond (!y1.2.1.1) (
 some (.inr (.inr (false,())))
 ) (
 (OO t0 t9 t7 t8 t9 u1.2.1 (ae u1.2.1) 0 u1).bind (Sum.elim (fun y2 =>
 some (.inl (y2.1,y2.2.2.1,y2.2.2.2.1,(aj .i64 y2.2.2.2.2.1 1),()))
 ) (fun y2 =>
 some (.inr (.inr (y2.1,())))
 ))
 )
 ) none
 ) (
 some (.inr (.inl (t0,t7,t8,t9,())))
 )
def Te:=mj (af (cV xP))
def Xt (p0:List ea):Option ed :=
 (Te p0 p0 (ae p0) 0).bind (Sum.elim (fun y1 =>
 (nL (ae y1.1) 1 5).bind fun y2 =>
 cond y2.2.1.1 (
 (Ri y1.1).bind fun y3 =>
 (HO y3.2.1).bind fun y4 =>
 some ((),(y4.2.1,()))
 ) (
 c0
 )
 ) (fun y1 =>
 some ((),(y1,()))
 ))
def s73:Su:=⟨[.c false [gj]],[(false,[.bool])],true,.inl fun x=>Xt x.1.1⟩
theorem Yq:ar Tryz.prog 73 s73 :=
 fl (ac nJ (ac aah (ac TL (ac PS an)))) [.d 2 .bool] [(2,⟨[.d 0 gj,.d 3 ki,.d 7 gj,.d 8 ki,.d 9 ki,.d 19 fG,.d 20 ki,.d 21 ki,.box 4 [(false,ki),(false,fG)]],af (Dl uS)⟩),(0,⟨[.d 0 gj,.d 7 gj,.d 8 ki,.d 9 ki],af (cV xP)⟩)] [] Tryz.f73 (lp [0] (sc (lp [2] (sc cM sn)) sn))
def UE (p0:Int):Option LN :=
 (nL p0 0 5).bind fun y1 =>
 cond (!y1.2.1.1) (
 c18
 ) (
 cond (aR p0 [([114,101,97,100],()),([108,111,99,107],()),([119,111,114,107],()),([102,114,101,101],()),([115,101,110,100],()),([100,111,110,101],())]) (
 some ((),((gt d9 [([114,101,97,100],()),([108,111,99,107],()),([119,111,114,107],()),([102,114,101,101],()),([115,101,110,100],()),([100,111,110,101],())] p0),()))
 ) none
 )
def s85:Su:=⟨[.c false [ki]],[(false,[.str])],true,.inl fun x=>UE x.1.1⟩
theorem YZ:ar Tryz.prog 85 s85 :=
 fq (ac nJ an) Tryz.f85
def As (p0:List R5) (p1 p2:Int):Option (Unit×(((List R5)×Unit)×Y1×Unit)) :=
 let u1:=(ae p0)
 (nL p1 0 u1).bind fun y1 =>
 cond (cond (cond (!y1.2.1.1) true (au p2 0)) true (au (aM .i64 u1 p1) p2)) (
 some ((),(([],()),(false,()),()))
 ) (
 let u2:=(aj .i64 p1 p2)
 cond (dP p1 u2 p0) (
 some ((),(((sub p0 p1 u2),()),(true,()),()))
 ) none
 )
def ZD:Su:=⟨[.c false [q5],.c false [ki],.c false [ki]],[(false,[q5]),(false,[.bool])],false,.inl fun x=>As x.1.1 x.2.1.1 x.2.2.1.1⟩
theorem Lp:ar Tryz.prog 247 ZD :=
 fq (ac nJ an) Tryz.f247
def oN (t1 t2:Int) (t9:List R5) (t10:Bool) (t11 t27:List R5) (t28 t29:Int):Rd (Int×Int×(List R5)×Bool×(List R5)×(List R5)×Int×Int×Unit) Unit :=
 cond (au t29 t28) (
 cond (aR t29 t27) (
 cond (bY 1 t11 [((aj .u8 48 (iQ .u8 (gt d5 t27 t29).1 4)),()),((aj .u8 48 (zK .u8 (gt d5 t27 t29).1 15)),())]) (
 some (.inl (t1,t2,t9,t10,(jn t11 [((aj .u8 48 (iQ .u8 (gt d5 t27 t29).1 4)),()),((aj .u8 48 (zK .u8 (gt d5 t27 t29).1 15)),())]),t27,t28,(aj .i64 t29 1),()))
 ) none
 ) none
 ) (
 some (.inr (.inl (t1,t2,t9,t10,t11,t27,t28,t29,())))
 )
def KG:=SW (af (yV oN))
def zp (p0:List R5) (p1 p2:Int):Option Wy :=
 (nL p2 1 38).bind fun y1 =>
 cond (!y1.2.1.1) (
 c4
 ) (
 (As p0 p1 (mg .i64 (aj .i64 p2 1) 2)).bind fun y2 =>
 (KG p1 p2 y2.2.1.1 y2.2.2.1.1 [] y2.2.1.1 (ae y2.2.1.1) 0).bind (Sum.elim (fun y3 =>
 cond (!y3.2.2.2.1) (
 c4
 ) (
 (uf (strOf y3.2.2.2.2.1)).bind fun y4 =>
 cond (!y4.2.1.1) (
 c4
 ) (
 cond (aq (fz y3.2.1 2) 1) (
 cond (aR 0 y3.2.2.2.2.1) (
 cond (!(aq (gt d5 y3.2.2.2.2.1 0).1 48)) (
 c4
 ) (
 let u1:=(ae y3.2.2.2.2.1)
 let u2:=(aM .i64 u1 y3.2.1)
 let u3:=(dP u2 u1 y3.2.2.2.2.1)
 cond u3 (
 some ((),(((strOf (sub y3.2.2.2.2.1 u2 u1)),()),((aj .i64 y3.1 (ae y3.2.2.1)),()),(true,()),()))
 ) none
 )
 ) none
 ) (
 let u1:=(ae y3.2.2.2.2.1)
 let u2:=(aM .i64 u1 y3.2.1)
 let u3:=(dP u2 u1 y3.2.2.2.2.1)
 cond u3 (
 some ((),(((strOf (sub y3.2.2.2.2.1 u2 u1)),()),((aj .i64 y3.1 (ae y3.2.2.1)),()),(true,()),()))
 ) none
 )
 )
 )
 ) (fun _ =>
 none
 ))
 )
def Zp:Su:=⟨[.c false [q5],.c false [ki],.c false [ki]],[(false,[.str]),(false,[ki]),(false,[.bool])],true,.inl fun x=>zp x.1.1 x.2.1.1 x.2.2.1.1⟩
theorem JC:ar Tryz.prog 193 Zp :=
 fl (ac nJ (ac yp (ac Lp an))) [] [(0,⟨[.d 1 ki,.d 2 ki,.d 9 q5,.d 10 .bool,.own 11 q5,.d 27 q5,.d 28 ki,.d 29 ki],af (yV oN)⟩)] [] Tryz.f193 (lp [0] (sc cM sn))
def rS (t1:Int) (t7:List R5) (t9:List R3) (t10:Int):Rd (Int×(List R5)×(List R3)×Int×Unit) Unit :=
 cond (bH t10 64) (
 let u1:=(aM .i64 t10 1)
 let u2:=(mg .i64 u1 8)
 cond (aR u2 t7) (
 let u3:=(fz u1 8)
 cond (bH 0 u3) (
 cond (!(aq (zK .u8 (gt d5 t7 u2).1 (iQ .u8 128 u3)) 0)) (
 cond (bY 8 t9 [(t10,())]) (
 let u4:=(aj .i64 t10 1)
 some (.inl (t1,t7,(jn t9 [(t10,())]),u4,()))
 ) none
 ) (
 let u4:=(aj .i64 t10 1)
 some (.inl (t1,t7,t9,u4,()))
 )
 ) none
 ) none
 ) (
 some (.inr (.inl (t1,t7,t9,t10,())))
 )
def IE:=mj (af (cV rS))
def Bi (p0:List R5) (p1:Int):Option Xu :=
 (As p0 p1 8).bind fun y1 =>
 cond (!y1.2.2.1.1) (
 c9
 ) (
 (IE p1 y1.2.1.1 [] 1).bind (Sum.elim (fun y2 =>
 some ((),((y2.2.2.1,()),((aj .i64 y2.1 8),()),(true,()),()))
 ) (fun _ =>
 none
 ))
 )
def ZL:Su:=⟨[.c false [q5],.c false [ki]],[(false,[q3]),(false,[ki]),(false,[.bool])],true,.inl fun x=>Bi x.1.1 x.2.1.1⟩
theorem Wd:ar Tryz.prog 194 ZL :=
 fl (ac Lp an) [] [(0,⟨[.d 1 ki,.d 7 q5,.own 9 q3,.d 10 ki],af (cV rS)⟩)] [] Tryz.f194 (lp [0] (sc cM sn))
def S9  : Option (Unit×(((List C5)×Unit)×Unit)) :=
 some ((),(([(2,3,19,()),(3,1,6,()),(4,1,12,()),(7,1,10,()),(11,1,6,()),(14,1,4,()),(37,2,12,()),(38,2,6,()),(39,2,2,()),(41,2,8,()),(48,5,60,()),(49,1,3,()),(54,5,60,()),(95,2,12,()),(102,4,20,()),(103,4,20,())],()),()))
def abb:Su:=⟨[],[(false,[.sl 226 IX])],true,.inl fun x=>S9 ⟩
theorem VN:ar Tryz.prog 292 abb :=
 fq an Tryz.f292
def sj (t0:Int) (t5:List C5) (t6 t7:Int) (b2:Int×Int×Int×Unit):Rd (Int×(List C5)×Int×Int×C5×Unit) (C5×Unit) :=
 cond (au t7 t6) (
 cond (aR t7 t5) (
 let u1:=(gt d226 t5 t7)
 cond (aq u1.1 t0) (
 some (.inr (.inr (u1,())))
 ) (
 some (.inl (t0,t5,t6,(aj .i64 t7 1),b2,()))
 )
 ) none
 ) (
 some (.inr (.inl (t0,t5,t6,t7,b2,())))
 )
def JN:=xS (af (ff sj))
def GF (p0:Int):Option (Unit×(C5×Unit)) :=
 (S9).bind fun y1 =>
 (JN p0 y1.2.1.1 (ae y1.2.1.1) 0 (0,0,0,())).bind (Sum.elim (fun _ =>
 some ((),((0,0,0,()),()))
 ) (fun y2 =>
 some ((),(y2.1,()))
 ))
def Zx:Su:=⟨[.c false [ki]],[(true,[ki,ki,ki])],true,.inl fun x=>GF x.1.1⟩
theorem K9:ar Tryz.prog 248 Zx :=
 fl (ac VN an) [.box 2 [(false,ki),(false,ki),(false,ki)]] [(0,⟨[.d 0 ki,.own 5 (.sl 226 IX),.d 6 ki,.d 7 ki,.box 2 [(false,ki),(false,ki),(false,ki)]],af (ff sj)⟩)] [] Tryz.f248 (lp [0] (sc cM sn))
def DR (p0:Int):Option gX :=
 (GF p0).bind fun y1 =>
 some ((),((y1.2.1.2.1,()),()))
def XW:Su:=⟨[.c false [ki]],[(false,[ki])],true,.inl fun x=>DR x.1.1⟩
theorem IS:ar Tryz.prog 195 XW :=
 fq (ac K9 an) Tryz.f195
def M4 (p0:Int):Option gX :=
 (GF p0).bind fun y1 =>
 some ((),((y1.2.1.2.2.1,()),()))
def ZK:Su:=⟨[.c false [ki]],[(false,[ki])],true,.inl fun x=>M4 x.1.1⟩
theorem Tp:ar Tryz.prog 249 ZK :=
 fq (ac K9 an) Tryz.f249
def N5 (p0:Int):Option gX :=
 (DR p0).bind fun y1 =>
 cond (aq y1.2.1.1 5) (
 WT
 ) (
 c5
 )
def aba:Su:=⟨[.c false [ki]],[(false,[ki])],true,.inl fun x=>N5 x.1.1⟩
theorem Wp:ar Tryz.prog 251 aba :=
 fq (ac IS an) Tryz.f251
section
open Go.RowKit Go.Lib
theorem aau:Er Tryz.prog 215 240 271:=by
 intro s b v w R R2 hd ha
 have e1:Enters Tryz.prog 240:=enters_of (fn:=Tryz.f240) (c:=ak Tryz.f240) (by kernel_rfl) (by kernel_rfl) (by kernel_rfl)
 have e2:Enters Tryz.prog 271:=enters_of (fn:=Tryz.f271) (c:=ak Tryz.f271) (by kernel_rfl) (by kernel_rfl) (by kernel_rfl)
 have hsz:s.size < 9223372036854775808∨9223372036854775808<=s.size:=Nat.lt_or_ge _ _
 cases b with
 | false =>
   go_enter Tryz.func215,Tryz.ntmps215
   go_wp2_with (go_at_call 240; refine hd.mono ?_; rintro e W1 ⟨rfl,hW⟩)
   go_ret2
   exact .inr ⟨by simp,rfl,hW⟩
 | true =>
   by_cases hs:s.size<=18
   . have hb:=ha rfl hs
     have h1:¬ (18:Int) < (s.size:Int):=by omega
     go_enter Tryz.func215,Tryz.ntmps215
     go_wp2_with (first
      | (go_at_call 240; refine hd.mono ?_; rintro e W1 ⟨rfl,hW⟩)
      | (go_at_call 271; refine (hb _ hW).mono ?_; rintro e W2 ⟨rfl,hW2⟩))
     go_ret2
     exact .inl ⟨by trivial,hs,rfl,hW2⟩
   . have h1:(18:Int) < (s.size:Int):=by omega
     go_enter Tryz.func215,Tryz.ntmps215
     go_wp2_with (go_at_call 240; refine hd.mono ?_; rintro e W1 ⟨rfl,hW⟩)
     go_ret2
     exact .inr ⟨by simp [hs],rfl,hW⟩
end
def Db (p0:List UInt8):Option Xz:=uw uf p0
def ZS:Su:=⟨[.c false [.str]],[(false,[ki]),(false,[.bool])],true,.inl fun x=>Db x.1.1⟩
theorem PX:ar Tryz.prog 215 ZS:=GD xj (gd:=uf) yp (fnd:=Tryz.f240) (cd:=ak Tryz.f240) (by kernel_rfl) (by kernel_rfl) (by kernel_rfl) rfl aau (fn:=Tryz.f215) (c:=ak Tryz.f215) (by kernel_rfl) (by kernel_rfl) (by kernel_rfl)
def Hl (p0:List R5) (p1 p2:Int):Option (Unit×(Y0×Y0×Y1×Unit)) :=
 (nL p2 2 3).bind fun y1 =>
 cond (!y1.2.1.1) (
 c15
 ) (
 (zp p0 p1 p2).bind fun y2 =>
 cond (!y2.2.2.2.1.1) (
 c15
 ) (
 (Db y2.2.1.1).bind fun y3 =>
 some ((),(y3.2.1,y2.2.2.1,(true,()),()))
 )
 )
def Yn:Su:=⟨[.c false [q5],.c false [ki],.c false [ki]],[(false,[ki]),(false,[ki]),(false,[.bool])],true,.inl fun x=>Hl x.1.1 x.2.1.1 x.2.2.1.1⟩
theorem Ve:ar Tryz.prog 250 Yn :=
 fq (ac nJ (ac JC (ac PX an))) Tryz.f250
def nT (t0:List UInt8) (t5 t6:Int):Rd S5 Y1 :=
 cond (au t6 t5) (
 cond (aR t6 t0) (
 let u1:=(dx t0 t6)
 cond (au u1 32) (
 some (.inr (.inr (false,())))
 ) (
 cond (aR t6 t0) (
 cond (au 126 u1) (
 some (.inr (.inr (false,())))
 ) (
 some (.inl (t0,t5,(aj .i64 t6 1),()))
 )
 ) none
 )
 ) none
 ) (
 some (.inr (.inl (t0,t5,t6,())))
 )
def I1:=kt (af (dn nT))
def FC (p0:List UInt8):Option ed :=
 (I1 p0 (ae p0) 0).bind (Sum.elim (fun _ =>
 c2
 ) (fun y1 =>
 some ((),(y1,()))
 ))
def aaf:Su:=⟨[.c false [.str]],[(false,[.bool])],true,.inl fun x=>FC x.1.1⟩
theorem WR:ar Tryz.prog 293 aaf :=
 fl an [.d 2 .bool] [(0,⟨[.d 0 .str,.d 5 ki,.d 6 ki],af (dn nT)⟩)] [] Tryz.f293 (lp [0] (sc cM sn))
def yb (p0:Int) (p1:List UInt8):Option ed :=
 (GF p0).bind fun y1 =>
 cond (aq y1.2.1.2.1 1) (
 let u1:=(uf p1)
 Option.bind u1 fun y2 =>
 let u2:=(ae p1)
 some ((),(((cond y2.2.1.1 (aq u2 y1.2.1.2.2.1) false),()),()))
 ) (
 cond (aq y1.2.1.2.1 2) (
 let u1:=(FC p1)
 Option.bind u1 fun y2 =>
 let u2:=(ae p1)
 some ((),(((cond y2.2.1.1 (aq u2 y1.2.1.2.2.1) false),()),()))
 ) (
 cond (aq y1.2.1.2.1 3) (
 let u1:=(uf p1)
 Option.bind u1 fun y2 =>
 cond y2.2.1.1 (
 let u2:=(ae p1)
 let u3:=(nL u2 1 y1.2.1.2.2.1)
 Option.bind u3 fun y3 =>
 some ((),(y3.2.1,()))
 ) (
 c0
 )
 ) (
 cond (aq y1.2.1.2.1 4) (
 let u1:=(FC p1)
 Option.bind u1 fun y2 =>
 cond y2.2.1.1 (
 let u2:=(ae p1)
 let u3:=(nL u2 1 y1.2.1.2.2.1)
 Option.bind u3 fun y3 =>
 some ((),(y3.2.1,()))
 ) (
 c0
 )
 ) (
 cond (aq y1.2.1.2.1 5) (
 let u1:=(FC p1)
 Option.bind u1 fun y2 =>
 cond y2.2.1.1 (
 let u2:=(ae p1)
 let u3:=(nL u2 1 y1.2.1.2.2.1)
 Option.bind u3 fun y3 =>
 some ((),(y3.2.1,()))
 ) (
 c0
 )
 ) (
 c0
 )
 )
 )
 )
 )
def aa8:Su:=⟨[.c false [ki],.c false [.str]],[(false,[.bool])],true,.inl fun x=>yb x.1.1 x.2.1.1⟩
theorem P5:ar Tryz.prog 252 aa8 :=
 fq (ac nJ (ac yp (ac K9 (ac WR an)))) Tryz.f252
def KW (p0:List R5) (p1 p2:Int):Option Wy :=
 (M4 p2).bind fun y1 =>
 (DR p2).bind fun y2 =>
 cond (cond (cond (aq y2.2.1.1 3) true (aq y2.2.1.1 4)) true (aq y2.2.1.1 5)) (
 (N5 p2).bind fun y3 =>
 (Hl p0 p1 y3.2.1.1).bind fun y4 =>
 cond (!y4.2.2.2.1.1) (
 c4
 ) (
 let u1:=(cond (aq y2.2.1.1 1) true (aq y2.2.1.1 3))
 cond u1 (
 (zp p0 y4.2.2.1.1 y4.2.1.1).bind fun y5 =>
 cond (!y5.2.2.2.1.1) (
 c4
 ) (
 (yb p2 y5.2.1.1).bind fun y6 =>
 cond (!y6.2.1.1) (
 c4
 ) (
 some ((),(y5.2.1,y5.2.2.1,(true,()),()))
 )
 )
 ) (
 (As p0 y4.2.2.1.1 y4.2.1.1).bind fun y5 =>
 cond (!y5.2.2.1.1) (
 c4
 ) (
 let u2:=(strOf y5.2.1.1)
 (yb p2 u2).bind fun y6 =>
 cond (!y6.2.1.1) (
 c4
 ) (
 some ((),((u2,()),((aj .i64 y4.2.2.1.1 y4.2.1.1),()),(true,()),()))
 )
 )
 )
 )
 ) (
 let u1:=(cond (aq y2.2.1.1 1) true (aq y2.2.1.1 3))
 cond u1 (
 (zp p0 p1 y1.2.1.1).bind fun y3 =>
 cond (!y3.2.2.2.1.1) (
 c4
 ) (
 (yb p2 y3.2.1.1).bind fun y4 =>
 cond (!y4.2.1.1) (
 c4
 ) (
 some ((),(y3.2.1,y3.2.2.1,(true,()),()))
 )
 )
 ) (
 (As p0 p1 y1.2.1.1).bind fun y3 =>
 cond (!y3.2.2.1.1) (
 c4
 ) (
 let u2:=(strOf y3.2.1.1)
 (yb p2 u2).bind fun y4 =>
 cond (!y4.2.1.1) (
 c4
 ) (
 some ((),((u2,()),((aj .i64 p1 y1.2.1.1),()),(true,()),()))
 )
 )
 )
 )
def aaW:Su:=⟨[.c false [q5],.c false [ki],.c false [ki]],[(false,[.str]),(false,[ki]),(false,[.bool])],true,.inl fun x=>KW x.1.1 x.2.1.1 x.2.2.1.1⟩
theorem T6:ar Tryz.prog 196 aaW :=
 fq (ac Lp (ac JC (ac IS (ac Tp (ac Wp (ac Ve (ac P5 an))))))) Tryz.f196
def qa (t0:List R5) (t4:List UInt8) (t5:Int) (t8:List R3) (t9:Bool) (t41:List R3) (t42 t43:Int) (b2:(List UInt8)×(List iI)×Unit):Rd ((List R5)×(List UInt8)×Int×(List R3)×Bool×(List R3)×Int×Int×CG×Unit) Xh :=
 cond (au t43 t42) (
 cond (aR t43 t41) (
 let u1:=(gt d3 t41 t43)
 cond (aq u1.1 1) (
 let u2:=(aj .i64 t43 1)
 some (.inl (t0,t4,t5,t8,true,t41,t42,u2,b2,()))
 ) (
 (DR u1.1).bind fun y1 =>
 cond (aq y1.2.1.1 0) (
 some (.inr (.inr (2,([],[],()),())))
 ) (
 cond (bY 8 t8 [u1]) (
 let u2:=(aj .i64 t43 1)
 some (.inl (t0,t4,t5,(jn t8 [u1]),t9,t41,t42,u2,b2,()))
 ) none
 )
 )
 ) none
 ) (
 some (.inr (.inl (t0,t4,t5,t8,t9,t41,t42,t43,b2,())))
 )
def Kb:=TB (af (Dl qa))
def oz (t0:List R5) (t4:List UInt8) (t5:Int) (t8 t76:List R3) (t77 t78:Int) (b2:(List UInt8)×(List iI)×Unit):Rd ((List R5)×(List UInt8)×Int×(List R3)×(List R3)×Int×Int×CG×Unit) Xh :=
 cond (au t78 t77) (
 cond (aR t78 t76) (
 let u1:=(aj .i64 (gt d3 t76 t78).1 64)
 (DR u1).bind fun y1 =>
 cond (aq y1.2.1.1 0) (
 some (.inr (.inr (2,([],[],()),())))
 ) (
 cond (bY 8 t8 [(u1,())]) (
 some (.inl (t0,t4,t5,(jn t8 [(u1,())]),t76,t77,(aj .i64 t78 1),b2,()))
 ) none
 )
 ) none
 ) (
 some (.inr (.inl (t0,t4,t5,t8,t76,t77,t78,b2,())))
 )
def IT:=SW (af (yV oz))
def oa (t0:List R5) (t5:Int) (t95:List R3) (t96 t97:Int) (b2 b15:(List UInt8)×(List iI)×Unit):Rd ((List R5)×Int×(List R3)×Int×Int×CG×CG×Unit) Xh :=
 cond (au t97 t96) (
 cond (aR t97 t95) (
 (KW t0 t5 (gt d3 t95 t97).1).bind fun y1 =>
 cond (!y1.2.2.2.1.1) (
 some (.inr (.inr (3,([],[],()),())))
 ) (
 cond (bY 24 b15.2.1 [((gt d3 t95 t97).1,y1.2.1.1,())]) (
 some (.inl (t0,y1.2.2.1.1,t95,t96,(aj .i64 t97 1),b2,(b15.1,(jn b15.2.1 [((gt d3 t95 t97).1,y1.2.1.1,())]),()),()))
 ) none
 )
 ) none
 ) (
 some (.inr (.inl (t0,t5,t95,t96,t97,b2,b15,())))
 )
def Ax:=Xl (af (Kl oa))
def Om (p0:List R5):Option (Unit×(CG×Y0×Unit)) :=
 (zp p0 0 4).bind fun y1 =>
 cond (!y1.2.2.2.1.1) (
 some ((),(([],[],()),(1,()),()))
 ) (
 (Bi p0 y1.2.2.1.1).bind fun y2 =>
 cond (!y2.2.2.2.1.1) (
 Ya
 ) (
 (Kb p0 y1.2.1.1 y2.2.2.1.1 [] false y2.2.1.1 (ae y2.2.1.1) 0 ([],[],())).bind (Sum.elim (fun y3 =>
 cond y3.2.2.2.2.1 (
 (Bi y3.1 y3.2.2.1).bind fun y4 =>
 let u1:=(ae y4.2.1.1)
 cond (cond (!y4.2.2.2.1.1) true (aq u1 0)) (
 Ya
 ) (
 (IT y3.1 y3.2.1 y4.2.2.1.1 y3.2.2.2.1 y4.2.1.1 u1 0 y3.2.2.2.2.2.2.2.2.1).bind (Sum.elim (fun y5 =>
 (Ax y5.1 y5.2.2.1 y5.2.2.2.1 (ae y5.2.2.2.1) 0 y5.2.2.2.2.2.2.2.1 (y5.2.1,[],())).bind (Sum.elim (fun y6 =>
 cond (!(aq y6.2.1 (ae y6.1))) (
 ZE
 ) (
 some ((),(y6.2.2.2.2.2.2.1,(0,()),()))
 )
 ) (fun y6 =>
 some ((),(y6.2.1,(y6.1,()),()))
 ))
 ) (fun y5 =>
 some ((),(y5.2.1,(y5.1,()),()))
 ))
 )
 ) (
 (Ax y3.1 y3.2.2.1 y3.2.2.2.1 (ae y3.2.2.2.1) 0 y3.2.2.2.2.2.2.2.2.1 (y3.2.1,[],())).bind (Sum.elim (fun y4 =>
 cond (!(aq y4.2.1 (ae y4.1))) (
 ZE
 ) (
 some ((),(y4.2.2.2.2.2.2.1,(0,()),()))
 )
 ) (fun y4 =>
 some ((),(y4.2.1,(y4.1,()),()))
 ))
 )
 ) (fun y3 =>
 some ((),(y3.2.1,(y3.1,()),()))
 ))
 )
 )
def aaH:Su:=⟨[.c false [q5]],[(true,[.str,iF]),(false,[ki])],true,.inl fun x=>Om x.1.1⟩
theorem VC:ar Tryz.prog 150 aaH :=
 fl (ac JC (ac Wd (ac IS (ac T6 an)))) [.d 3 ki,.box 2 [(false,.str),(true,iF)]] [(0,⟨[.d 0 q5,.d 4 .str,.d 5 ki,.own 8 q3,.d 9 .bool,.own 41 q3,.d 42 ki,.d 43 ki,.box 2 [(false,.str),(true,iF)]],af (Dl qa)⟩),(3,⟨[.d 0 q5,.d 4 .str,.d 5 ki,.own 8 q3,.own 76 q3,.d 77 ki,.d 78 ki,.box 2 [(false,.str),(true,iF)]],af (yV oz)⟩),(5,⟨[.d 0 q5,.d 5 ki,.own 95 q3,.d 96 ki,.d 97 ki,.box 2 [(false,.str),(true,iF)],.box 15 [(false,.str),(true,iF)]],af (Kl oa)⟩)] [] Tryz.f150 (lp [0,3,5] (sc cM (sc cM (sc cM sn))))
def qd (t6:List iI) (t7 t8:Int) (b1:(List UInt8)×(List iI)×Unit):Rd ((List iI)×Int×Int×CG×Unit) Y1 :=
 cond (au t8 t7) (
 cond (aR t8 t6) (
 let u1:=(gt d175 t6 t8)
 (yb u1.1 u1.2.1).bind fun y1 =>
 cond (!y1.2.1.1) (
 some (.inr (.inr (false,())))
 ) (
 cond (au 0 t8) (
 let u2:=(aM .i64 t8 1)
 cond (aR u2 b1.2.1) (
 cond (bH u1.1 (gt d175 b1.2.1 u2).1) (
 some (.inr (.inr (false,())))
 ) (
 some (.inl (t6,t7,(aj .i64 t8 1),b1,()))
 )
 ) none
 ) (
 some (.inl (t6,t7,(aj .i64 t8 1),b1,()))
 )
 )
 ) none
 ) (
 some (.inr (.inl (t6,t7,t8,b1,())))
 )
def CK:=mj (af (cV qd))
def L6 (p0:(List UInt8)×(List iI)×Unit):Option ed :=
 (CK p0.2.1 (ae p0.2.1) 0 p0).bind (Sum.elim (fun y1 =>
 (wY y1.2.2.2.1.1 4).bind fun y2 =>
 some ((),(y2.2.1,()))
 ) (fun y1 =>
 some ((),(y1,()))
 ))
def ZI:Su:=⟨[.c true [.str,iF]],[(false,[.bool])],true,.inl fun x=>L6 x.1⟩
theorem Tz:ar Tryz.prog 209 ZI :=
 fl (ac JG (ac P5 an)) [.d 2 .bool] [(0,⟨[.d 6 iF,.d 7 ki,.d 8 ki,.box 1 [(false,.str),(false,iF)]],af (cV qd)⟩)] [] Tryz.f209 (lp [0] (sc cM sn))
def Rm (p0:List UInt8):Option ed :=
 some ((),(((cond (cond (cr p0 [48,49,48,48]) true (cr p0 [48,50,48,48])) true (cr p0 [48,50,50,48])),()),()))
def aad:Su:=⟨[.c false [.str]],[(false,[.bool])],true,.inl fun x=>Rm x.1.1⟩
theorem Wf:ar Tryz.prog 210 aad :=
 fq an Tryz.f210
def qb (t1:Int) (t9:List iI) (t10 t11:Int):Rd (Int×(List iI)×Int×Int×Unit) ((List UInt8)×Bool×Unit) :=
 cond (au t11 t10) (
 cond (aR t11 t9) (
 let u1:=(gt d175 t9 t11)
 cond (aq u1.1 t1) (
 some (.inr (.inr (u1.2.1,true,())))
 ) (
 some (.inl (t1,t9,t10,(aj .i64 t11 1),()))
 )
 ) none
 ) (
 some (.inr (.inl (t1,t9,t10,t11,())))
 )
def Ja:=mj (af (cV qb))
def G4 (p0:(List UInt8)×(List iI)×Unit) (p1:Int):Option (Unit×(Y8×Y1×Unit)) :=
 (Ja p1 p0.2.1 (ae p0.2.1) 0).bind (Sum.elim (fun _ =>
 some ((),(([],()),(false,()),()))
 ) (fun y1 =>
 some ((),((y1.1,()),(y1.2.1,()),()))
 ))
def Yj:Su:=⟨[.c true [.str,iF],.c false [ki]],[(false,[.str]),(false,[.bool])],true,.inl fun x=>G4 x.1 x.2.1.1⟩
theorem Th:ar Tryz.prog 151 Yj :=
 fl an [.d 4 .str,.d 5 .bool] [(0,⟨[.d 1 ki,.d 9 iF,.d 10 ki,.d 11 ki],af (cV qb)⟩)] [] Tryz.f151 (lp [0] (sc cM sn))
def L3  : Option (Unit×(((List Gt)×Unit)×Unit)) :=
 some ((),(([([48,49,48,48],[48,48],[97,117,116,104],[(4,()),(14,()),(38,())],()),([48,49,48,48],[48,50],[109,111,114,101],[(4,()),(38,())],()),([48,50,50,48],[48,49],[112,97,114,116],[(4,()),(38,())],()),([48,50,50,48],[48,48],[102,105,110,97,108],[(4,()),(38,())],()),([48,50,50,48],[50,48],[102,114,101,101],[(38,())],()),([48,50,48,48],[52,48],[109,111,118,101],[(38,()),(103,())],()),([48,49,48,48],[51,49],[97,115,107],[],()),([48,50,48,48],[57,48],[115,119,101,101,112],[],())],()),()))
def abg:Su:=⟨[],[(false,[.sl 198 E5])],false,.inl fun x=>L3 ⟩
theorem OE:ar Tryz.prog 212 abg :=
 fl an [] [] [999999] Tryz.f212 cM
def Qs (p0:(List UInt8)×(List UInt8)×(List UInt8)×(List R3)×Unit) (p1:(List UInt8)×(List iI)×Unit) (p2:(List UInt8)×Unit):Option ed :=
 cond (cr p0.1 p1.1) (
 cond (dP 0 2 p2.1) (
 some ((),(((cr p0.2.1 (sub p2.1 0 2)),()),()))
 ) none
 ) (
 c0
 )
def Yi:Su:=⟨[.c true [.str,.str,.str,q3],.pt [.str,iF],.pt [.str]],[(false,[.bool])],true,.inl fun x=>Qs x.1 x.2.1 x.2.2.1⟩
theorem VE:ar Tryz.prog 213 Yi :=
 fq an Tryz.f213
def pG (t0:List Gt) (f1:CG×Y8×Unit) (t7 t8:Int):Rd ((List Gt)×(CG×Y8×Unit)×Int×Int×Unit) Y0 :=
 cond (au t8 t7) (
 cond (aR t8 t0) (
 (Qs (gt d198 t0 t8) f1.1 f1.2.1).bind fun y1 =>
 cond y1.2.1.1 (
 some (.inr (.inr (t8,())))
 ) (
 some (.inl (t0,f1,t7,(aj .i64 t8 1),()))
 )
 ) none
 ) (
 some (.inr (.inl (t0,f1,t7,t8,())))
 )
def RZ:=mj (af (cV pG))
def Nv (p0:List Gt) (c1_0:(List UInt8)×(List iI)×Unit) (c1_1:(List UInt8)×Unit):Option gX :=
 (RZ p0 (c1_0,c1_1,()) (ae p0) 0).bind (Sum.elim (fun _ =>
 c3
 ) (fun y1 =>
 some ((),(y1,()))
 ))
def Zj:Su:=⟨[.c false [.sl 198 E5],.fn 213 [.p [.str,iF],.p [.str]]],[(false,[ki])],true,.inl fun x=>Nv x.1.1 x.2.1.1 x.2.1.2.1⟩
theorem Tx:ar Tryz.prog 211 Zj :=
 fl (ac VE an) [.d 4 ki] [(0,⟨[.d 0 (.sl 198 E5),.fn 1 213 [.p [.str,iF],.p [.str]],.d 7 ki,.d 8 ki],af (cV pG)⟩)] [] Tryz.f211 (lp [0] (sc cM sn))
def Af (p0:Int):Option (Unit×(Gt×Unit)) :=
 (nL p0 1 8).bind fun y1 =>
 cond (!y1.2.1.1) (
 some ((),(([],[],[],[],()),()))
 ) (
 (L3).bind fun y2 =>
 let u1:=(aM .i64 p0 1)
 cond (aR u1 y2.2.1.1) (
 some ((),((gt d198 y2.2.1.1 u1),()))
 ) none
 )
def abm:Su:=⟨[.c false [ki]],[(true,[.str,.str,.str,q3])],false,.inl fun x=>Af x.1.1⟩
theorem IZ:ar Tryz.prog 214 abm :=
 fl (ac nJ (ac OE an)) [] [] [999999] Tryz.f214 cM
def pS (t0:List R3) (t1 t7 t8:Int):Rd ((List R3)×Int×Int×Int×Unit) Y0 :=
 cond (au t8 t7) (
 cond (aR t8 t0) (
 cond (aq t1 (gt d3 t0 t8).1) (
 some (.inr (.inr (t8,())))
 ) (
 some (.inl (t0,t1,t7,(aj .i64 t8 1),()))
 )
 ) none
 ) (
 some (.inr (.inl (t0,t1,t7,t8,())))
 )
def I0:=mj (af (cV pS))
def Rj (p0:List R3) (p1:Int):Option gX :=
 (I0 p0 p1 (ae p0) 0).bind (Sum.elim (fun _ =>
 c3
 ) (fun y1 =>
 some ((),(y1,()))
 ))
def Yx:Su:=⟨[.c false [q3],.c false [ki]],[(false,[ki])],true,.inl fun x=>Rj x.1.1 x.2.1.1⟩
theorem Vl:ar Tryz.prog 134 Yx :=
 fl an [.d 4 ki] [(0,⟨[.d 0 q3,.d 1 ki,.d 7 ki,.d 8 ki],af (cV pS)⟩)] [] Tryz.f134 (lp [0] (sc cM sn))
def Rc (p0:List R3) (p1:Int):Option ed :=
 (Rj p0 p1).bind fun y1 =>
 some ((),(((bH 0 y1.2.1.1),()),()))
def s76:Su:=⟨[.c false [q3],.c false [ki]],[(false,[.bool])],true,.inl fun x=>Rc x.1.1 x.2.1.1⟩
theorem SA:ar Tryz.prog 76 s76 :=
 fq (ac Vl an) Tryz.f76
def kB (p0 p1:Int):Option ed :=
 (Af p0).bind fun y1 =>
 (Rc y1.2.1.2.2.2.1 p1).bind fun y2 =>
 some ((),(y2.2.1,()))
def Yw:Su:=⟨[.c false [ki],.c false [ki]],[(false,[.bool])],true,.inl fun x=>kB x.1.1 x.2.1.1⟩
theorem TO:ar Tryz.prog 273 Yw :=
 fq (ac IZ (ac SA an)) Tryz.f273
def KE (p0:Int×(List UInt8)×(List UInt8)×(List UInt8)×(List UInt8)×(List UInt8)×Int×Int×Unit):Option ed :=
 (Af p0.1).bind fun y1 =>
 cond (cond (cr y1.2.1.2.2.1 []) true (!(cr p0.2.2.2.2.2.1 y1.2.1.1))) (
 c0
 ) (
 (si p0.2.1).bind fun y2 =>
 cond (!y2.2.1.1) (
 c0
 ) (
 (wY p0.2.2.2.2.1 6).bind fun y3 =>
 cond (!y3.2.1.1) (
 c0
 ) (
 (kB p0.1 38).bind fun y4 =>
 cond y4.2.1.1 (
 (IC p0.2.2.2.1).bind fun y5 =>
 let u1:=(kB p0.1 4)
 Option.bind u1 fun y6 =>
 cond y6.2.1.1 (
 let u2:=(nL p0.2.2.2.2.2.2.1 0 999999999999)
 Option.bind u2 fun y7 =>
 let u3:=(kB p0.1 14)
 Option.bind u3 fun y8 =>
 cond y8.2.1.1 (
 let u4:=(nL p0.2.2.2.2.2.2.2.1 0 9999)
 Option.bind u4 fun y9 =>
 let u5:=(kB p0.1 103)
 Option.bind u5 fun y10 =>
 cond y10.2.1.1 (
 let u6:=(si p0.2.2.1)
 Option.bind u6 fun y11 =>
 let u7:=(cond y5.2.1.1 y7.2.1.1 false)
 let u8:=(cond u7 y9.2.1.1 false)
 some ((),(((cond u8 y11.2.1.1 false),()),()))
 ) (
 let u6:=(cond y5.2.1.1 y7.2.1.1 false)
 let u7:=(cond u6 y9.2.1.1 false)
 let u8:=(cr p0.2.2.1 [])
 some ((),(((cond u7 u8 false),()),()))
 )
 ) (
 let u4:=(kB p0.1 103)
 Option.bind u4 fun y9 =>
 cond y9.2.1.1 (
 let u5:=(si p0.2.2.1)
 Option.bind u5 fun y10 =>
 let u6:=(cond y5.2.1.1 y7.2.1.1 false)
 let u7:=(cond u6 (aq p0.2.2.2.2.2.2.2.1 0) false)
 some ((),(((cond u7 y10.2.1.1 false),()),()))
 ) (
 let u5:=(cond y5.2.1.1 y7.2.1.1 false)
 let u6:=(cond u5 (aq p0.2.2.2.2.2.2.2.1 0) false)
 let u7:=(cr p0.2.2.1 [])
 some ((),(((cond u6 u7 false),()),()))
 )
 )
 ) (
 let u2:=(kB p0.1 14)
 Option.bind u2 fun y7 =>
 cond y7.2.1.1 (
 let u3:=(nL p0.2.2.2.2.2.2.2.1 0 9999)
 Option.bind u3 fun y8 =>
 let u4:=(kB p0.1 103)
 Option.bind u4 fun y9 =>
 cond y9.2.1.1 (
 let u5:=(si p0.2.2.1)
 Option.bind u5 fun y10 =>
 let u6:=(cond y5.2.1.1 (aq p0.2.2.2.2.2.2.1 0) false)
 let u7:=(cond u6 y8.2.1.1 false)
 some ((),(((cond u7 y10.2.1.1 false),()),()))
 ) (
 let u5:=(cond y5.2.1.1 (aq p0.2.2.2.2.2.2.1 0) false)
 let u6:=(cond u5 y8.2.1.1 false)
 let u7:=(cr p0.2.2.1 [])
 some ((),(((cond u6 u7 false),()),()))
 )
 ) (
 let u3:=(kB p0.1 103)
 Option.bind u3 fun y8 =>
 cond y8.2.1.1 (
 let u4:=(si p0.2.2.1)
 Option.bind u4 fun y9 =>
 let u5:=(cond y5.2.1.1 (aq p0.2.2.2.2.2.2.1 0) false)
 let u6:=(cond u5 (aq p0.2.2.2.2.2.2.2.1 0) false)
 some ((),(((cond u6 y9.2.1.1 false),()),()))
 ) (
 let u4:=(cond y5.2.1.1 (aq p0.2.2.2.2.2.2.1 0) false)
 let u5:=(cond u4 (aq p0.2.2.2.2.2.2.2.1 0) false)
 let u6:=(cr p0.2.2.1 [])
 some ((),(((cond u5 u6 false),()),()))
 )
 )
 )
 ) (
 let u1:=(kB p0.1 4)
 Option.bind u1 fun y5 =>
 cond y5.2.1.1 (
 let u2:=(nL p0.2.2.2.2.2.2.1 0 999999999999)
 Option.bind u2 fun y6 =>
 let u3:=(kB p0.1 14)
 Option.bind u3 fun y7 =>
 cond y7.2.1.1 (
 let u4:=(nL p0.2.2.2.2.2.2.2.1 0 9999)
 Option.bind u4 fun y8 =>
 let u5:=(kB p0.1 103)
 Option.bind u5 fun y9 =>
 cond y9.2.1.1 (
 let u6:=(si p0.2.2.1)
 Option.bind u6 fun y10 =>
 let u7:=(cr p0.2.2.2.1 [])
 let u8:=(cond u7 y6.2.1.1 false)
 let u9:=(cond u8 y8.2.1.1 false)
 some ((),(((cond u9 y10.2.1.1 false),()),()))
 ) (
 let u6:=(cr p0.2.2.2.1 [])
 let u7:=(cond u6 y6.2.1.1 false)
 let u8:=(cond u7 y8.2.1.1 false)
 let u9:=(cr p0.2.2.1 [])
 some ((),(((cond u8 u9 false),()),()))
 )
 ) (
 let u4:=(kB p0.1 103)
 Option.bind u4 fun y8 =>
 cond y8.2.1.1 (
 let u5:=(si p0.2.2.1)
 Option.bind u5 fun y9 =>
 let u6:=(cr p0.2.2.2.1 [])
 let u7:=(cond u6 y6.2.1.1 false)
 let u8:=(cond u7 (aq p0.2.2.2.2.2.2.2.1 0) false)
 some ((),(((cond u8 y9.2.1.1 false),()),()))
 ) (
 let u5:=(cr p0.2.2.2.1 [])
 let u6:=(cond u5 y6.2.1.1 false)
 let u7:=(cond u6 (aq p0.2.2.2.2.2.2.2.1 0) false)
 let u8:=(cr p0.2.2.1 [])
 some ((),(((cond u7 u8 false),()),()))
 )
 )
 ) (
 let u2:=(kB p0.1 14)
 Option.bind u2 fun y6 =>
 cond y6.2.1.1 (
 let u3:=(nL p0.2.2.2.2.2.2.2.1 0 9999)
 Option.bind u3 fun y7 =>
 let u4:=(kB p0.1 103)
 Option.bind u4 fun y8 =>
 cond y8.2.1.1 (
 let u5:=(si p0.2.2.1)
 Option.bind u5 fun y9 =>
 let u6:=(cr p0.2.2.2.1 [])
 let u7:=(cond u6 (aq p0.2.2.2.2.2.2.1 0) false)
 let u8:=(cond u7 y7.2.1.1 false)
 some ((),(((cond u8 y9.2.1.1 false),()),()))
 ) (
 let u5:=(cr p0.2.2.2.1 [])
 let u6:=(cond u5 (aq p0.2.2.2.2.2.2.1 0) false)
 let u7:=(cond u6 y7.2.1.1 false)
 let u8:=(cr p0.2.2.1 [])
 some ((),(((cond u7 u8 false),()),()))
 )
 ) (
 let u3:=(kB p0.1 103)
 Option.bind u3 fun y7 =>
 cond y7.2.1.1 (
 let u4:=(si p0.2.2.1)
 Option.bind u4 fun y8 =>
 let u5:=(cr p0.2.2.2.1 [])
 let u6:=(cond u5 (aq p0.2.2.2.2.2.2.1 0) false)
 let u7:=(cond u6 (aq p0.2.2.2.2.2.2.2.1 0) false)
 some ((),(((cond u7 y8.2.1.1 false),()),()))
 ) (
 let u4:=(cr p0.2.2.2.1 [])
 let u5:=(cond u4 (aq p0.2.2.2.2.2.2.1 0) false)
 let u6:=(cond u5 (aq p0.2.2.2.2.2.2.2.1 0) false)
 let u7:=(cr p0.2.2.1 [])
 some ((),(((cond u6 u7 false),()),()))
 )
 )
 )
 )
 )
 )
 )
def YW:Su:=⟨[.c true [ki,.str,.str,.str,.str,.str,ki,ki]],[(false,[.bool])],true,.inl fun x=>KE x.1⟩
theorem VJ:ar Tryz.prog 217 YW :=
 fq (ac nJ (ac O3 (ac Pw (ac JG (ac IZ (ac TO an)))))) Tryz.f217
end
end Go.Av
