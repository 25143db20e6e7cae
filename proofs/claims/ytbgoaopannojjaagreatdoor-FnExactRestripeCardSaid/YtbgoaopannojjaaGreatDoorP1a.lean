/- Part of a proof that the law FnExactRestripe answers true for every input: the printed functions of this program and their plain laws. No conditions beyond the statement. -/
import Derived.Test.YtbgoaopannojjaaGreatDoorFw4
import Derived.Test.YtbgoaopannojjaaGreatDoorFw3
import Derived.WalkKit
import Derived.Lib.Walk
import Derived.Lib.SliceRun
import Derived.Shelf.Spec.SlicesInsert
import Derived.Test.YtbgoaopannojjaaGreatDoorProg
set_option maxRecDepth 100000
namespace Go.Av
open Go.Proofs
set_option maxHeartbeats 4000000
noncomputable section
def BP:List K:=[.str,.int .i64,.int .i64]
def l0:List K:=[.int .i64]
def uM:List K:=[.int .u8]
def BQ:List K:=[.str,.str,.sl 5 uM]
def xI:List K:=[.str,.int .i64,.int .i64,.int .i64,.int .i64,.sl 253 BP,.int .i64,.int .i64,.sl 3 l0,.sl 3 l0,.sl 255 BQ]
def Ig:List K:=[.int .i64,.sl 164 xI]
def Ix:List K:=[.sl 5 uM,.int .i64,.sl 3 l0,.int .i64,.int .i64,.int .i64,.int .i64,.int .i64,.sl 5 uM]
def CL:List K:=[.str,.int .i64,.int .i64]
def wF:List K:=[.str,.str,.sl 5 uM]
def DO:List K:=[.str,.int .i64,.int .i64,.int .i64,.int .i64,.sl 95 CL,.int .i64,.int .i64,.sl 3 l0,.sl 3 l0,.sl 166 wF]
def No:List K:=[.int .i64,.sl 59 DO]
def OA:List K:=[.sl 5 uM,.int .i64,.sl 3 l0,.int .i64,.int .i64,.int .i64,.int .i64,.int .i64,.sl 5 uM]
def U8:List K:=[.str]
def FV:List K:=[.int .i64,.str]
def Fv:List K:=[.str,.str,.str,.sl 3 l0]
def I5:List K:=[.sl 3 l0]
def Ku:List K:=[.int .i64,.int .i64,.int .i64]
abbrev na:=((List UInt8)×Int×Int×Unit)
def d253:na:=([],0,0,())
abbrev R3:=(Int×Unit)
def d3:R3:=(0,())
abbrev R5:=(Int×Unit)
def d5:R5:=(0,())
abbrev mh:=((List UInt8)×(List UInt8)×(List R5)×Unit)
def d255:mh:=([],[],[],())
abbrev ia:=((List UInt8)×Int×Int×Int×Int×(List na)×Int×Int×(List R3)×(List R3)×(List mh)×Unit)
def d164:ia:=([],0,0,0,0,[],0,0,[],[],[],())
abbrev qp:=(Int×(List ia)×Unit)
def d81:qp:=(0,[],())
abbrev od:=((List R5)×Int×(List R3)×Int×Int×Int×Int×Int×(List R5)×Unit)
def d83:od:=([],0,[],0,0,0,0,0,[],())
abbrev gD:=((List UInt8)×Int×Int×Unit)
def d95:gD:=([],0,0,())
abbrev cD:=((List UInt8)×(List UInt8)×(List R5)×Unit)
def d166:cD:=([],[],[],())
abbrev de:=((List UInt8)×Int×Int×Int×Int×(List gD)×Int×Int×(List R3)×(List R3)×(List cD)×Unit)
def d59:de:=([],0,0,0,0,[],0,0,[],[],[],())
abbrev dy:=(Int×(List de)×Unit)
def d89:dy:=(0,[],())
abbrev fj:=((List R5)×Int×(List R3)×Int×Int×Int×Int×Int×(List R5)×Unit)
def d62:fj:=([],0,[],0,0,0,0,0,[],())
abbrev R9:=((List UInt8)×Unit)
def d9:R9:=([],())
abbrev iX:=(Int×(List UInt8)×Unit)
def d175:iX:=(0,[],())
abbrev Hs:=((List UInt8)×(List UInt8)×(List UInt8)×(List R3)×Unit)
def d198:Hs:=([],[],[],[],())
abbrev Qy:=((List R3)×Unit)
def d54:Qy:=([],())
abbrev DP:=(Int×Int×Int×Unit)
def d226:DP:=(0,0,0,())
def tt:List (Nat×TI):=[(2,⟨false,[.int .i64],0,8,[]⟩),
 (3,⟨false,[.int .i64],0,8,[]⟩),
 (4,⟨false,[.bool],0,1,[]⟩),
 (5,⟨false,[.int .u8],0,1,[]⟩),
 (6,⟨false,[.int .u8],0,1,[]⟩),
 (7,⟨true,[.int .i64,.int .i64,.bool,.int .u8],0,24,[(0,2),(1,3),(2,4),(3,6)]⟩),
 (8,⟨true,[.int .i64,.int .i64,.bool,.int .u8],0,24,[(0,2),(1,3),(2,4),(3,6)]⟩),
 (9,⟨false,[.str],0,16,[]⟩),
 (10,⟨false,[.str],0,16,[]⟩),
 (11,⟨false,[.str],0,16,[]⟩),
 (12,⟨false,[.int .u64],0,8,[]⟩),
 (13,⟨true,[.str,.int .u64],0,24,[(0,9),(1,12)]⟩),
 (14,⟨true,[.str,.int .u64],0,24,[(0,9),(1,12)]⟩),
 (21,⟨false,[.int .i32],0,4,[]⟩),
 (22,⟨false,[.sl 81 Ig],81,24,[]⟩),
 (23,⟨false,[.sl 83 Ix],83,24,[]⟩),
 (24,⟨true,[.sl 81 Ig,.int .i64,.int .i64,.sl 83 Ix],0,64,[(0,22),(1,3),(2,3),(3,23)]⟩),
 (25,⟨true,[.sl 81 Ig,.int .i64,.int .i64,.sl 83 Ix],0,64,[(0,22),(1,3),(2,3),(3,23)]⟩),
 (28,⟨false,[.sl 89 No],89,24,[]⟩),
 (29,⟨false,[.sl 62 OA],62,24,[]⟩),
 (30,⟨true,[.sl 89 No,.int .i64,.int .i64,.sl 62 OA],0,64,[(0,28),(1,3),(2,3),(3,29)]⟩),
 (31,⟨true,[.sl 89 No,.int .i64,.int .i64,.sl 62 OA],0,64,[(0,28),(1,3),(2,3),(3,29)]⟩),
 (39,⟨false,[.sl 5 uM],5,24,[]⟩),
 (49,⟨false,[.sl 59 DO],59,24,[]⟩),
 (50,⟨true,[.sl 59 DO],0,24,[(0,49)]⟩),
 (51,⟨true,[.sl 59 DO],0,24,[(0,49)]⟩),
 (53,⟨false,[.sl 95 CL],95,24,[]⟩),
 (54,⟨false,[.sl 3 l0],3,24,[]⟩),
 (55,⟨true,[.int .i64,.int .i64,.sl 3 l0,.sl 3 l0],0,64,[(0,3),(1,3),(2,54),(3,54)]⟩),
 (56,⟨true,[.int .i64,.int .i64,.sl 3 l0,.sl 3 l0],0,64,[(0,3),(1,3),(2,54),(3,54)]⟩),
 (57,⟨false,[.sl 166 wF],166,24,[]⟩),
 (58,⟨true,[.str,.int .i64,.int .i64,.int .i64,.int .i64,.sl 95 CL,.int .i64,.int .i64,.sl 3 l0,.sl 3 l0,.sl 166 wF],0,160,[(0,9),(1,3),(2,3),(3,3),(4,3),(5,53),(6,56),(10,57)]⟩),
 (59,⟨true,[.str,.int .i64,.int .i64,.int .i64,.int .i64,.sl 95 CL,.int .i64,.int .i64,.sl 3 l0,.sl 3 l0,.sl 166 wF],0,160,[(0,9),(1,3),(2,3),(3,3),(4,3),(5,53),(6,56),(10,57)]⟩),
 (61,⟨true,[.sl 5 uM,.int .i64,.sl 3 l0,.int .i64,.int .i64,.int .i64,.int .i64,.int .i64,.sl 5 uM],0,120,[(0,39),(1,3),(2,54),(3,3),(4,3),(5,3),(6,3),(7,3),(8,39)]⟩),
 (62,⟨true,[.sl 5 uM,.int .i64,.sl 3 l0,.int .i64,.int .i64,.int .i64,.int .i64,.int .i64,.sl 5 uM],0,120,[(0,39),(1,3),(2,54),(3,3),(4,3),(5,3),(6,3),(7,3),(8,39)]⟩),
 (79,⟨false,[.sl 164 xI],164,24,[]⟩),
 (80,⟨true,[.int .i64,.sl 164 xI],0,32,[(0,3),(1,79)]⟩),
 (81,⟨true,[.int .i64,.sl 164 xI],0,32,[(0,3),(1,79)]⟩),
 (83,⟨true,[.sl 5 uM,.int .i64,.sl 3 l0,.int .i64,.int .i64,.int .i64,.int .i64,.int .i64,.sl 5 uM],0,120,[(0,39),(1,3),(2,54),(3,3),(4,3),(5,3),(6,3),(7,3),(8,39)]⟩),
 (88,⟨true,[.int .i64,.sl 59 DO],0,32,[(0,3),(1,49)]⟩),
 (89,⟨true,[.int .i64,.sl 59 DO],0,32,[(0,3),(1,49)]⟩),
 (94,⟨true,[.str,.int .i64,.int .i64],0,32,[(0,9),(1,3),(2,3)]⟩),
 (95,⟨true,[.str,.int .i64,.int .i64],0,32,[(0,9),(1,3),(2,3)]⟩),
 (112,⟨false,[.sl 9 U8],9,24,[]⟩),
 (129,⟨false,[.sl 175 FV],175,24,[]⟩),
 (130,⟨true,[.str,.sl 175 FV],0,40,[(0,9),(1,129)]⟩),
 (131,⟨true,[.str,.sl 175 FV],0,40,[(0,9),(1,129)]⟩),
 (150,⟨true,[.int .i64,.str,.str,.str,.str,.str,.int .i64,.int .i64],0,104,[(0,3),(1,9),(2,9),(3,9),(4,9),(5,9),(6,3),(7,3)]⟩),
 (151,⟨true,[.int .i64,.str,.str,.str,.str,.str,.int .i64,.int .i64],0,104,[(0,3),(1,9),(2,9),(3,9),(4,9),(5,9),(6,3),(7,3)]⟩),
 (160,⟨false,[.sl 253 BP],253,24,[]⟩),
 (161,⟨true,[.int .i64,.int .i64,.sl 3 l0,.sl 3 l0],0,64,[(0,3),(1,3),(2,54),(3,54)]⟩),
 (162,⟨false,[.sl 255 BQ],255,24,[]⟩),
 (163,⟨true,[.str,.int .i64,.int .i64,.int .i64,.int .i64,.sl 253 BP,.int .i64,.int .i64,.sl 3 l0,.sl 3 l0,.sl 255 BQ],0,160,[(0,9),(1,3),(2,3),(3,3),(4,3),(5,160),(6,161),(10,162)]⟩),
 (164,⟨true,[.str,.int .i64,.int .i64,.int .i64,.int .i64,.sl 253 BP,.int .i64,.int .i64,.sl 3 l0,.sl 3 l0,.sl 255 BQ],0,160,[(0,9),(1,3),(2,3),(3,3),(4,3),(5,160),(6,161),(10,162)]⟩),
 (165,⟨true,[.str,.str,.sl 5 uM],0,56,[(0,9),(1,9),(2,39)]⟩),
 (166,⟨true,[.str,.str,.sl 5 uM],0,56,[(0,9),(1,9),(2,39)]⟩),
 (174,⟨true,[.int .i64,.str],0,24,[(0,3),(1,9)]⟩),
 (175,⟨true,[.int .i64,.str],0,24,[(0,3),(1,9)]⟩),
 (191,⟨false,[.int .u32],0,4,[]⟩),
 (194,⟨false,[.int .u64],0,8,[]⟩),
 (196,⟨false,[.sl 198 Fv],198,24,[]⟩),
 (197,⟨true,[.str,.str,.str,.sl 3 l0],0,72,[(0,9),(1,9),(2,9),(3,54)]⟩),
 (198,⟨true,[.str,.str,.str,.sl 3 l0],0,72,[(0,9),(1,9),(2,9),(3,54)]⟩),
 (212,⟨false,[.int .u64],0,8,[]⟩),
 (219,⟨false,[.sl 54 I5],54,24,[]⟩),
 (225,⟨true,[.int .i64,.int .i64,.int .i64],0,24,[(0,3),(1,3),(2,3)]⟩),
 (226,⟨true,[.int .i64,.int .i64,.int .i64],0,24,[(0,3),(1,3),(2,3)]⟩),
 (233,⟨false,[.int .i64],0,8,[]⟩),
 (253,⟨true,[.str,.int .i64,.int .i64],0,32,[(0,9),(1,3),(2,3)]⟩),
 (255,⟨true,[.str,.str,.sl 5 uM],0,56,[(0,9),(1,9),(2,39)]⟩),
 (261,⟨false,[.sl 226 Ku],226,24,[]⟩),
 (265,⟨false,[.int .u64],0,8,[]⟩),
 (284,⟨false,[.int .i64],0,8,[]⟩),
 (306,⟨true,[.str],0,16,[(0,9)]⟩),
 (307,⟨true,[.str],0,16,[(0,9)]⟩),
 (311,⟨true,[.int .u8,.int .u8],0,2,[(0,5),(1,5)]⟩),
 (312,⟨true,[.int .u8,.int .u8],0,2,[(0,5),(1,5)]⟩),
 (321,⟨false,[.int .u8],0,1,[]⟩),
 (322,⟨false,[.int .u8],0,1,[]⟩),
 (324,⟨false,[.int .i32],0,4,[]⟩),
 (325,⟨false,[.int .i32],0,4,[]⟩)]
def E0:En:=yK 0 tt [] [] (fun _=>none) [] fun _=>none
theorem hT:bK Tryz.prog E0:=M3 (by kernel_rfl)
theorem eu:Tryz.prog.follows .mixedOrders=true:=by kernel_rfl
theorem fl {f:Nat} {s:Su} {l:List (Nat×SS)} (hl:qG Tryz.prog l) (ρ:List SE) (los:List (Nat×Lo ρ)) (pins:List Nat) (fn:Func)
 (hlo:VN Tryz.prog (Iz fn.ntmps tt l ρ los pins) (ak fn) (ak fn))
 (h : (Tryz.prog.funcs[f]?, (fn.name == "runtime.NumGoroutine"), fn.body.isSome) = (some fn, false, true) := by kernel_rfl)
 (ht:∀ x,(FK (Iz fn.ntmps tt l ρ los pins) (ak fn) fn.results.toList s.ps s.rs s.fresh x).run=s.uA x:=by intro x; kernel_rfl):ar Tryz.prog f s:=by
 simp only [adF] at h
 exact flq hT eu hl (fn:=fn) (by rw [h.1,h.2.1,h.2.2]) hlo ht
theorem fq {f:Nat} {s:Su} {l:List (Nat×SS)} (hl:qG Tryz.prog l) (fn:Func)
 (h : (Tryz.prog.funcs[f]?, (fn.name == "runtime.NumGoroutine"), fn.body.isSome, dM (fun _ => false) (ak fn)) = (some fn, false, true, []) := by kernel_rfl)
 (ht:∀ x,(FK (Iz fn.ntmps tt l [] [] []) (ak fn) fn.results.toList s.ps s.rs s.fresh x).run=s.uA x:=by intro x; kernel_rfl):ar Tryz.prog f s:=by
 simp only [adF] at h
 exact flq hT eu hl (fn:=fn) (by rw [h.1,h.2.1,h.2.2.1]) (lp (n:=fn.ntmps) (tt:=tt) (l:=l) (ρ:=[]) (los:=[]) (pins:=[]) [] sn h.2.2.2) ht
def nX:List UInt8:=[0,1,2,2,3,3,3,3,4,4,4,4,4,4,4,4,5,5,5,5,5,5,5,5,5,5,5,5,5,5,5,5,6,6,6,6,6,6,6,6,6,6,6,6,6,6,6,6,6,6,6,6,6,6,6,6,6,6,6,6,6,6,6,6,7,7,7,7,7,7,7,7,7,7,7,7,7,7,7,7,7,7,7,7,7,7,7,7,7,7,7,7,7,7,7,7,7,7,7,7,7,7,7,7,7,7,7,7,7,7,7,7,7,7,7,7,7,7,7,7,7,7,7,7,7,7,7,7,8,8,8,8,8,8,8,8,8,8,8,8,8,8,8,8,8,8,8,8,8,8,8,8,8,8,8,8,8,8,8,8,8,8,8,8,8,8,8,8,8,8,8,8,8,8,8,8,8,8,8,8,8,8,8,8,8,8,8,8,8,8,8,8,8,8,8,8,8,8,8,8,8,8,8,8,8,8,8,8,8,8,8,8,8,8,8,8,8,8,8,8,8,8,8,8,8,8,8,8,8,8,8,8,8,8,8,8,8,8,8,8,8,8,8,8,8,8,8,8,8,8,8,8,8,8,8,8]
abbrev Y0:=Nat×SS
abbrev Y1:=Int×Unit
abbrev Y2:=Bool×Unit
abbrev Y3:=(List R3)×Unit
abbrev Y5:=(List de)×Unit
abbrev Y9:=(List UInt8)×Unit
abbrev Y8:=Y1×Unit
abbrev Uh:=Int×(List de)×Unit
abbrev Wx:=(List UInt8)×Int×Unit
abbrev im:=Unit×Y8
abbrev dY:=Unit×(Y2×Unit)
abbrev Y22:=(List fj)×Int×Int×Unit
abbrev Zk:=(List de)×Int×Int×Unit
abbrev ZL:=(List R3)×Int×Bool×Unit
abbrev Uc:=(List UInt8)×Int×Int×Unit
abbrev Dz:=(List UInt8)×(List iX)×Unit
abbrev Ui:=Unit×(((List R9)×Unit)×Unit)
abbrev PN:=Unit×(Y3×Unit)
abbrev Y27:=(((List R9)×Unit)×Unit)×Unit
abbrev Y26:=(Y3×Unit)×Unit
abbrev Ug:=Unit×(((List dy)×Unit)×Unit)
abbrev Th:=Unit×(Y5×Unit)
abbrev PQ:=(Y5×Unit)×Unit
abbrev Y34:=Unit×(((List cD)×Unit)×Unit)
abbrev Nt:=Unit×(Y9×Unit)
abbrev zW:=(List dy)×Int×Int×(List fj)×Unit
abbrev Zo:=(List dy)×(List dy)×Int×Int×Unit
abbrev Y37:=(List de)×Int×Unit×Int×Int×Unit
abbrev Y7:=Unit×(Y1×Y2×Unit)
abbrev Yy:=(List cD)×(List cD)×Int×Int×Unit
abbrev YK:=Int×Dz×Unit
abbrev Y51:=Unit×((Int×Int×(List R3)×(List R3)×Unit)×Unit)
abbrev Y54:=Unit×(zW×Unit)
abbrev Zh:=Unit×(Y3×Y1×Y2×Unit)
abbrev Xm:=Unit×(Y9×Y1×Y2×Unit)
abbrev Y64:=Unit×(od×Unit)
abbrev S5:=Int×(List UInt8)×(List UInt8)×(List UInt8)×(List UInt8)×(List UInt8)×Int×Int×Unit
abbrev Y73:=Unit×(de×Unit)
abbrev ki:K:= .int .i64
abbrev Iw:K:= .sl 253 BP
abbrev q3:K:= .sl 3 l0
abbrev q5:K:= .sl 5 uM
abbrev Ip:K:= .sl 255 BQ
abbrev Hu:K:= .sl 164 xI
abbrev SR:K:= .sl 81 Ig
abbrev TL:K:= .sl 83 Ix
abbrev mE:K:= .sl 95 CL
abbrev dX:K:= .sl 166 wF
abbrev eH:K:= .sl 59 DO
abbrev eJ:K:= .sl 89 No
abbrev il:K:= .sl 62 OA
abbrev jf:K:= .sl 175 FV
abbrev q9:K:= .sl 9 U8
abbrev c0:Option dY:=some ((),((false,()),()))
abbrev c1:Option (Unit×(S5×Y1×Unit)):=some ((),((0,[],[],[],[],[],0,0,()),(1,()),()))
abbrev c2:Option dY:=some ((),((true,()),()))
abbrev c3:Option im:=some ((),(((-1),()),()))
abbrev c4:Option Xm:=some ((),(([],()),(0,()),(false,()),()))
abbrev c5:Option im:=some ((),((2,()),()))
abbrev c6:Option im:=some ((),((0,()),()))
abbrev c7:Option im:=some ((),((1,()),()))
abbrev c8:Option (Unit×(zW×Y2×Unit)):=some ((),(([],0,0,[],()),(false,()),()))
abbrev c9:Option Zh:=some ((),(([],()),(0,()),(false,()),()))
abbrev Zf:Option im:=some ((),((3,()),()))
abbrev YJ:Option Ug:=some ((),(([],()),()))
abbrev c12:Option Y7:=some ((),((0,()),(false,()),()))
abbrev c13:Option im:=some ((),((4,()),()))
abbrev c14:Option im:=some ((),((6,()),()))
abbrev c15:Option im:=some ((),((12,()),()))
abbrev c16:Option (Unit×(Y1×Y1×Y2×Unit)):=some ((),((0,()),(0,()),(false,()),()))
abbrev c17:Option (Unit×(Dz×Y1×Unit)):=some ((),(([],[],()),(2,()),()))
abbrev ZY:Option (Unit×(Dz×Y1×Unit)):=some ((),(([],[],()),(4,()),()))
abbrev c19:Option Nt:=some ((),(([],()),()))
abbrev c20:Option Ui:=some ((),(([],()),()))
abbrev c21:Option im:=some ((),((4611686018427387904,()),()))
abbrev c22:Option (Unit×(S5×Y1×Unit)):=some ((),((0,[],[],[],[],[],0,0,()),(2,()),()))
section
open Go.Shelf Go.RowKit Go.Lib
def sρ:Ren:=⟨fun | 129=>270 | 171=>79 | 172=>271 | 205=>329 | 243=>135 | 244=>304 | 245=>305 | 246=>184 | 247=>318 | 279=>319 | 280=>320 | 281=>321 | 282=>322 | 283=>234 | 284=>235 | 285=>236 | 286=>237 | 287=>327 | 316=>328 | 317=>287 | 318=>288 | 319=>289 | 320=>290 | 321=>333 | 322=>334 | 337=>314 | 338=>315 | n=>n,fun | 0=>0 | 2=>2 | 3=>3 | 4=>4 | 5=>5 | 9=>9 | 20=>20 | 21=>21 | 37=>39 | 46=>194 | 51=>191 | 53=>212 | 75=>242 | 76=>243 | 80=>314 | 85=>285 | 127=>304 | 143=>305 | 145=>307 | 167=>284 | 168=>287 | 171=>211 | 173=>215 | 175=>297 | 210=>300 | 212=>259 | 213=>260 | 232=>295 | 233=>296 | n=>n,fun | 15=>3 | 16=>4 | 17=>0 | 18=>1 | 19=>2 | n=>n⟩
theorem wH:LaysC.n172 Tryz.prog sρ:={ mixed:=by kernel_rfl,f129:=by kernel_rfl,f171:=by kernel_rfl,f172:=by kernel_rfl,f205:=by kernel_rfl,f243:=by kernel_rfl,f244:=by kernel_rfl,f245:=by kernel_rfl,f246:=by kernel_rfl,f247:=by kernel_rfl,f279:=by kernel_rfl,f280:=by kernel_rfl,f281:=by kernel_rfl,f282:=by kernel_rfl,f283:=by kernel_rfl,f284:=by kernel_rfl,f285:=by kernel_rfl,f286:=by kernel_rfl,f287:=by kernel_rfl,f316:=by kernel_rfl,f317:=by kernel_rfl,f318:=by kernel_rfl,f319:=by kernel_rfl,f320:=by kernel_rfl,f321:=by kernel_rfl,f322:=by kernel_rfl,f337:=by kernel_rfl,f338:=by kernel_rfl,t0:=by kernel_rfl,a0:=fun _=>by kernel_rfl,z0:=fun _=>by kernel_rfl,v0:=fun _=>by kernel_rfl,t2:=by kernel_rfl,a2:=fun _=>by kernel_rfl,z2:=fun _=>by kernel_rfl,v2:=fun _=>by kernel_rfl,t3:=by kernel_rfl,a3:=fun _=>by kernel_rfl,z3:=fun _=>by kernel_rfl,v3:=fun _=>by kernel_rfl,t4:=by kernel_rfl,a4:=fun _=>by kernel_rfl,z4:=fun _=>by kernel_rfl,v4:=fun _=>by kernel_rfl,t5:=by kernel_rfl,a5:=fun _=>by kernel_rfl,z5:=fun _=>by kernel_rfl,v5:=fun _=>by kernel_rfl,t9:=by kernel_rfl,a9:=fun _=>by kernel_rfl,z9:=fun _=>by kernel_rfl,v9:=fun _=>by kernel_rfl,t20:=by kernel_rfl,a20:=fun _=>by kernel_rfl,z20:=fun _=>by kernel_rfl,v20:=fun _=>by kernel_rfl,t21:=by kernel_rfl,a21:=fun _=>by kernel_rfl,z21:=fun _=>by kernel_rfl,v21:=fun _=>by kernel_rfl,t37:=by kernel_rfl,a37:=fun _=>by kernel_rfl,z37:=fun _=>by kernel_rfl,v37:=fun _=>by kernel_rfl,t46:=by kernel_rfl,a46:=fun _=>by kernel_rfl,z46:=fun _=>by kernel_rfl,v46:=fun _=>by kernel_rfl,t51:=by kernel_rfl,a51:=fun _=>by kernel_rfl,z51:=fun _=>by kernel_rfl,v51:=fun _=>by kernel_rfl,t53:=by kernel_rfl,a53:=fun _=>by kernel_rfl,z53:=fun _=>by kernel_rfl,v53:=fun _=>by kernel_rfl,t75:=by kernel_rfl,a75:=fun _=>by kernel_rfl,z75:=fun _=>by kernel_rfl,v75:=fun _=>by kernel_rfl,t76:=by kernel_rfl,a76:=fun _=>by kernel_rfl,z76:=fun _=>by kernel_rfl,v76:=fun _=>by kernel_rfl,t85:=by kernel_rfl,a85:=fun _=>by kernel_rfl,z85:=fun _=>by kernel_rfl,v85:=fun _=>by kernel_rfl,t127:=by kernel_rfl,a127:=fun _=>by kernel_rfl,z127:=fun _=>by kernel_rfl,v127:=fun _=>by kernel_rfl,t143:=by kernel_rfl,a143:=fun _=>by kernel_rfl,z143:=fun _=>by kernel_rfl,v143:=fun _=>by kernel_rfl,t145:=by kernel_rfl,a145:=fun _=>by kernel_rfl,z145:=fun _=>by kernel_rfl,v145:=fun _=>by kernel_rfl,t167:=by kernel_rfl,a167:=fun _=>by kernel_rfl,z167:=fun _=>by kernel_rfl,v167:=fun _=>by kernel_rfl,t168:=by kernel_rfl,a168:=fun _=>by kernel_rfl,z168:=fun _=>by kernel_rfl,v168:=fun _=>by kernel_rfl,t171:=by kernel_rfl,a171:=fun _=>by kernel_rfl,z171:=fun _=>by kernel_rfl,v171:=fun _=>by kernel_rfl,t173:=by kernel_rfl,a173:=fun _=>by kernel_rfl,z173:=fun _=>by kernel_rfl,v173:=fun _=>by kernel_rfl,t175:=by kernel_rfl,a175:=fun _=>by kernel_rfl,z175:=fun _=>by kernel_rfl,v175:=fun _=>by kernel_rfl,t210:=by kernel_rfl,a210:=fun _=>by kernel_rfl,z210:=fun _=>by kernel_rfl,v210:=fun _=>by kernel_rfl,t212:=by kernel_rfl,a212:=fun _=>by kernel_rfl,z212:=fun _=>by kernel_rfl,v212:=fun _=>by kernel_rfl,t213:=by kernel_rfl,a213:=fun _=>by kernel_rfl,z213:=fun _=>by kernel_rfl,t232:=by kernel_rfl,a232:=fun _=>by kernel_rfl,z232:=fun _=>by kernel_rfl,v232:=fun _=>by kernel_rfl,t233:=by kernel_rfl,a233:=fun _=>by kernel_rfl,z233:=fun _=>by kernel_rfl,v233:=fun _=>by kernel_rfl,g15:=by kernel_rfl,g16:=by kernel_rfl,g17:=by kernel_rfl,g18:=by kernel_rfl,g19:=by kernel_rfl,t80:=by kernel_rfl,a80:=fun _=>by kernel_rfl,z80:=fun _=>by kernel_rfl,v80:=fun _=>by kernel_rfl,i0:=by kernel_rfl,i2:=by kernel_rfl,i3:=by kernel_rfl,i4:=by kernel_rfl,i5:=by kernel_rfl,i9:=by kernel_rfl,i20:=by kernel_rfl,i21:=by kernel_rfl,i37:=by kernel_rfl,i46:=by kernel_rfl,i51:=by kernel_rfl,i53:=by kernel_rfl,i75:=by kernel_rfl,i76:=by kernel_rfl,i80:=by kernel_rfl,i85:=by kernel_rfl,i127:=by kernel_rfl,i143:=by kernel_rfl,i145:=by kernel_rfl,i167:=by kernel_rfl,i168:=by kernel_rfl,i171:=by kernel_rfl,i173:=by kernel_rfl,i175:=by kernel_rfl,i210:=by kernel_rfl,i212:=by kernel_rfl,i232:=by kernel_rfl,i233:=by kernel_rfl,m15:=by kernel_rfl,m16:=by kernel_rfl,m17:=by kernel_rfl,m18:=by kernel_rfl,m19:=by kernel_rfl,c0:=by kernel_rfl,c2:=by kernel_rfl,c3:=by kernel_rfl,c4:=by kernel_rfl,c5:=by kernel_rfl,c9:=by kernel_rfl,c20:=by kernel_rfl,c21:=by kernel_rfl,c37:=by kernel_rfl,c46:=by kernel_rfl,c51:=by kernel_rfl,c53:=by kernel_rfl,c75:=by kernel_rfl,c76:=by kernel_rfl,c80:=by kernel_rfl,c85:=by kernel_rfl,c127:=by kernel_rfl,c143:=by kernel_rfl,c145:=by kernel_rfl,c167:=by kernel_rfl,c168:=by kernel_rfl,c171:=by kernel_rfl,c173:=by kernel_rfl,c175:=by kernel_rfl,c210:=by kernel_rfl,c212:=by kernel_rfl,c213:=by kernel_rfl,c232:=by kernel_rfl,c233:=by kernel_rfl }
end
def NF (p0:(List UInt8)×Int×Int×Unit) (p1:Int):Option im :=
 let u1:=(aO .i64 p1 (ae p0.1))
 cond (aw u1 0) (
 c3
 ) (
 some ((),((u1,()),()))
 )
def aaA:Su:=⟨[.c true [.str,ki,ki],.c false [ki]],[(false,[ki])],true,.inl fun x=>NF x.1 x.2.1.1⟩
theorem Ya:ar Tryz.prog 283 aaA :=
 fq an Tryz.f283
def qi (t0:List na) (t1 t5:Int):Rd ((List na)×Int×Int×Unit) Y1 :=
 cond (aw t5 (ae t0)) (
 cond (aR t5 t0) (
 (NF (gt d253 t0 t5) t1).bind fun y1 =>
 cond (aw y1.2.1.1 0) (
 some (.inr (.inr ((-1),())))
 ) (
 some (.inl (t0,y1.2.1.1,(aj .i64 t5 1),()))
 )
 ) none
 ) (
 some (.inr (.inl (t0,t1,t5,())))
 )
def Jh:=kz (ah (dq qi))
def OL (p0:List na) (p1:Int):Option im :=
 let u1:=(aO .i64 p1 (ae p0))
 cond (aw u1 0) (
 c3
 ) (
 (Jh p0 u1 0).bind (Sum.elim (fun y1 =>
 some ((),((y1.2.1,()),()))
 ) (fun y1 =>
 some ((),(y1,()))
 ))
 )
def abV:Su:=⟨[.c false [Iw],.c false [ki]],[(false,[ki])],true,.inl fun x=>OL x.1.1 x.2.1.1⟩
theorem V7:ar Tryz.prog 219 abV :=
 fl (ac Ya an) [.d 4 ki] [(0,⟨[.d 0 Iw,.d 1 ki,.d 5 ki],ah (dq qi)⟩)] [] Tryz.f219 (lp [0] (sc cN sn))
def H9 (p0:List R3) (p1:Int):Option im :=
 let u1:=(aO .i64 p1 (ae p0))
 cond (aw u1 0) (
 c3
 ) (
 some ((),((u1,()),()))
 )
def acM:Su:=⟨[.c false [q3],.c false [ki]],[(false,[ki])],true,.inl fun x=>H9 x.1.1 x.2.1.1⟩
theorem Re:ar Tryz.prog 113 acM :=
 fq an Tryz.f113
def NX (p0:Int×Int×(List R3)×(List R3)×Unit) (p1:Int):Option im :=
 (H9 p0.2.2.1 p1).bind fun y1 =>
 cond (aw y1.2.1.1 0) (
 c3
 ) (
 (H9 p0.2.2.2.1 y1.2.1.1).bind fun y2 =>
 cond (aw y2.2.1.1 0) (
 c3
 ) (
 some ((),(y2.2.1,()))
 )
 )
def ab5:Su:=⟨[.c true [ki,ki,q3,q3],.c false [ki]],[(false,[ki])],true,.inl fun x=>NX x.1 x.2.1.1⟩
theorem Uq:ar Tryz.prog 220 ab5 :=
 fq (ac Re an) Tryz.f220
def Gz (p0:List R5) (p1:Int):Option im :=
 let u1:=(aO .i64 p1 (ae p0))
 cond (aw u1 0) (
 c3
 ) (
 some ((),((u1,()),()))
 )
def acY:Su:=⟨[.c false [q5],.c false [ki]],[(false,[ki])],true,.inl fun x=>Gz x.1.1 x.2.1.1⟩
theorem PO:ar Tryz.prog 112 acY :=
 fq an Tryz.f112
def Nx (p0:(List UInt8)×(List UInt8)×(List R5)×Unit) (p1:Int):Option im :=
 let u1:=(aO .i64 p1 (ae p0.1))
 cond (aw u1 0) (
 c3
 ) (
 let u2:=(aO .i64 u1 (ae p0.2.1))
 cond (aw u2 0) (
 c3
 ) (
 (Gz p0.2.2.1 u2).bind fun y1 =>
 cond (aw y1.2.1.1 0) (
 c3
 ) (
 some ((),(y1.2.1,()))
 )
 )
 )
def aa9:Su:=⟨[.c true [.str,.str,q5],.c false [ki]],[(false,[ki])],true,.inl fun x=>Nx x.1 x.2.1.1⟩
theorem WT:ar Tryz.prog 284 aa9 :=
 fq (ac PO an) Tryz.f284
def pC (t0:List mh) (t1 t5:Int):Rd ((List mh)×Int×Int×Unit) Y1 :=
 cond (aw t5 (ae t0)) (
 cond (aR t5 t0) (
 (Nx (gt d255 t0 t5) t1).bind fun y1 =>
 cond (aw y1.2.1.1 0) (
 some (.inr (.inr ((-1),())))
 ) (
 some (.inl (t0,y1.2.1.1,(aj .i64 t5 1),()))
 )
 ) none
 ) (
 some (.inr (.inl (t0,t1,t5,())))
 )
def IN:=kz (ah (dq pC))
def Ny (p0:List mh) (p1:Int):Option im :=
 let u1:=(aO .i64 p1 (ae p0))
 cond (aw u1 0) (
 c3
 ) (
 (IN p0 u1 0).bind (Sum.elim (fun y1 =>
 some ((),((y1.2.1,()),()))
 ) (fun y1 =>
 some ((),(y1,()))
 ))
 )
def aan:Su:=⟨[.c false [Ip],.c false [ki]],[(false,[ki])],true,.inl fun x=>Ny x.1.1 x.2.1.1⟩
theorem UZ:ar Tryz.prog 221 aan :=
 fl (ac WT an) [.d 4 ki] [(0,⟨[.d 0 Ip,.d 1 ki,.d 5 ki],ah (dq pC)⟩)] [] Tryz.f221 (lp [0] (sc cN sn))
def Nn (p0:(List UInt8)×Int×Int×Int×Int×(List na)×Int×Int×(List R3)×(List R3)×(List mh)×Unit) (p1:Int):Option im :=
 let u1:=(aO .i64 p1 (ae p0.1))
 cond (aw u1 0) (
 c3
 ) (
 (OL p0.2.2.2.2.2.1 u1).bind fun y1 =>
 cond (aw y1.2.1.1 0) (
 c3
 ) (
 (NX (p0.2.2.2.2.2.2.1,p0.2.2.2.2.2.2.2.1,p0.2.2.2.2.2.2.2.2.1,p0.2.2.2.2.2.2.2.2.2.1,()) y1.2.1.1).bind fun y2 =>
 cond (aw y2.2.1.1 0) (
 c3
 ) (
 (Ny p0.2.2.2.2.2.2.2.2.2.2.1 y2.2.1.1).bind fun y3 =>
 cond (aw y3.2.1.1 0) (
 c3
 ) (
 some ((),(y3.2.1,()))
 )
 )
 )
 )
def aaS:Su:=⟨[.c true [.str,ki,ki,ki,ki,Iw,ki,ki,q3,q3,Ip],.c false [ki]],[(false,[ki])],true,.inl fun x=>Nn x.1 x.2.1.1⟩
theorem Up:ar Tryz.prog 174 aaS :=
 fq (ac V7 (ac Uq (ac UZ an))) Tryz.f174
def qq (t0:List ia) (t1 t5:Int):Rd ((List ia)×Int×Int×Unit) Y1 :=
 cond (aw t5 (ae t0)) (
 cond (aR t5 t0) (
 (Nn (gt d164 t0 t5) t1).bind fun y1 =>
 cond (aw y1.2.1.1 0) (
 some (.inr (.inr ((-1),())))
 ) (
 some (.inl (t0,y1.2.1.1,(aj .i64 t5 1),()))
 )
 ) none
 ) (
 some (.inr (.inl (t0,t1,t5,())))
 )
def KP:=kz (ah (dq qq))
def ND (p0:List ia) (p1:Int):Option im :=
 let u1:=(aO .i64 p1 (ae p0))
 cond (aw u1 0) (
 c3
 ) (
 (KP p0 u1 0).bind (Sum.elim (fun y1 =>
 some ((),((y1.2.1,()),()))
 ) (fun y1 =>
 some ((),(y1,()))
 ))
 )
def aba:Su:=⟨[.c false [Hu],.c false [ki]],[(false,[ki])],true,.inl fun x=>ND x.1.1 x.2.1.1⟩
theorem Vu:ar Tryz.prog 111 aba :=
 fl (ac Up an) [.d 4 ki] [(0,⟨[.d 0 Hu,.d 1 ki,.d 5 ki],ah (dq qq)⟩)] [] Tryz.f111 (lp [0] (sc cN sn))
def YA (p0:Int×(List ia)×Unit) (p1:Int):Option im :=
 (ND p0.2.1 p1).bind fun y1 =>
 cond (aw y1.2.1.1 0) (
 c3
 ) (
 some ((),(y1.2.1,()))
 )
def s55:Su:=⟨[.c true [ki,Hu],.c false [ki]],[(false,[ki])],true,.inl fun x=>YA x.1 x.2.1.1⟩
theorem abI:ar Tryz.prog 55 s55 :=
 fq (ac Vu an) Tryz.f55
def yw (t0:List qp) (t1 t5:Int):Rd ((List qp)×Int×Int×Unit) Y1 :=
 cond (aw t5 (ae t0)) (
 cond (aR t5 t0) (
 (YA (gt d81 t0 t5) t1).bind fun y1 =>
 cond (aw y1.2.1.1 0) (
 some (.inr (.inr ((-1),())))
 ) (
 some (.inl (t0,y1.2.1.1,(aj .i64 t5 1),()))
 )
 ) none
 ) (
 some (.inr (.inl (t0,t1,t5,())))
 )
def PZ:=kz (ah (dq yw))
def g23 (p0:List qp) (p1:Int):Option im :=
 let u1:=(aO .i64 p1 (ae p0))
 cond (aw u1 0) (
 c3
 ) (
 (PZ p0 u1 0).bind (Sum.elim (fun y1 =>
 some ((),((y1.2.1,()),()))
 ) (fun y1 =>
 some ((),(y1,()))
 ))
 )
def s23:Su:=⟨[.c false [SR],.c false [ki]],[(false,[ki])],true,.inl fun x=>g23 x.1.1 x.2.1.1⟩
theorem acZ:ar Tryz.prog 23 s23 :=
 fl (ac abI an) [.d 4 ki] [(0,⟨[.d 0 SR,.d 1 ki,.d 5 ki],ah (dq yw)⟩)] [] Tryz.f23 (lp [0] (sc cN sn))
def Y4 (p0:(List R5)×Int×(List R3)×Int×Int×Int×Int×Int×(List R5)×Unit) (p1:Int):Option im :=
 (Gz p0.1 p1).bind fun y1 =>
 cond (aw y1.2.1.1 0) (
 c3
 ) (
 (H9 p0.2.2.1 y1.2.1.1).bind fun y2 =>
 cond (aw y2.2.1.1 0) (
 c3
 ) (
 (Gz p0.2.2.2.2.2.2.2.2.1 y2.2.1.1).bind fun y3 =>
 cond (aw y3.2.1.1 0) (
 c3
 ) (
 some ((),(y3.2.1,()))
 )
 )
 )
def s56:Su:=⟨[.c true [q5,ki,q3,ki,ki,ki,ki,ki,q5],.c false [ki]],[(false,[ki])],true,.inl fun x=>Y4 x.1 x.2.1.1⟩
theorem aa3:ar Tryz.prog 56 s56 :=
 fq (ac Re (ac PO an)) Tryz.f56
def vI (t0:List od) (t1 t5:Int):Rd ((List od)×Int×Int×Unit) Y1 :=
 cond (aw t5 (ae t0)) (
 cond (aR t5 t0) (
 (Y4 (gt d83 t0 t5) t1).bind fun y1 =>
 cond (aw y1.2.1.1 0) (
 some (.inr (.inr ((-1),())))
 ) (
 some (.inl (t0,y1.2.1.1,(aj .i64 t5 1),()))
 )
 ) none
 ) (
 some (.inr (.inl (t0,t1,t5,())))
 )
def QD:=kz (ah (dq vI))
def g24 (p0:List od) (p1:Int):Option im :=
 let u1:=(aO .i64 p1 (ae p0))
 cond (aw u1 0) (
 c3
 ) (
 (QD p0 u1 0).bind (Sum.elim (fun y1 =>
 some ((),((y1.2.1,()),()))
 ) (fun y1 =>
 some ((),(y1,()))
 ))
 )
def s24:Su:=⟨[.c false [TL],.c false [ki]],[(false,[ki])],true,.inl fun x=>g24 x.1.1 x.2.1.1⟩
theorem acQ:ar Tryz.prog 24 s24 :=
 fl (ac aa3 an) [.d 4 ki] [(0,⟨[.d 0 TL,.d 1 ki,.d 5 ki],ah (dq vI)⟩)] [] Tryz.f24 (lp [0] (sc cN sn))
def g7 (p0:(List qp)×Int×Int×(List od)×Unit) (p1:Int):Option im :=
 (g23 p0.1 p1).bind fun y1 =>
 cond (aw y1.2.1.1 0) (
 c3
 ) (
 (g24 p0.2.2.2.1 y1.2.1.1).bind fun y2 =>
 cond (aw y2.2.1.1 0) (
 c3
 ) (
 some ((),(y2.2.1,()))
 )
 )
def s7:Su:=⟨[.c true [SR,ki,ki,TL],.c false [ki]],[(false,[ki])],true,.inl fun x=>g7 x.1 x.2.1.1⟩
theorem ok7:ar Tryz.prog 7 s7 :=
 fq (ac acZ (ac acQ an)) Tryz.f7
def O1 (p0:(List UInt8)×Int×Int×Unit):Option (Unit×(Uc×Unit)) :=
 some ((),(p0,()))
def aab:Su:=⟨[.c true [.str,ki,ki]],[(true,[.str,ki,ki])],true,.inl fun x=>O1 x.1⟩
theorem Wl:ar Tryz.prog 285 aab :=
 fq an Tryz.f285
def qz (t0:List na) (t3:List gD) (t4:Int):Rd ((List na)×(List gD)×Int×Unit) Unit :=
 cond (aw t4 (ae t0)) (
 cond (aR t4 t0) (
 (O1 (gt d253 t0 t4)).bind fun y1 =>
 cond (aR t4 t3) (
 let u1:=(gt d95 t3 t4)
 let u2:=(jh t3 t4 (y1.2.1.1,u1.2.1,u1.2.2.1,()))
 let u3:=(gt d95 u2 t4)
 let u4:=(jh u2 t4 (u3.1,y1.2.1.2.1,u3.2.2.1,()))
 let u5:=(gt d95 u4 t4)
 some (.inl (t0,(jh u4 t4 (u5.1,u5.2.1,y1.2.1.2.2.1,())),(aj .i64 t4 1),()))
 ) none
 ) none
 ) (
 some (.inr (.inl (t0,t3,t4,())))
 )
def J4:=kz (ah (dq qz))
def Pe (p0:List na):Option (Unit×(((List gD)×Unit)×Unit)) :=
 let u1:=(ae p0)
 cond (N6 32 u1) (
 (J4 p0 (xa d95 u1) 0).bind (Sum.elim (fun y1 =>
 some ((),((y1.2.1,()),()))
 ) (fun _ =>
 none
 ))
 ) none
def acI:Su:=⟨[.c false [Iw]],[(false,[mE])],true,.inl fun x=>Pe x.1.1⟩
theorem UH:ar Tryz.prog 231 acI :=
 fl (ac Wl an) [] [(0,⟨[.d 0 Iw,.own 3 mE,.d 4 ki],ah (dq qz)⟩)] [] Tryz.f231 (lp [0] (sc cN sn))
def qB (t0 t3:List R3) (t4:Int):Rd ((List R3)×(List R3)×Int×Unit) Unit :=
 cond (aw t4 (ae t0)) (
 cond (aR t4 t0) (
 cond (aR t4 t3) (
 some (.inl (t0,(jh t3 t4 (gt d3 t0 t4)),(aj .i64 t4 1),()))
 ) none
 ) none
 ) (
 some (.inr (.inl (t0,t3,t4,())))
 )
def Js:=kz (ah (dq qB))
def G7 (p0:List R3):Option PN :=
 let u1:=(ae p0)
 cond (N6 8 u1) (
 (Js p0 (xa d3 u1) 0).bind (Sum.elim (fun y1 =>
 some ((),((y1.2.1,()),()))
 ) (fun _ =>
 none
 ))
 ) none
def aay:Su:=⟨[.c false [q3]],[(false,[q3])],true,.inl fun x=>G7 x.1.1⟩
theorem Rj:ar Tryz.prog 132 aay :=
 fl an [] [(0,⟨[.d 0 q3,.own 3 q3,.d 4 ki],ah (dq qB)⟩)] [] Tryz.f132 (lp [0] (sc cN sn))
def Nq (p0:Int×Int×(List R3)×(List R3)×Unit):Option Y51 :=
 (G7 p0.2.2.1).bind fun y1 =>
 (G7 p0.2.2.2.1).bind fun y2 =>
 some ((),((p0.1,p0.2.1,y1.2.1.1,y2.2.1.1,()),()))
def abg:Su:=⟨[.c true [ki,ki,q3,q3]],[(true,[ki,ki,q3,q3])],true,.inl fun x=>Nq x.1⟩
theorem Vk:ar Tryz.prog 232 abg :=
 fq (ac Rj an) Tryz.f232
def vH (t0 t3:List R5) (t4:Int):Rd ((List R5)×(List R5)×Int×Unit) Unit :=
 cond (aw t4 (ae t0)) (
 cond (aR t4 t0) (
 cond (aR t4 t3) (
 some (.inl (t0,(jh t3 t4 (gt d5 t0 t4)),(aj .i64 t4 1),()))
 ) none
 ) none
 ) (
 some (.inr (.inl (t0,t3,t4,())))
 )
def Qo:=kz (ah (dq vH))
def g17 (p0:List R5):Option (Unit×(((List R5)×Unit)×Unit)) :=
 let u1:=(ae p0)
 cond (N6 1 u1) (
 (Qo p0 (xa d5 u1) 0).bind (Sum.elim (fun y1 =>
 some ((),((y1.2.1,()),()))
 ) (fun _ =>
 none
 ))
 ) none
def s17:Su:=⟨[.c false [q5]],[(false,[q5])],true,.inl fun x=>g17 x.1.1⟩
theorem Wh:ar Tryz.prog 17 s17 :=
 fl an [] [(0,⟨[.d 0 q5,.own 3 q5,.d 4 ki],ah (dq vH)⟩)] [] Tryz.f17 (lp [0] (sc cN sn))
def NP (p0:(List UInt8)×(List UInt8)×(List R5)×Unit):Option (Unit×(mh×Unit)) :=
 (g17 p0.2.2.1).bind fun y1 =>
 some ((),((p0.1,p0.2.1,y1.2.1.1,()),()))
def acE:Su:=⟨[.c true [.str,.str,q5]],[(true,[.str,.str,q5])],true,.inl fun x=>NP x.1⟩
theorem We:ar Tryz.prog 286 acE :=
 fq (ac Wh an) Tryz.f286
def pT (t0:List mh) (t3:List cD) (t4:Int):Rd ((List mh)×(List cD)×Int×Unit) Unit :=
 cond (aw t4 (ae t0)) (
 cond (aR t4 t0) (
 (NP (gt d255 t0 t4)).bind fun y1 =>
 cond (aR t4 t3) (
 let u1:=(gt d166 t3 t4)
 let u2:=(jh t3 t4 (y1.2.1.1,u1.2.1,u1.2.2.1,()))
 let u3:=(gt d166 u2 t4)
 let u4:=(jh u2 t4 (u3.1,y1.2.1.2.1,u3.2.2.1,()))
 let u5:=(gt d166 u4 t4)
 some (.inl (t0,(jh u4 t4 (u5.1,u5.2.1,y1.2.1.2.2.1,())),(aj .i64 t4 1),()))
 ) none
 ) none
 ) (
 some (.inr (.inl (t0,t3,t4,())))
 )
def Je:=kz (ah (dq pT))
def Pp (p0:List mh):Option Y34 :=
 let u1:=(ae p0)
 cond (N6 56 u1) (
 (Je p0 (xa d166 u1) 0).bind (Sum.elim (fun y1 =>
 some ((),((y1.2.1,()),()))
 ) (fun _ =>
 none
 ))
 ) none
def aaE:Su:=⟨[.c false [Ip]],[(false,[dX])],true,.inl fun x=>Pp x.1.1⟩
theorem UP:ar Tryz.prog 233 aaE :=
 fl (ac We an) [] [(0,⟨[.d 0 Ip,.own 3 dX,.d 4 ki],ah (dq pT)⟩)] [] Tryz.f233 (lp [0] (sc cN sn))
def Oy (p0:(List UInt8)×Int×Int×Int×Int×(List na)×Int×Int×(List R3)×(List R3)×(List mh)×Unit):Option Y73 :=
 (Pe p0.2.2.2.2.2.1).bind fun y1 =>
 (Nq (p0.2.2.2.2.2.2.1,p0.2.2.2.2.2.2.2.1,p0.2.2.2.2.2.2.2.2.1,p0.2.2.2.2.2.2.2.2.2.1,())).bind fun y2 =>
 (Pp p0.2.2.2.2.2.2.2.2.2.2.1).bind fun y3 =>
 some ((),((p0.1,p0.2.1,p0.2.2.1,p0.2.2.2.1,p0.2.2.2.2.1,y1.2.1.1,y2.2.1.1,y2.2.1.2.1,y2.2.1.2.2.1,y2.2.1.2.2.2.1,y3.2.1.1,()),()))
def abJ:Su:=⟨[.c true [.str,ki,ki,ki,ki,Iw,ki,ki,q3,q3,Ip]],[(true,[.str,ki,ki,ki,ki,mE,ki,ki,q3,q3,dX])],true,.inl fun x=>Oy x.1⟩
theorem UL:ar Tryz.prog 183 abJ :=
 fq (ac UH (ac Vk (ac UP an))) Tryz.f183
def qo (t0:List ia) (t3:List de) (t4:Int):Rd ((List ia)×(List de)×Int×Unit) Unit :=
 cond (aw t4 (ae t0)) (
 cond (aR t4 t0) (
 (Oy (gt d164 t0 t4)).bind fun y1 =>
 cond (aR t4 t3) (
 some (.inl (t0,(jh t3 t4 y1.2.1),(aj .i64 t4 1),()))
 ) none
 ) none
 ) (
 some (.inr (.inl (t0,t3,t4,())))
 )
def Jm:=kz (ah (dq qo))
def Nb (p0:List ia):Option Th :=
 let u1:=(ae p0)
 cond (N6 160 u1) (
 (Jm p0 (xa d59 u1) 0).bind (Sum.elim (fun y1 =>
 some ((),((y1.2.1,()),()))
 ) (fun _ =>
 none
 ))
 ) none
def ab4:Su:=⟨[.c false [Hu]],[(false,[eH])],true,.inl fun x=>Nb x.1.1⟩
theorem XK:ar Tryz.prog 131 ab4 :=
 fl (ac UL an) [] [(0,⟨[.d 0 Hu,.own 3 eH,.d 4 ki],ah (dq qo)⟩)] [] Tryz.f131 (lp [0] (sc cN sn))
def Zi (p0:Int×(List ia)×Unit):Option (Unit×(Uh×Unit)) :=
 (Nb p0.2.1).bind fun y1 =>
 some ((),((p0.1,y1.2.1.1,()),()))
def s71:Su:=⟨[.c true [ki,Hu]],[(true,[ki,eH])],true,.inl fun x=>Zi x.1⟩
theorem abw:ar Tryz.prog 71 s71 :=
 fq (ac XK an) Tryz.f71
def wX (t0:List qp) (t3:List dy) (t4:Int):Rd ((List qp)×(List dy)×Int×Unit) Unit :=
 cond (aw t4 (ae t0)) (
 cond (aR t4 t0) (
 (Zi (gt d81 t0 t4)).bind fun y1 =>
 cond (aR t4 t3) (
 let u1:=(jh t3 t4 (y1.2.1.1,(gt d89 t3 t4).2.1,()))
 some (.inl (t0,(jh u1 t4 ((gt d89 u1 t4).1,y1.2.1.2.1,())),(aj .i64 t4 1),()))
 ) none
 ) none
 ) (
 some (.inr (.inl (t0,t3,t4,())))
 )
def Qr:=kz (ah (dq wX))
def YE (p0:List qp):Option Ug :=
 let u1:=(ae p0)
 cond (N6 32 u1) (
 (Qr p0 (xa d89 u1) 0).bind (Sum.elim (fun y1 =>
 some ((),((y1.2.1,()),()))
 ) (fun _ =>
 none
 ))
 ) none
def s30:Su:=⟨[.c false [SR]],[(false,[eJ])],true,.inl fun x=>YE x.1.1⟩
theorem aar:ar Tryz.prog 30 s30 :=
 fl (ac abw an) [] [(0,⟨[.d 0 SR,.own 3 eJ,.d 4 ki],ah (dq wX)⟩)] [] Tryz.f30 (lp [0] (sc cN sn))
def YZ (p0:(List R5)×Int×(List R3)×Int×Int×Int×Int×Int×(List R5)×Unit):Option Y64 :=
 (g17 p0.1).bind fun y1 =>
 (G7 p0.2.2.1).bind fun y2 =>
 (g17 p0.2.2.2.2.2.2.2.2.1).bind fun y3 =>
 some ((),((y1.2.1.1,p0.2.1,y2.2.1.1,p0.2.2.2.1,p0.2.2.2.2.1,p0.2.2.2.2.2.1,p0.2.2.2.2.2.2.1,p0.2.2.2.2.2.2.2.1,y3.2.1.1,()),()))
def s72:Su:=⟨[.c true [q5,ki,q3,ki,ki,ki,ki,ki,q5]],[(true,[q5,ki,q3,ki,ki,ki,ki,ki,q5])],true,.inl fun x=>YZ x.1⟩
theorem acH:ar Tryz.prog 72 s72 :=
 fq (ac Rj (ac Wh an)) Tryz.f72
def yp (t0:List od) (t3:List fj) (t4:Int):Rd ((List od)×(List fj)×Int×Unit) Unit :=
 cond (aw t4 (ae t0)) (
 cond (aR t4 t0) (
 (YZ (gt d83 t0 t4)).bind fun y1 =>
 cond (aR t4 t3) (
 some (.inl (t0,(jh t3 t4 y1.2.1),(aj .i64 t4 1),()))
 ) none
 ) none
 ) (
 some (.inr (.inl (t0,t3,t4,())))
 )
def Rh:=kz (ah (dq yp))
def YY (p0:List od):Option (Unit×(((List fj)×Unit)×Unit)) :=
 let u1:=(ae p0)
 cond (N6 120 u1) (
 (Rh p0 (xa d62 u1) 0).bind (Sum.elim (fun y1 =>
 some ((),((y1.2.1,()),()))
 ) (fun _ =>
 none
 ))
 ) none
def s31:Su:=⟨[.c false [TL]],[(false,[il])],true,.inl fun x=>YY x.1.1⟩
theorem acj:ar Tryz.prog 31 s31 :=
 fl (ac acH an) [] [(0,⟨[.d 0 TL,.own 3 il,.d 4 ki],ah (dq yp)⟩)] [] Tryz.f31 (lp [0] (sc cN sn))
def g9 (p0:(List qp)×Int×Int×(List od)×Unit):Option Y54 :=
 (YE p0.1).bind fun y1 =>
 (YY p0.2.2.2.1).bind fun y2 =>
 some ((),((y1.2.1.1,p0.2.1,p0.2.2.1,y2.2.1.1,()),()))
def s9:Su:=⟨[.c true [SR,ki,ki,TL]],[(true,[eJ,ki,ki,il])],true,.inl fun x=>g9 x.1⟩
theorem ok9:ar Tryz.prog 9 s9 :=
 fq (ac aar (ac acj an)) Tryz.f9
def qC (p0 p1 p2:Int):Option dY :=
 some ((),(((cond (bL p1 p0) (bL p0 p2) false),()),()))
def s39:Su:=⟨[.c false [ki],.c false [ki],.c false [ki]],[(false,[.bool])],true,.inl fun x=>qC x.1.1 x.2.1.1 x.2.2.1.1⟩
theorem nY:ar Tryz.prog 39 s39 :=
 fq an Tryz.f39
def LN (p0:Int×Int×(List R3)×(List R3)×Unit):Option Y51 :=
 cond (bT 8 [] p0.2.2.1) (
 cond (bT 8 [] p0.2.2.2.1) (
 some ((),((p0.1,p0.2.1,(jn [] p0.2.2.1),(jn [] p0.2.2.2.1),()),()))
 ) none
 ) none
def acr:Su:=⟨[.c true [ki,ki,q3,q3]],[(true,[ki,ki,q3,q3])],true,.inl fun x=>LN x.1⟩
theorem UC:ar Tryz.prog 117 acr :=
 fq an Tryz.f117
def pg (t3 t7:List cD) (t8 t9:Int):Rd Yy Unit :=
 cond (aw t9 t8) (
 cond (aR t9 t7) (
 let u1:=(gt d166 t7 t9)
 cond (bT 1 [] u1.2.2.1) (
 cond (bT 56 t3 [(u1.1,u1.2.1,(jn [] u1.2.2.1),())]) (
 some (.inl ((jn t3 [(u1.1,u1.2.1,(jn [] u1.2.2.1),())]),t7,t8,(aj .i64 t9 1),()))
 ) none
 ) none
 ) none
 ) (
 some (.inr (.inl (t3,t7,t8,t9,())))
 )
def Lh:=mm (ah (cV pg))
def Ph (p0:List cD):Option Y34 :=
 (Lh [] p0 (ae p0) 0).bind (Sum.elim (fun y1 =>
 some ((),((y1.1,()),()))
 ) (fun _ =>
 none
 ))
def aaJ:Su:=⟨[.c false [dX]],[(false,[dX])],true,.inl fun x=>Ph x.1.1⟩
theorem Ux:ar Tryz.prog 118 aaJ :=
 fl an [] [(0,⟨[.own 3 dX,.d 7 dX,.d 8 ki,.d 9 ki],ah (cV pg)⟩)] [] Tryz.f118 (lp [0] (sc cN sn))
def Um (p0:(List UInt8)×Int×Int×Int×Int×(List gD)×Int×Int×(List R3)×(List R3)×(List cD)×Unit):Option Y73 :=
 cond (bT 32 [] p0.2.2.2.2.2.1) (
 (LN (p0.2.2.2.2.2.2.1,p0.2.2.2.2.2.2.2.1,p0.2.2.2.2.2.2.2.2.1,p0.2.2.2.2.2.2.2.2.2.1,())).bind fun y1 =>
 (Ph p0.2.2.2.2.2.2.2.2.2.2.1).bind fun y2 =>
 some ((),((p0.1,p0.2.1,p0.2.2.1,p0.2.2.2.1,p0.2.2.2.2.1,(jn [] p0.2.2.2.2.2.1),y1.2.1.1,y1.2.1.2.1,y1.2.1.2.2.1,y1.2.1.2.2.2.1,y2.2.1.1,()),()))
 ) none
def s63:Su:=⟨[.c true [.str,ki,ki,ki,ki,mE,ki,ki,q3,q3,dX]],[(true,[.str,ki,ki,ki,ki,mE,ki,ki,q3,q3,dX])],true,.inl fun x=>Um x.1⟩
theorem Mc:ar Tryz.prog 63 s63 :=
 fq (ac UC (ac Ux an)) Tryz.f63
def wA (t3:List de) (t8:Int) (t11:List dy) (t12 t13:Int) (t18:List de) (t19 t20:Int) (b2:(List de)×Unit) (b7:(List UInt8)×Int×Int×Int×Int×(List gD)×Int×Int×(List R3)×(List R3)×(List cD)×Unit):Rd ((List de)×Int×(List dy)×Int×Int×(List de)×Int×Int×Y5×de×Unit) Unit :=
 cond (aw 0 t8) (
 let u1:=(aO .i64 t8 1)
 cond (aR u1 t3) (
 cond (!(Tp (gt d59 t3 u1).1 b7.1)) (
 some (.inl (t3,u1,t11,t12,t13,t18,t19,t20,b2,b7,()))
 ) (
 some (.inr (.inl (t3,t8,t11,t12,t13,t18,t19,t20,b2,b7,())))
 )
 ) none
 ) (
 some (.inr (.inl (t3,t8,t11,t12,t13,t18,t19,t20,b2,b7,())))
 )
def Cg:=Vd (ah (C4 wA))
def uv (t3:List de) (t11:List dy) (t12 t13:Int) (t18:List de) (t19 t20:Int) (b2:(List de)×Unit):Rd ((List de)×(List dy)×Int×Int×(List de)×Int×Int×Y5×Unit) Unit :=
 cond (aw t20 t19) (
 cond (aR t20 t18) (
 (Cg t3 (ae t3) t11 t12 t13 t18 t19 t20 b2 (gt d59 t18 t20)).bind (Sum.elim (fun y1 =>
 cond (dW 0 y1.2.1 y1.1) (
 cond (Vs 160 [] y1.1 y1.2.1) (
 (Um y1.2.2.2.2.2.2.2.2.2.1).bind fun y2 =>
 let u1:=(jn [] (P2 y1.1 y1.2.1))
 cond (bT 160 u1 [y2.2.1]) (
 cond (SM y1.2.1 y1.2.1) (
 let u2:=(jn u1 [y2.2.1])
 let u3:=(drI y1.1 y1.2.1)
 cond (bT 160 u2 u3) (
 some (.inl ((jn u2 u3),y1.2.2.1,y1.2.2.2.1,y1.2.2.2.2.1,y1.2.2.2.2.2.1,y1.2.2.2.2.2.2.1,(aj .i64 y1.2.2.2.2.2.2.2.1 1),y1.2.2.2.2.2.2.2.2.1,()))
 ) none
 ) none
 ) none
 ) none
 ) none
 ) (fun _ =>
 some (.inr (.inr ()))
 ))
 ) none
 ) (
 some (.inr (.inl (t3,t11,t12,t13,t18,t19,t20,b2,())))
 )
def FN:=Tj (ah (xx uv))
def uf (t3:List de) (t11:List dy) (t12 t13:Int) (b2:(List de)×Unit):Rd ((List de)×(List dy)×Int×Int×Y5×Unit) Unit :=
 cond (aw t13 t12) (
 cond (aR t13 t11) (
 (FN t3 t11 t12 t13 (gt d89 t11 t13).2.1 (ae (gt d89 t11 t13).2.1) 0 b2).bind (Sum.elim (fun y1 =>
 some (.inl (y1.1,y1.2.1,y1.2.2.1,(aj .i64 y1.2.2.2.1 1),y1.2.2.2.2.2.2.2.1,()))
 ) (fun _ =>
 some (.inr (.inr ()))
 ))
 ) none
 ) (
 some (.inr (.inl (t3,t11,t12,t13,b2,())))
 )
def FM:=tV (ah (dQ uf))
def MU (p0:List dy):Option Th :=
 (FM [] p0 (ae p0) 0 ([],())).bind (Sum.elim (fun y1 =>
 some ((),((y1.1,()),()))
 ) (fun _ =>
 none
 ))
def Zd:Su:=⟨[.c false [eJ]],[(true,[eH])],true,.inl fun x=>MU x.1.1⟩
def vm:List SE:=[.own 3 eH,.d 8 ki,.d 11 eJ,.d 12 ki,.d 13 ki,.d 18 eH,.d 19 ki,.d 20 ki,.box 2 [(true,eH)],.box 7 [(false,.str),(false,ki),(false,ki),(false,ki),(false,ki),(false,mE),(false,ki),(false,ki),(false,q3),(false,q3),(false,dX)]]
def ym:List SE:=[.own 3 eH,.d 11 eJ,.d 12 ki,.d 13 ki,.d 18 eH,.d 19 ki,.d 20 ki,.box 2 [(true,eH)]]
def yE:List SE:=[.own 3 eH,.d 11 eJ,.d 12 ki,.d 13 ki,.box 2 [(true,eH)]]
def TN:List SE:=[]
def WR:Nat->Option (Lo TN)
 | 4=>some ⟨vm,C4 Cg⟩
 | 2=>some ⟨ym,xx FN⟩
 | 0=>some ⟨yE,dQ FM⟩
 | _=>none
def Mr:List Y0:=[(63,iS s63)]
def CO:En:=yK 60 tt Mr TN WR [] fun _=>none
def abC:Nat->Option (St->Tr St)
 | 11=>some (xo CO (gn (bg 11 (ak Tryz.f27)) 0).op 49 49 49 3 8 41 42 43 44 45 9)
 | 13=>some (CR CO 49 49 49 9 3 8 51 52 53 54 55)
 | _=>none
def Jf:En:=yK 60 tt Mr TN WR [] (abC)
theorem Vp (x:bJ vm):(cZ Jf 4 vm (aX 4 (ak Tryz.f27)) x).run=C4 wA x:=by kernel_rfl
theorem Us (x:bJ ym):(cZ Jf 2 ym (aX 2 (ak Tryz.f27)) x).run=xx uv x:=by kernel_rfl
theorem Yd (x:bJ yE):(cZ Jf 0 yE (aX 0 (ak Tryz.f27)) x).run=dQ uf x:=by kernel_rfl
theorem t27 (x:PT Zd.ps):(FK Jf (ak Tryz.f27) Tryz.f27.results.toList Zd.ps Zd.rs true x).run=MU x.1.1:=by kernel_rfl
theorem Fm:df Tryz.prog Jf:=cR (l:=Mr) ⟨Mc,trivial⟩
theorem GN:df Tryz.prog CO:=cR (l:=Mr) ⟨Mc,trivial⟩
theorem RP:cH Tryz.prog Jf (bg 11 (ak Tryz.f27)) (xo CO (gn (bg 11 (ak Tryz.f27)) 0).op 49 49 49 3 8 41 42 43 44 45 9) :=
 fV rfl rfl (MA (E:=CO) (kM hT) GN (cd:=(bg 11 (ak Tryz.f27))) (rid:=11) (o1:=gn (bg 11 (ak Tryz.f27)) 0) (o2:=gn (bg 11 (ak Tryz.f27)) 1) (o3:=gn (bg 11 (ak Tryz.f27)) 2) (o4:=gn (bg 11 (ak Tryz.f27)) 3) (o5:=gn (bg 11 (ak Tryz.f27)) 4) (o6:=gn (bg 11 (ak Tryz.f27)) 5) (c:=Bk (gn (bg 11 (ak Tryz.f27)) 4)) (tys:=[])
  (by kernel_rfl) (by kernel_rfl) (by kernel_rfl) (by kernel_rfl) (by kernel_rfl) (by kernel_rfl) (by kernel_rfl) (by kernel_rfl) (by kernel_rfl) (by kernel_rfl) (by kernel_rfl) (by kernel_rfl) (by kernel_rfl) (by kernel_rfl) (by kernel_rfl) (by kernel_rfl) (by kernel_rfl) (by kernel_rfl) (by kernel_rfl) (by kernel_rfl) (by kernel_rfl))
theorem GD:df Tryz.prog CO:=cR (l:=Mr) ⟨Mc,trivial⟩
theorem Sq:cH Tryz.prog Jf (bg 13 (ak Tryz.f27)) (CR CO 49 49 49 9 3 8 51 52 53 54 55) :=
 fV rfl rfl (O5 (E:=CO) (kM hT) GD (cd:=(bg 13 (ak Tryz.f27))) (rid:=13) (o1:=gn (bg 13 (ak Tryz.f27)) 0) (o2:=gn (bg 13 (ak Tryz.f27)) 1) (o3:=gn (bg 13 (ak Tryz.f27)) 2) (o4:=gn (bg 13 (ak Tryz.f27)) 3) (o5:=gn (bg 13 (ak Tryz.f27)) 4) (o6:=gn (bg 13 (ak Tryz.f27)) 5) (c:=Bk (gn (bg 13 (ak Tryz.f27)) 4)) (tys:=[])
  (by kernel_rfl) (by kernel_rfl) (by kernel_rfl) (by kernel_rfl) (by kernel_rfl) (by kernel_rfl) (by kernel_rfl) (by kernel_rfl) (by kernel_rfl) (by kernel_rfl) (by kernel_rfl) (by kernel_rfl) (by kernel_rfl) (by kernel_rfl) (by kernel_rfl) (by kernel_rfl) (by kernel_rfl) (by kernel_rfl) (by kernel_rfl) (by kernel_rfl) (by kernel_rfl) (by kernel_rfl))
theorem Ve:cl Tryz.prog Jf 4 (.loop (aX 4 (ak Tryz.f27))) ⟨vm,C4 Cg⟩ :=
 er (kM hT) Fm eu (step:=fun (x:bJ vm)=>wA x.1 x.2.1 x.2.2.1 x.2.2.2.1 x.2.2.2.2.1 x.2.2.2.2.2.1 x.2.2.2.2.2.2.1 x.2.2.2.2.2.2.2.1 x.2.2.2.2.2.2.2.2.1 x.2.2.2.2.2.2.2.2.2.1) Vp (aW [] (by kernel_rfl) trivial [] (by kernel_rfl) trivial)
theorem Wj:cl Tryz.prog Jf 2 (.loop (aX 2 (ak Tryz.f27))) ⟨ym,xx FN⟩ :=
 er (kM hT) Fm eu (step:=fun (x:bJ ym)=>uv x.1 x.2.1 x.2.2.1 x.2.2.2.1 x.2.2.2.2.1 x.2.2.2.2.2.1 x.2.2.2.2.2.2.1 x.2.2.2.2.2.2.2.1) Us (aW [(4,.loop (aX 4 (ak Tryz.f27)))] (by kernel_rfl) ⟨lC rfl Ve,trivial⟩ [(11,bg 11 (ak Tryz.f27)),(13,bg 13 (ak Tryz.f27))] (by kernel_rfl) ⟨xH rfl RP,xH rfl Sq,trivial⟩)
theorem VO:cl Tryz.prog Jf 0 (.loop (aX 0 (ak Tryz.f27))) ⟨yE,dQ FM⟩ :=
 er (kM hT) Fm eu (step:=fun (x:bJ yE)=>uf x.1 x.2.1 x.2.2.1 x.2.2.2.1 x.2.2.2.2.1) Yd (aW [(2,.loop (aX 2 (ak Tryz.f27)))] (by kernel_rfl) ⟨lC rfl Wj,trivial⟩ [] (by kernel_rfl) trivial)
theorem Xa:ar Tryz.prog 27 Zd :=
 oh (E:=Jf) (kM hT) Fm eu (fn:=Tryz.f27) (c:=(ak Tryz.f27)) (by kernel_rfl) (by kernel_rfl) (by kernel_rfl) rfl (aW [(0,.loop (aX 0 (ak Tryz.f27)))] (by kernel_rfl) ⟨lC rfl VO,trivial⟩ [] (by kernel_rfl) trivial) fun x y h=>⟨y.1,fun _=>rfl,(t27 x).trans h⟩
def oX (t0:List UInt8) (t3:Int):Rd Wx Y2 :=
 cond (aw t3 (ae t0)) (
 cond (aR t3 t0) (
 let u1:=(dE t0 t3)
 cond (aw u1 48) (
 some (.inr (.inr (false,())))
 ) (
 cond (aR t3 t0) (
 cond (aw 57 u1) (
 some (.inr (.inr (false,())))
 ) (
 some (.inl (t0,(aj .i64 t3 1),()))
 )
 ) none
 )
 ) none
 ) (
 some (.inr (.inl (t0,t3,())))
 )
def MD:=Q2 (ah (wB oX))
def si (p0:List UInt8):Option dY :=
 (MD p0 0).bind (Sum.elim (fun y1 =>
 some ((),(((aw 0 (ae y1.1)),()),()))
 ) (fun y1 =>
 some ((),(y1,()))
 ))
def acA:Su:=⟨[.c false [.str]],[(false,[.bool])],true,.inl fun x=>si x.1.1⟩
theorem ux:ar Tryz.prog 222 acA :=
 fl an [.d 2 .bool] [(0,⟨[.d 0 .str,.d 3 ki],ah (wB oX)⟩)] [] Tryz.f222 (lp [0] (sc cN sn))
def sG (t0:List UInt8) (t3:Int) (t4:Bool) (t5:Int):Rd ((List UInt8)×Int×Bool×Int×Unit) Unit :=
 cond (bL 0 t5) (
 cond (aR t5 t0) (
 cond t4 (
 let u1:=(aO .i64 (bI .i64 (dE t0 t5)) 48)
 let u2:=(kl .i64 2 u1)
 cond (aw 9 u2) (
 let u3:=(aO .i64 t5 1)
 some (.inl (t0,(fX (aj .i64 t3 (aO .i64 u2 9)) 10),(!t4),u3,()))
 ) (
 let u3:=(aO .i64 t5 1)
 some (.inl (t0,(fX (aj .i64 t3 u2) 10),(!t4),u3,()))
 )
 ) (
 let u1:=(aO .i64 (bI .i64 (dE t0 t5)) 48)
 let u2:=(aO .i64 t5 1)
 some (.inl (t0,(fX (aj .i64 t3 u1) 10),(!t4),u2,()))
 )
 ) none
 ) (
 some (.inr (.inl (t0,t3,t4,t5,())))
 )
def L4:=mm (ah (cV sG))
def OJ (p0:List UInt8):Option im :=
 (si p0).bind fun y1 =>
 cond (!y1.2.1.1) (
 c3
 ) (
 (L4 p0 0 true (aO .i64 (ae p0) 1)).bind (Sum.elim (fun y2 =>
 some ((),(((fX (aO .i64 10 y2.2.1) 10),()),()))
 ) (fun _ =>
 none
 ))
 )
def abW:Su:=⟨[.c false [.str]],[(false,[ki])],true,.inl fun x=>OJ x.1.1⟩
theorem XD:ar Tryz.prog 223 abW :=
 fl (ac ux an) [] [(0,⟨[.d 0 .str,.d 3 ki,.d 4 .bool,.d 5 ki],ah (cV sG)⟩)] [] Tryz.f223 (lp [0] (sc cN sn))
def N4 (p0:List UInt8):Option dY :=
 (si p0).bind fun y1 =>
 let u1:=(ae p0)
 cond (cond (!y1.2.1.1) true (aw u1 2)) (
 c0
 ) (
 let u2:=(aO .i64 u1 1)
 cond (dW 0 u2 p0) (
 (OJ (sub p0 0 u2)).bind fun y2 =>
 cond (aR u2 p0) (
 some ((),(((aq y2.2.1.1 (aO .i64 (bI .i64 (dE p0 u2)) 48)),()),()))
 ) none
 ) none
 )
def Z9:Su:=⟨[.c false [.str]],[(false,[.bool])],true,.inl fun x=>N4 x.1.1⟩
theorem WO:ar Tryz.prog 175 Z9 :=
 fq (ac ux (ac XD an)) Tryz.f175
def sr (p0:List UInt8):Option dY :=
 cond (bL (ae p0) 19) (
 (N4 p0).bind fun y1 =>
 some ((),(y1.2.1,()))
 ) (
 c0
 )
def abA:Su:=⟨[.c false [.str]],[(false,[.bool])],true,.inl fun x=>sr x.1.1⟩
theorem QC:ar Tryz.prog 119 abA :=
 fq (ac WO an) Tryz.f119
def RT (p0:Int):Option dY :=
 some ((),(((cond (bL 0 p0) (bL p0 4611686018427387904) false),()),()))
def s62:Su:=⟨[.c false [ki]],[(false,[.bool])],true,.inl fun x=>RT x.1.1⟩
theorem Sf:ar Tryz.prog 62 s62 :=
 fq an Tryz.f62
def ph (t0:List UInt8) (t3:Int):Rd Wx Y2 :=
 cond (aw t3 (ae t0)) (
 cond (aR t3 t0) (
 let u1:=(dE t0 t3)
 cond (aw u1 48) (
 cond (aR t3 t0) (
 cond (aw u1 97) (
 some (.inr (.inr (false,())))
 ) (
 cond (aR t3 t0) (
 cond (aw 122 u1) (
 some (.inr (.inr (false,())))
 ) (
 some (.inl (t0,(aj .i64 t3 1),()))
 )
 ) none
 )
 ) none
 ) (
 cond (aR t3 t0) (
 cond (aw 57 u1) (
 cond (aR t3 t0) (
 cond (aw u1 97) (
 some (.inr (.inr (false,())))
 ) (
 cond (aR t3 t0) (
 cond (aw 122 u1) (
 some (.inr (.inr (false,())))
 ) (
 some (.inl (t0,(aj .i64 t3 1),()))
 )
 ) none
 )
 ) none
 ) (
 some (.inl (t0,(aj .i64 t3 1),()))
 )
 ) none
 )
 ) none
 ) (
 some (.inr (.inl (t0,t3,())))
 )
def Lf:=Q2 (ah (wB ph))
def I7 (p0:List UInt8):Option dY :=
 (Lf p0 0).bind (Sum.elim (fun y1 =>
 (qC (ae y1.1) 1 6).bind fun y2 =>
 some ((),(y2.2.1,()))
 ) (fun y1 =>
 some ((),(y1,()))
 ))
def acN:Su:=⟨[.c false [.str]],[(false,[.bool])],true,.inl fun x=>I7 x.1.1⟩
theorem Rf:ar Tryz.prog 224 acN :=
 fl (ac nY an) [.d 2 .bool] [(0,⟨[.d 0 .str,.d 3 ki],ah (wB ph)⟩)] [] Tryz.f224 (lp [0] (sc cN sn))
def Iy (p0:Int):Option dY :=
 (qC p0 0 1000000000).bind fun y1 =>
 some ((),(y1.2.1,()))
def s58:Su:=⟨[.c false [ki]],[(false,[.bool])],true,.inl fun x=>Iy x.1.1⟩
theorem N9:ar Tryz.prog 58 s58 :=
 fq (ac nY an) Tryz.f58
def Nf (p0:(List UInt8)×Int×Int×Unit):Option dY :=
 (I7 p0.1).bind fun y1 =>
 cond y1.2.1.1 (
 (qC p0.2.1 1 9007199254740992).bind fun y2 =>
 cond y2.2.1.1 (
 (Iy p0.2.2.1).bind fun y3 =>
 some ((),(y3.2.1,()))
 ) (
 c0
 )
 ) (
 c0
 )
def acb:Su:=⟨[.c true [.str,ki,ki]],[(false,[.bool])],true,.inl fun x=>Nf x.1⟩
theorem Xr:ar Tryz.prog 176 acb :=
 fq (ac nY (ac Rf (ac N9 an))) Tryz.f176
def pK (t0 t5:List gD) (t6 t7:Int):Rd ((List gD)×(List gD)×Int×Int×Unit) Y2 :=
 cond (aw t7 t6) (
 cond (aR t7 t5) (
 let u1:=(gt d95 t5 t7)
 (Nf u1).bind fun y1 =>
 cond (!y1.2.1.1) (
 some (.inr (.inr (false,())))
 ) (
 cond (aw 0 t7) (
 let u2:=(aO .i64 t7 1)
 cond (aR u2 t0) (
 cond (!(kB (gt d95 t0 u2).1 u1.1)) (
 some (.inr (.inr (false,())))
 ) (
 some (.inl (t0,t5,t6,(aj .i64 t7 1),()))
 )
 ) none
 ) (
 some (.inl (t0,t5,t6,(aj .i64 t7 1),()))
 )
 )
 ) none
 ) (
 some (.inr (.inl (t0,t5,t6,t7,())))
 )
def IM:=mm (ah (cV pK))
def Oz (p0:List gD):Option dY :=
 (IM p0 p0 (ae p0) 0).bind (Sum.elim (fun y1 =>
 some ((),(((bL (ae y1.1) 4),()),()))
 ) (fun y1 =>
 some ((),(y1,()))
 ))
def ZW:Su:=⟨[.c false [mE]],[(false,[.bool])],true,.inl fun x=>Oz x.1.1⟩
theorem Wt:ar Tryz.prog 120 ZW :=
 fl (ac Xr an) [.d 2 .bool] [(0,⟨[.d 0 mE,.d 5 mE,.d 6 ki,.d 7 ki],ah (cV pK)⟩)] [] Tryz.f120 (lp [0] (sc cN sn))
def p8 (t32 t33:Int) (b1:Int×Int×(List R3)×(List R3)×Unit):Rd (Int×Int×(Int×Int×(List R3)×(List R3)×Unit)×Unit) Y2 :=
 cond (aw t33 t32) (
 cond (aR t33 b1.2.2.1) (
 (RT (gt d3 b1.2.2.1 t33).1).bind fun y1 =>
 cond (!y1.2.1.1) (
 some (.inr (.inr (false,())))
 ) (
 cond (aR t33 b1.2.2.2.1) (
 (RT (gt d3 b1.2.2.2.1 t33).1).bind fun y2 =>
 cond (!y2.2.1.1) (
 some (.inr (.inr (false,())))
 ) (
 some (.inl (t32,(aj .i64 t33 1),b1,()))
 )
 ) none
 )
 ) none
 ) (
 some (.inr (.inl (t32,t33,b1,())))
 )
def Mw:=kz (ah (dq p8))
def KS (p0:Int×Int×(List R3)×(List R3)×Unit):Option dY :=
 (qC p0.1 1 1000).bind fun y1 =>
 cond (!y1.2.1.1) (
 c0
 ) (
 let u1:=(ae p0.2.2.1)
 (qC u1 1 8).bind fun y2 =>
 cond (cond (!y2.2.1.1) true (!(aq (ae p0.2.2.2.1) u1))) (
 c0
 ) (
 (Iy p0.2.1).bind fun y3 =>
 cond (!y3.2.1.1) (
 c0
 ) (
 (Mw u1 0 p0).bind (Sum.elim (fun _ =>
 c2
 ) (fun y4 =>
 some ((),(y4,()))
 ))
 )
 )
 )
def abo:Su:=⟨[.c true [ki,ki,q3,q3]],[(false,[.bool])],true,.inl fun x=>KS x.1⟩
theorem WE:ar Tryz.prog 121 abo :=
 fl (ac nY (ac Sf (ac N9 an))) [.d 2 .bool] [(0,⟨[.d 32 ki,.d 33 ki,.box 1 [(false,ki),(false,ki),(false,q3),(false,q3)]],ah (dq p8)⟩)] [] Tryz.f121 (lp [0] (sc cN sn))
def M7 (p0:(List UInt8)×(List UInt8)×(List R5)×Unit):Option dY :=
 (si p0.1).bind fun y1 =>
 cond (cond y1.2.1.1 (aq (ae p0.1) 6) false) (
 (si p0.2.1).bind fun y2 =>
 cond (cond y2.2.1.1 (aq (ae p0.2.1) 4) false) (
 (qC (ae p0.2.2.1) 1 200).bind fun y3 =>
 some ((),(y3.2.1,()))
 ) (
 c0
 )
 ) (
 c0
 )
def Z6:Su:=⟨[.c true [.str,.str,q5]],[(false,[.bool])],true,.inl fun x=>M7 x.1⟩
theorem XB:ar Tryz.prog 177 Z6 :=
 fq (ac nY (ac ux an)) Tryz.f177
def o9 (t0 t7:List cD) (t8 t9:Int) (t19:List cD) (t20 t21:Int) (b4:(List UInt8)×(List UInt8)×(List R5)×Unit):Rd ((List cD)×(List cD)×Int×Int×(List cD)×Int×Int×mh×Unit) Y2 :=
 cond (aw t21 t20) (
 cond (aR t21 t19) (
 let u1:=(gt d166 t19 t21)
 cond (cond (cC u1.1 b4.1) (cC u1.2.1 b4.2.1) false) (
 some (.inr (.inr (false,())))
 ) (
 some (.inl (t0,t7,t8,t9,t19,t20,(aj .i64 t21 1),b4,()))
 )
 ) none
 ) (
 some (.inr (.inl (t0,t7,t8,t9,t19,t20,t21,b4,())))
 )
def KM:=Tj (ah (xx o9))
def pU (t0 t7:List cD) (t8 t9:Int):Rd Yy Y2 :=
 cond (aw t9 t8) (
 cond (aR t9 t7) (
 let u1:=(gt d166 t7 t9)
 (M7 u1).bind fun y1 =>
 cond (!y1.2.1.1) (
 some (.inr (.inr (false,())))
 ) (
 cond (dW 0 t9 t0) (
 let u2:=(sub t0 0 t9)
 (KM t0 t7 t8 t9 u2 (ae u2) 0 u1).bind (Sum.elim (fun y2 =>
 some (.inl (y2.1,y2.2.1,y2.2.2.1,(aj .i64 y2.2.2.2.1 1),()))
 ) (fun y2 =>
 some (.inr (.inr (y2.1,())))
 ))
 ) none
 )
 ) none
 ) (
 some (.inr (.inl (t0,t7,t8,t9,())))
 )
def K7:=mm (ah (cV pU))
def NI (p0:List cD):Option dY :=
 (K7 p0 p0 (ae p0) 0).bind (Sum.elim (fun y1 =>
 some ((),(((bL (ae y1.1) 6),()),()))
 ) (fun y1 =>
 some ((),(y1,()))
 ))
def ZH:Su:=⟨[.c false [dX]],[(false,[.bool])],true,.inl fun x=>NI x.1.1⟩
theorem VG:ar Tryz.prog 122 ZH :=
 fl (ac XB an) [.d 2 .bool] [(2,⟨[.d 0 dX,.d 7 dX,.d 8 ki,.d 9 ki,.d 19 dX,.d 20 ki,.d 21 ki,.box 4 [(false,.str),(false,.str),(false,q5)]],ah (xx o9)⟩),(0,⟨[.d 0 dX,.d 7 dX,.d 8 ki,.d 9 ki],ah (cV pU)⟩)] [] Tryz.f122 (lp [0] (sc (lp [2] (sc cN sn)) sn))
def IV (p0 p1 p2:Int):Option im :=
 cond (aw p0 p1) (
 some ((),((p1,()),()))
 ) (
 cond (aw p2 p0) (
 some ((),((p2,()),()))
 ) (
 some ((),((p0,()),()))
 )
 )
def aaR:Su:=⟨[.c false [ki],.c false [ki],.c false [ki]],[(false,[ki])],true,.inl fun x=>IV x.1.1 x.2.1.1 x.2.2.1.1⟩
theorem Uw:ar Tryz.prog 179 aaR :=
 fq an Tryz.f179
def Sr (p0 p1:Int):Option Y7 :=
 (RT p0).bind fun y1 =>
 cond (!y1.2.1.1) (
 c12
 ) (
 (RT p1).bind fun y2 =>
 cond (cond (!y2.2.1.1) true (aw (aO .i64 4611686018427387904 p1) p0)) (
 c12
 ) (
 some ((),(((aj .i64 p0 p1),()),(true,()),()))
 )
 )
def abq:Su:=⟨[.c false [ki],.c false [ki]],[(false,[ki]),(false,[.bool])],true,.inl fun x=>Sr x.1.1 x.2.1.1⟩
theorem Vy:ar Tryz.prog 178 abq :=
 fq (ac Sf an) Tryz.f178
def JX (p0 p1:Int):Option im :=
 (IV p0 0 4611686018427387904).bind fun y1 =>
 (IV p1 0 4611686018427387904).bind fun y2 =>
 (Sr y1.2.1.1 y2.2.1.1).bind fun y3 =>
 cond (!y3.2.2.1.1) (
 c21
 ) (
 some ((),(y3.2.1,()))
 )
def abf:Su:=⟨[.c false [ki],.c false [ki]],[(false,[ki])],true,.inl fun x=>JX x.1.1 x.2.1.1⟩
theorem Qt:ar Tryz.prog 123 abf :=
 fq (ac Uw (ac Vy an)) Tryz.f123
def oI (t3:Int) (t6:List gD) (t7 t8:Int):Rd (Int×(List gD)×Int×Int×Unit) Unit :=
 cond (aw t8 t7) (
 cond (aR t8 t6) (
 (JX t3 (gt d95 t6 t8).2.1).bind fun y1 =>
 some (.inl (y1.2.1.1,t6,t7,(aj .i64 t8 1),()))
 ) none
 ) (
 some (.inr (.inl (t3,t6,t7,t8,())))
 )
def KQ:=mm (ah (cV oI))
def Oh (p0:List gD):Option im :=
 (KQ 0 p0 (ae p0) 0).bind (Sum.elim (fun y1 =>
 some ((),((y1.1,()),()))
 ) (fun _ =>
 none
 ))
def aaw:Su:=⟨[.c false [mE]],[(false,[ki])],true,.inl fun x=>Oh x.1.1⟩
theorem UG:ar Tryz.prog 124 aaw :=
 fl (ac Qt an) [] [(0,⟨[.d 3 ki,.d 6 mE,.d 7 ki,.d 8 ki],ah (cV oI)⟩)] [] Tryz.f124 (lp [0] (sc cN sn))
def Yw (p0:(List UInt8)×Int×Int×Int×Int×(List gD)×Int×Int×(List R3)×(List R3)×(List cD)×Unit):Option dY :=
 (sr p0.1).bind fun y1 =>
 cond (!y1.2.1.1) (
 c0
 ) (
 (qC p0.2.1 0 9007199254740992).bind fun y2 =>
 cond (!y2.2.1.1) (
 c0
 ) (
 (qC p0.2.2.2.1 0 1000).bind fun y3 =>
 cond (!y3.2.1.1) (
 c0
 ) (
 (qC p0.2.2.2.2.1 0 9007199254740992).bind fun y4 =>
 cond (!y4.2.1.1) (
 c0
 ) (
 (RT p0.2.2.1).bind fun y5 =>
 cond (!y5.2.1.1) (
 c0
 ) (
 (Oz p0.2.2.2.2.2.1).bind fun y6 =>
 cond y6.2.1.1 (
 (KS (p0.2.2.2.2.2.2.1,p0.2.2.2.2.2.2.2.1,p0.2.2.2.2.2.2.2.2.1,p0.2.2.2.2.2.2.2.2.2.1,())).bind fun y7 =>
 cond y7.2.1.1 (
 (NI p0.2.2.2.2.2.2.2.2.2.2.1).bind fun y8 =>
 cond y8.2.1.1 (
 (Oh p0.2.2.2.2.2.1).bind fun y9 =>
 (JX p0.2.2.1 y9.2.1.1).bind fun y10 =>
 some ((),(((bL y10.2.1.1 p0.2.1),()),()))
 ) (
 c0
 )
 ) (
 c0
 )
 ) (
 c0
 )
 )
 )
 )
 )
 )
def s64:Su:=⟨[.c true [.str,ki,ki,ki,ki,mE,ki,ki,q3,q3,dX]],[(false,[.bool])],true,.inl fun x=>Yw x.1⟩
theorem aaG:ar Tryz.prog 64 s64 :=
 fq (ac nY (ac QC (ac Sf (ac Wt (ac WE (ac VG (ac Qt (ac UG an)))))))) Tryz.f64
def oM (t6:List de) (t7 t8:Int) (b1:(List de)×Unit):Rd ((List de)×Int×Int×Y5×Unit) Y2 :=
 cond (aw t8 t7) (
 cond (aR t8 t6) (
 let u1:=(gt d59 t6 t8)
 (Yw u1).bind fun y1 =>
 cond (!y1.2.1.1) (
 some (.inr (.inr (false,())))
 ) (
 cond (aw 0 t8) (
 let u2:=(aO .i64 t8 1)
 cond (aR u2 b1.1) (
 cond (!(kB (gt d59 b1.1 u2).1 u1.1)) (
 some (.inr (.inr (false,())))
 ) (
 some (.inl (t6,t7,(aj .i64 t8 1),b1,()))
 )
 ) none
 ) (
 some (.inl (t6,t7,(aj .i64 t8 1),b1,()))
 )
 )
 ) none
 ) (
 some (.inr (.inl (t6,t7,t8,b1,())))
 )
def J6:=mm (ah (cV oM))
def Hl (p0:(List de)×Unit):Option dY :=
 (J6 p0.1 (ae p0.1) 0 p0).bind (Sum.elim (fun y1 =>
 some ((),(((bL (ae y1.2.2.2.1.1) 6),()),()))
 ) (fun y1 =>
 some ((),(y1,()))
 ))
def ZG:Su:=⟨[.c true [eH]],[(false,[.bool])],true,.inl fun x=>Hl x.1⟩
theorem PE:ar Tryz.prog 100 ZG :=
 fl (ac aaG an) [.d 2 .bool] [(0,⟨[.d 6 eH,.d 7 ki,.d 8 ki,.box 1 [(false,eH)]],ah (cV oM)⟩)] [] Tryz.f100 (lp [0] (sc cN sn))
def qm (t0:List UInt8) (t3 t4:Int):Rd Uc Unit :=
 cond (aw t4 (ae t0)) (
 cond (aR t4 t0) (
 some (.inl (t0,(Bu .i64 (kl .i64 (CQ .i64 t3 (bI .i64 (dE t0 t4))) 16777619) 4294967295),(aj .i64 t4 1),()))
 ) none
 ) (
 some (.inr (.inl (t0,t3,t4,())))
 )
def Lr:=kz (ah (dq qm))
def NN (p0:List UInt8):Option im :=
 (Lr p0 2166136261 0).bind (Sum.elim (fun y1 =>
 some ((),((y1.2.1,()),()))
 ) (fun _ =>
 none
 ))
def abn:Su:=⟨[.c false [.str]],[(false,[ki])],true,.inl fun x=>NN x.1.1⟩
theorem X6:ar Tryz.prog 163 abn :=
 fl an [] [(0,⟨[.d 0 .str,.d 3 ki,.d 4 ki],ah (dq qm)⟩)] [] Tryz.f163 (lp [0] (sc cN sn))
def An (p0:List UInt8) (p1:Int):Option im :=
 cond (aw p1 1) (
 c6
 ) (
 (NN p0).bind fun y1 =>
 cond (!(aq p1 0)) (
 some ((),(((fX y1.2.1.1 p1),()),()))
 ) none
 )
def abl:Su:=⟨[.c false [.str],.c false [ki]],[(false,[ki])],true,.inl fun x=>An x.1.1 x.2.1.1⟩
theorem Lg:ar Tryz.prog 101 abl :=
 fq (ac X6 an) Tryz.f101
def yB (t0:List dy) (t3:Int) (t11:List dy) (t12 t13:Int) (t23:List de) (t24 t25:Int) (b4:Int×(List de)×Unit):Rd ((List dy)×Int×(List dy)×Int×Int×(List de)×Int×Int×Uh×Unit) Y2 :=
 cond (aw t25 t24) (
 cond (aR t25 t23) (
 (An (gt d59 t23 t25).1 (ae t0)).bind fun y1 =>
 cond (!(aq y1.2.1.1 t3)) (
 some (.inr (.inr (false,())))
 ) (
 cond (aw 0 t25) (
 let u1:=(aO .i64 t25 1)
 cond (aR u1 b4.2.1) (
 cond (!(kB (gt d59 b4.2.1 u1).1 (gt d59 t23 t25).1)) (
 some (.inr (.inr (false,())))
 ) (
 some (.inl (t0,t3,t11,t12,t13,t23,t24,(aj .i64 t25 1),b4,()))
 )
 ) none
 ) (
 some (.inl (t0,t3,t11,t12,t13,t23,t24,(aj .i64 t25 1),b4,()))
 )
 )
 ) none
 ) (
 some (.inr (.inl (t0,t3,t11,t12,t13,t23,t24,t25,b4,())))
 )
def Qg:=UK (ah (DD yB))
def ya (t0 t11:List dy) (t12 t13:Int):Rd Zo Y2 :=
 cond (aw t13 t12) (
 cond (aR t13 t11) (
 let u1:=(gt d89 t11 t13)
 (qC u1.1 (-1) 11).bind fun y1 =>
 cond (!y1.2.1.1) (
 some (.inr (.inr (false,())))
 ) (
 (Qg t0 t13 t11 t12 t13 u1.2.1 (ae u1.2.1) 0 u1).bind (Sum.elim (fun y2 =>
 some (.inl (y2.1,y2.2.2.1,y2.2.2.2.1,(aj .i64 y2.2.2.2.2.1 1),()))
 ) (fun y2 =>
 some (.inr (.inr (y2.1,())))
 ))
 )
 ) none
 ) (
 some (.inr (.inl (t0,t11,t12,t13,())))
 )
def Yo:=mm (ah (cV ya))
def Yv (p0:List dy):Option dY :=
 let u1:=(ae p0)
 (qC u1 1 5).bind fun y1 =>
 cond (!y1.2.1.1) (
 c0
 ) (
 (Yo p0 p0 u1 0).bind (Sum.elim (fun y2 =>
 (MU y2.1).bind fun y3 =>
 (Hl y3.2.1).bind fun y4 =>
 some ((),(y4.2.1,()))
 ) (fun y2 =>
 some ((),(y2,()))
 ))
 )
def s57:Su:=⟨[.c false [eJ]],[(false,[.bool])],true,.inl fun x=>Yv x.1.1⟩
theorem acp:ar Tryz.prog 57 s57 :=
 fl (ac nY (ac Xa (ac PE (ac Lg an)))) [.d 2 .bool] [(2,⟨[.d 0 eJ,.d 3 ki,.d 11 eJ,.d 12 ki,.d 13 ki,.d 23 eH,.d 24 ki,.d 25 ki,.box 4 [(false,ki),(false,eH)]],ah (DD yB)⟩),(0,⟨[.d 0 eJ,.d 11 eJ,.d 12 ki,.d 13 ki],ah (cV ya)⟩)] [] Tryz.f57 (lp [0] (sc (lp [2] (sc cN sn)) sn))
def pE (t1:Int) (t7:List R3) (t8 t9:Int):Rd (Int×(List R3)×Int×Int×Unit) Y2 :=
 cond (aw t9 t8) (
 cond (aR t9 t7) (
 cond (aq (gt d3 t7 t9).1 t1) (
 some (.inr (.inr (true,())))
 ) (
 some (.inl (t1,t7,t8,(aj .i64 t9 1),()))
 )
 ) none
 ) (
 some (.inr (.inl (t1,t7,t8,t9,())))
 )
def RL:=mm (ah (cV pE))
def Np (p0:List R3) (p1:Int):Option dY :=
 (RL p1 p0 (ae p0) 0).bind (Sum.elim (fun _ =>
 c0
 ) (fun y1 =>
 some ((),(y1,()))
 ))
def acT:Su:=⟨[.c false [q3],.c false [ki]],[(false,[.bool])],true,.inl fun x=>Np x.1.1 x.2.1.1⟩
theorem V5:ar Tryz.prog 114 acT :=
 fl an [.d 4 .bool] [(0,⟨[.d 1 ki,.d 7 q3,.d 8 ki,.d 9 ki],ah (cV pE)⟩)] [] Tryz.f114 (lp [0] (sc cN sn))
def wI (t1:Int) (t5:List R3) (t11:List fj) (t12 t13:Int) (t23:List R3) (t24 t25:Int):Rd (Int×(List R3)×(List fj)×Int×Int×(List R3)×Int×Int×Unit) Y2 :=
 cond (aw t25 t24) (
 cond (aR t25 t23) (
 let u1:=(gt d3 t23 t25)
 cond (aq u1.1 (-1)) (
 let u2:=(aj .i64 t25 1)
 some (.inl (t1,t5,t11,t12,t13,t23,t24,u2,()))
 ) (
 cond (bL t1 u1.1) (
 some (.inr (.inr (false,())))
 ) (
 (Np t5 u1.1).bind fun y1 =>
 cond y1.2.1.1 (
 some (.inr (.inr (false,())))
 ) (
 cond (bT 8 t5 [u1]) (
 let u2:=(aj .i64 t25 1)
 some (.inl (t1,(jn t5 [u1]),t11,t12,t13,t23,t24,u2,()))
 ) none
 )
 )
 )
 ) none
 ) (
 some (.inr (.inl (t1,t5,t11,t12,t13,t23,t24,t25,())))
 )
def Q9:=Tj (ah (xx wI))
def xG (t1:Int) (t5:List R3) (t11:List fj) (t12 t13:Int):Rd (Int×(List R3)×(List fj)×Int×Int×Unit) Y2 :=
 cond (aw t13 t12) (
 cond (aR t13 t11) (
 let u1:=(gt d62 t11 t13)
 (Q9 t1 t5 t11 t12 t13 [(u1.2.2.2.2.1,()),(u1.2.2.2.2.2.1,()),(u1.2.2.2.2.2.2.1,())] (ae [(u1.2.2.2.2.1,()),(u1.2.2.2.2.2.1,()),(u1.2.2.2.2.2.2.1,())]) 0).bind (Sum.elim (fun y1 =>
 some (.inl (y1.1,y1.2.1,y1.2.2.1,y1.2.2.2.1,(aj .i64 y1.2.2.2.2.1 1),()))
 ) (fun y1 =>
 some (.inr (.inr (y1.1,())))
 ))
 ) none
 ) (
 some (.inr (.inl (t1,t5,t11,t12,t13,())))
 )
def Wo:=tV (ah (dQ xG))
def YL (p0:List fj) (p1:Int):Option dY :=
 (Wo p1 [] p0 (ae p0) 0).bind (Sum.elim (fun _ =>
 c2
 ) (fun y1 =>
 some ((),(y1,()))
 ))
def s59:Su:=⟨[.c false [il],.c false [ki]],[(false,[.bool])],true,.inl fun x=>YL x.1.1 x.2.1.1⟩
theorem aaB:ar Tryz.prog 59 s59 :=
 fl (ac V5 an) [.d 4 .bool] [(2,⟨[.d 1 ki,.own 5 q3,.d 11 il,.d 12 ki,.d 13 ki,.own 23 q3,.d 24 ki,.d 25 ki],ah (xx wI)⟩),(0,⟨[.d 1 ki,.own 5 q3,.d 11 il,.d 12 ki,.d 13 ki],ah (dQ xG)⟩)] [] Tryz.f59 (lp [0] (sc (lp [2] (sc cN sn)) sn))
def O7 (p0:(List R5)×Int×(List R3)×Int×Int×Int×Int×Int×(List R5)×Unit):Option dY :=
 cond (aq p0.2.1 1) (
 let u1:=(ae p0.2.2.1)
 some ((),(((cond (bL 0 p0.2.2.2.1) (aw p0.2.2.2.1 u1) false),()),()))
 ) (
 cond (aq p0.2.1 2) (
 let u1:=(ae p0.2.2.1)
 some ((),(((cond (aq p0.2.2.2.1 u1) (aw 0 u1) false),()),()))
 ) (
 cond (aq p0.2.1 3) (
 let u1:=(ae p0.2.2.1)
 (qC p0.2.2.2.1 1 u1).bind fun y1 =>
 some ((),(y1.2.1,()))
 ) (
 some ((),(((aq p0.2.2.2.1 0),()),()))
 )
 )
 )
def Z7:Su:=⟨[.c true [q5,ki,q3,ki,ki,ki,ki,ki,q5]],[(false,[.bool])],true,.inl fun x=>O7 x.1⟩
theorem WA:ar Tryz.prog 115 Z7 :=
 fq (ac nY an) Tryz.f115
def oC (t0:List R5) (t1 t2:Int) (t9:List UInt8) (t10:Int):Rd ((List R5)×Int×Int×(List UInt8)×Int×Unit) Unit :=
 cond (aw t10 (aj .i64 t1 (mA .i64 (aj .i64 t2 1) 2))) (
 cond (aR t10 t0) (
 cond (aR t10 t0) (
 let u1:=(bI .i64 (gt d5 t0 t10).1)
 let u2:=(strOf [((bI .u8 (aj .i64 48 (mA .i64 u1 16))),()),((bI .u8 (aj .i64 48 (fX u1 16))),())])
 cond (GM t9 u2) (
 some (.inl (t0,t1,t2,(QY t9 u2),(aj .i64 t10 1),()))
 ) none
 ) none
 ) none
 ) (
 some (.inr (.inl (t0,t1,t2,t9,t10,())))
 )
def J0:=tV (ah (dQ oC))
def wT (p0:List R5) (p1 p2:Int):Option Xm :=
 let u1:=(ae p0)
 cond (cond (cond (cond (aw p2 1) true (aw 38 p2)) true (aw p1 0)) true (aw u1 p1)) (
 c4
 ) (
 cond (aw (aO .i64 u1 p1) (mA .i64 (aj .i64 p2 1) 2)) (
 c4
 ) (
 (J0 p0 p1 p2 [] p1).bind (Sum.elim (fun y1 =>
 cond (aq (fX y1.2.2.1 2) 1) (
 cond (aR 0 y1.2.2.2.1) (
 cond (!(aq (dE y1.2.2.2.1 0) 48)) (
 c4
 ) (
 let u2:=(ae y1.2.2.2.1)
 cond (dW 1 u2 y1.2.2.2.1) (
 let u3:=(sub y1.2.2.2.1 1 u2)
 (si u3).bind fun y2 =>
 cond (!y2.2.1.1) (
 c4
 ) (
 some ((),((u3,()),((aj .i64 y1.2.1 (mA .i64 (aj .i64 y1.2.2.1 1) 2)),()),(true,()),()))
 )
 ) none
 )
 ) none
 ) (
 (si y1.2.2.2.1).bind fun y2 =>
 cond (!y2.2.1.1) (
 c4
 ) (
 some ((),((y1.2.2.2.1,()),((aj .i64 y1.2.1 (mA .i64 (aj .i64 y1.2.2.1 1) 2)),()),(true,()),()))
 )
 )
 ) (fun _ =>
 none
 ))
 )
 )
def ZU:Su:=⟨[.c false [q5],.c false [ki],.c false [ki]],[(false,[.str]),(false,[ki]),(false,[.bool])],true,.inl fun x=>wT x.1.1 x.2.1.1 x.2.2.1.1⟩
theorem IW:ar Tryz.prog 180 ZU :=
 fl (ac ux an) [] [(0,⟨[.d 0 q5,.d 1 ki,.d 2 ki,.d 9 .str,.d 10 ki],ah (dQ oC)⟩)] [] Tryz.f180 (lp [0] (sc cN sn))
def tz (t0:List R5) (t1:Int) (t7:List R3) (t8:Int):Rd ((List R5)×Int×(List R3)×Int×Unit) Unit :=
 cond (bL t8 64) (
 let u1:=(aO .i64 t8 1)
 let u2:=(aj .i64 t1 (mA .i64 u1 8))
 cond (aR u2 t0) (
 let u3:=(aO .i64 7 (fX u1 8))
 cond (bL 0 u3) (
 cond (aq (fX (iT .i64 (bI .i64 (gt d5 t0 u2).1) u3) 2) 1) (
 cond (bT 8 t7 [(t8,())]) (
 let u4:=(aj .i64 t8 1)
 some (.inl (t0,t1,(jn t7 [(t8,())]),u4,()))
 ) none
 ) (
 let u4:=(aj .i64 t8 1)
 some (.inl (t0,t1,t7,u4,()))
 )
 ) none
 ) none
 ) (
 some (.inr (.inl (t0,t1,t7,t8,())))
 )
def JM:=mm (ah (cV tz))
def DQ (p0:List R5) (p1:Int):Option Zh :=
 cond (cond (aw p1 0) true (aw (aO .i64 (ae p0) 8) p1)) (
 c9
 ) (
 (JM p0 p1 [] 1).bind (Sum.elim (fun y1 =>
 some ((),((y1.2.2.1,()),((aj .i64 y1.2.1 8),()),(true,()),()))
 ) (fun _ =>
 none
 ))
 )
def aaq:Su:=⟨[.c false [q5],.c false [ki]],[(false,[q3]),(false,[ki]),(false,[.bool])],true,.inl fun x=>DQ x.1.1 x.2.1.1⟩
theorem US:ar Tryz.prog 225 aaq :=
 fl an [] [(0,⟨[.d 0 q5,.d 1 ki,.own 7 q3,.d 8 ki],ah (cV tz)⟩)] [] Tryz.f225 (lp [0] (sc cN sn))
def HP (p0:Int):Option im :=
 cond (aq p0 3) (
 c7
 ) (
 cond (aq p0 4) (
 c7
 ) (
 cond (aq p0 7) (
 c7
 ) (
 cond (aq p0 11) (
 c7
 ) (
 cond (aq p0 14) (
 c7
 ) (
 cond (aq p0 49) (
 c7
 ) (
 cond (aq p0 37) (
 c5
 ) (
 cond (aq p0 38) (
 c5
 ) (
 cond (aq p0 39) (
 c5
 ) (
 cond (aq p0 41) (
 c5
 ) (
 cond (aq p0 95) (
 c5
 ) (
 cond (aq p0 2) (
 Zf
 ) (
 cond (aq p0 102) (
 c13
 ) (
 cond (aq p0 103) (
 c13
 ) (
 cond (aq p0 48) (
 some ((),((5,()),()))
 ) (
 cond (aq p0 54) (
 some ((),((5,()),()))
 ) (
 c6
 )
 )
 )
 )
 )
 )
 )
 )
 )
 )
 )
 )
 )
 )
 )
 )
def abu:Su:=⟨[.c false [ki]],[(false,[ki])],true,.inl fun x=>HP x.1.1⟩
theorem Kj:ar Tryz.prog 226 abu :=
 fq an Tryz.f226
def py (t0:List R5) (t6:Int) (t8:List R3) (t9:Bool) (t28:List R3) (t29 t30:Int):Rd ((List R5)×Int×(List R3)×Bool×(List R3)×Int×Int×Unit) ZL :=
 cond (aw t30 t29) (
 cond (aR t30 t28) (
 let u1:=(gt d3 t28 t30)
 cond (aq u1.1 1) (
 let u2:=(aj .i64 t30 1)
 some (.inl (t0,t6,t8,true,t28,t29,u2,()))
 ) (
 cond (bT 8 t8 [u1]) (
 let u2:=(aj .i64 t30 1)
 some (.inl (t0,t6,(jn t8 [u1]),t9,t28,t29,u2,()))
 ) none
 )
 ) none
 ) (
 some (.inr (.inl (t0,t6,t8,t9,t28,t29,t30,())))
 )
def I9:=Za (ah (LC py))
def qA (t8:List R3) (t13:Int) (t56:List R3) (t57 t58:Int):Rd ((List R3)×Int×(List R3)×Int×Int×Unit) ZL :=
 cond (aw t58 t57) (
 cond (aR t58 t56) (
 cond (bT 8 t8 [((aj .i64 (gt d3 t56 t58).1 64),())]) (
 some (.inl ((jn t8 [((aj .i64 (gt d3 t56 t58).1 64),())]),t13,t56,t57,(aj .i64 t58 1),()))
 ) none
 ) none
 ) (
 some (.inr (.inl (t8,t13,t56,t57,t58,())))
 )
def Mu:=tV (ah (dQ qA))
def pY (_:Unit) (t6:Int) (t8:List R3) (t70 t71:Int):Rd (Unit×Int×(List R3)×Int×Int×Unit) ZL :=
 cond (aw t71 t70) (
 cond (aR t71 t8) (
 (HP (gt d3 t8 t71).1).bind fun y1 =>
 cond (aq y1.2.1.1 0) (
 some (.inr (.inr ([],0,false,())))
 ) (
 some (.inl ((),t6,t8,t70,(aj .i64 t71 1),()))
 )
 ) none
 ) (
 some (.inr (.inl ((),t6,t8,t70,t71,())))
 )
def DJ:=tV (ah (dQ pY))
def JR (p0:List R5):Option Zh :=
 (DQ p0 2).bind fun y1 =>
 cond (!y1.2.2.2.1.1) (
 c9
 ) (
 (I9 p0 y1.2.2.1.1 [] false y1.2.1.1 (ae y1.2.1.1) 0).bind (Sum.elim (fun y2 =>
 cond y2.2.2.2.1 (
 (DQ y2.1 y2.2.1).bind fun y3 =>
 let u1:=(ae y3.2.1.1)
 cond (cond (!y3.2.2.2.1.1) true (aq u1 0)) (
 c9
 ) (
 (Mu y2.2.2.1 y3.2.2.1.1 y3.2.1.1 u1 0).bind (Sum.elim (fun y4 =>
 (DJ () y4.2.1 y4.1 (ae y4.1) 0).bind (Sum.elim (fun y5 =>
 some ((),((y5.2.2.1,()),(y5.2.1,()),(true,()),()))
 ) (fun y5 =>
 some ((),((y5.1,()),(y5.2.1,()),(y5.2.2.1,()),()))
 ))
 ) (fun y4 =>
 some ((),((y4.1,()),(y4.2.1,()),(y4.2.2.1,()),()))
 ))
 )
 ) (
 (DJ () y2.2.1 y2.2.2.1 (ae y2.2.2.1) 0).bind (Sum.elim (fun y3 =>
 some ((),((y3.2.2.1,()),(y3.2.1,()),(true,()),()))
 ) (fun y3 =>
 some ((),((y3.1,()),(y3.2.1,()),(y3.2.2.1,()),()))
 ))
 )
 ) (fun y2 =>
 some ((),((y2.1,()),(y2.2.1,()),(y2.2.2.1,()),()))
 ))
 )
def aaH:Su:=⟨[.c false [q5]],[(false,[q3]),(false,[ki]),(false,[.bool])],true,.inl fun x=>JR x.1.1⟩
theorem V0:ar Tryz.prog 181 aaH :=
 fl (ac US (ac Kj an)) [.own 2 q3,.d 3 ki,.d 4 .bool] [(0,⟨[.d 0 q5,.d 6 ki,.own 8 q3,.d 9 .bool,.own 28 q3,.d 29 ki,.d 30 ki],ah (LC py)⟩),(2,⟨[.own 8 q3,.d 13 ki,.own 56 q3,.d 57 ki,.d 58 ki],ah (dQ qA)⟩),(4,⟨[.al 69 8,.d 6 ki,.own 8 q3,.d 70 ki,.d 71 ki],ah (dQ pY)⟩)] [] Tryz.f181 (lp [0,2,4] (sc cN (sc cN (sc cN sn))))
def LG (p0:Int):Option im :=
 cond (aq p0 2) (
 some ((),((19,()),()))
 ) (
 cond (aq p0 3) (
 c14
 ) (
 cond (aq p0 11) (
 c14
 ) (
 cond (aq p0 38) (
 c14
 ) (
 cond (aq p0 4) (
 c15
 ) (
 cond (aq p0 37) (
 c15
 ) (
 cond (aq p0 95) (
 c15
 ) (
 cond (aq p0 7) (
 some ((),((10,()),()))
 ) (
 cond (aq p0 14) (
 c13
 ) (
 cond (aq p0 39) (
 c5
 ) (
 cond (aq p0 41) (
 some ((),((8,()),()))
 ) (
 cond (aq p0 49) (
 Zf
 ) (
 cond (aq p0 102) (
 some ((),((20,()),()))
 ) (
 cond (aq p0 103) (
 some ((),((20,()),()))
 ) (
 cond (aq p0 48) (
 some ((),((60,()),()))
 ) (
 cond (aq p0 54) (
 some ((),((60,()),()))
 ) (
 c6
 )
 )
 )
 )
 )
 )
 )
 )
 )
 )
 )
 )
 )
 )
 )
 )
def aao:Su:=⟨[.c false [ki]],[(false,[ki])],true,.inl fun x=>LG x.1.1⟩
theorem P7:ar Tryz.prog 227 aao :=
 fq an Tryz.f227
def Xb (p0:Int):Option im :=
 cond (aq p0 3) (
 c5
 ) (
 cond (aq p0 4) (
 c5
 ) (
 cond (aq p0 5) (
 Zf
 ) (
 c6
 )
 )
 )
def aa1:Su:=⟨[.c false [ki]],[(false,[ki])],true,.inl fun x=>Xb x.1.1⟩
theorem XQ:ar Tryz.prog 228 aa1 :=
 fq an Tryz.f228
def oV (t0:List UInt8) (t4 t5:Int):Rd Uc Unit :=
 cond (aw t5 (ae t0)) (
 cond (aR t5 t0) (
 some (.inl (t0,(aO .i64 (aj .i64 (kl .i64 t4 10) (bI .i64 (dE t0 t5))) 48),(aj .i64 t5 1),()))
 ) none
 ) (
 some (.inr (.inl (t0,t4,t5,())))
 )
def Mk:=kz (ah (dq oV))
def uN (p0:List UInt8):Option Y7 :=
 (si p0).bind fun y1 =>
 cond (cond (!y1.2.1.1) true (aw 18 (ae p0))) (
 c12
 ) (
 (Mk p0 0 0).bind (Sum.elim (fun y2 =>
 some ((),((y2.2.1,()),(true,()),()))
 ) (fun _ =>
 none
 ))
 )
def acX:Su:=⟨[.c false [.str]],[(false,[ki]),(false,[.bool])],true,.inl fun x=>uN x.1.1⟩
theorem P5:ar Tryz.prog 205 acX :=
 fl (ac ux an) [] [(0,⟨[.d 0 .str,.d 4 ki,.d 5 ki],ah (dq oV)⟩)] [] Tryz.f205 (lp [0] (sc cN sn))
def J7 (p0:List R5) (p1 p2:Int):Option (Unit×(Y1×Y1×Y2×Unit)) :=
 cond (cond (!(aq p2 2)) (!(aq p2 3)) false) (
 c16
 ) (
 (wT p0 p1 p2).bind fun y1 =>
 (uN y1.2.1.1).bind fun y2 =>
 some ((),(y2.2.1,y1.2.2.1,y1.2.2.2.1,()))
 )
def aaM:Su:=⟨[.c false [q5],.c false [ki],.c false [ki]],[(false,[ki]),(false,[ki]),(false,[.bool])],true,.inl fun x=>J7 x.1.1 x.2.1.1 x.2.2.1.1⟩
theorem U1:ar Tryz.prog 229 aaM :=
 fq (ac IW (ac P5 an)) Tryz.f229
def pJ (t0:List UInt8) (t3:Int):Rd Wx Y2 :=
 cond (aw t3 (ae t0)) (
 cond (aR t3 t0) (
 let u1:=(dE t0 t3)
 cond (aw u1 32) (
 some (.inr (.inr (false,())))
 ) (
 cond (aR t3 t0) (
 cond (aw 126 u1) (
 some (.inr (.inr (false,())))
 ) (
 some (.inl (t0,(aj .i64 t3 1),()))
 )
 ) none
 )
 ) none
 ) (
 some (.inr (.inl (t0,t3,())))
 )
def L9:=Q2 (ah (wB pJ))
def Aa (p0:List UInt8):Option dY :=
 (L9 p0 0).bind (Sum.elim (fun _ =>
 c2
 ) (fun y1 =>
 some ((),(y1,()))
 ))
def aaQ:Su:=⟨[.c false [.str]],[(false,[.bool])],true,.inl fun x=>Aa x.1.1⟩
theorem QN:ar Tryz.prog 230 aaQ :=
 fl an [.d 2 .bool] [(0,⟨[.d 0 .str,.d 3 ki],ah (wB pJ)⟩)] [] Tryz.f230 (lp [0] (sc cN sn))
def Nk (p0:List R5) (p1 p2:Int):Option Xm :=
 (HP p2).bind fun y1 =>
 (LG p2).bind fun y2 =>
 cond (cond (aq y1.2.1.1 0) true (aw p1 0)) (
 c4
 ) (
 let u1:=(Xb y1.2.1.1)
 Option.bind u1 fun y3 =>
 cond (aw 0 y3.2.1.1) (
 Option.bind u1 fun y4 =>
 (J7 p0 p1 y4.2.1.1).bind fun y5 =>
 cond (!y5.2.2.2.1.1) (
 c4
 ) (
 (qC y5.2.1.1 1 y2.2.1.1).bind fun y6 =>
 cond (!y6.2.1.1) (
 c4
 ) (
 let u2:=(cond (aq y1.2.1.1 1) true (aq y1.2.1.1 3))
 cond u2 (
 (wT p0 y5.2.2.1.1 y5.2.1.1).bind fun y7 =>
 some ((),(y7.2.1,y7.2.2.1,y7.2.2.2.1,()))
 ) (
 let u3:=(ae p0)
 cond (cond (aw u3 y5.2.2.1.1) true (aw (aO .i64 u3 y5.2.2.1.1) y5.2.1.1)) (
 c4
 ) (
 let u4:=(aj .i64 y5.2.2.1.1 y5.2.1.1)
 let u5:=(dW y5.2.2.1.1 u4 p0)
 cond u5 (
 let u6:=(strOf (sub p0 y5.2.2.1.1 u4))
 (Aa u6).bind fun y7 =>
 cond (!y7.2.1.1) (
 c4
 ) (
 cond u5 (
 some ((),((u6,()),(u4,()),(true,()),()))
 ) none
 )
 ) none
 )
 )
 )
 )
 ) (
 let u2:=(cond (aq y1.2.1.1 1) true (aq y1.2.1.1 3))
 cond u2 (
 (wT p0 p1 y2.2.1.1).bind fun y4 =>
 some ((),(y4.2.1,y4.2.2.1,y4.2.2.2.1,()))
 ) (
 let u3:=(ae p0)
 cond (cond (aw u3 p1) true (aw (aO .i64 u3 p1) y2.2.1.1)) (
 c4
 ) (
 let u4:=(aj .i64 p1 y2.2.1.1)
 let u5:=(dW p1 u4 p0)
 cond u5 (
 let u6:=(strOf (sub p0 p1 u4))
 (Aa u6).bind fun y4 =>
 cond (!y4.2.1.1) (
 c4
 ) (
 cond u5 (
 some ((),((u6,()),(u4,()),(true,()),()))
 ) none
 )
 ) none
 )
 )
 )
 )
def ZK:Su:=⟨[.c false [q5],.c false [ki],.c false [ki]],[(false,[.str]),(false,[ki]),(false,[.bool])],true,.inl fun x=>Nk x.1.1 x.2.1.1 x.2.2.1.1⟩
theorem UM:ar Tryz.prog 182 ZK :=
 fq (ac nY (ac IW (ac Kj (ac P7 (ac XQ (ac U1 (ac QN an))))))) Tryz.f182
def oD (t0:List R5) (t8:Int) (t35:List R3) (t36 t37:Int) (b2 b9:(List UInt8)×(List iX)×Unit):Rd ((List R5)×Int×(List R3)×Int×Int×Dz×Dz×Unit) YK :=
 cond (aw t37 t36) (
 cond (aR t37 t35) (
 (Nk t0 t8 (gt d3 t35 t37).1).bind fun y1 =>
 cond (!y1.2.2.2.1.1) (
 some (.inr (.inr (3,([],[],()),())))
 ) (
 cond (bT 24 b9.2.1 [((gt d3 t35 t37).1,y1.2.1.1,())]) (
 some (.inl (t0,y1.2.2.1.1,t35,t36,(aj .i64 t37 1),b2,(b9.1,(jn b9.2.1 [((gt d3 t35 t37).1,y1.2.1.1,())]),()),()))
 ) none
 )
 ) none
 ) (
 some (.inr (.inl (t0,t8,t35,t36,t37,b2,b9,())))
 )
def JI:=Za (ah (LC oD))
def Nj (p0:List R5):Option (Unit×(Dz×Y1×Unit)) :=
 (wT p0 0 4).bind fun y1 =>
 cond (!y1.2.2.2.1.1) (
 some ((),(([],[],()),(1,()),()))
 ) (
 (JR p0).bind fun y2 =>
 cond (!y2.2.2.2.1.1) (
 c17
 ) (
 (JI p0 y2.2.2.1.1 y2.2.1.1 (ae y2.2.1.1) 0 ([],[],()) (y1.2.1.1,[],())).bind (Sum.elim (fun y3 =>
 cond (!(aq y3.2.1 (ae y3.1))) (
 ZY
 ) (
 some ((),(y3.2.2.2.2.2.2.1,(0,()),()))
 )
 ) (fun y3 =>
 some ((),(y3.2.1,(y3.1,()),()))
 ))
 )
 )
def aci:Su:=⟨[.c false [q5]],[(true,[.str,jf]),(false,[ki])],true,.inl fun x=>Nj x.1.1⟩
theorem Wb:ar Tryz.prog 127 aci :=
 fl (ac IW (ac V0 (ac UM an))) [.d 3 ki,.box 2 [(false,.str),(true,jf)]] [(0,⟨[.d 0 q5,.d 8 ki,.own 35 q3,.d 36 ki,.d 37 ki,.box 2 [(false,.str),(true,jf)],.box 9 [(false,.str),(true,jf)]],ah (LC oD)⟩)] [] Tryz.f127 (lp [0] (sc cN sn))
def MQ (p0:Int) (p1:List UInt8):Option dY :=
 (LG p0).bind fun y1 =>
 (HP p0).bind fun y2 =>
 cond (aq y2.2.1.1 1) (
 let u1:=(si p1)
 Option.bind u1 fun y3 =>
 let u2:=(ae p1)
 some ((),(((cond y3.2.1.1 (aq u2 y1.2.1.1) false),()),()))
 ) (
 cond (aq y2.2.1.1 2) (
 let u1:=(Aa p1)
 Option.bind u1 fun y3 =>
 let u2:=(ae p1)
 some ((),(((cond y3.2.1.1 (aq u2 y1.2.1.1) false),()),()))
 ) (
 cond (aq y2.2.1.1 3) (
 let u1:=(si p1)
 Option.bind u1 fun y3 =>
 let u2:=(ae p1)
 some ((),(((cond y3.2.1.1 (bL u2 y1.2.1.1) false),()),()))
 ) (
 cond (aq y2.2.1.1 4) (
 let u1:=(Aa p1)
 Option.bind u1 fun y3 =>
 cond y3.2.1.1 (
 let u2:=(ae p1)
 let u3:=(qC u2 1 y1.2.1.1)
 Option.bind u3 fun y4 =>
 some ((),(y4.2.1,()))
 ) (
 c0
 )
 ) (
 cond (aq y2.2.1.1 5) (
 let u1:=(Aa p1)
 Option.bind u1 fun y3 =>
 cond y3.2.1.1 (
 let u2:=(ae p1)
 let u3:=(qC u2 1 y1.2.1.1)
 Option.bind u3 fun y4 =>
 some ((),(y4.2.1,()))
 ) (
 c0
 )
 ) (
 c0
 )
 )
 )
 )
 )
def aaF:Su:=⟨[.c false [ki],.c false [.str]],[(false,[.bool])],true,.inl fun x=>MQ x.1.1 x.2.1.1⟩
theorem XW:ar Tryz.prog 256 aaF :=
 fq (ac nY (ac ux (ac Kj (ac P7 (ac QN an))))) Tryz.f256
def oK (t16:List iX) (t17 t18:Int) (b1:(List UInt8)×(List iX)×Unit):Rd ((List iX)×Int×Int×Dz×Unit) Y2 :=
 cond (aw t18 t17) (
 cond (aR t18 t16) (
 let u1:=(gt d175 t16 t18)
 (MQ u1.1 u1.2.1).bind fun y1 =>
 cond (!y1.2.1.1) (
 some (.inr (.inr (false,())))
 ) (
 cond (aw 0 t18) (
 let u2:=(aO .i64 t18 1)
 cond (aR u2 b1.2.1) (
 cond (bL u1.1 (gt d175 b1.2.1 u2).1) (
 some (.inr (.inr (false,())))
 ) (
 some (.inl (t16,t17,(aj .i64 t18 1),b1,()))
 )
 ) none
 ) (
 some (.inl (t16,t17,(aj .i64 t18 1),b1,()))
 )
 )
 ) none
 ) (
 some (.inr (.inl (t16,t17,t18,b1,())))
 )
def D6:=mm (ah (cV oK))
def Ov (p0:(List UInt8)×(List iX)×Unit):Option dY :=
 (si p0.1).bind fun y1 =>
 cond (cond (!y1.2.1.1) true (!(aq (ae p0.1) 4))) (
 c0
 ) (
 (D6 p0.2.1 (ae p0.2.1) 0 p0).bind (Sum.elim (fun _ =>
 c2
 ) (fun y2 =>
 some ((),(y2,()))
 ))
 )
def ZB:Su:=⟨[.c true [.str,jf]],[(false,[.bool])],true,.inl fun x=>Ov x.1⟩
theorem Vg:ar Tryz.prog 199 ZB :=
 fl (ac ux (ac XW an)) [.d 2 .bool] [(0,⟨[.d 16 jf,.d 17 ki,.d 18 ki,.box 1 [(false,.str),(false,jf)]],ah (cV oK)⟩)] [] Tryz.f199 (lp [0] (sc cN sn))
def T1 (p0:List UInt8):Option dY :=
 some ((),(((cond (cond (cC p0 [48,49,48,48]) true (cC p0 [48,50,48,48])) true (cC p0 [48,50,50,48])),()),()))
def ZO:Su:=⟨[.c false [.str]],[(false,[.bool])],true,.inl fun x=>T1 x.1.1⟩
theorem XA:ar Tryz.prog 200 ZO :=
 fq an Tryz.f200
def pr (t1:Int) (t9:List iX) (t10 t11:Int):Rd (Int×(List iX)×Int×Int×Unit) ((List UInt8)×Bool×Unit) :=
 cond (aw t11 t10) (
 cond (aR t11 t9) (
 let u1:=(gt d175 t9 t11)
 cond (aq u1.1 t1) (
 some (.inr (.inr (u1.2.1,true,())))
 ) (
 some (.inl (t1,t9,t10,(aj .i64 t11 1),()))
 )
 ) none
 ) (
 some (.inr (.inl (t1,t9,t10,t11,())))
 )
def Jt:=mm (ah (cV pr))
def kh (p0:(List UInt8)×(List iX)×Unit) (p1:Int):Option (Unit×(Y9×Y2×Unit)) :=
 (Jt p1 p0.2.1 (ae p0.2.1) 0).bind (Sum.elim (fun _ =>
 some ((),(([],()),(false,()),()))
 ) (fun y1 =>
 some ((),((y1.1,()),(y1.2.1,()),()))
 ))
def aaT:Su:=⟨[.c true [.str,jf],.c false [ki]],[(false,[.str]),(false,[.bool])],true,.inl fun x=>kh x.1 x.2.1.1⟩
theorem Yk:ar Tryz.prog 128 aaT :=
 fl an [.d 4 .str,.d 5 .bool] [(0,⟨[.d 1 ki,.d 9 jf,.d 10 ki,.d 11 ki],ah (cV pr)⟩)] [] Tryz.f128 (lp [0] (sc cN sn))
def Cl (p0:Int):Option dY :=
 (qC p0 1 8).bind fun y1 =>
 some ((),(y1.2.1,()))
def acz:Su:=⟨[.c false [ki]],[(false,[.bool])],true,.inl fun x=>Cl x.1.1⟩
theorem F4:ar Tryz.prog 259 acz :=
 fq (ac nY an) Tryz.f259
def UN  : Option Ui :=
 some ((),(([([],()),([48,49,48,48],()),([48,49,48,48],()),([48,50,50,48],()),([48,50,50,48],()),([48,50,50,48],()),([48,50,48,48],()),([48,49,48,48],()),([48,50,48,48],())],()),()))
def ZS:Su:=⟨[],[(false,[q9])],true,.inl fun x=>UN ⟩
theorem Ws:ar Tryz.prog 296 ZS :=
 fq an Tryz.f296
def HS (p0:Int):Option Nt :=
 (Cl p0).bind fun y1 =>
 cond (!y1.2.1.1) (
 c19
 ) (
 (UN).bind fun y2 =>
 cond (aR p0 y2.2.1.1) (
 some ((),((gt d9 y2.2.1.1 p0),()))
 ) none
 )
def ZF:Su:=⟨[.c false [ki]],[(false,[.str])],true,.inl fun x=>HS x.1.1⟩
theorem Qm:ar Tryz.prog 257 ZF :=
 fq (ac F4 (ac Ws an)) Tryz.f257
def VZ  : Option Ui :=
 some ((),(([([],()),([48,48],()),([48,50],()),([48,49],()),([48,48],()),([50,48],()),([52,48],()),([51,49],()),([57,48],())],()),()))
def Zv:Su:=⟨[],[(false,[q9])],true,.inl fun x=>VZ ⟩
theorem VS:ar Tryz.prog 297 Zv :=
 fq an Tryz.f297
def RE (p0:Int):Option Nt :=
 (Cl p0).bind fun y1 =>
 cond (!y1.2.1.1) (
 c19
 ) (
 (VZ).bind fun y2 =>
 cond (aR p0 y2.2.1.1) (
 some ((),((gt d9 y2.2.1.1 p0),()))
 ) none
 )
def acn:Su:=⟨[.c false [ki]],[(false,[.str])],true,.inl fun x=>RE x.1.1⟩
theorem V2:ar Tryz.prog 258 acn :=
 fq (ac F4 (ac VS an)) Tryz.f258
def vY (t0 t1:List UInt8) (t5:Int):Rd ((List UInt8)×(List UInt8)×Int×Unit) Y1 :=
 cond (bL t5 8) (
 (HS t5).bind fun y1 =>
 cond (cC y1.2.1.1 t0) (
 (RE t5).bind fun y2 =>
 cond (dW 0 2 t1) (
 cond (cC y2.2.1.1 (sub t1 0 2)) (
 some (.inr (.inr (t5,())))
 ) (
 some (.inl (t0,t1,(aj .i64 t5 1),()))
 )
 ) none
 ) (
 some (.inl (t0,t1,(aj .i64 t5 1),()))
 )
 ) (
 some (.inr (.inl (t0,t1,t5,())))
 )
def II:=kz (ah (dq vY))
def ID (p0 p1:List UInt8):Option im :=
 (II p0 p1 1).bind (Sum.elim (fun _ =>
 c6
 ) (fun y1 =>
 some ((),(y1,()))
 ))
def acO:Su:=⟨[.c false [.str],.c false [.str]],[(false,[ki])],true,.inl fun x=>ID x.1.1 x.2.1.1⟩
theorem UX:ar Tryz.prog 201 acO :=
 fl (ac Qm (ac V2 an)) [.d 4 ki] [(0,⟨[.d 0 .str,.d 1 .str,.d 5 ki],ah (dq vY)⟩)] [] Tryz.f201 (lp [0] (sc cN sn))
def GB (p0:Int):Option dY :=
 (Cl p0).bind fun y1 =>
 some ((),(((cond y1.2.1.1 (aw p0 7) false),()),()))
def ZR:Su:=⟨[.c false [ki]],[(false,[.bool])],true,.inl fun x=>GB x.1.1⟩
theorem PR:ar Tryz.prog 202 ZR :=
 fq (ac F4 an) Tryz.f202
def Bv (t0:List UInt8) (t3:Int):Rd Wx Unit :=
 cond (aw 0 t3) (
 let u1:=(aO .i64 t3 1)
 cond (aR u1 t0) (
 cond (aq (dE t0 u1) 32) (
 some (.inl (t0,u1,()))
 ) (
 some (.inr (.inl (t0,t3,())))
 )
 ) none
 ) (
 some (.inr (.inl (t0,t3,())))
 )
def LX:=Q2 (ah (wB Bv))
def Nv (p0:List UInt8):Option Nt :=
 (LX p0 (ae p0)).bind (Sum.elim (fun y1 =>
 cond (dW 0 y1.2.1 y1.1) (
 some ((),(((sub y1.1 0 y1.2.1),()),()))
 ) none
 ) (fun _ =>
 none
 ))
def ab0:Su:=⟨[.c false [.str]],[(false,[.str])],true,.inl fun x=>Nv x.1.1⟩
theorem XC:ar Tryz.prog 203 ab0 :=
 fl an [] [(0,⟨[.d 0 .str,.d 3 ki],ah (wB Bv)⟩)] [] Tryz.f203 (lp [0] (sc cN sn))
def Dt (p0:Int):Option dY :=
 (qC p0 1 4).bind fun y1 =>
 some ((),(y1.2.1,()))
def aap:Su:=⟨[.c false [ki]],[(false,[.bool])],true,.inl fun x=>Dt x.1.1⟩
theorem Qs:ar Tryz.prog 204 aap :=
 fq (ac nY an) Tryz.f204
def lz (p0:Int×(List UInt8)×(List UInt8)×(List UInt8)×(List UInt8)×(List UInt8)×Int×Int×Unit):Option dY :=
 (Cl p0.1).bind fun y1 =>
 cond (!y1.2.1.1) (
 c0
 ) (
 (HS p0.1).bind fun y2 =>
 cond (!(cC p0.2.2.2.2.2.1 y2.2.1.1)) (
 c0
 ) (
 (sr p0.2.1).bind fun y3 =>
 cond (!y3.2.1.1) (
 c0
 ) (
 (si p0.2.2.2.2.1).bind fun y4 =>
 cond (cond (!y4.2.1.1) true (!(aq (ae p0.2.2.2.2.1) 6))) (
 c0
 ) (
 let u1:=(GB p0.1)
 Option.bind u1 fun y5 =>
 cond y5.2.1.1 (
 (I7 p0.2.2.2.1).bind fun y6 =>
 cond (!y6.2.1.1) (
 c0
 ) (
 Option.bind u1 fun y7 =>
 cond (cond (!y7.2.1.1) (!(cC p0.2.2.2.1 [])) false) (
 c0
 ) (
 let u2:=(Dt p0.1)
 Option.bind u2 fun y8 =>
 cond y8.2.1.1 (
 let u3:=(qC p0.2.2.2.2.2.2.1 0 999999999999)
 Option.bind u3 fun y9 =>
 cond (!y9.2.1.1) (
 c0
 ) (
 Option.bind u2 fun y10 =>
 cond (cond (!y10.2.1.1) (!(aq p0.2.2.2.2.2.2.1 0)) false) (
 c0
 ) (
 cond (aq p0.1 1) (
 let u4:=(qC p0.2.2.2.2.2.2.2.1 0 9999)
 Option.bind u4 fun y11 =>
 cond (!y11.2.1.1) (
 c0
 ) (
 let u5:=(cond (!(aq p0.1 1)) (!(aq p0.2.2.2.2.2.2.2.1 0)) false)
 cond u5 (
 c0
 ) (
 cond (aq p0.1 6) (
 let u6:=(sr p0.2.2.1)
 Option.bind u6 fun y12 =>
 cond y12.2.1.1 (
 c2
 ) (
 some ((),(((cond (!(aq p0.1 6)) (cC p0.2.2.1 []) false),()),()))
 )
 ) (
 some ((),(((cond (!(aq p0.1 6)) (cC p0.2.2.1 []) false),()),()))
 )
 )
 )
 ) (
 let u4:=(cond (!(aq p0.1 1)) (!(aq p0.2.2.2.2.2.2.2.1 0)) false)
 cond u4 (
 c0
 ) (
 cond (aq p0.1 6) (
 let u5:=(sr p0.2.2.1)
 Option.bind u5 fun y11 =>
 cond y11.2.1.1 (
 c2
 ) (
 some ((),(((cond (!(aq p0.1 6)) (cC p0.2.2.1 []) false),()),()))
 )
 ) (
 some ((),(((cond (!(aq p0.1 6)) (cC p0.2.2.1 []) false),()),()))
 )
 )
 )
 )
 )
 ) (
 Option.bind u2 fun y9 =>
 let u3:=(cond (!y9.2.1.1) (!(aq p0.2.2.2.2.2.2.1 0)) false)
 cond u3 (
 c0
 ) (
 cond (aq p0.1 1) (
 let u4:=(qC p0.2.2.2.2.2.2.2.1 0 9999)
 Option.bind u4 fun y10 =>
 cond (!y10.2.1.1) (
 c0
 ) (
 let u5:=(cond (!(aq p0.1 1)) (!(aq p0.2.2.2.2.2.2.2.1 0)) false)
 cond u5 (
 c0
 ) (
 cond (aq p0.1 6) (
 let u6:=(sr p0.2.2.1)
 Option.bind u6 fun y11 =>
 cond y11.2.1.1 (
 c2
 ) (
 some ((),(((cond (!(aq p0.1 6)) (cC p0.2.2.1 []) false),()),()))
 )
 ) (
 some ((),(((cond (!(aq p0.1 6)) (cC p0.2.2.1 []) false),()),()))
 )
 )
 )
 ) (
 let u4:=(cond (!(aq p0.1 1)) (!(aq p0.2.2.2.2.2.2.2.1 0)) false)
 cond u4 (
 c0
 ) (
 cond (aq p0.1 6) (
 let u5:=(sr p0.2.2.1)
 Option.bind u5 fun y10 =>
 cond y10.2.1.1 (
 c2
 ) (
 some ((),(((cond (!(aq p0.1 6)) (cC p0.2.2.1 []) false),()),()))
 )
 ) (
 some ((),(((cond (!(aq p0.1 6)) (cC p0.2.2.1 []) false),()),()))
 )
 )
 )
 )
 )
 )
 )
 ) (
 Option.bind u1 fun y6 =>
 cond (cond (!y6.2.1.1) (!(cC p0.2.2.2.1 [])) false) (
 c0
 ) (
 let u2:=(Dt p0.1)
 Option.bind u2 fun y7 =>
 cond y7.2.1.1 (
 let u3:=(qC p0.2.2.2.2.2.2.1 0 999999999999)
 Option.bind u3 fun y8 =>
 cond (!y8.2.1.1) (
 c0
 ) (
 Option.bind u2 fun y9 =>
 let u4:=(cond (!y9.2.1.1) (!(aq p0.2.2.2.2.2.2.1 0)) false)
 cond u4 (
 c0
 ) (
 cond (aq p0.1 1) (
 let u5:=(qC p0.2.2.2.2.2.2.2.1 0 9999)
 Option.bind u5 fun y10 =>
 cond (!y10.2.1.1) (
 c0
 ) (
 let u6:=(cond (!(aq p0.1 1)) (!(aq p0.2.2.2.2.2.2.2.1 0)) false)
 cond u6 (
 c0
 ) (
 cond (aq p0.1 6) (
 let u7:=(sr p0.2.2.1)
 Option.bind u7 fun y11 =>
 cond y11.2.1.1 (
 c2
 ) (
 some ((),(((cond (!(aq p0.1 6)) (cC p0.2.2.1 []) false),()),()))
 )
 ) (
 some ((),(((cond (!(aq p0.1 6)) (cC p0.2.2.1 []) false),()),()))
 )
 )
 )
 ) (
 let u5:=(cond (!(aq p0.1 1)) (!(aq p0.2.2.2.2.2.2.2.1 0)) false)
 cond u5 (
 c0
 ) (
 cond (aq p0.1 6) (
 let u6:=(sr p0.2.2.1)
 Option.bind u6 fun y10 =>
 cond y10.2.1.1 (
 c2
 ) (
 some ((),(((cond (!(aq p0.1 6)) (cC p0.2.2.1 []) false),()),()))
 )
 ) (
 some ((),(((cond (!(aq p0.1 6)) (cC p0.2.2.1 []) false),()),()))
 )
 )
 )
 )
 )
 ) (
 Option.bind u2 fun y8 =>
 cond (cond (!y8.2.1.1) (!(aq p0.2.2.2.2.2.2.1 0)) false) (
 c0
 ) (
 cond (aq p0.1 1) (
 let u3:=(qC p0.2.2.2.2.2.2.2.1 0 9999)
 Option.bind u3 fun y9 =>
 cond (!y9.2.1.1) (
 c0
 ) (
 let u4:=(cond (!(aq p0.1 1)) (!(aq p0.2.2.2.2.2.2.2.1 0)) false)
 cond u4 (
 c0
 ) (
 cond (aq p0.1 6) (
 let u5:=(sr p0.2.2.1)
 Option.bind u5 fun y10 =>
 cond y10.2.1.1 (
 c2
 ) (
 some ((),(((cond (!(aq p0.1 6)) (cC p0.2.2.1 []) false),()),()))
 )
 ) (
 some ((),(((cond (!(aq p0.1 6)) (cC p0.2.2.1 []) false),()),()))
 )
 )
 )
 ) (
 let u3:=(cond (!(aq p0.1 1)) (!(aq p0.2.2.2.2.2.2.2.1 0)) false)
 cond u3 (
 c0
 ) (
 cond (aq p0.1 6) (
 let u4:=(sr p0.2.2.1)
 Option.bind u4 fun y9 =>
 cond y9.2.1.1 (
 c2
 ) (
 some ((),(((cond (!(aq p0.1 6)) (cC p0.2.2.1 []) false),()),()))
 )
 ) (
 some ((),(((cond (!(aq p0.1 6)) (cC p0.2.2.1 []) false),()),()))
 )
 )
 )
 )
 )
 )
 )
 )
 )
 )
 )
def acS:Su:=⟨[.c true [ki,.str,.str,.str,.str,.str,ki,ki]],[(false,[.bool])],true,.inl fun x=>lz x.1⟩
theorem Ym:ar Tryz.prog 206 acS :=
 fq (ac nY (ac ux (ac QC (ac Rf (ac F4 (ac Qm (ac PR (ac Qs an)))))))) Tryz.f206
def O2 (p0:(List UInt8)×(List iX)×Unit):Option (Unit×(S5×Y1×Unit)) :=
 (Ov p0).bind fun y1 =>
 cond (!y1.2.1.1) (
 c1
 ) (
 (T1 p0.1).bind fun y2 =>
 cond (!y2.2.1.1) (
 c22
 ) (
 (kh p0 3).bind fun y3 =>
 cond (!y3.2.2.1.1) (
 c1
 ) (
 (ID p0.1 y3.2.1.1).bind fun y4 =>
 (kh p0 2).bind fun y5 =>
 (kh p0 11).bind fun y6 =>
 (GB y4.2.1.1).bind fun y7 =>
 cond y7.2.1.1 (
 (kh p0 38).bind fun y8 =>
 (Nv y8.2.1.1).bind fun y9 =>
 let u1:=(Dt y4.2.1.1)
 Option.bind u1 fun y10 =>
 cond y10.2.1.1 (
 let u2:=(kh p0 4)
 Option.bind u2 fun y11 =>
 let u3:=(uN y11.2.1.1)
 Option.bind u3 fun y12 =>
 cond (aq y4.2.1.1 1) (
 let u4:=(kh p0 14)
 Option.bind u4 fun y13 =>
 (uN y13.2.1.1).bind fun y14 =>
 cond (aq y4.2.1.1 6) (
 let u5:=(kh p0 103)
 Option.bind u5 fun y15 =>
 let u6:=(cond y3.2.2.1.1 y11.2.2.1.1 false)
 cond (!(cond u6 y13.2.2.1.1 false)) (
 c1
 ) (
 (lz (y4.2.1.1,y5.2.1.1,y15.2.1.1,y9.2.1.1,y6.2.1.1,p0.1,y12.2.1.1,y14.2.1.1,())).bind fun y16 =>
 cond (!y16.2.1.1) (
 c1
 ) (
 some ((),((y4.2.1.1,y5.2.1.1,y15.2.1.1,y9.2.1.1,y6.2.1.1,p0.1,y12.2.1.1,y14.2.1.1,()),(0,()),()))
 )
 )
 ) (
 let u5:=(cond y3.2.2.1.1 y11.2.2.1.1 false)
 cond (!(cond u5 y13.2.2.1.1 false)) (
 c1
 ) (
 (lz (y4.2.1.1,y5.2.1.1,[],y9.2.1.1,y6.2.1.1,p0.1,y12.2.1.1,y14.2.1.1,())).bind fun y15 =>
 cond (!y15.2.1.1) (
 c1
 ) (
 some ((),((y4.2.1.1,y5.2.1.1,[],y9.2.1.1,y6.2.1.1,p0.1,y12.2.1.1,y14.2.1.1,()),(0,()),()))
 )
 )
 )
 ) (
 cond (aq y4.2.1.1 6) (
 let u4:=(kh p0 103)
 Option.bind u4 fun y13 =>
 let u5:=(cond y3.2.2.1.1 y11.2.2.1.1 false)
 cond (!u5) (
 c1
 ) (
 (lz (y4.2.1.1,y5.2.1.1,y13.2.1.1,y9.2.1.1,y6.2.1.1,p0.1,y12.2.1.1,0,())).bind fun y14 =>
 cond (!y14.2.1.1) (
 c1
 ) (
 some ((),((y4.2.1.1,y5.2.1.1,y13.2.1.1,y9.2.1.1,y6.2.1.1,p0.1,y12.2.1.1,0,()),(0,()),()))
 )
 )
 ) (
 let u4:=(cond y3.2.2.1.1 y11.2.2.1.1 false)
 cond (!u4) (
 c1
 ) (
 (lz (y4.2.1.1,y5.2.1.1,[],y9.2.1.1,y6.2.1.1,p0.1,y12.2.1.1,0,())).bind fun y13 =>
 cond (!y13.2.1.1) (
 c1
 ) (
 some ((),((y4.2.1.1,y5.2.1.1,[],y9.2.1.1,y6.2.1.1,p0.1,y12.2.1.1,0,()),(0,()),()))
 )
 )
 )
 )
 ) (
 cond (aq y4.2.1.1 1) (
 let u2:=(kh p0 14)
 Option.bind u2 fun y11 =>
 let u3:=(uN y11.2.1.1)
 Option.bind u3 fun y12 =>
 cond (aq y4.2.1.1 6) (
 let u4:=(kh p0 103)
 Option.bind u4 fun y13 =>
 let u5:=(cond y3.2.2.1.1 y11.2.2.1.1 false)
 cond (!u5) (
 c1
 ) (
 (lz (y4.2.1.1,y5.2.1.1,y13.2.1.1,y9.2.1.1,y6.2.1.1,p0.1,0,y12.2.1.1,())).bind fun y14 =>
 cond (!y14.2.1.1) (
 c1
 ) (
 some ((),((y4.2.1.1,y5.2.1.1,y13.2.1.1,y9.2.1.1,y6.2.1.1,p0.1,0,y12.2.1.1,()),(0,()),()))
 )
 )
 ) (
 let u4:=(cond y3.2.2.1.1 y11.2.2.1.1 false)
 cond (!u4) (
 c1
 ) (
 (lz (y4.2.1.1,y5.2.1.1,[],y9.2.1.1,y6.2.1.1,p0.1,0,y12.2.1.1,())).bind fun y13 =>
 cond (!y13.2.1.1) (
 c1
 ) (
 some ((),((y4.2.1.1,y5.2.1.1,[],y9.2.1.1,y6.2.1.1,p0.1,0,y12.2.1.1,()),(0,()),()))
 )
 )
 )
 ) (
 cond (aq y4.2.1.1 6) (
 let u2:=(kh p0 103)
 Option.bind u2 fun y11 =>
 cond (!y3.2.2.1.1) (
 c1
 ) (
 (lz (y4.2.1.1,y5.2.1.1,y11.2.1.1,y9.2.1.1,y6.2.1.1,p0.1,0,0,())).bind fun y12 =>
 cond (!y12.2.1.1) (
 c1
 ) (
 some ((),((y4.2.1.1,y5.2.1.1,y11.2.1.1,y9.2.1.1,y6.2.1.1,p0.1,0,0,()),(0,()),()))
 )
 )
 ) (
 cond (!y3.2.2.1.1) (
 c1
 ) (
 (lz (y4.2.1.1,y5.2.1.1,[],y9.2.1.1,y6.2.1.1,p0.1,0,0,())).bind fun y11 =>
 cond (!y11.2.1.1) (
 c1
 ) (
 some ((),((y4.2.1.1,y5.2.1.1,[],y9.2.1.1,y6.2.1.1,p0.1,0,0,()),(0,()),()))
 )
 )
 )
 )
 )
 ) (
 let u1:=(Dt y4.2.1.1)
 Option.bind u1 fun y8 =>
 cond y8.2.1.1 (
 let u2:=(kh p0 4)
 Option.bind u2 fun y9 =>
 let u3:=(uN y9.2.1.1)
 Option.bind u3 fun y10 =>
 cond (aq y4.2.1.1 1) (
 let u4:=(kh p0 14)
 Option.bind u4 fun y11 =>
 let u5:=(uN y11.2.1.1)
 Option.bind u5 fun y12 =>
 cond (aq y4.2.1.1 6) (
 let u6:=(kh p0 103)
 Option.bind u6 fun y13 =>
 let u7:=(cond y3.2.2.1.1 y9.2.2.1.1 false)
 cond (!(cond u7 y11.2.2.1.1 false)) (
 c1
 ) (
 (lz (y4.2.1.1,y5.2.1.1,y13.2.1.1,[],y6.2.1.1,p0.1,y10.2.1.1,y12.2.1.1,())).bind fun y14 =>
 cond (!y14.2.1.1) (
 c1
 ) (
 some ((),((y4.2.1.1,y5.2.1.1,y13.2.1.1,[],y6.2.1.1,p0.1,y10.2.1.1,y12.2.1.1,()),(0,()),()))
 )
 )
 ) (
 let u6:=(cond y3.2.2.1.1 y9.2.2.1.1 false)
 cond (!(cond u6 y11.2.2.1.1 false)) (
 c1
 ) (
 (lz (y4.2.1.1,y5.2.1.1,[],[],y6.2.1.1,p0.1,y10.2.1.1,y12.2.1.1,())).bind fun y13 =>
 cond (!y13.2.1.1) (
 c1
 ) (
 some ((),((y4.2.1.1,y5.2.1.1,[],[],y6.2.1.1,p0.1,y10.2.1.1,y12.2.1.1,()),(0,()),()))
 )
 )
 )
 ) (
 cond (aq y4.2.1.1 6) (
 let u4:=(kh p0 103)
 Option.bind u4 fun y11 =>
 let u5:=(cond y3.2.2.1.1 y9.2.2.1.1 false)
 cond (!u5) (
 c1
 ) (
 (lz (y4.2.1.1,y5.2.1.1,y11.2.1.1,[],y6.2.1.1,p0.1,y10.2.1.1,0,())).bind fun y12 =>
 cond (!y12.2.1.1) (
 c1
 ) (
 some ((),((y4.2.1.1,y5.2.1.1,y11.2.1.1,[],y6.2.1.1,p0.1,y10.2.1.1,0,()),(0,()),()))
 )
 )
 ) (
 let u4:=(cond y3.2.2.1.1 y9.2.2.1.1 false)
 cond (!u4) (
 c1
 ) (
 (lz (y4.2.1.1,y5.2.1.1,[],[],y6.2.1.1,p0.1,y10.2.1.1,0,())).bind fun y11 =>
 cond (!y11.2.1.1) (
 c1
 ) (
 some ((),((y4.2.1.1,y5.2.1.1,[],[],y6.2.1.1,p0.1,y10.2.1.1,0,()),(0,()),()))
 )
 )
 )
 )
 ) (
 cond (aq y4.2.1.1 1) (
 let u2:=(kh p0 14)
 Option.bind u2 fun y9 =>
 let u3:=(uN y9.2.1.1)
 Option.bind u3 fun y10 =>
 cond (aq y4.2.1.1 6) (
 let u4:=(kh p0 103)
 Option.bind u4 fun y11 =>
 let u5:=(cond y3.2.2.1.1 y9.2.2.1.1 false)
 cond (!u5) (
 c1
 ) (
 (lz (y4.2.1.1,y5.2.1.1,y11.2.1.1,[],y6.2.1.1,p0.1,0,y10.2.1.1,())).bind fun y12 =>
 cond (!y12.2.1.1) (
 c1
 ) (
 some ((),((y4.2.1.1,y5.2.1.1,y11.2.1.1,[],y6.2.1.1,p0.1,0,y10.2.1.1,()),(0,()),()))
 )
 )
 ) (
 let u4:=(cond y3.2.2.1.1 y9.2.2.1.1 false)
 cond (!u4) (
 c1
 ) (
 (lz (y4.2.1.1,y5.2.1.1,[],[],y6.2.1.1,p0.1,0,y10.2.1.1,())).bind fun y11 =>
 cond (!y11.2.1.1) (
 c1
 ) (
 some ((),((y4.2.1.1,y5.2.1.1,[],[],y6.2.1.1,p0.1,0,y10.2.1.1,()),(0,()),()))
 )
 )
 )
 ) (
 cond (aq y4.2.1.1 6) (
 let u2:=(kh p0 103)
 Option.bind u2 fun y9 =>
 cond (!y3.2.2.1.1) (
 c1
 ) (
 (lz (y4.2.1.1,y5.2.1.1,y9.2.1.1,[],y6.2.1.1,p0.1,0,0,())).bind fun y10 =>
 cond (!y10.2.1.1) (
 c1
 ) (
 some ((),((y4.2.1.1,y5.2.1.1,y9.2.1.1,[],y6.2.1.1,p0.1,0,0,()),(0,()),()))
 )
 )
 ) (
 cond (!y3.2.2.1.1) (
 c1
 ) (
 (lz (y4.2.1.1,y5.2.1.1,[],[],y6.2.1.1,p0.1,0,0,())).bind fun y9 =>
 cond (!y9.2.1.1) (
 c1
 ) (
 some ((),((y4.2.1.1,y5.2.1.1,[],[],y6.2.1.1,p0.1,0,0,()),(0,()),()))
 )
 )
 )
 )
 )
 )
 )
 )
 )
def aa8:Su:=⟨[.c true [.str,jf]],[(true,[ki,.str,.str,.str,.str,.str,ki,ki]),(false,[ki])],true,.inl fun x=>O2 x.1⟩
theorem Wz:ar Tryz.prog 164 aa8 :=
 fq (ac P5 (ac Vg (ac XA (ac Yk (ac UX (ac PR (ac XC (ac Qs (ac Ym an))))))))) Tryz.f164
def OW (p0:List R5):Option Ui :=
 (Nj p0).bind fun y1 =>
 cond (!(aq y1.2.2.1.1 0)) (
 c20
 ) (
 (O2 y1.2.1).bind fun y2 =>
 cond (!(aq y2.2.2.1.1 0)) (
 c20
 ) (
 cond (cond (!(aq y2.2.1.1 6)) true (cC y2.2.1.2.2.1 y2.2.1.2.1)) (
 some ((),(([(y2.2.1.2.1,())],()),()))
 ) (
 cond (kB y2.2.1.2.2.1 y2.2.1.2.1) (
 some ((),(([(y2.2.1.2.2.1,()),(y2.2.1.2.1,())],()),()))
 ) (
 some ((),(([(y2.2.1.2.1,()),(y2.2.1.2.2.1,())],()),()))
 )
 )
 )
 )
def abp:Su:=⟨[.c false [q5]],[(false,[q9])],true,.inl fun x=>OW x.1.1⟩
theorem XL:ar Tryz.prog 103 abp :=
 fq (ac Wb (ac Wz an)) Tryz.f103
def EF (t1:Int) (t5:List R3) (t8 t9:Int) (t12:List R9) (t13 t14:Int):Rd (Int×(List R3)×Int×Int×(List R9)×Int×Int×Unit) Unit :=
 cond (aw t9 (ae t5)) (
 cond (aR t9 t5) (
 cond (aw (gt d3 t5 t9).1 t8) (
 some (.inl (t1,t5,t8,(aj .i64 t9 1),t12,t13,t14,()))
 ) (
 some (.inr (.inl (t1,t5,t8,t9,t12,t13,t14,())))
 )
 ) none
 ) (
 some (.inr (.inl (t1,t5,t8,t9,t12,t13,t14,())))
 )
def sI:=Za (ah (LC EF))
def np (t1:Int) (t5:List R3) (t12:List R9) (t13 t14:Int):Rd (Int×(List R3)×(List R9)×Int×Int×Unit) Unit :=
 cond (aw t14 t13) (
 cond (aR t14 t12) (
 (An (gt d9 t12 t14).1 t1).bind fun y1 =>
 (sI t1 t5 y1.2.1.1 0 t12 t13 t14).bind (Sum.elim (fun y2 =>
 let u1:=(ae y2.2.1)
 cond (aw y2.2.2.2.1 u1) (
 cond (aR y2.2.2.2.1 y2.2.1) (
 cond (aq (gt d3 y2.2.1 y2.2.2.2.1).1 y2.2.2.1) (
 let u2:=(aj .i64 y2.2.2.2.2.2.2.1 1)
 some (.inl (y2.1,y2.2.1,y2.2.2.2.2.1,y2.2.2.2.2.2.1,u2,()))
 ) (
 let u2:=(dW 0 y2.2.2.2.1 y2.2.1)
 cond u2 (
 let u3:=(P2 y2.2.1 y2.2.2.2.1)
 let u4:=(bT 8 [] u3)
 cond u4 (
 let u5:=(jn [] u3)
 let u6:=(bT 8 u5 [(y2.2.2.1,())])
 cond u6 (
 let u7:=(dW y2.2.2.2.1 u1 y2.2.1)
 cond u7 (
 let u8:=(jn u5 [(y2.2.2.1,())])
 let u9:=(sub y2.2.1 y2.2.2.2.1 u1)
 let u10:=(bT 8 u8 u9)
 cond u10 (
 let u11:=(aj .i64 y2.2.2.2.2.2.2.1 1)
 some (.inl (y2.1,(jn u8 u9),y2.2.2.2.2.1,y2.2.2.2.2.2.1,u11,()))
 ) none
 ) none
 ) none
 ) none
 ) none
 )
 ) none
 ) (
 let u2:=(dW 0 y2.2.2.2.1 y2.2.1)
 cond u2 (
 let u3:=(P2 y2.2.1 y2.2.2.2.1)
 let u4:=(bT 8 [] u3)
 cond u4 (
 let u5:=(jn [] u3)
 let u6:=(bT 8 u5 [(y2.2.2.1,())])
 cond u6 (
 let u7:=(dW y2.2.2.2.1 u1 y2.2.1)
 cond u7 (
 let u8:=(jn u5 [(y2.2.2.1,())])
 let u9:=(sub y2.2.1 y2.2.2.2.1 u1)
 let u10:=(bT 8 u8 u9)
 cond u10 (
 let u11:=(aj .i64 y2.2.2.2.2.2.2.1 1)
 some (.inl (y2.1,(jn u8 u9),y2.2.2.2.2.1,y2.2.2.2.2.2.1,u11,()))
 ) none
 ) none
 ) none
 ) none
 ) none
 )
 ) (fun _ =>
 some (.inr (.inr ()))
 ))
 ) none
 ) (
 some (.inr (.inl (t1,t5,t12,t13,t14,())))
 )
def A6:=tV (ah (dQ np))
def Od (p0:List R9) (p1:Int):Option PN :=
 (A6 p1 [] p0 (ae p0) 0).bind (Sum.elim (fun y1 =>
 some ((),((y1.2.1,()),()))
 ) (fun _ =>
 none
 ))
def aaa:Su:=⟨[.c false [q9],.c false [ki]],[(false,[q3])],true,.inl fun x=>Od x.1.1 x.2.1.1⟩
theorem Vb:ar Tryz.prog 102 aaa :=
 fl (ac Lg an) [] [(2,⟨[.d 1 ki,.own 5 q3,.d 8 ki,.d 9 ki,.d 12 q9,.d 13 ki,.d 14 ki],ah (LC EF)⟩),(0,⟨[.d 1 ki,.own 5 q3,.d 12 q9,.d 13 ki,.d 14 ki],ah (dQ np)⟩)] [] Tryz.f102 (lp [0] (sc (lp [2] (sc cN sn)) sn))
def Xe (p0:(List R5)×Int×(List R3)×Int×Int×Int×Int×Int×(List R5)×Unit) (p1:Int):Option PN :=
 (OW p0.1).bind fun y1 =>
 (Od y1.2.1.1 p1).bind fun y2 =>
 some ((),(y2.2.1,()))
def s51:Su:=⟨[.c true [q5,ki,q3,ki,ki,ki,ki,ki,q5],.c false [ki]],[(false,[q3])],true,.inl fun x=>Xe x.1 x.2.1.1⟩
theorem W5:ar Tryz.prog 51 s51 :=
 fq (ac XL (ac Vb an)) Tryz.f51
def p7 (t0 t1:List R3) (t12 t13:Int):Rd ((List R3)×(List R3)×Int×Int×Unit) Y2 :=
 cond (aw t13 t12) (
 cond (aR t13 t0) (
 cond (aR t13 t1) (
 cond (!(aq (gt d3 t0 t13).1 (gt d3 t1 t13).1)) (
 some (.inr (.inr (false,())))
 ) (
 some (.inl (t0,t1,t12,(aj .i64 t13 1),()))
 )
 ) none
 ) none
 ) (
 some (.inr (.inl (t0,t1,t12,t13,())))
 )
def SC:=mm (ah (cV p7))
def NT (p0 p1:List R3):Option dY :=
 let u1:=(ae p0)
 cond (!(aq u1 (ae p1))) (
 c0
 ) (
 (SC p0 p1 u1 0).bind (Sum.elim (fun _ =>
 c2
 ) (fun y1 =>
 some ((),(y1,()))
 ))
 )
def ZC:Su:=⟨[.c false [q3],.c false [q3]],[(false,[.bool])],true,.inl fun x=>NT x.1.1 x.2.1.1⟩
theorem V1:ar Tryz.prog 116 ZC :=
 fl an [.d 4 .bool] [(0,⟨[.d 0 q3,.d 1 q3,.d 12 ki,.d 13 ki],ah (cV p7)⟩)] [] Tryz.f116 (lp [0] (sc cN sn))
def YS (p0:(List R5)×Int×(List R3)×Int×Int×Int×Int×Int×(List R5)×Unit) (p1:Int):Option dY :=
 (qC p1 1 5).bind fun y1 =>
 let u1:=(ae p0.2.2.2.2.2.2.2.2.1)
 cond (cond (cond (!y1.2.1.1) true (aw 300 (ae p0.1))) true (aw 200 u1)) (
 c0
 ) (
 (Iy p0.2.2.2.2.1).bind fun y2 =>
 cond (!y2.2.1.1) (
 c0
 ) (
 (Iy p0.2.2.2.2.2.2.2.1).bind fun y3 =>
 cond (!y3.2.1.1) (
 c0
 ) (
 (qC p0.2.1 0 5).bind fun y4 =>
 cond (!y4.2.1.1) (
 c0
 ) (
 (O7 p0).bind fun y5 =>
 cond (!y5.2.1.1) (
 c0
 ) (
 cond (cond (aq p0.2.1 0) (aw 0 (ae p0.2.2.1)) false) (
 c0
 ) (
 cond (!(aq p0.2.1 0)) (
 (Xe p0 p1).bind fun y6 =>
 (NT p0.2.2.1 y6.2.1.1).bind fun y7 =>
 cond (!y7.2.1.1) (
 c0
 ) (
 cond (bL p0.2.1 2) (
 some ((),(((cond (cond (cond (aq p0.2.2.2.2.2.1 (-1)) (aq p0.2.2.2.2.2.2.1 (-1)) false) (aq p0.2.2.2.2.2.2.2.1 0) false) (aq u1 0) false),()),()))
 ) (
 let u2:=(Iy p0.2.2.2.2.2.1)
 Option.bind u2 fun y8 =>
 cond (cond (!y8.2.1.1) true (aw p0.2.2.2.2.2.1 p0.2.2.2.2.1)) (
 c0
 ) (
 cond (aq p0.2.1 5) (
 let u3:=(Iy p0.2.2.2.2.2.2.1)
 Option.bind u3 fun y9 =>
 some ((),(((cond y9.2.1.1 (bL p0.2.2.2.2.2.1 p0.2.2.2.2.2.2.1) false),()),()))
 ) (
 some ((),(((aq p0.2.2.2.2.2.2.1 (-1)),()),()))
 )
 )
 )
 )
 ) (
 cond (bL p0.2.1 2) (
 some ((),(((cond (cond (cond (aq p0.2.2.2.2.2.1 (-1)) (aq p0.2.2.2.2.2.2.1 (-1)) false) (aq p0.2.2.2.2.2.2.2.1 0) false) (aq u1 0) false),()),()))
 ) (
 let u2:=(Iy p0.2.2.2.2.2.1)
 Option.bind u2 fun y6 =>
 cond (cond (!y6.2.1.1) true (aw p0.2.2.2.2.2.1 p0.2.2.2.2.1)) (
 c0
 ) (
 cond (aq p0.2.1 5) (
 let u3:=(Iy p0.2.2.2.2.2.2.1)
 Option.bind u3 fun y7 =>
 some ((),(((cond y7.2.1.1 (bL p0.2.2.2.2.2.1 p0.2.2.2.2.2.2.1) false),()),()))
 ) (
 some ((),(((aq p0.2.2.2.2.2.2.1 (-1)),()),()))
 )
 )
 )
 )
 )
 )
 )
 )
 )
 )
def s60:Su:=⟨[.c true [q5,ki,q3,ki,ki,ki,ki,ki,q5],.c false [ki]],[(false,[.bool])],true,.inl fun x=>YS x.1 x.2.1.1⟩
theorem abD:ar Tryz.prog 60 s60 :=
 fq (ac nY (ac N9 (ac WA (ac W5 (ac V1 an))))) Tryz.f60
def vZ (t1 t5:Int) (b2:(List R5)×Int×(List R3)×Int×Int×Int×Int×Int×(List R5)×Unit):Rd (Int×Int×od×Unit) Y2 :=
 cond (cond (aw t5 b2.2.2.2.1) (aw t5 (ae b2.2.2.1)) false) (
 cond (aR t5 b2.2.2.1) (
 cond (aq (gt d3 b2.2.2.1 t5).1 t1) (
 some (.inr (.inr (true,())))
 ) (
 some (.inl (t1,(aj .i64 t5 1),b2,()))
 )
 ) none
 ) (
 some (.inr (.inl (t1,t5,b2,())))
 )
def WY:=kz (ah (dq vZ))
def Zn (p0:(List R5)×Int×(List R3)×Int×Int×Int×Int×Int×(List R5)×Unit) (p1:Int):Option dY :=
 (WY p1 0 p0).bind (Sum.elim (fun _ =>
 c0
 ) (fun y1 =>
 some ((),(y1,()))
 ))
def s61:Su:=⟨[.c true [q5,ki,q3,ki,ki,ki,ki,ki,q5],.c false [ki]],[(false,[.bool])],true,.inl fun x=>Zn x.1 x.2.1.1⟩
theorem ac0:ar Tryz.prog 61 s61 :=
 fl an [.d 4 .bool] [(0,⟨[.d 1 ki,.d 5 ki,.box 2 [(false,q5),(false,ki),(false,q3),(false,ki),(false,ki),(false,ki),(false,ki),(false,ki),(false,q5)]],ah (dq vZ)⟩)] [] Tryz.f61 (lp [0] (sc cN sn))
def wV (t40:List fj) (t41 t42:Int) (b1:(List dy)×Int×Int×(List fj)×Unit):Rd ((List fj)×Int×Int×zW×Unit) Y2 :=
 cond (aw t42 t41) (
 cond (aR t42 t40) (
 let u1:=(gt d62 t40 t42)
 (YS u1 (ae b1.1)).bind fun y1 =>
 cond (cond (!y1.2.1.1) true (aw b1.2.1 u1.2.2.2.2.2.2.2.1)) (
 some (.inr (.inr (false,())))
 ) (
 some (.inl (t40,t41,(aj .i64 t42 1),b1,()))
 )
 ) none
 ) (
 some (.inr (.inl (t40,t41,t42,b1,())))
 )
def KL:=mm (ah (cV wV))
def yn (t5:Int) (t61:List dy) (t62 t63:Int) (t75:List fj) (t76 t77:Int) (b1:(List dy)×Int×Int×(List fj)×Unit) (b6:Int×(List de)×Unit):Rd (Int×(List dy)×Int×Int×(List fj)×Int×Int×zW×Uh×Unit) Y2 :=
 cond (aw t77 t76) (
 cond (aR t77 t75) (
 (Zn (gt d62 t75 t77) t5).bind fun y1 =>
 cond (!(Jg y1.2.1.1 (aq b6.1 t77))) (
 some (.inr (.inr (false,())))
 ) (
 some (.inl (t5,t61,t62,t63,t75,t76,(aj .i64 t77 1),b1,b6,()))
 )
 ) none
 ) (
 some (.inr (.inl (t5,t61,t62,t63,t75,t76,t77,b1,b6,())))
 )
def Qh:=UK (ah (DD yn))
def vW (t61:List dy) (t62 t63:Int) (b1:(List dy)×Int×Int×(List fj)×Unit):Rd ((List dy)×Int×Int×zW×Unit) Y2 :=
 cond (aw t63 t62) (
 cond (aR t63 t61) (
 let u1:=(ae b1.2.2.2.1)
 let u2:=(gt d89 t61 t63)
 cond (bL u1 u2.1) (
 some (.inr (.inr (false,())))
 ) (
 (Qh t63 t61 t62 t63 b1.2.2.2.1 u1 0 b1 u2).bind (Sum.elim (fun y1 =>
 some (.inl (y1.2.1,y1.2.2.1,(aj .i64 y1.2.2.2.1 1),y1.2.2.2.2.2.2.2.1,()))
 ) (fun y1 =>
 some (.inr (.inr (y1.1,())))
 ))
 )
 ) none
 ) (
 some (.inr (.inl (t61,t62,t63,b1,())))
 )
def P6:=mm (ah (cV vW))
def YF (p0:(List dy)×Int×Int×(List fj)×Unit):Option dY :=
 (Yv p0.1).bind fun y1 =>
 cond (!y1.2.1.1) (
 c0
 ) (
 (Iy p0.2.1).bind fun y2 =>
 cond (!y2.2.1.1) (
 c0
 ) (
 (Iy p0.2.2.1).bind fun y3 =>
 let u1:=(ae p0.2.2.2.1)
 cond (cond (!y3.2.1.1) true (aw 12 u1)) (
 c0
 ) (
 (YL p0.2.2.2.1 p0.2.2.1).bind fun y4 =>
 cond (!y4.2.1.1) (
 c0
 ) (
 (KL p0.2.2.2.1 u1 0 p0).bind (Sum.elim (fun y5 =>
 (P6 y5.2.2.2.1.1 (ae y5.2.2.2.1.1) 0 y5.2.2.2.1).bind (Sum.elim (fun _ =>
 c2
 ) (fun y6 =>
 some ((),(y6,()))
 ))
 ) (fun y5 =>
 some ((),(y5,()))
 ))
 )
 )
 )
 )
def s25:Su:=⟨[.c true [eJ,ki,ki,il]],[(false,[.bool])],true,.inl fun x=>YF x.1⟩
theorem aaU:ar Tryz.prog 25 s25 :=
 fl (ac N9 (ac acp (ac aaB (ac abD (ac ac0 an))))) [.d 2 .bool] [(0,⟨[.d 40 il,.d 41 ki,.d 42 ki,.box 1 [(false,eJ),(false,ki),(false,ki),(false,il)]],ah (cV wV)⟩),(4,⟨[.d 5 ki,.d 61 eJ,.d 62 ki,.d 63 ki,.d 75 il,.d 76 ki,.d 77 ki,.box 1 [(false,eJ),(false,ki),(false,ki),(false,il)],.box 6 [(false,ki),(false,eH)]],ah (DD yn)⟩),(2,⟨[.d 61 eJ,.d 62 ki,.d 63 ki,.box 1 [(false,eJ),(false,ki),(false,ki),(false,il)]],ah (cV vW)⟩)] [] Tryz.f25 (lp [0,2] (sc cN (sc (lp [4] (sc cN sn)) sn)))
def wO (t6:List fj) (t7 t8:Int):Rd Y22 Y2 :=
 cond (aw t8 t7) (
 cond (aR t8 t6) (
 cond (!(aq (gt d62 t6 t8).2.1 5)) (
 some (.inr (.inr (false,())))
 ) (
 some (.inl (t6,t7,(aj .i64 t8 1),()))
 )
 ) none
 ) (
 some (.inr (.inl (t6,t7,t8,())))
 )
def VB:=kz (ah (dq wO))
def YR (p0:(List dy)×Int×Int×(List fj)×Unit):Option dY :=
 (VB p0.2.2.2.1 (ae p0.2.2.2.1) 0).bind (Sum.elim (fun _ =>
 c2
 ) (fun y1 =>
 some ((),(y1,()))
 ))
def s49:Su:=⟨[.c true [eJ,ki,ki,il]],[(false,[.bool])],true,.inl fun x=>YR x.1⟩
theorem abH:ar Tryz.prog 49 s49 :=
 fl an [.d 2 .bool] [(0,⟨[.d 6 il,.d 7 ki,.d 8 ki],ah (dq wO)⟩)] [] Tryz.f49 (lp [0] (sc cN sn))
def oW (t8:List de) (t9 t10:Int) (b2 b3:(List de)×Unit):Rd ((List de)×Int×Int×Y5×Y5×Unit) Unit :=
 cond (aw t10 t9) (
 cond (aR t10 t8) (
 (Um (gt d59 t8 t10)).bind fun y1 =>
 cond (bT 160 b3.1 [y1.2.1]) (
 some (.inl (t8,t9,(aj .i64 t10 1),b2,((jn b3.1 [y1.2.1]),()),()))
 ) none
 ) none
 ) (
 some (.inr (.inl (t8,t9,t10,b2,b3,())))
 )
def LJ:=tV (ah (dQ oW))
def Po (p0:(List de)×Unit):Option Th :=
 (LJ p0.1 (ae p0.1) 0 ([],()) ([],())).bind (Sum.elim (fun y1 =>
 some ((),(y1.2.2.2.2.1,()))
 ) (fun _ =>
 none
 ))
def abQ:Su:=⟨[.c true [eH]],[(true,[eH])],true,.inl fun x=>Po x.1⟩
theorem Yr:ar Tryz.prog 156 abQ :=
 fl (ac Mc an) [] [(0,⟨[.d 8 eH,.d 9 ki,.d 10 ki,.box 2 [(true,eH)],.box 3 [(true,eH)]],ah (dQ oW)⟩)] [] Tryz.f156 (lp [0] (sc cN sn))
def yg (t3 t7:List dy) (t8 t9:Int):Rd Zo Unit :=
 cond (aw t9 t8) (
 cond (aR t9 t7) (
 let u1:=(gt d89 t7 t9)
 (Po (u1.2.1,())).bind fun y1 =>
 cond (bT 32 t3 [(u1.1,y1.2.1.1,())]) (
 some (.inl ((jn t3 [(u1.1,y1.2.1.1,())]),t7,t8,(aj .i64 t9 1),()))
 ) none
 ) none
 ) (
 some (.inr (.inl (t3,t7,t8,t9,())))
 )
def Q3:=mm (ah (cV yg))
def YH (p0:List dy):Option Ug :=
 (Q3 [] p0 (ae p0) 0).bind (Sum.elim (fun y1 =>
 some ((),((y1.1,()),()))
 ) (fun _ =>
 none
 ))
def s90:Su:=⟨[.c false [eJ]],[(false,[eJ])],true,.inl fun x=>YH x.1.1⟩
theorem abd:ar Tryz.prog 90 s90 :=
 fl (ac Yr an) [] [(0,⟨[.own 3 eJ,.d 7 eJ,.d 8 ki,.d 9 ki],ah (cV yg)⟩)] [] Tryz.f90 (lp [0] (sc cN sn))
def YT (p0:(List R5)×Int×(List R3)×Int×Int×Int×Int×Int×(List R5)×Unit):Option Y64 :=
 cond (bT 1 [] p0.1) (
 cond (bT 8 [] p0.2.2.1) (
 cond (bT 1 [] p0.2.2.2.2.2.2.2.2.1) (
 some ((),(((jn [] p0.1),p0.2.1,(jn [] p0.2.2.1),p0.2.2.2.1,p0.2.2.2.2.1,p0.2.2.2.2.2.1,p0.2.2.2.2.2.2.1,p0.2.2.2.2.2.2.2.1,(jn [] p0.2.2.2.2.2.2.2.2.1),()),()))
 ) none
 ) none
 ) none
def s91:Su:=⟨[.c true [q5,ki,q3,ki,ki,ki,ki,ki,q5]],[(true,[q5,ki,q3,ki,ki,ki,ki,ki,q5])],true,.inl fun x=>YT x.1⟩
theorem aaO:ar Tryz.prog 91 s91 :=
 fq an Tryz.f91
def wa (t15:List fj) (t16 t17:Int) (b2 b3:(List dy)×Int×Int×(List fj)×Unit):Rd ((List fj)×Int×Int×zW×zW×Unit) Unit :=
 cond (aw t17 t16) (
 cond (aR t17 t15) (
 (YT (gt d62 t15 t17)).bind fun y1 =>
 cond (bT 120 b3.2.2.2.1 [y1.2.1]) (
 some (.inl (t15,t16,(aj .i64 t17 1),b2,(b3.1,b3.2.1,b3.2.2.1,(jn b3.2.2.2.1 [y1.2.1]),()),()))
 ) none
 ) none
 ) (
 some (.inr (.inl (t15,t16,t17,b2,b3,())))
 )
def PH:=tV (ah (dQ wa))
def Zg (p0:(List dy)×Int×Int×(List fj)×Unit):Option Y54 :=
 (YH p0.1).bind fun y1 =>
 (PH p0.2.2.2.1 (ae p0.2.2.2.1) 0 ([],0,0,[],()) (y1.2.1.1,p0.2.1,p0.2.2.1,[],())).bind (Sum.elim (fun y2 =>
 some ((),(y2.2.2.2.2.1,()))
 ) (fun _ =>
 none
 ))
def s40:Su:=⟨[.c true [eJ,ki,ki,il]],[(true,[eJ,ki,ki,il])],true,.inl fun x=>Zg x.1⟩
theorem acd:ar Tryz.prog 40 s40 :=
 fl (ac abd (ac aaO an)) [] [(0,⟨[.d 15 il,.d 16 ki,.d 17 ki,.box 2 [(true,eJ),(false,ki),(false,ki),(true,il)],.box 3 [(true,eJ),(false,ki),(false,ki),(true,il)]],ah (dQ wa)⟩)] [] Tryz.f40 (lp [0] (sc cN sn))
def wN (t1:Int) (t5:List dy) (t6:Int) (t27:List de) (t28 t29:Int) (b2:(List de)×Unit) (b7:Int×(List de)×Unit):Rd (Int×(List dy)×Int×(List de)×Int×Int×Y5×Uh×Unit) Unit :=
 cond (aw t29 t28) (
 cond (aR t29 t27) (
 let u1:=(gt d59 t27 t29)
 (An u1.1 t1).bind fun y1 =>
 cond (aq y1.2.1.1 t6) (
 (Um u1).bind fun y2 =>
 cond (bT 160 b7.2.1 [y2.2.1]) (
 let u2:=(aj .i64 t29 1)
 some (.inl (t1,t5,t6,t27,t28,u2,b2,(b7.1,(jn b7.2.1 [y2.2.1]),()),()))
 ) none
 ) (
 let u2:=(aj .i64 t29 1)
 some (.inl (t1,t5,t6,t27,t28,u2,b2,b7,()))
 )
 ) none
 ) (
 some (.inr (.inl (t1,t5,t6,t27,t28,t29,b2,b7,())))
 )
def Qf:=Tj (ah (xx wN))
def xF (t1:Int) (t5:List dy) (t6:Int) (b2:(List de)×Unit):Rd (Int×(List dy)×Int×Y5×Unit) Unit :=
 cond (aw t6 t1) (
 (Qf t1 t5 t6 b2.1 (ae b2.1) 0 b2 ((-1),[],())).bind (Sum.elim (fun y1 =>
 cond (bT 32 y1.2.1 [y1.2.2.2.2.2.2.2.1]) (
 some (.inl (y1.1,(jn y1.2.1 [y1.2.2.2.2.2.2.2.1]),(aj .i64 y1.2.2.1 1),y1.2.2.2.2.2.2.1,()))
 ) none
 ) (fun _ =>
 some (.inr (.inr ()))
 ))
 ) (
 some (.inr (.inl (t1,t5,t6,b2,())))
 )
def PU:=mm (ah (cV xF))
def Ze (p0:(List de)×Unit) (p1:Int):Option Ug :=
 (Hl p0).bind fun y1 =>
 cond (!y1.2.1.1) (
 YJ
 ) (
 (qC p1 1 5).bind fun y2 =>
 cond (!y2.2.1.1) (
 YJ
 ) (
 (PU p1 [] 0 p0).bind (Sum.elim (fun y3 =>
 some ((),((y3.2.1,()),()))
 ) (fun _ =>
 none
 ))
 )
 )
def s50:Su:=⟨[.c true [eH],.c false [ki]],[(false,[eJ])],true,.inl fun x=>Ze x.1 x.2.1.1⟩
theorem ZM:ar Tryz.prog 50 s50 :=
 fl (ac nY (ac Mc (ac PE (ac Lg an)))) [] [(2,⟨[.d 1 ki,.own 5 eJ,.d 6 ki,.d 27 eH,.d 28 ki,.d 29 ki,.box 2 [(false,eH)],.box 7 [(false,ki),(true,eH)]],ah (xx wN)⟩),(0,⟨[.d 1 ki,.own 5 eJ,.d 6 ki,.box 2 [(false,eH)]],ah (cV xF)⟩)] [] Tryz.f50 (lp [0] (sc (lp [2] (sc cN sn)) sn))
def vQ (t1 t32 t33:Int) (b4 b6:(List dy)×Int×Int×(List fj)×Unit):Rd (Int×Int×Int×zW×zW×Unit) Unit :=
 cond (aw t33 t32) (
 cond (aR t33 b6.2.2.2.1) (
 let u1:=(gt d62 b6.2.2.2.1 t33)
 (Xe u1 t1).bind fun y1 =>
 cond (aR t33 b6.2.2.2.1) (
 some (.inl (t1,t32,(aj .i64 t33 1),b4,(b6.1,b6.2.1,b6.2.2.1,(jh b6.2.2.2.1 t33 (u1.1,u1.2.1,y1.2.1.1,u1.2.2.2.1,u1.2.2.2.2.1,u1.2.2.2.2.2.1,u1.2.2.2.2.2.2.1,u1.2.2.2.2.2.2.2.1,u1.2.2.2.2.2.2.2.2.1,())),()),()))
 ) none
 ) none
 ) (
 some (.inr (.inl (t1,t32,t33,b4,b6,())))
 )
def Rq:=tV (ah (dQ vQ))
def g21 (p0:(List dy)×Int×Int×(List fj)×Unit) (p1:Int):Option (Unit×(zW×Y2×Unit)) :=
 (YF p0).bind fun y1 =>
 cond (!y1.2.1.1) (
 c8
 ) (
 (YR p0).bind fun y2 =>
 cond (!y2.2.1.1) (
 c8
 ) (
 (qC p1 1 5).bind fun y3 =>
 cond (!y3.2.1.1) (
 c8
 ) (
 (Zg p0).bind fun y4 =>
 (MU p0.1).bind fun y5 =>
 (Ze y5.2.1 p1).bind fun y6 =>
 (Rq p1 (ae y4.2.1.2.2.2.1) 0 ([],0,0,[],()) (y6.2.1.1,y4.2.1.2.1,y4.2.1.2.2.1,y4.2.1.2.2.2.1,())).bind (Sum.elim (fun y7 =>
 some ((),(y7.2.2.2.2.1,(true,()),()))
 ) (fun _ =>
 none
 ))
 )
 )
 )
def s21:Su:=⟨[.c true [eJ,ki,ki,il],.c false [ki]],[(true,[eJ,ki,ki,il]),(false,[.bool])],true,.inl fun x=>g21 x.1 x.2.1.1⟩
theorem ZI:ar Tryz.prog 21 s21 :=
 fl (ac nY (ac Xa (ac W5 (ac aaU (ac abH (ac acd (ac ZM an))))))) [] [(0,⟨[.d 1 ki,.d 32 ki,.d 33 ki,.box 4 [(true,eJ),(false,ki),(false,ki),(true,il)],.box 6 [(true,eJ),(false,ki),(false,ki),(true,il)]],ah (dQ vQ)⟩)] [] Tryz.f21 (lp [0] (sc cN sn))
def mS (p0 p1 p2:Int):Option dY :=
 some ((),(((cond (bL p1 p0) (bL p0 p2) false),()),()))
def s41:Su:=⟨[.c false [ki],.c false [ki],.c false [ki]],[(false,[.bool])],true,.inl fun x=>mS x.1.1 x.2.1.1 x.2.2.1.1⟩
theorem lR:ar Tryz.prog 41 s41 :=
 fq an Tryz.f41
def Eu (p0 p1:(List UInt8)×Int×Int×Int×Int×(List gD)×Int×Int×(List R3)×(List R3)×(List cD)×Unit):Option im :=
 cond (kB p0.1 p1.1) (
 c3
 ) (
 cond (!(Tp p0.1 p1.1)) (
 c7
 ) (
 c6
 )
 )
def RR:Su:=⟨[.c true [.str,ki,ki,ki,ki,mE,ki,ki,q3,q3,dX],.c true [.str,ki,ki,ki,ki,mE,ki,ki,q3,q3,dX]],[(false,[ki])],true,.inl fun x=>Eu x.1 x.2.1⟩
theorem Cy:ar Tryz.prog 138 RR :=
 fq an Tryz.f138
def pf (t0:List de) (t1 t2:Int) (_:Unit) (t8 t9:Int):Rd ((List de)×Int×Int×Unit×Int×Int×Unit) Unit :=
 cond (aw t1 t9) (
 cond (aR t9 t0) (
 let u1:=(aO .i64 t9 1)
 cond (aR u1 t0) (
 (Eu (gt d59 t0 t9) (gt d59 t0 u1)).bind fun y1 =>
 cond (aw y1.2.1.1 0) (
 cond (aR u1 t0) (
 cond (aR t9 t0) (
 cond (yT t9 t0 t9) (
 cond (yT u1 t0 u1) (
 some (.inl ((IB d59 t0 t9 u1),t1,t2,(),t8,u1,()))
 ) none
 ) none
 ) none
 ) none
 ) (
 some (.inr (.inl (t0,t1,t2,(),t8,t9,())))
 )
 ) none
 ) none
 ) (
 some (.inr (.inl (t0,t1,t2,(),t8,t9,())))
 )
def Ay:=X4 (ah (FO pf))
def l6 (t0:List de) (t1 t2:Int) (_:Unit) (t8:Int):Rd ((List de)×Int×Int×Unit×Int×Unit) Unit :=
 cond (aw t8 t2) (
 (Ay t0 t1 t2 () t8 t8).bind (Sum.elim (fun y1 =>
 some (.inl (y1.1,y1.2.1,y1.2.2.1,(),(aj .i64 y1.2.2.2.2.1 1),()))
 ) (fun _ =>
 some (.inr (.inr ()))
 ))
 ) (
 some (.inr (.inl (t0,t1,t2,(),t8,())))
 )
def pV:=tV (ah (dQ l6))
def Ih (p0:List de) (p1 p2:Int):Option PQ :=
 (pV p0 p1 p2 () (aj .i64 p1 1)).bind (Sum.elim (fun y1 =>
 some (((y1.1,()),()),())
 ) (fun _ =>
 none
 ))
def N5:Su:=⟨[.io false [eH],.c false [ki],.c false [ki],.fn 138 []],[],true,.inl fun x=>Ih x.1.1 x.2.1.1 x.2.2.1.1⟩
def qP:List SE:=[.own 0 eH,.d 1 ki,.d 2 ki,.fn 3 138 [],.d 8 ki,.d 9 ki]
def rP:List SE:=[.own 0 eH,.d 1 ki,.d 2 ki,.fn 3 138 [],.d 8 ki]
def Jd:List SE:=[]
def P9:Nat->Option (Lo Jd)
 | 2=>some ⟨qP,FO Ay⟩
 | 0=>some ⟨rP,dQ pV⟩
 | _=>none
def FW:List Y0:=[(138,iS RR)]
def FZ:En:=yK 53 tt FW Jd P9 [0] fun _=>none
def Wg:Nat->Option (St->Tr St)
 | 6=>some (swapT FZ (opsOf (bg 6 (ak Tryz.f238))) [9] [(14,2),(14,3),(14,4)] 14 9 13)
 | _=>none
def Dw:En:=yK 53 tt FW Jd P9 [0] (Wg)
theorem SZ (x:bJ qP):(cZ Dw 2 qP (aX 2 (ak Tryz.f238)) x).run=FO pf x:=by kernel_rfl
theorem Rw (x:bJ rP):(cZ Dw 0 rP (aX 0 (ak Tryz.f238)) x).run=dQ l6 x:=by kernel_rfl
theorem t238 (x:PT N5.ps):(FK Dw (ak Tryz.f238) Tryz.f238.results.toList N5.ps N5.rs true x).run=Ih x.1.1 x.2.1.1 x.2.2.1.1:=by kernel_rfl
theorem EH:df Tryz.prog Dw:=cR (l:=FW) ⟨Cy,trivial⟩
theorem Hf:df Tryz.prog FZ:=cR (l:=FW) ⟨Cy,trivial⟩
theorem RZ:cH Tryz.prog Dw (bg 6 (ak Tryz.f238)) (swapT FZ (opsOf (bg 6 (ak Tryz.f238))) [9] [(14,2),(14,3),(14,4)] 14 9 13) :=
 fV rfl rfl (u0 (E:=FZ) (kM hT) Hf eu (c:=(bg 6 (ak Tryz.f238))) (id:=6) (by kernel_rfl))
theorem RD:cl Tryz.prog Dw 2 (.loop (aX 2 (ak Tryz.f238))) ⟨qP,FO Ay⟩ :=
 er (kM hT) EH eu (step:=fun (x:bJ qP)=>pf x.1 x.2.1 x.2.2.1 x.2.2.2.1 x.2.2.2.2.1 x.2.2.2.2.2.1) SZ (aW [] (by kernel_rfl) trivial [(6,bg 6 (ak Tryz.f238))] (by kernel_rfl) ⟨xH rfl RZ,trivial⟩)
theorem Si:cl Tryz.prog Dw 0 (.loop (aX 0 (ak Tryz.f238))) ⟨rP,dQ pV⟩ :=
 er (kM hT) EH eu (step:=fun (x:bJ rP)=>l6 x.1 x.2.1 x.2.2.1 x.2.2.2.1 x.2.2.2.2.1) Rw (aW [(2,.loop (aX 2 (ak Tryz.f238)))] (by kernel_rfl) ⟨lC rfl RD,trivial⟩ [] (by kernel_rfl) trivial)
theorem Vz:ar Tryz.prog 238 N5 :=
 oh (E:=Dw) (kM hT) EH eu (fn:=Tryz.f238) (c:=(ak Tryz.f238)) (by kernel_rfl) (by kernel_rfl) (by kernel_rfl) rfl (aW [(0,.loop (aX 0 (ak Tryz.f238)))] (by kernel_rfl) ⟨lC rfl Si,trivial⟩ [] (by kernel_rfl) trivial) fun x y h=>⟨y.1,fun _=>rfl,(t238 x).trans h⟩
def pX (t0:List de) (t1 t2 t3 t10:Int):Rd ((List de)×Int×Int×Int×Int×Unit) Unit :=
 cond (aw t10 t3) (
 let u1:=(aj .i64 t2 t10)
 cond (aR u1 t0) (
 let u2:=(aj .i64 t1 t10)
 cond (aR u2 t0) (
 cond (yT u2 t0 u2) (
 cond (yT u1 t0 u1) (
 some (.inl ((IB d59 t0 u2 u1),t1,t2,t3,(aj .i64 t10 1),()))
 ) none
 ) none
 ) none
 ) none
 ) (
 some (.inr (.inl (t0,t1,t2,t3,t10,())))
 )
def xE:=tV (ah (dQ pX))
def Ab (p0:List de) (p1 p2 p3:Int):Option PQ :=
 (xE p0 p1 p2 p3 0).bind (Sum.elim (fun y1 =>
 some (((y1.1,()),()),())
 ) (fun _ =>
 none
 ))
def Om:Su:=⟨[.io false [eH],.c false [ki],.c false [ki],.c false [ki],.fn 138 []],[],true,.inl fun x=>Ab x.1.1 x.2.1.1 x.2.2.1.1 x.2.2.2.1.1⟩
def sh:List SE:=[.own 0 eH,.d 1 ki,.d 2 ki,.d 3 ki,.d 10 ki]
def Kv:List SE:=[]
def QM:Nat->Option (Lo Kv)
 | 0=>some ⟨sh,dQ xE⟩
 | _=>none
def Fb:List Y0:=[]
def E7:En:=yK 38 tt Fb Kv QM [0] fun _=>none
def VT:Nat->Option (St->Tr St)
 | 3=>some (swapT E7 (opsOf (bg 3 (ak Tryz.f316))) [2,10] [(20,4),(20,5),(20,6),(20,7)] 20 13 19)
 | _=>none
def HR:En:=yK 38 tt Fb Kv QM [0] (VT)
theorem T8 (x:bJ sh):(cZ HR 0 sh (aX 0 (ak Tryz.f316)) x).run=dQ pX x:=by kernel_rfl
theorem t316 (x:PT Om.ps):(FK HR (ak Tryz.f316) Tryz.f316.results.toList Om.ps Om.rs true x).run=Ab x.1.1 x.2.1.1 x.2.2.1.1 x.2.2.2.1.1:=by kernel_rfl
theorem Ms:df Tryz.prog HR:=cR (l:=Fb) trivial
theorem Ir:df Tryz.prog E7:=cR (l:=Fb) trivial
theorem TG:cH Tryz.prog HR (bg 3 (ak Tryz.f316)) (swapT E7 (opsOf (bg 3 (ak Tryz.f316))) [2,10] [(20,4),(20,5),(20,6),(20,7)] 20 13 19) :=
 fV rfl rfl (u0 (E:=E7) (kM hT) Ir eu (c:=(bg 3 (ak Tryz.f316))) (id:=3) (by kernel_rfl))
theorem Sd:cl Tryz.prog HR 0 (.loop (aX 0 (ak Tryz.f316))) ⟨sh,dQ xE⟩ :=
 er (kM hT) Ms eu (step:=fun (x:bJ sh)=>pX x.1 x.2.1 x.2.2.1 x.2.2.2.1 x.2.2.2.2.1) T8 (aW [] (by kernel_rfl) trivial [(3,bg 3 (ak Tryz.f316))] (by kernel_rfl) ⟨xH rfl TG,trivial⟩)
theorem Yc:ar Tryz.prog 316 Om :=
 oh (E:=HR) (kM hT) Ms eu (fn:=Tryz.f316) (c:=(ak Tryz.f316)) (by kernel_rfl) (by kernel_rfl) (by kernel_rfl) rfl (aW [(0,.loop (aX 0 (ak Tryz.f316)))] (by kernel_rfl) ⟨lC rfl Sd,trivial⟩ [] (by kernel_rfl) trivial) fun x y h=>⟨y.1,fun _=>rfl,(t316 x).trans h⟩
def nv (t0:List de) (t2:Int) (_:Unit) (t10 t11:Int):Rd Y37 Unit :=
 cond (!(aq t10 t11)) (
 cond (aw t11 t10) (
 let u1:=(aO .i64 t2 t10)
 (Ab t0 u1 t2 t11).bind fun y1 =>
 some (.inl (y1.1.1.1,t2,(),(aO .i64 t10 t11),t11,()))
 ) (
 let u1:=(aO .i64 t2 t10)
 (Ab t0 u1 (aO .i64 (aj .i64 t2 t11) t10) t10).bind fun y1 =>
 some (.inl (y1.1.1.1,t2,(),t10,(aO .i64 t11 t10),()))
 )
 ) (
 some (.inr (.inl (t0,t2,(),t10,t11,())))
 )
def IZ:=tV (ah (dQ nv))
def Bw (p0:List de) (p1 p2 p3:Int):Option PQ :=
 (IZ p0 p2 () (aO .i64 p2 p1) (aO .i64 p3 p2)).bind (Sum.elim (fun y1 =>
 (Ab y1.1 (aO .i64 y1.2.1 y1.2.2.2.1) y1.2.1 y1.2.2.2.1).bind fun y2 =>
 some ((y2.1.1,()),())
 ) (fun _ =>
 none
 ))
def Xd:Su:=⟨[.io false [eH],.c false [ki],.c false [ki],.c false [ki],.fn 138 []],[],true,.inl fun x=>Bw x.1.1 x.2.1.1 x.2.2.1.1 x.2.2.2.1.1⟩
theorem Kh:ar Tryz.prog 291 Xd :=
 fl (ac Yc an) [] [(0,⟨[.own 0 eH,.d 2 ki,.fn 4 138 [],.d 10 ki,.d 11 ki],ah (dQ nv)⟩)] [0] Tryz.f291 (lp [0] (sc cN sn))
-- REC 239
def nd (t0:List de) (t1:Int) (_:Unit) (t10 t11:Int):Rd Y37 Unit :=
 cond (aw t10 t11) (
 let u1:=(bI .i64 (iT .u64 (bI .u64 (aj .i64 t10 t11)) 1))
 cond (aR u1 t0) (
 cond (aR t1 t0) (
 (Eu (gt d59 t0 u1) (gt d59 t0 t1)).bind fun y1 =>
 cond (aw y1.2.1.1 0) (
 some (.inl (t0,t1,(),(aj .i64 u1 1),t11,()))
 ) (
 some (.inl (t0,t1,(),t10,u1,()))
 )
 ) none
 ) none
 ) (
 some (.inr (.inl (t0,t1,(),t10,t11,())))
 )
def wg:=tV (ah (dQ nd))
def oT (t0:List de) (t10 t13:Int):Rd Zk Unit :=
 cond (aw t13 (aO .i64 t10 1)) (
 let u1:=(aj .i64 t13 1)
 cond (aR u1 t0) (
 cond (aR t13 t0) (
 cond (yT t13 t0 t13) (
 cond (yT u1 t0 u1) (
 some (.inl ((IB d59 t0 t13 u1),t10,u1,()))
 ) none
 ) none
 ) none
 ) none
 ) (
 some (.inr (.inl (t0,t10,t13,())))
 )
def xm:=kz (ah (dq oT))
def nj (t0:List de) (t2:Int) (_:Unit) (t14 t15:Int):Rd Y37 Unit :=
 cond (aw t14 t15) (
 cond (aR t2 t0) (
 let u1:=(bI .i64 (iT .u64 (bI .u64 (aj .i64 t14 t15)) 1))
 cond (aR u1 t0) (
 (Eu (gt d59 t0 t2) (gt d59 t0 u1)).bind fun y1 =>
 cond (!(aw y1.2.1.1 0)) (
 some (.inl (t0,t2,(),(aj .i64 u1 1),t15,()))
 ) (
 some (.inl (t0,t2,(),t14,u1,()))
 )
 ) none
 ) none
 ) (
 some (.inr (.inl (t0,t2,(),t14,t15,())))
 )
def v7:=tV (ah (dQ nj))
def pR (t0:List de) (t14 t17:Int):Rd Zk Unit :=
 cond (aw t14 t17) (
 let u1:=(aO .i64 t17 1)
 cond (aR u1 t0) (
 cond (aR t17 t0) (
 cond (yT t17 t0 t17) (
 cond (yT u1 t0 u1) (
 some (.inl ((IB d59 t0 t17 u1),t14,u1,()))
 ) none
 ) none
 ) none
 ) none
 ) (
 some (.inr (.inl (t0,t14,t17,())))
 )
def yk:=kz (ah (dq pR))
def nc (t0:List de) (t1 t2 t3:Int) (_:Unit) (t18 t19 t20 t21 t22:Int):Rd ((List de)×Int×Int×Int×Unit×Int×Int×Int×Int×Int×Unit) Unit :=
 cond (aw t20 t21) (
 let u1:=(bI .i64 (iT .u64 (bI .u64 (aj .i64 t20 t21)) 1))
 let u2:=(aO .i64 t22 u1)
 cond (aR u2 t0) (
 cond (aR u1 t0) (
 (Eu (gt d59 t0 u2) (gt d59 t0 u1)).bind fun y1 =>
 cond (!(aw y1.2.1.1 0)) (
 some (.inl (t0,t1,t2,t3,(),t18,t19,(aj .i64 u1 1),t21,t22,()))
 ) (
 some (.inl (t0,t1,t2,t3,(),t18,t19,t20,u1,t22,()))
 )
 ) none
 ) none
 ) (
 some (.inr (.inl (t0,t1,t2,t3,(),t18,t19,t20,t21,t22,())))
 )
def lV:=Vd (ah (C4 nc))
def fG (n:Nat):(List de)->Int->Int->Int->Option PQ:=Nat.rec (motive:=fun _=>(List de)->Int->Int->Int->Option PQ) (fun _ _ _ _=>none) (fun _ mV=>fun p0 p1 p2 p3 =>
 cond (aq (aO .i64 p2 p1) 1) (
 (wg p0 p1 () p2 p3).bind (Sum.elim (fun y1 =>
 (xm y1.1 y1.2.2.2.1 y1.2.1).bind (Sum.elim (fun y2 =>
 some (((y2.1,()),()),())
 ) (fun _ =>
 none
 ))
 ) (fun _ =>
 none
 ))
 ) (
 cond (aq (aO .i64 p3 p2) 1) (
 (v7 p0 p2 () p1 p2).bind (Sum.elim (fun y1 =>
 (yk y1.1 y1.2.2.2.1 y1.2.1).bind (Sum.elim (fun y2 =>
 some (((y2.1,()),()),())
 ) (fun _ =>
 none
 ))
 ) (fun _ =>
 none
 ))
 ) (
 let u1:=(bI .i64 (iT .u64 (bI .u64 (aj .i64 p1 p3)) 1))
 cond (aw u1 p2) (
 let u2:=(aj .i64 u1 p2)
 let u3:=(aO .i64 u2 1)
 (lV p0 p1 p2 p3 () u1 u2 (aO .i64 u2 p3) u1 u3).bind (Sum.elim (fun y1 =>
 let u4:=(aO .i64 y1.2.2.2.2.2.2.1 y1.2.2.2.2.2.2.2.1)
 let u5:=(cond (aw y1.2.2.2.2.2.2.2.1 y1.2.2.1) (aw y1.2.2.1 u4) false)
 cond u5 (
 let u6:=(Bw y1.1 y1.2.2.2.2.2.2.2.1 y1.2.2.1 u4)
 Option.bind u6 fun y2 =>
 let u7:=(cond (aw y1.2.1 y1.2.2.2.2.2.2.2.1) (aw y1.2.2.2.2.2.2.2.1 y1.2.2.2.2.2.1) false)
 cond u7 (
 let u8:=(mV y2.1.1.1 y1.2.1 y1.2.2.2.2.2.2.2.1 y1.2.2.2.2.2.1)
 Option.bind u8 fun y3 =>
 let u9:=(cond (aw y1.2.2.2.2.2.1 u4) (aw u4 y1.2.2.2.1) false)
 cond u9 (
 let u10:=(mV y3.1.1.1 y1.2.2.2.2.2.1 u4 y1.2.2.2.1)
 Option.bind u10 fun y4 =>
 some ((y4.1.1,()),())
 ) (
 some ((y3.1.1,()),())
 )
 ) (
 let u8:=(cond (aw y1.2.2.2.2.2.1 u4) (aw u4 y1.2.2.2.1) false)
 cond u8 (
 let u9:=(mV y2.1.1.1 y1.2.2.2.2.2.1 u4 y1.2.2.2.1)
 Option.bind u9 fun y3 =>
 some ((y3.1.1,()),())
 ) (
 some ((y2.1.1,()),())
 )
 )
 ) (
 let u6:=(cond (aw y1.2.1 y1.2.2.2.2.2.2.2.1) (aw y1.2.2.2.2.2.2.2.1 y1.2.2.2.2.2.1) false)
 cond u6 (
 let u7:=(mV y1.1 y1.2.1 y1.2.2.2.2.2.2.2.1 y1.2.2.2.2.2.1)
 Option.bind u7 fun y2 =>
 let u8:=(cond (aw y1.2.2.2.2.2.1 u4) (aw u4 y1.2.2.2.1) false)
 cond u8 (
 let u9:=(mV y2.1.1.1 y1.2.2.2.2.2.1 u4 y1.2.2.2.1)
 Option.bind u9 fun y3 =>
 some ((y3.1.1,()),())
 ) (
 some ((y2.1.1,()),())
 )
 ) (
 let u7:=(cond (aw y1.2.2.2.2.2.1 u4) (aw u4 y1.2.2.2.1) false)
 cond u7 (
 let u8:=(mV y1.1 y1.2.2.2.2.2.1 u4 y1.2.2.2.1)
 Option.bind u8 fun y2 =>
 some ((y2.1.1,()),())
 ) (
 some (((y1.1,()),()),())
 )
 )
 )
 ) (fun _ =>
 none
 ))
 ) (
 let u2:=(aj .i64 u1 p2)
 let u3:=(aO .i64 u2 1)
 (lV p0 p1 p2 p3 () u1 u2 p1 p2 u3).bind (Sum.elim (fun y1 =>
 let u4:=(aO .i64 y1.2.2.2.2.2.2.1 y1.2.2.2.2.2.2.2.1)
 let u5:=(cond (aw y1.2.2.2.2.2.2.2.1 y1.2.2.1) (aw y1.2.2.1 u4) false)
 cond u5 (
 let u6:=(Bw y1.1 y1.2.2.2.2.2.2.2.1 y1.2.2.1 u4)
 Option.bind u6 fun y2 =>
 let u7:=(cond (aw y1.2.1 y1.2.2.2.2.2.2.2.1) (aw y1.2.2.2.2.2.2.2.1 y1.2.2.2.2.2.1) false)
 cond u7 (
 let u8:=(mV y2.1.1.1 y1.2.1 y1.2.2.2.2.2.2.2.1 y1.2.2.2.2.2.1)
 Option.bind u8 fun y3 =>
 let u9:=(cond (aw y1.2.2.2.2.2.1 u4) (aw u4 y1.2.2.2.1) false)
 cond u9 (
 let u10:=(mV y3.1.1.1 y1.2.2.2.2.2.1 u4 y1.2.2.2.1)
 Option.bind u10 fun y4 =>
 some ((y4.1.1,()),())
 ) (
 some ((y3.1.1,()),())
 )
 ) (
 let u8:=(cond (aw y1.2.2.2.2.2.1 u4) (aw u4 y1.2.2.2.1) false)
 cond u8 (
 let u9:=(mV y2.1.1.1 y1.2.2.2.2.2.1 u4 y1.2.2.2.1)
 Option.bind u9 fun y3 =>
 some ((y3.1.1,()),())
 ) (
 some ((y2.1.1,()),())
 )
 )
 ) (
 let u6:=(cond (aw y1.2.1 y1.2.2.2.2.2.2.2.1) (aw y1.2.2.2.2.2.2.2.1 y1.2.2.2.2.2.1) false)
 cond u6 (
 let u7:=(mV y1.1 y1.2.1 y1.2.2.2.2.2.2.2.1 y1.2.2.2.2.2.1)
 Option.bind u7 fun y2 =>
 let u8:=(cond (aw y1.2.2.2.2.2.1 u4) (aw u4 y1.2.2.2.1) false)
 cond u8 (
 let u9:=(mV y2.1.1.1 y1.2.2.2.2.2.1 u4 y1.2.2.2.1)
 Option.bind u9 fun y3 =>
 some ((y3.1.1,()),())
 ) (
 some ((y2.1.1,()),())
 )
 ) (
 let u7:=(cond (aw y1.2.2.2.2.2.1 u4) (aw u4 y1.2.2.2.1) false)
 cond u7 (
 let u8:=(mV y1.1 y1.2.2.2.2.2.1 u4 y1.2.2.2.1)
 Option.bind u8 fun y2 =>
 some ((y2.1.1,()),())
 ) (
 some (((y1.1,()),()),())
 )
 )
 )
 ) (fun _ =>
 none
 ))
 )
 )
 )) n
theorem qd (n:Nat) (p0:(List de)) (p1:Int) (p2:Int) (p3:Int):fG (n + 1) p0 p1 p2 p3 =
 cond (aq (aO .i64 p2 p1) 1) (
  (wg p0 p1 () p2 p3).bind (Sum.elim (fun y1 =>
    (xm y1.1 y1.2.2.2.1 y1.2.1).bind (Sum.elim (fun y2 =>
      some (((y2.1,()),()),())
    ) (fun y2 =>
     none
    ))
  ) (fun y1 =>
   none
  ))
 ) (
  cond (aq (aO .i64 p3 p2) 1) (
   (v7 p0 p2 () p1 p2).bind (Sum.elim (fun y1 =>
     (yk y1.1 y1.2.2.2.1 y1.2.1).bind (Sum.elim (fun y2 =>
       some (((y2.1,()),()),())
     ) (fun y2 =>
      none
     ))
   ) (fun y1 =>
    none
   ))
  ) (
   let u1:=(bI .i64 (iT .u64 (bI .u64 (aj .i64 p1 p3)) 1))
   cond (aw u1 p2) (
    let u2:=(aj .i64 u1 p2)
    let u3:=(aO .i64 u2 1)
    (lV p0 p1 p2 p3 () u1 u2 (aO .i64 u2 p3) u1 u3).bind (Sum.elim (fun y1 =>
      let u4:=(aO .i64 y1.2.2.2.2.2.2.1 y1.2.2.2.2.2.2.2.1)
      let u5:=(cond (aw y1.2.2.2.2.2.2.2.1 y1.2.2.1) (aw y1.2.2.1 u4) false)
      cond u5 (
       let u6:=(Bw y1.1 y1.2.2.2.2.2.2.2.1 y1.2.2.1 u4)
       Option.bind u6 fun y2 =>
       let u7:=(cond (aw y1.2.1 y1.2.2.2.2.2.2.2.1) (aw y1.2.2.2.2.2.2.2.1 y1.2.2.2.2.2.1) false)
       cond u7 (
        let u8:=(fG n y2.1.1.1 y1.2.1 y1.2.2.2.2.2.2.2.1 y1.2.2.2.2.2.1)
        Option.bind u8 fun y3 =>
        let u9:=(cond (aw y1.2.2.2.2.2.1 u4) (aw u4 y1.2.2.2.1) false)
        cond u9 (
         let u10:=(fG n y3.1.1.1 y1.2.2.2.2.2.1 u4 y1.2.2.2.1)
         Option.bind u10 fun y4 =>
         some ((y4.1.1,()),())
        ) (
         some ((y3.1.1,()),())
        )
       ) (
        let u8:=(cond (aw y1.2.2.2.2.2.1 u4) (aw u4 y1.2.2.2.1) false)
        cond u8 (
         let u9:=(fG n y2.1.1.1 y1.2.2.2.2.2.1 u4 y1.2.2.2.1)
         Option.bind u9 fun y3 =>
         some ((y3.1.1,()),())
        ) (
         some ((y2.1.1,()),())
        )
       )
      ) (
       let u6:=(cond (aw y1.2.1 y1.2.2.2.2.2.2.2.1) (aw y1.2.2.2.2.2.2.2.1 y1.2.2.2.2.2.1) false)
       cond u6 (
        let u7:=(fG n y1.1 y1.2.1 y1.2.2.2.2.2.2.2.1 y1.2.2.2.2.2.1)
        Option.bind u7 fun y2 =>
        let u8:=(cond (aw y1.2.2.2.2.2.1 u4) (aw u4 y1.2.2.2.1) false)
        cond u8 (
         let u9:=(fG n y2.1.1.1 y1.2.2.2.2.2.1 u4 y1.2.2.2.1)
         Option.bind u9 fun y3 =>
         some ((y3.1.1,()),())
        ) (
         some ((y2.1.1,()),())
        )
       ) (
        let u7:=(cond (aw y1.2.2.2.2.2.1 u4) (aw u4 y1.2.2.2.1) false)
        cond u7 (
         let u8:=(fG n y1.1 y1.2.2.2.2.2.1 u4 y1.2.2.2.1)
         Option.bind u8 fun y2 =>
         some ((y2.1.1,()),())
        ) (
         some (((y1.1,()),()),())
        )
       )
      )
    ) (fun y1 =>
     none
    ))
   ) (
    let u2:=(aj .i64 u1 p2)
    let u3:=(aO .i64 u2 1)
    (lV p0 p1 p2 p3 () u1 u2 p1 p2 u3).bind (Sum.elim (fun y1 =>
      let u4:=(aO .i64 y1.2.2.2.2.2.2.1 y1.2.2.2.2.2.2.2.1)
      let u5:=(cond (aw y1.2.2.2.2.2.2.2.1 y1.2.2.1) (aw y1.2.2.1 u4) false)
      cond u5 (
       let u6:=(Bw y1.1 y1.2.2.2.2.2.2.2.1 y1.2.2.1 u4)
       Option.bind u6 fun y2 =>
       let u7:=(cond (aw y1.2.1 y1.2.2.2.2.2.2.2.1) (aw y1.2.2.2.2.2.2.2.1 y1.2.2.2.2.2.1) false)
       cond u7 (
        let u8:=(fG n y2.1.1.1 y1.2.1 y1.2.2.2.2.2.2.2.1 y1.2.2.2.2.2.1)
        Option.bind u8 fun y3 =>
        let u9:=(cond (aw y1.2.2.2.2.2.1 u4) (aw u4 y1.2.2.2.1) false)
        cond u9 (
         let u10:=(fG n y3.1.1.1 y1.2.2.2.2.2.1 u4 y1.2.2.2.1)
         Option.bind u10 fun y4 =>
         some ((y4.1.1,()),())
        ) (
         some ((y3.1.1,()),())
        )
       ) (
        let u8:=(cond (aw y1.2.2.2.2.2.1 u4) (aw u4 y1.2.2.2.1) false)
        cond u8 (
         let u9:=(fG n y2.1.1.1 y1.2.2.2.2.2.1 u4 y1.2.2.2.1)
         Option.bind u9 fun y3 =>
         some ((y3.1.1,()),())
        ) (
         some ((y2.1.1,()),())
        )
       )
      ) (
       let u6:=(cond (aw y1.2.1 y1.2.2.2.2.2.2.2.1) (aw y1.2.2.2.2.2.2.2.1 y1.2.2.2.2.2.1) false)
       cond u6 (
        let u7:=(fG n y1.1 y1.2.1 y1.2.2.2.2.2.2.2.1 y1.2.2.2.2.2.1)
        Option.bind u7 fun y2 =>
        let u8:=(cond (aw y1.2.2.2.2.2.1 u4) (aw u4 y1.2.2.2.1) false)
        cond u8 (
         let u9:=(fG n y2.1.1.1 y1.2.2.2.2.2.1 u4 y1.2.2.2.1)
         Option.bind u9 fun y3 =>
         some ((y3.1.1,()),())
        ) (
         some ((y2.1.1,()),())
        )
       ) (
        let u7:=(cond (aw y1.2.2.2.2.2.1 u4) (aw u4 y1.2.2.2.1) false)
        cond u7 (
         let u8:=(fG n y1.1 y1.2.2.2.2.2.1 u4 y1.2.2.2.1)
         Option.bind u8 fun y2 =>
         some ((y2.1.1,()),())
        ) (
         some (((y1.1,()),()),())
        )
       )
      )
    ) (fun y1 =>
     none
    ))
   )
  )
 ):=rfl
def mV (p0:List de) (p1 p2 p3:Int):Option PQ:=Ei fun n=>fG n p0 p1 p2 p3
def j5 (n:Nat):Su:=⟨[.io false [eH],.c false [ki],.c false [ki],.c false [ki],.fn 138 []],[],true,.inl fun x=>fG n x.1.1 x.2.1.1 x.2.2.1.1 x.2.2.2.1.1⟩
def Kx:Su:=⟨[.io false [eH],.c false [ki],.c false [ki],.c false [ki],.fn 138 []],[],true,.inl fun x=>mV x.1.1 x.2.1.1 x.2.2.1.1 x.2.2.2.1.1⟩
def rX:List SE:=[.own 0 eH,.d 1 ki,.fn 4 138 [],.d 10 ki,.d 11 ki]
def rY:List SE:=[.own 0 eH,.d 10 ki,.d 13 ki]
def rW:List SE:=[.own 0 eH,.d 2 ki,.fn 4 138 [],.d 14 ki,.d 15 ki]
def qK:List SE:=[.own 0 eH,.d 14 ki,.d 17 ki]
def rk:List SE:=[.own 0 eH,.d 1 ki,.d 2 ki,.d 3 ki,.fn 4 138 [],.d 18 ki,.d 19 ki,.d 20 ki,.d 21 ki,.d 22 ki]
def Ma:List SE:=[]
def PL:Nat->Option (Lo Ma)
 | 0=>some ⟨rX,dQ wg⟩
 | 2=>some ⟨rY,dq xm⟩
 | 4=>some ⟨rW,dQ v7⟩
 | 6=>some ⟨qK,dq yk⟩
 | 8=>some ⟨rk,C4 lV⟩
 | _=>none
def CZ (n:Nat):List Y0:=[(138,iS RR),(239,iS (j5 n)),(291,iS Xd)]
def tU (n:Nat):En:=yK 220 tt (CZ n) Ma PL [0] fun _=>none
def WQ (n:Nat):Nat->Option (St->Tr St)
 | 11=>some (swapT (tU n) (opsOf (bg 11 (ak Tryz.f239))) [13] [(14,2),(14,3),(14,4)] 14 9 13)
 | 23=>some (swapT (tU n) (opsOf (bg 23 (ak Tryz.f239))) [17] [(14,2),(14,3),(14,4)] 14 9 13)
 | _=>none
def pI (n:Nat):En:=yK 220 tt (CZ n) Ma PL [0] ((WQ n))
theorem SF (n:Nat) (x:bJ rX):(cZ (pI n) 0 rX (aX 0 (ak Tryz.f239)) x).run=dQ nd x:=by kernel_rfl
theorem SI (n:Nat) (x:bJ rY):(cZ (pI n) 2 rY (aX 2 (ak Tryz.f239)) x).run=dq oT x:=by kernel_rfl
theorem RQ (n:Nat) (x:bJ rW):(cZ (pI n) 4 rW (aX 4 (ak Tryz.f239)) x).run=dQ nj x:=by kernel_rfl
theorem SG (n:Nat) (x:bJ qK):(cZ (pI n) 6 qK (aX 6 (ak Tryz.f239)) x).run=dq pR x:=by kernel_rfl
theorem TY (n:Nat) (x:bJ rk):(cZ (pI n) 8 rk (aX 8 (ak Tryz.f239)) x).run=C4 nc x:=by kernel_rfl
theorem t239 (n:Nat) (x:PT (j5 (n + 1)).ps):(FK (pI n) (ak Tryz.f239) Tryz.f239.results.toList (j5 (n + 1)).ps (j5 (n + 1)).rs true x).run=fG (n + 1) x.1.1 x.2.1.1 x.2.2.1.1 x.2.2.2.1.1:=by kernel_rfl
theorem s8 (n:Nat) (hn:ar Tryz.prog 239 (j5 n)):df Tryz.prog (pI n):=cR (l:=(CZ n)) ⟨Cy,hn,Kh,trivial⟩
theorem DM (n:Nat) (hn:ar Tryz.prog 239 (j5 n)):df Tryz.prog (tU n):=cR (l:=(CZ n)) ⟨Cy,hn,Kh,trivial⟩
theorem Pn (n:Nat) (hn:ar Tryz.prog 239 (j5 n)):cH Tryz.prog (pI n) (bg 11 (ak Tryz.f239)) (swapT (tU n) (opsOf (bg 11 (ak Tryz.f239))) [13] [(14,2),(14,3),(14,4)] 14 9 13) :=
 fV rfl rfl (u0 (E:=(tU n)) (kM hT) (DM n hn) eu (c:=(bg 11 (ak Tryz.f239))) (id:=11) (by kernel_rfl))
theorem D9 (n:Nat) (hn:ar Tryz.prog 239 (j5 n)):df Tryz.prog (tU n):=cR (l:=(CZ n)) ⟨Cy,hn,Kh,trivial⟩
theorem Pk (n:Nat) (hn:ar Tryz.prog 239 (j5 n)):cH Tryz.prog (pI n) (bg 23 (ak Tryz.f239)) (swapT (tU n) (opsOf (bg 23 (ak Tryz.f239))) [17] [(14,2),(14,3),(14,4)] 14 9 13) :=
 fV rfl rfl (u0 (E:=(tU n)) (kM hT) (D9 n hn) eu (c:=(bg 23 (ak Tryz.f239))) (id:=23) (by kernel_rfl))
theorem SU (n:Nat) (hn:ar Tryz.prog 239 (j5 n)):cl Tryz.prog (pI n) 0 (.loop (aX 0 (ak Tryz.f239))) ⟨rX,dQ wg⟩ :=
 er (kM hT) (s8 n hn) eu (step:=fun (x:bJ rX)=>nd x.1 x.2.1 x.2.2.1 x.2.2.2.1 x.2.2.2.2.1) (SF n) (aW [] (by kernel_rfl) trivial [] (by kernel_rfl) trivial)
theorem T9 (n:Nat) (hn:ar Tryz.prog 239 (j5 n)):cl Tryz.prog (pI n) 2 (.loop (aX 2 (ak Tryz.f239))) ⟨rY,dq xm⟩ :=
 er (kM hT) (s8 n hn) eu (step:=fun (x:bJ rY)=>oT x.1 x.2.1 x.2.2.1) (SI n) (aW [] (by kernel_rfl) trivial [(11,bg 11 (ak Tryz.f239))] (by kernel_rfl) ⟨xH rfl (Pn n hn),trivial⟩)
theorem SN (n:Nat) (hn:ar Tryz.prog 239 (j5 n)):cl Tryz.prog (pI n) 4 (.loop (aX 4 (ak Tryz.f239))) ⟨rW,dQ v7⟩ :=
 er (kM hT) (s8 n hn) eu (step:=fun (x:bJ rW)=>nj x.1 x.2.1 x.2.2.1 x.2.2.2.1 x.2.2.2.2.1) (RQ n) (aW [] (by kernel_rfl) trivial [] (by kernel_rfl) trivial)
theorem RB (n:Nat) (hn:ar Tryz.prog 239 (j5 n)):cl Tryz.prog (pI n) 6 (.loop (aX 6 (ak Tryz.f239))) ⟨qK,dq yk⟩ :=
 er (kM hT) (s8 n hn) eu (step:=fun (x:bJ qK)=>pR x.1 x.2.1 x.2.2.1) (SG n) (aW [] (by kernel_rfl) trivial [(23,bg 23 (ak Tryz.f239))] (by kernel_rfl) ⟨xH rfl (Pk n hn),trivial⟩)
theorem Sp (n:Nat) (hn:ar Tryz.prog 239 (j5 n)):cl Tryz.prog (pI n) 8 (.loop (aX 8 (ak Tryz.f239))) ⟨rk,C4 lV⟩ :=
 er (kM hT) (s8 n hn) eu (step:=fun (x:bJ rk)=>nc x.1 x.2.1 x.2.2.1 x.2.2.2.1 x.2.2.2.2.1 x.2.2.2.2.2.1 x.2.2.2.2.2.2.1 x.2.2.2.2.2.2.2.1 x.2.2.2.2.2.2.2.2.1 x.2.2.2.2.2.2.2.2.2.1) (TY n) (aW [] (by kernel_rfl) trivial [] (by kernel_rfl) trivial)
theorem LW:∀ n,ar Tryz.prog 239 (j5 n)
 | 0=>ar.zero fun _=>rfl
 | n + 1=>have hn:=LW n
 oh (E:=(pI n)) (kM hT) (s8 n hn) eu (fn:=Tryz.f239) (c:=(ak Tryz.f239)) (by kernel_rfl) (by kernel_rfl) (by kernel_rfl) rfl (aW [(0,.loop (aX 0 (ak Tryz.f239))),(2,.loop (aX 2 (ak Tryz.f239))),(4,.loop (aX 4 (ak Tryz.f239))),(6,.loop (aX 6 (ak Tryz.f239))),(8,.loop (aX 8 (ak Tryz.f239)))] (by kernel_rfl) ⟨lC rfl (SU n hn),lC rfl (T9 n hn),lC rfl (SN n hn),lC rfl (RB n hn),lC rfl (Sp n hn),trivial⟩ [] (by kernel_rfl) trivial) fun x y h=>⟨y.1,fun _=>rfl,((t239 n) x).trans h⟩
theorem XM:ar Tryz.prog 239 Kx:=ar.fix (ps:=Kx.ps) (rs:=Kx.rs) (fr:=Kx.fresh) (G:=fun n (x:PT Kx.ps)=>fG n x.1.1 x.2.1.1 x.2.2.1.1 x.2.2.2.1.1) LW
def sk (t0:List de) (t1:Int) (_:Unit) (t6 t7 t8:Int):Rd ((List de)×Int×Unit×Int×Int×Int×Unit) Unit :=
 cond (bL t8 t1) (
 (Ih t0 t7 t8).bind fun y1 =>
 some (.inl (y1.1.1.1,t1,(),t6,t8,(aj .i64 t8 t6),()))
 ) (
 some (.inr (.inl (t0,t1,(),t6,t7,t8,())))
 )
def Ev:=X4 (ah (FO sk))
def sQ (t0:List de) (t1:Int) (_:Unit) (t6 t7 t8:Int):Rd ((List de)×Int×Unit×Int×Int×Int×Unit) Unit :=
 cond (bL t8 t1) (
 (mV t0 t7 (aj .i64 t7 t6) t8).bind fun y1 =>
 some (.inl (y1.1.1.1,t1,(),t6,t8,(aj .i64 t8 (kl .i64 2 t6)),()))
 ) (
 some (.inr (.inl (t0,t1,(),t6,t7,t8,())))
 )
def AN:=X4 (ah (FO sQ))
def sH (t0:List de) (t1:Int) (_:Unit) (t6:Int):Rd ((List de)×Int×Unit×Int×Unit) Unit :=
 cond (aw t6 t1) (
 (AN t0 t1 () t6 0 (kl .i64 2 t6)).bind (Sum.elim (fun y1 =>
 let u1:=(aj .i64 y1.2.2.2.2.1 y1.2.2.2.1)
 cond (aw u1 y1.2.1) (
 (mV y1.1 y1.2.2.2.2.1 u1 y1.2.1).bind fun y2 =>
 let u2:=(kl .i64 y1.2.2.2.1 2)
 some (.inl (y2.1.1.1,y1.2.1,(),u2,()))
 ) (
 let u2:=(kl .i64 y1.2.2.2.1 2)
 some (.inl (y1.1,y1.2.1,(),u2,()))
 )
 ) (fun _ =>
 some (.inr (.inr ()))
 ))
 ) (
 some (.inr (.inl (t0,t1,(),t6,())))
 )
def DZ:=mm (ah (cV sH))
def Sz (p0:List de) (p1:Int):Option PQ :=
 (Ev p0 p1 () 20 0 20).bind (Sum.elim (fun y1 =>
 (Ih y1.1 y1.2.2.2.2.1 y1.2.1).bind fun y2 =>
 (DZ y2.1.1.1 y1.2.1 () y1.2.2.2.1).bind (Sum.elim (fun y3 =>
 some (((y3.1,()),()),())
 ) (fun _ =>
 none
 ))
 ) (fun _ =>
 none
 ))
def aat:Su:=⟨[.io false [eH],.c false [ki],.fn 138 []],[],true,.inl fun x=>Sz x.1.1 x.2.1.1⟩
theorem XF:ar Tryz.prog 186 aat :=
 fl (ac Vz (ac XM an)) [] [(0,⟨[.own 0 eH,.d 1 ki,.fn 2 138 [],.d 6 ki,.d 7 ki,.d 8 ki],ah (FO sk)⟩),(4,⟨[.own 0 eH,.d 1 ki,.fn 2 138 [],.d 6 ki,.d 7 ki,.d 8 ki],ah (FO sQ)⟩),(2,⟨[.own 0 eH,.d 1 ki,.fn 2 138 [],.d 6 ki],ah (cV sH)⟩)] [0] Tryz.f186 (lp [0,2] (sc cN (sc (lp [4] (sc cN sn)) sn)))
def OK (p0:List de):Option PQ :=
 (Sz p0 (ae p0)).bind fun y1 =>
 some ((y1.1.1,()),())
def aaK:Su:=⟨[.io false [eH],.fn 138 []],[],true,.inl fun x=>OK x.1.1⟩
theorem Yj:ar Tryz.prog 137 aaK :=
 fl (ac XF an) [] [] [0] Tryz.f137 cN
def KF (p0:List gD):Option (Unit×((List gD)×Unit)×Unit):=cond (bT 32 ([]:List gD) p0) (some ((),((p0,()),()))) none
def HM:Su:=⟨[.c false [mE]],[(false,[mE])],true,.inl fun x=>KF x.1.1⟩
def SB:En:=yK 8 tt [] [] (fun _=>none) [] fun _=>none
def PS (x:PT HM.ps):St:=⟨[(2,.v .nil),(0,.v (.d mE x.1.1))],[]⟩
theorem t147 (x:PT HM.ps) (b:Bool):((cQ SB (.seq (dp (en (dp (ak Tryz.f147)))) (dp (dp (ak Tryz.f147)))) (((PS x).aE 3 (.v (.d mE x.1.1),none)).aE 4 (.v (.d .bool b),none))).bind (Cf SB Tryz.f147.results.toList HM.ps HM.rs HM.fresh)).run =
 cond b (some ((),(([],()),()))) (KF x.1.1):=by kernel_rfl
theorem UF:ar Tryz.prog 147 HM :=
 Es (E:=SB) (kM hT) (cR (l:=[]) trivial) eu (fn:=Tryz.f147) (c0:=en (ak Tryz.f147)) (cc:=dp (en (dp (ak Tryz.f147)))) (c3:=dp (dp (ak Tryz.f147))) (id:=Lb (en (en (dp (ak Tryz.f147)))))
  (o1:=gn (en (en (dp (ak Tryz.f147)))) 0) (o2:=gn (en (en (dp (ak Tryz.f147)))) 1) (by kernel_rfl) (by kernel_rfl) (by kernel_rfl) rfl
  (bG (fun _=>rfl) _ (by kernel_rfl)) (bG (fun _=>rfl) _ (by kernel_rfl)) (bG (fun _=>rfl) _ (by kernel_rfl)) (t0:=0) (t3:=3) (t4:=4) (ty:=53) (ty':=53) (e:=95) (e':=95) (by':=24) (fl:=[]) (ks:=CL) (by kernel_rfl) (by kernel_rfl) (by kernel_rfl) (by kernel_rfl) (by kernel_rfl) (by kernel_rfl) (by kernel_rfl) (by kernel_rfl) (by kernel_rfl)
  PS (fun x=>x.1.1) (fun x=>by kernel_rfl) (fun x=>by kernel_rfl) fun x y hy b hb=>by
   refine ⟨y.1,fun _=>rfl,?_⟩
   rw [t147]
   have hy:KF x.1.1=some y:=hy
   cases b with
   | false=>exact hy
   | true =>
     have he:x.1.1=([]:List gD):=hb rfl
     rw [he] at hy
     exact hy
def Ds (p0:List R3):Option (Unit×Y3×Unit):=cond (bT 8 ([]:List R3) p0) (some ((),((p0,()),()))) none
def GU:Su:=⟨[.c false [q3]],[(false,[q3])],true,.inl fun x=>Ds x.1.1⟩
def RF:En:=yK 8 tt [] [] (fun _=>none) [] fun _=>none
def Qq (x:PT GU.ps):St:=⟨[(2,.v .nil),(0,.v (.d q3 x.1.1))],[]⟩
theorem t157 (x:PT GU.ps) (b:Bool):((cQ RF (.seq (dp (en (dp (ak Tryz.f157)))) (dp (dp (ak Tryz.f157)))) (((Qq x).aE 3 (.v (.d q3 x.1.1),none)).aE 4 (.v (.d .bool b),none))).bind (Cf RF Tryz.f157.results.toList GU.ps GU.rs GU.fresh)).run =
 cond b (some ((),(([],()),()))) (Ds x.1.1):=by kernel_rfl
theorem Rc:ar Tryz.prog 157 GU :=
 Es (E:=RF) (kM hT) (cR (l:=[]) trivial) eu (fn:=Tryz.f157) (c0:=en (ak Tryz.f157)) (cc:=dp (en (dp (ak Tryz.f157)))) (c3:=dp (dp (ak Tryz.f157))) (id:=Lb (en (en (dp (ak Tryz.f157)))))
  (o1:=gn (en (en (dp (ak Tryz.f157)))) 0) (o2:=gn (en (en (dp (ak Tryz.f157)))) 1) (by kernel_rfl) (by kernel_rfl) (by kernel_rfl) rfl
  (bG (fun _=>rfl) _ (by kernel_rfl)) (bG (fun _=>rfl) _ (by kernel_rfl)) (bG (fun _=>rfl) _ (by kernel_rfl)) (t0:=0) (t3:=3) (t4:=4) (ty:=54) (ty':=54) (e:=3) (e':=3) (by':=24) (fl:=[]) (ks:=l0) (by kernel_rfl) (by kernel_rfl) (by kernel_rfl) (by kernel_rfl) (by kernel_rfl) (by kernel_rfl) (by kernel_rfl) (by kernel_rfl) (by kernel_rfl)
  Qq (fun x=>x.1.1) (fun x=>by kernel_rfl) (fun x=>by kernel_rfl) fun x y hy b hb=>by
   refine ⟨y.1,fun _=>rfl,?_⟩
   rw [t157]
   have hy:Ds x.1.1=some y:=hy
   cases b with
   | false=>exact hy
   | true =>
     have he:x.1.1=([]:List R3):=hb rfl
     rw [he] at hy
     exact hy
def KR (p0:Int×Int×(List R3)×(List R3)×Unit):Option Y51 :=
 (Ds p0.2.2.1).bind fun y1 =>
 (Ds p0.2.2.2.1).bind fun y2 =>
 some ((),((p0.1,p0.2.1,y1.2.1.1,y2.2.1.1,()),()))
def abF:Su:=⟨[.c true [ki,ki,q3,q3]],[(true,[ki,ki,q3,q3])],true,.inl fun x=>KR x.1⟩
theorem Vx:ar Tryz.prog 167 abF :=
 fq (ac Rc an) Tryz.f167
def P4 (p0:List R5):Option (Unit×((List R5)×Unit)×Unit):=cond (bT 1 ([]:List R5) p0) (some ((),((p0,()),()))) none
def Ue:Su:=⟨[.c false [q5]],[(false,[q5])],true,.inl fun x=>P4 x.1.1⟩
def E99:En:=yK 8 tt [] [] (fun _=>none) [] fun _=>none
def Yh (x:PT Ue.ps):St:=⟨[(2,.v .nil),(0,.v (.d q5 x.1.1))],[]⟩
theorem t99 (x:PT Ue.ps) (b:Bool):((cQ E99 (.seq (dp (en (dp (ak Tryz.f99)))) (dp (dp (ak Tryz.f99)))) (((Yh x).aE 3 (.v (.d q5 x.1.1),none)).aE 4 (.v (.d .bool b),none))).bind (Cf E99 Tryz.f99.results.toList Ue.ps Ue.rs Ue.fresh)).run =
 cond b (some ((),(([],()),()))) (P4 x.1.1):=by kernel_rfl
theorem VF:ar Tryz.prog 99 Ue :=
 Es (E:=E99) (kM hT) (cR (l:=[]) trivial) eu (fn:=Tryz.f99) (c0:=en (ak Tryz.f99)) (cc:=dp (en (dp (ak Tryz.f99)))) (c3:=dp (dp (ak Tryz.f99))) (id:=Lb (en (en (dp (ak Tryz.f99)))))
  (o1:=gn (en (en (dp (ak Tryz.f99)))) 0) (o2:=gn (en (en (dp (ak Tryz.f99)))) 1) (by kernel_rfl) (by kernel_rfl) (by kernel_rfl) rfl
  (bG (fun _=>rfl) _ (by kernel_rfl)) (bG (fun _=>rfl) _ (by kernel_rfl)) (bG (fun _=>rfl) _ (by kernel_rfl)) (t0:=0) (t3:=3) (t4:=4) (ty:=39) (ty':=39) (e:=5) (e':=5) (by':=24) (fl:=[]) (ks:=uM) (by kernel_rfl) (by kernel_rfl) (by kernel_rfl) (by kernel_rfl) (by kernel_rfl) (by kernel_rfl) (by kernel_rfl) (by kernel_rfl) (by kernel_rfl)
  Yh (fun x=>x.1.1) (fun x=>by kernel_rfl) (fun x=>by kernel_rfl) fun x y hy b hb=>by
   refine ⟨y.1,fun _=>rfl,?_⟩
   rw [t99]
   have hy:P4 x.1.1=some y:=hy
   cases b with
   | false=>exact hy
   | true =>
     have he:x.1.1=([]:List R5):=hb rfl
     rw [he] at hy
     exact hy
def qt (t3 t7:List cD) (t8 t9:Int):Rd Yy Unit :=
 cond (aw t9 t8) (
 cond (aR t9 t7) (
 let u1:=(gt d166 t7 t9)
 (P4 u1.2.2.1).bind fun y1 =>
 cond (bT 56 t3 [(u1.1,u1.2.1,y1.2.1.1,())]) (
 some (.inl ((jn t3 [(u1.1,u1.2.1,y1.2.1.1,())]),t7,t8,(aj .i64 t9 1),()))
 ) none
 ) none
 ) (
 some (.inr (.inl (t3,t7,t8,t9,())))
 )
def L6:=mm (ah (cV qt))
def MV (p0:List cD):Option Y34 :=
 (L6 [] p0 (ae p0) 0).bind (Sum.elim (fun y1 =>
 some ((),((y1.1,()),()))
 ) (fun _ =>
 none
 ))
def Z3:Su:=⟨[.c false [dX]],[(false,[dX])],true,.inl fun x=>MV x.1.1⟩
theorem VH:ar Tryz.prog 168 Z3 :=
 fl (ac VF an) [] [(0,⟨[.own 3 dX,.d 7 dX,.d 8 ki,.d 9 ki],ah (cV qt)⟩)] [] Tryz.f168 (lp [0] (sc cN sn))
def L5 (p0:(List UInt8)×Int×Int×Int×Int×(List gD)×Int×Int×(List R3)×(List R3)×(List cD)×Unit):Option Y73 :=
 (KF p0.2.2.2.2.2.1).bind fun y1 =>
 (KR (p0.2.2.2.2.2.2.1,p0.2.2.2.2.2.2.2.1,p0.2.2.2.2.2.2.2.2.1,p0.2.2.2.2.2.2.2.2.2.1,())).bind fun y2 =>
 (MV p0.2.2.2.2.2.2.2.2.2.2.1).bind fun y3 =>
 some ((),((p0.1,p0.2.1,p0.2.2.1,p0.2.2.2.1,p0.2.2.2.2.1,y1.2.1.1,y2.2.1.1,y2.2.1.2.1,y2.2.1.2.2.1,y2.2.1.2.2.2.1,y3.2.1.1,()),()))
def W8:Su:=⟨[.c true [.str,ki,ki,ki,ki,mE,ki,ki,q3,q3,dX]],[(true,[.str,ki,ki,ki,ki,mE,ki,ki,q3,q3,dX])],true,.inl fun x=>L5 x.1⟩
theorem Kw:ar Tryz.prog 108 W8 :=
 fq (ac UF (ac Vx (ac VH an))) Tryz.f108
def pk (_:Unit) (t10:List de) (t11 t12:Int) (b4 b5:(List de)×Unit):Rd (Unit×(List de)×Int×Int×Y5×Y5×Unit) Unit :=
 cond (aw t12 t11) (
 cond (aR t12 t10) (
 (L5 (gt d59 t10 t12)).bind fun y1 =>
 cond (bT 160 b5.1 [y1.2.1]) (
 some (.inl ((),t10,t11,(aj .i64 t12 1),b4,((jn b5.1 [y1.2.1]),()),()))
 ) none
 ) none
 ) (
 some (.inr (.inl ((),t10,t11,t12,b4,b5,())))
 )
def Ky:=X4 (ah (FO pk))
def SK (p0:(List de)×Unit):Option Th :=
 (Ky () p0.1 (ae p0.1) 0 ([],()) ([],())).bind (Sum.elim (fun y1 =>
 some ((),(y1.2.2.2.2.2.1,()))
 ) (fun _ =>
 none
 ))
def aas:Su:=⟨[.c true [eH],.fn 108 []],[(true,[eH])],true,.inl fun x=>SK x.1⟩
theorem VA:ar Tryz.prog 185 aas :=
 fl (ac Kw an) [] [(0,⟨[.fn 1 108 [],.d 10 eH,.d 11 ki,.d 12 ki,.box 4 [(true,eH)],.box 5 [(true,eH)]],ah (FO pk)⟩)] [] Tryz.f185 (lp [0] (sc cN sn))
def KH (p0:(List de)×Unit):Option Th :=
 (SK p0).bind fun y1 =>
 some ((),(y1.2.1,()))
def acu:Su:=⟨[.c true [eH]],[(true,[eH])],true,.inl fun x=>KH x.1⟩
theorem Rn:ar Tryz.prog 136 acu :=
 fq (ac VA an) Tryz.f136
def wD (t7:List dy) (t8 t9:Int) (b2 b3:(List de)×Unit):Rd ((List dy)×Int×Int×Y5×Y5×Unit) Unit :=
 cond (aw t9 t8) (
 cond (aR t9 t7) (
 (KH ((gt d89 t7 t9).2.1,())).bind fun y1 =>
 cond (bT 160 b3.1 y1.2.1.1) (
 some (.inl (t7,t8,(aj .i64 t9 1),b2,((jn b3.1 y1.2.1.1),()),()))
 ) none
 ) none
 ) (
 some (.inr (.inl (t7,t8,t9,b2,b3,())))
 )
def Qv:=tV (ah (dQ wD))
def Q1 (p0:List dy):Option Th :=
 (Qv p0 (ae p0) 0 ([],()) ([],())).bind (Sum.elim (fun y1 =>
 (OK y1.2.2.2.2.1.1).bind fun y2 =>
 some ((),(y2.1.1,()))
 ) (fun _ =>
 none
 ))
def s80:Su:=⟨[.c false [eJ]],[(true,[eH])],true,.inl fun x=>Q1 x.1.1⟩
theorem Ye:ar Tryz.prog 80 s80 :=
 fl (ac Yj (ac Rn an)) [] [(0,⟨[.d 7 eJ,.d 8 ki,.d 9 ki,.box 2 [(true,eH)],.box 3 [(true,eH)]],ah (dQ wD)⟩)] [] Tryz.f80 (lp [0] (sc cN sn))
def oZ (t0:List UInt8) (t5 t6:Int):Rd Uc Y2 :=
 cond (aw t6 t5) (
 cond (aR t6 t0) (
 let u1:=(dE t0 t6)
 cond (aw u1 48) (
 some (.inr (.inr (false,())))
 ) (
 cond (aR t6 t0) (
 cond (aw 57 u1) (
 some (.inr (.inr (false,())))
 ) (
 some (.inl (t0,t5,(aj .i64 t6 1),()))
 )
 ) none
 )
 ) none
 ) (
 some (.inr (.inl (t0,t5,t6,())))
 )
def Kb:=kz (ah (dq oZ))
def uL (p0:List UInt8):Option dY :=
 (Kb p0 (ae p0) 0).bind (Sum.elim (fun y1 =>
 some ((),(((!(cC y1.1 [])),()),()))
 ) (fun y1 =>
 some ((),(y1,()))
 ))
def aae:Su:=⟨[.c false [.str]],[(false,[.bool])],true,.inl fun x=>uL x.1.1⟩
theorem zz:ar Tryz.prog 240 aae :=
 fl an [.d 2 .bool] [(0,⟨[.d 0 .str,.d 5 ki,.d 6 ki],ah (dq oZ)⟩)] [] Tryz.f240 (lp [0] (sc cN sn))
def tk (t0:List UInt8) (t3:Int) (t4:Bool) (t5:Int):Rd ((List UInt8)×Int×Bool×Int×Unit) Unit :=
 cond (bL 0 t5) (
 cond (aR t5 t0) (
 cond t4 (
 let u1:=(bI .i64 (aO .u8 (dE t0 t5) 48))
 let u2:=(kl .i64 u1 2)
 cond (aw 9 u2) (
 let u3:=(aO .i64 t5 1)
 some (.inl (t0,(aj .i64 t3 (aO .i64 u2 9)),(!t4),u3,()))
 ) (
 let u3:=(aO .i64 t5 1)
 some (.inl (t0,(aj .i64 t3 u2),(!t4),u3,()))
 )
 ) (
 let u1:=(bI .i64 (aO .u8 (dE t0 t5) 48))
 let u2:=(aO .i64 t5 1)
 some (.inl (t0,(aj .i64 t3 u1),(!t4),u2,()))
 )
 ) none
 ) (
 some (.inr (.inl (t0,t3,t4,t5,())))
 )
def IL:=mm (ah (cV tk))
def NQ (p0:List UInt8):Option im :=
 (uL p0).bind fun y1 =>
 cond (!y1.2.1.1) (
 c3
 ) (
 (IL p0 0 true (aO .i64 (ae p0) 1)).bind (Sum.elim (fun y2 =>
 some ((),(((fX (aO .i64 10 (fX y2.2.1 10)) 10),()),()))
 ) (fun _ =>
 none
 ))
 )
def aaZ:Su:=⟨[.c false [.str]],[(false,[ki])],true,.inl fun x=>NQ x.1.1⟩
theorem Xp:ar Tryz.prog 241 aaZ :=
 fl (ac zz an) [] [(0,⟨[.d 0 .str,.d 3 ki,.d 4 .bool,.d 5 ki],ah (cV tk)⟩)] [] Tryz.f241 (lp [0] (sc cN sn))
def Nl (p0:List UInt8):Option dY :=
 let u1:=(aO .i64 (ae p0) 1)
 cond (bL 1 u1) (
 (uL p0).bind fun y1 =>
 cond y1.2.1.1 (
 cond (dW 0 u1 p0) (
 (NQ (sub p0 0 u1)).bind fun y2 =>
 cond (aR u1 p0) (
 some ((),(((aq y2.2.1.1 (bI .i64 (aO .u8 (dE p0 u1) 48))),()),()))
 ) none
 ) none
 ) (
 c0
 )
 ) (
 c0
 )
def acm:Su:=⟨[.c false [.str]],[(false,[.bool])],true,.inl fun x=>Nl x.1.1⟩
theorem Xk:ar Tryz.prog 187 acm :=
 fq (ac zz (ac Xp an)) Tryz.f187
def sD (p0:List UInt8):Option dY :=
 cond (bL (ae p0) 19) (
 (Nl p0).bind fun y1 =>
 some ((),(y1.2.1,()))
 ) (
 c0
 )
def ZE:Su:=⟨[.c false [.str]],[(false,[.bool])],true,.inl fun x=>sD x.1.1⟩
theorem QV:ar Tryz.prog 139 ZE :=
 fq (ac Xk an) Tryz.f139
def YI (p0:Int):Option dY :=
 (mS p0 0 4611686018427387904).bind fun y1 =>
 some ((),(y1.2.1,()))
def s78:Su:=⟨[.c false [ki]],[(false,[.bool])],true,.inl fun x=>YI x.1.1⟩
theorem Vo:ar Tryz.prog 78 s78 :=
 fq (ac lR an) Tryz.f78
def pD (t0:List UInt8) (t5 t6:Int):Rd Uc Y2 :=
 cond (aw t6 t5) (
 cond (aR t6 t0) (
 let u1:=(dE t0 t6)
 cond (aw u1 48) (
 cond (aR t6 t0) (
 cond (aw u1 97) (
 some (.inr (.inr (false,())))
 ) (
 cond (aR t6 t0) (
 cond (aw 122 u1) (
 some (.inr (.inr (false,())))
 ) (
 some (.inl (t0,t5,(aj .i64 t6 1),()))
 )
 ) none
 )
 ) none
 ) (
 cond (aR t6 t0) (
 cond (aw 57 u1) (
 cond (aR t6 t0) (
 cond (aw u1 97) (
 some (.inr (.inr (false,())))
 ) (
 cond (aR t6 t0) (
 cond (aw 122 u1) (
 some (.inr (.inr (false,())))
 ) (
 some (.inl (t0,t5,(aj .i64 t6 1),()))
 )
 ) none
 )
 ) none
 ) (
 some (.inl (t0,t5,(aj .i64 t6 1),()))
 )
 ) none
 )
 ) none
 ) (
 some (.inr (.inl (t0,t5,t6,())))
 )
def IX:=kz (ah (dq pD))
def Jp (p0:List UInt8):Option dY :=
 (IX p0 (ae p0) 0).bind (Sum.elim (fun y1 =>
 (mS (ae y1.1) 1 6).bind fun y2 =>
 some ((),(y2.2.1,()))
 ) (fun y1 =>
 some ((),(y1,()))
 ))
def ZP:Su:=⟨[.c false [.str]],[(false,[.bool])],true,.inl fun x=>Jp x.1.1⟩
theorem QU:ar Tryz.prog 242 ZP :=
 fl (ac lR an) [.d 2 .bool] [(0,⟨[.d 0 .str,.d 5 ki,.d 6 ki],ah (dq pD)⟩)] [] Tryz.f242 (lp [0] (sc cN sn))
def vi (p0:Int):Option dY :=
 (mS p0 0 1000000000).bind fun y1 =>
 some ((),(y1.2.1,()))
def s74:Su:=⟨[.c false [ki]],[(false,[.bool])],true,.inl fun x=>vi x.1.1⟩
theorem O0:ar Tryz.prog 74 s74 :=
 fq (ac lR an) Tryz.f74
def Pl (p0:(List UInt8)×Int×Int×Unit):Option dY :=
 (Jp p0.1).bind fun y1 =>
 cond y1.2.1.1 (
 (mS p0.2.1 1 9007199254740992).bind fun y2 =>
 cond y2.2.1.1 (
 (vi p0.2.2.1).bind fun y3 =>
 some ((),(y3.2.1,()))
 ) (
 c0
 )
 ) (
 c0
 )
def Zu:Su:=⟨[.c true [.str,ki,ki]],[(false,[.bool])],true,.inl fun x=>Pl x.1⟩
theorem Yf:ar Tryz.prog 188 Zu :=
 fq (ac lR (ac QU (ac O0 an))) Tryz.f188
def oQ (t0 t5:List gD) (t6 t7:Int):Rd ((List gD)×(List gD)×Int×Int×Unit) Y2 :=
 cond (aw t7 t6) (
 cond (aR t7 t5) (
 let u1:=(gt d95 t5 t7)
 (Pl u1).bind fun y1 =>
 cond (!y1.2.1.1) (
 some (.inr (.inr (false,())))
 ) (
 cond (aw 0 t7) (
 let u2:=(aO .i64 t7 1)
 cond (aR u2 t0) (
 cond (Tp u1.1 (gt d95 t0 u2).1) (
 some (.inr (.inr (false,())))
 ) (
 some (.inl (t0,t5,t6,(aj .i64 t7 1),()))
 )
 ) none
 ) (
 some (.inl (t0,t5,t6,(aj .i64 t7 1),()))
 )
 )
 ) none
 ) (
 some (.inr (.inl (t0,t5,t6,t7,())))
 )
def Lj:=mm (ah (cV oQ))
def Pt (p0:List gD):Option dY :=
 (Lj p0 p0 (ae p0) 0).bind (Sum.elim (fun y1 =>
 some ((),(((bL (ae y1.1) 4),()),()))
 ) (fun y1 =>
 some ((),(y1,()))
 ))
def acg:Su:=⟨[.c false [mE]],[(false,[.bool])],true,.inl fun x=>Pt x.1.1⟩
theorem UE:ar Tryz.prog 140 acg :=
 fl (ac Yf an) [.d 2 .bool] [(0,⟨[.d 0 mE,.d 5 mE,.d 6 ki,.d 7 ki],ah (cV oQ)⟩)] [] Tryz.f140 (lp [0] (sc cN sn))
def Ns (p1:Int):Option PN :=
 cond (aw p1 0) (
 none
 ) (
 let u1:=(aO .i64 p1 (aO .i64 0 0))
 cond (aw 0 u1) (
 cond (UO 0 0) (
 cond (mzB 8 u1) (
 let u2:=(xa d3 u1)
 cond (dW 0 0 u2) (
 some ((),(((P2 u2 0),()),()))
 ) none
 ) none
 ) none
 ) (
 some ((),(([],()),()))
 )
 )
def aai:Su:=⟨[.nil,.c false [ki]],[(false,[q3])],true,.inl fun x=>Ns x.1.1⟩
theorem Vw:ar Tryz.prog 243 aai :=
 fq an Tryz.f243
def th (t0:List Qy) (t3:Int) (t9:List Qy) (t10 t11:Int):Rd ((List Qy)×Int×(List Qy)×Int×Int×Unit) Unit :=
 cond (aw t11 t10) (
 cond (aR t11 t9) (
 let u1:=(aj .i64 t3 (ae (gt d54 t9 t11).1))
 cond (aw u1 0) (
 none
 ) (
 some (.inl (t0,u1,t9,t10,(aj .i64 t11 1),()))
 )
 ) none
 ) (
 some (.inr (.inl (t0,t3,t9,t10,t11,())))
 )
def DU:=tV (ah (dQ th))
def sN (t6:List R3) (t25:List Qy) (t26 t27:Int):Rd ((List R3)×(List Qy)×Int×Int×Unit) Unit :=
 cond (aw t27 t26) (
 cond (aR t27 t25) (
 cond (bT 8 t6 (gt d54 t25 t27).1) (
 some (.inl ((jn t6 (gt d54 t25 t27).1),t25,t26,(aj .i64 t27 1),()))
 ) none
 ) none
 ) (
 some (.inr (.inl (t6,t25,t26,t27,())))
 )
def EV:=mm (ah (cV sN))
def Nu (p0:List Qy):Option PN :=
 (DU p0 0 p0 (ae p0) 0).bind (Sum.elim (fun y1 =>
 (Ns y1.2.1).bind fun y2 =>
 (EV y2.2.1.1 y1.1 (ae y1.1) 0).bind (Sum.elim (fun y3 =>
 some ((),((y3.1,()),()))
 ) (fun _ =>
 none
 ))
 ) (fun _ =>
 none
 ))
def abb:Su:=⟨[.c false [.sl 54 I5]],[(false,[q3])],true,.inl fun x=>Nu x.1.1⟩
theorem WI:ar Tryz.prog 189 abb :=
 fl (ac Vw an) [] [(0,⟨[.d 0 (.sl 54 I5),.d 3 ki,.d 9 (.sl 54 I5),.d 10 ki,.d 11 ki],ah (dQ th)⟩),(2,⟨[.own 6 q3,.d 25 (.sl 54 I5),.d 26 ki,.d 27 ki],ah (cV sN)⟩)] [] Tryz.f189 (lp [0,2] (sc cN (sc cN sn)))
def oP (t3:Int) (t14:List R3) (t15 t16:Int) (b1:Int×Int×(List R3)×(List R3)×Unit):Rd (Int×(List R3)×Int×Int×(Int×Int×(List R3)×(List R3)×Unit)×Unit) Y2 :=
 cond (aw t16 t15) (
 cond (aR t16 t14) (
 (YI (gt d3 t14 t16).1).bind fun y1 =>
 cond (!y1.2.1.1) (
 some (.inr (.inr (false,())))
 ) (
 some (.inl (t3,t14,t15,(aj .i64 t16 1),b1,()))
 )
 ) none
 ) (
 some (.inr (.inl (t3,t14,t15,t16,b1,())))
 )
def Me:=tV (ah (dQ oP))
def KI (p0:Int×Int×(List R3)×(List R3)×Unit):Option dY :=
 (Nu [(p0.2.2.1,()),(p0.2.2.2.1,())]).bind fun y1 =>
 (Me (ae p0.2.2.1) y1.2.1.1 (ae y1.2.1.1) 0 p0).bind (Sum.elim (fun y2 =>
 (mS y2.2.2.2.2.1.1 1 1000).bind fun y3 =>
 cond y3.2.1.1 (
 (mS y2.1 1 8).bind fun y4 =>
 cond (cond y4.2.1.1 (aq (ae y2.2.2.2.2.1.2.2.2.1) y2.1) false) (
 (vi y2.2.2.2.2.1.2.1).bind fun y5 =>
 some ((),(y5.2.1,()))
 ) (
 c0
 )
 ) (
 c0
 )
 ) (fun y2 =>
 some ((),(y2,()))
 ))
def aca:Su:=⟨[.c true [ki,ki,q3,q3]],[(false,[.bool])],true,.inl fun x=>KI x.1⟩
theorem UJ:ar Tryz.prog 141 aca :=
 fl (ac lR (ac Vo (ac O0 (ac WI an)))) [.d 2 .bool] [(0,⟨[.d 3 ki,.own 14 q3,.d 15 ki,.d 16 ki,.box 1 [(false,ki),(false,ki),(false,q3),(false,q3)]],ah (dQ oP)⟩)] [] Tryz.f141 (lp [0] (sc cN sn))
def xy (p0:List UInt8) (p1:Int):Option dY :=
 (uL p0).bind fun y1 =>
 some ((),(((cond y1.2.1.1 (aq (ae p0) p1) false),()),()))
def aac:Su:=⟨[.c false [.str],.c false [ki]],[(false,[.bool])],true,.inl fun x=>xy x.1.1 x.2.1.1⟩
theorem Ka:ar Tryz.prog 244 aac :=
 fq (ac zz an) Tryz.f244
def NW (p0:(List UInt8)×(List UInt8)×(List R5)×Unit):Option dY :=
 (xy p0.1 6).bind fun y1 =>
 cond y1.2.1.1 (
 (xy p0.2.1 4).bind fun y2 =>
 cond y2.2.1.1 (
 (mS (ae p0.2.2.1) 1 200).bind fun y3 =>
 some ((),(y3.2.1,()))
 ) (
 c0
 )
 ) (
 c0
 )
def aax:Su:=⟨[.c true [.str,.str,q5]],[(false,[.bool])],true,.inl fun x=>NW x.1⟩
theorem XE:ar Tryz.prog 190 aax :=
 fq (ac lR (ac Ka an)) Tryz.f190
def TS (p0:(List UInt8)×(List UInt8)×(List R5)×Unit) (p1 p2:(List UInt8)×Unit):Option dY :=
 some ((),(((cond (cC p0.1 p1.1) (cC p0.2.1 p2.1) false),()),()))
def aa4:Su:=⟨[.c true [.str,.str,q5],.pt [.str],.pt [.str]],[(false,[.bool])],true,.inl fun x=>TS x.1 x.2.1 x.2.2.1⟩
theorem WB:ar Tryz.prog 246 aa4 :=
 fq an Tryz.f246
def pS (t0:List cD) (f1:Y9×Y9×Unit) (t7 t8:Int):Rd ((List cD)×(Y9×Y9×Unit)×Int×Int×Unit) Y1 :=
 cond (aw t8 t7) (
 cond (aR t8 t0) (
 (TS (gt d166 t0 t8) f1.1 f1.2.1).bind fun y1 =>
 cond y1.2.1.1 (
 some (.inr (.inr (t8,())))
 ) (
 some (.inl (t0,f1,t7,(aj .i64 t8 1),()))
 )
 ) none
 ) (
 some (.inr (.inl (t0,f1,t7,t8,())))
 )
def J1:=mm (ah (cV pS))
def TH (p0:List cD) (c1_0 c1_1:(List UInt8)×Unit):Option im :=
 (J1 p0 (c1_0,c1_1,()) (ae p0) 0).bind (Sum.elim (fun _ =>
 c3
 ) (fun y1 =>
 some ((),(y1,()))
 ))
def acf:Su:=⟨[.c false [dX],.fn 246 [.p [.str],.p [.str]]],[(false,[ki])],true,.inl fun x=>TH x.1.1 x.2.1.1 x.2.1.2.1⟩
theorem Uu:ar Tryz.prog 245 acf :=
 fl (ac WB an) [.d 4 ki] [(0,⟨[.d 0 dX,.fn 1 246 [.p [.str],.p [.str]],.d 7 ki,.d 8 ki],ah (cV pS)⟩)] [] Tryz.f245 (lp [0] (sc cN sn))
def OX (p0:List cD) (p1 p2:List UInt8):Option im :=
 (TH p0 (p1,()) (p2,())).bind fun y1 =>
 some ((),(y1.2.1,()))
def abr:Su:=⟨[.c false [dX],.c false [.str],.c false [.str]],[(false,[ki])],true,.inl fun x=>OX x.1.1 x.2.1.1 x.2.2.1.1⟩
theorem WC:ar Tryz.prog 191 abr :=
 fq (ac Uu an) Tryz.f191
def oO (t0 t5:List cD) (t6 t7:Int):Rd Yy Y2 :=
 cond (aw t7 t6) (
 cond (aR t7 t5) (
 let u1:=(gt d166 t5 t7)
 (NW u1).bind fun y1 =>
 cond (!y1.2.1.1) (
 some (.inr (.inr (false,())))
 ) (
 (OX t0 u1.1 u1.2.1).bind fun y2 =>
 cond (!(aq y2.2.1.1 t7)) (
 some (.inr (.inr (false,())))
 ) (
 some (.inl (t0,t5,t6,(aj .i64 t7 1),()))
 )
 )
 ) none
 ) (
 some (.inr (.inl (t0,t5,t6,t7,())))
 )
def Ki:=mm (ah (cV oO))
def Ng (p0:List cD):Option dY :=
 (Ki p0 p0 (ae p0) 0).bind (Sum.elim (fun y1 =>
 some ((),(((bL (ae y1.1) 6),()),()))
 ) (fun y1 =>
 some ((),(y1,()))
 ))
def abk:Su:=⟨[.c false [dX]],[(false,[.bool])],true,.inl fun x=>Ng x.1.1⟩
theorem W6:ar Tryz.prog 142 abk :=
 fl (ac XE (ac WC an)) [.d 2 .bool] [(0,⟨[.d 0 dX,.d 5 dX,.d 6 ki,.d 7 ki],ah (cV oO)⟩)] [] Tryz.f142 (lp [0] (sc cN sn))
def Jb (p0 p1:Int):Option im :=
 let u1:=(Ik 0 (Iu p1 4611686018427387904))
 let u2:=(Ik 0 (Iu p0 4611686018427387904))
 cond (aw (aO .i64 4611686018427387904 u1) u2) (
 c21
 ) (
 some ((),(((aj .i64 u2 u1),()),()))
 )
def abP:Su:=⟨[.c false [ki],.c false [ki]],[(false,[ki])],true,.inl fun x=>Jb x.1.1 x.2.1.1⟩
theorem Qd:ar Tryz.prog 143 abP :=
 fq an Tryz.f143
def qg (t3:Int) (t6:List gD) (t7 t8:Int):Rd (Int×(List gD)×Int×Int×Unit) Unit :=
 cond (aw t8 t7) (
 cond (aR t8 t6) (
 (Jb t3 (gt d95 t6 t8).2.1).bind fun y1 =>
 some (.inl (y1.2.1.1,t6,t7,(aj .i64 t8 1),()))
 ) none
 ) (
 some (.inr (.inl (t3,t6,t7,t8,())))
 )
def JU:=mm (ah (cV qg))
def MK (p0:List gD):Option im :=
 (JU 0 p0 (ae p0) 0).bind (Sum.elim (fun y1 =>
 some ((),((y1.1,()),()))
 ) (fun _ =>
 none
 ))
def abx:Su:=⟨[.c false [mE]],[(false,[ki])],true,.inl fun x=>MK x.1.1⟩
theorem XS:ar Tryz.prog 144 abx :=
 fl (ac Qd an) [] [(0,⟨[.d 3 ki,.d 6 mE,.d 7 ki,.d 8 ki],ah (cV qg)⟩)] [] Tryz.f144 (lp [0] (sc cN sn))
def YC (p0:(List UInt8)×Int×Int×Int×Int×(List gD)×Int×Int×(List R3)×(List R3)×(List cD)×Unit):Option dY :=
 (sD p0.1).bind fun y1 =>
 cond y1.2.1.1 (
 (mS p0.2.1 0 9007199254740992).bind fun y2 =>
 cond y2.2.1.1 (
 (mS p0.2.2.2.1 0 1000).bind fun y3 =>
 cond y3.2.1.1 (
 (mS p0.2.2.2.2.1 0 9007199254740992).bind fun y4 =>
 cond y4.2.1.1 (
 (YI p0.2.2.1).bind fun y5 =>
 cond y5.2.1.1 (
 (Pt p0.2.2.2.2.2.1).bind fun y6 =>
 cond y6.2.1.1 (
 (KI (p0.2.2.2.2.2.2.1,p0.2.2.2.2.2.2.2.1,p0.2.2.2.2.2.2.2.2.1,p0.2.2.2.2.2.2.2.2.2.1,())).bind fun y7 =>
 cond y7.2.1.1 (
 (Ng p0.2.2.2.2.2.2.2.2.2.2.1).bind fun y8 =>
 cond y8.2.1.1 (
 (MK p0.2.2.2.2.2.1).bind fun y9 =>
 (Jb p0.2.2.1 y9.2.1.1).bind fun y10 =>
 some ((),(((bL y10.2.1.1 p0.2.1),()),()))
 ) (
 c0
 )
 ) (
 c0
 )
 ) (
 c0
 )
 ) (
 c0
 )
 ) (
 c0
 )
 ) (
 c0
 )
 ) (
 c0
 )
 ) (
 c0
 )
def s81:Su:=⟨[.c true [.str,ki,ki,ki,ki,mE,ki,ki,q3,q3,dX]],[(false,[.bool])],true,.inl fun x=>YC x.1⟩
theorem abZ:ar Tryz.prog 81 s81 :=
 fq (ac lR (ac QV (ac Vo (ac UE (ac UJ (ac W6 (ac Qd (ac XS an)))))))) Tryz.f81
def pG (t6:List de) (t7 t8:Int) (b1:(List de)×Unit):Rd ((List de)×Int×Int×Y5×Unit) Y2 :=
 cond (aw t8 t7) (
 cond (aR t8 t6) (
 let u1:=(gt d59 t6 t8)
 (YC u1).bind fun y1 =>
 cond (!y1.2.1.1) (
 some (.inr (.inr (false,())))
 ) (
 cond (aw 0 t8) (
 let u2:=(aO .i64 t8 1)
 cond (aR u2 b1.1) (
 cond (Tp u1.1 (gt d59 b1.1 u2).1) (
 some (.inr (.inr (false,())))
 ) (
 some (.inl (t6,t7,(aj .i64 t8 1),b1,()))
 )
 ) none
 ) (
 some (.inl (t6,t7,(aj .i64 t8 1),b1,()))
 )
 )
 ) none
 ) (
 some (.inr (.inl (t6,t7,t8,b1,())))
 )
def I8:=mm (ah (cV pG))
def GF (p0:(List de)×Unit):Option dY :=
 (I8 p0.1 (ae p0.1) 0 p0).bind (Sum.elim (fun y1 =>
 some ((),(((bL (ae y1.2.2.2.1.1) 6),()),()))
 ) (fun y1 =>
 some ((),(y1,()))
 ))
def X3:Su:=⟨[.c true [eH]],[(false,[.bool])],true,.inl fun x=>GF x.1⟩
theorem JC:ar Tryz.prog 106 X3 :=
 fl (ac abZ an) [.d 2 .bool] [(0,⟨[.d 6 eH,.d 7 ki,.d 8 ki,.box 1 [(false,eH)]],ah (cV pG)⟩)] [] Tryz.f106 (lp [0] (sc cN sn))
def pv (t0:List UInt8) (t3 t6 t7:Int):Rd ((List UInt8)×Int×Int×Int×Unit) Unit :=
 cond (aw t7 t6) (
 cond (aR t7 t0) (
 some (.inl (t0,(kl .u32 (CQ .u32 t3 (bI .u32 (dE t0 t7))) 16777619),t6,(aj .i64 t7 1),()))
 ) none
 ) (
 some (.inr (.inl (t0,t3,t6,t7,())))
 )
def JN:=mm (ah (cV pv))
def OD (p0:List UInt8):Option im :=
 (JN p0 2166136261 (ae p0) 0).bind (Sum.elim (fun y1 =>
 some ((),(((bI .i64 y1.2.1),()),()))
 ) (fun _ =>
 none
 ))
def aaP:Su:=⟨[.c false [.str]],[(false,[ki])],true,.inl fun x=>OD x.1.1⟩
theorem Wd:ar Tryz.prog 166 aaP :=
 fl an [] [(0,⟨[.d 0 .str,.d 3 (.int .u32),.d 6 ki,.d 7 ki],ah (cV pv)⟩)] [] Tryz.f166 (lp [0] (sc cN sn))
def H3 (p0:List UInt8) (p1:Int):Option im :=
 cond (aw p1 1) (
 c6
 ) (
 (OD p0).bind fun y1 =>
 cond (!(aq p1 0)) (
 some ((),(((fX y1.2.1.1 p1),()),()))
 ) none
 )
def WJ:Su:=⟨[.c false [.str],.c false [ki]],[(false,[ki])],true,.inl fun x=>H3 x.1.1 x.2.1.1⟩
theorem E4:ar Tryz.prog 107 WJ :=
 fq (ac Wd an) Tryz.f107
def wq (t0:List dy) (t3:Int) (t7:List dy) (t8 t9:Int) (t19:List de) (t20 t21:Int) (b4:Int×(List de)×Unit):Rd ((List dy)×Int×(List dy)×Int×Int×(List de)×Int×Int×Uh×Unit) Y2 :=
 cond (aw t21 t20) (
 cond (aR t21 t19) (
 (H3 (gt d59 t19 t21).1 (ae t0)).bind fun y1 =>
 cond (!(aq y1.2.1.1 t3)) (
 some (.inr (.inr (false,())))
 ) (
 cond (aw 0 t21) (
 let u1:=(aO .i64 t21 1)
 cond (aR u1 b4.2.1) (
 cond (Tp (gt d59 t19 t21).1 (gt d59 b4.2.1 u1).1) (
 some (.inr (.inr (false,())))
 ) (
 some (.inl (t0,t3,t7,t8,t9,t19,t20,(aj .i64 t21 1),b4,()))
 )
 ) none
 ) (
 some (.inl (t0,t3,t7,t8,t9,t19,t20,(aj .i64 t21 1),b4,()))
 )
 )
 ) none
 ) (
 some (.inr (.inl (t0,t3,t7,t8,t9,t19,t20,t21,b4,())))
 )
def PW:=UK (ah (DD wq))
def vR (t0 t7:List dy) (t8 t9:Int):Rd Zo Y2 :=
 cond (aw t9 t8) (
 cond (aR t9 t7) (
 let u1:=(gt d89 t7 t9)
 (mS u1.1 (-1) 11).bind fun y1 =>
 cond (!y1.2.1.1) (
 some (.inr (.inr (false,())))
 ) (
 (PW t0 t9 t7 t8 t9 u1.2.1 (ae u1.2.1) 0 u1).bind (Sum.elim (fun y2 =>
 some (.inl (y2.1,y2.2.2.1,y2.2.2.2.1,(aj .i64 y2.2.2.2.2.1 1),()))
 ) (fun y2 =>
 some (.inr (.inr (y2.1,())))
 ))
 )
 ) none
 ) (
 some (.inr (.inl (t0,t7,t8,t9,())))
 )
def WV:=mm (ah (cV vR))
def YQ (p0:List dy):Option dY :=
 (WV p0 p0 (ae p0) 0).bind (Sum.elim (fun y1 =>
 (mS (ae y1.1) 1 5).bind fun y2 =>
 cond y2.2.1.1 (
 (Q1 y1.1).bind fun y3 =>
 (GF y3.2.1).bind fun y4 =>
 some ((),(y4.2.1,()))
 ) (
 c0
 )
 ) (fun y1 =>
 some ((),(y1,()))
 ))
def s73:Su:=⟨[.c false [eJ]],[(false,[.bool])],true,.inl fun x=>YQ x.1.1⟩
theorem Zt:ar Tryz.prog 73 s73 :=
 fl (ac lR (ac Ye (ac JC (ac E4 an)))) [.d 2 .bool] [(2,⟨[.d 0 eJ,.d 3 ki,.d 7 eJ,.d 8 ki,.d 9 ki,.d 19 eH,.d 20 ki,.d 21 ki,.box 4 [(false,ki),(false,eH)]],ah (DD wq)⟩),(0,⟨[.d 0 eJ,.d 7 eJ,.d 8 ki,.d 9 ki],ah (cV vR)⟩)] [] Tryz.f73 (lp [0] (sc (lp [2] (sc cN sn)) sn))
def WN (p0:Int):Option Nt :=
 (mS p0 0 5).bind fun y1 =>
 cond (!y1.2.1.1) (
 c19
 ) (
 cond (aR p0 [([114,101,97,100],()),([108,111,99,107],()),([119,111,114,107],()),([102,114,101,101],()),([115,101,110,100],()),([100,111,110,101],())]) (
 some ((),((gt d9 [([114,101,97,100],()),([108,111,99,107],()),([119,111,114,107],()),([102,114,101,101],()),([115,101,110,100],()),([100,111,110,101],())] p0),()))
 ) none
 )
def s85:Su:=⟨[.c false [ki]],[(false,[.str])],true,.inl fun x=>WN x.1.1⟩
theorem aaN:ar Tryz.prog 85 s85 :=
 fq (ac lR an) Tryz.f85
def Ar (p0:List R5) (p1 p2:Int):Option (Unit×(((List R5)×Unit)×Y2×Unit)) :=
 let u1:=(ae p0)
 (mS p1 0 u1).bind fun y1 =>
 cond (cond (cond (!y1.2.1.1) true (aw p2 0)) true (aw (aO .i64 u1 p1) p2)) (
 some ((),(([],()),(false,()),()))
 ) (
 let u2:=(aj .i64 p1 p2)
 cond (dW p1 u2 p0) (
 some ((),(((sub p0 p1 u2),()),(true,()),()))
 ) none
 )
def abB:Su:=⟨[.c false [q5],.c false [ki],.c false [ki]],[(false,[q5]),(false,[.bool])],false,.inl fun x=>Ar x.1.1 x.2.1.1 x.2.2.1.1⟩
theorem MC:ar Tryz.prog 247 abB :=
 fq (ac lR an) Tryz.f247
def qh (t1 t2:Int) (t9:List R5) (t10:Bool) (t11 t27:List R5) (t28 t29:Int):Rd (Int×Int×(List R5)×Bool×(List R5)×(List R5)×Int×Int×Unit) Unit :=
 cond (aw t29 t28) (
 cond (aR t29 t27) (
 cond (bT 1 t11 [((aj .u8 48 (iT .u8 (gt d5 t27 t29).1 4)),()),((aj .u8 48 (Bu .u8 (gt d5 t27 t29).1 15)),())]) (
 some (.inl (t1,t2,t9,t10,(jn t11 [((aj .u8 48 (iT .u8 (gt d5 t27 t29).1 4)),()),((aj .u8 48 (Bu .u8 (gt d5 t27 t29).1 15)),())]),t27,t28,(aj .i64 t29 1),()))
 ) none
 ) none
 ) (
 some (.inr (.inl (t1,t2,t9,t10,t11,t27,t28,t29,())))
 )
def LQ:=Tj (ah (xx qh))
def Bj (p0:List R5) (p1 p2:Int):Option Xm :=
 (mS p2 1 38).bind fun y1 =>
 cond (!y1.2.1.1) (
 c4
 ) (
 (Ar p0 p1 (mA .i64 (aj .i64 p2 1) 2)).bind fun y2 =>
 (LQ p1 p2 y2.2.1.1 y2.2.2.1.1 [] y2.2.1.1 (ae y2.2.1.1) 0).bind (Sum.elim (fun y3 =>
 cond (!y3.2.2.2.1) (
 c4
 ) (
 (uL (strOf y3.2.2.2.2.1)).bind fun y4 =>
 cond (!y4.2.1.1) (
 c4
 ) (
 cond (aq (fX y3.2.1 2) 1) (
 cond (aR 0 y3.2.2.2.2.1) (
 cond (!(aq (gt d5 y3.2.2.2.2.1 0).1 48)) (
 c4
 ) (
 let u1:=(ae y3.2.2.2.2.1)
 let u2:=(aO .i64 u1 y3.2.1)
 let u3:=(dW u2 u1 y3.2.2.2.2.1)
 cond u3 (
 some ((),(((strOf (sub y3.2.2.2.2.1 u2 u1)),()),((aj .i64 y3.1 (ae y3.2.2.1)),()),(true,()),()))
 ) none
 )
 ) none
 ) (
 let u1:=(ae y3.2.2.2.2.1)
 let u2:=(aO .i64 u1 y3.2.1)
 let u3:=(dW u2 u1 y3.2.2.2.2.1)
 cond u3 (
 some ((),(((strOf (sub y3.2.2.2.2.1 u2 u1)),()),((aj .i64 y3.1 (ae y3.2.2.1)),()),(true,()),()))
 ) none
 )
 )
 )
 ) (fun _ =>
 none
 ))
 )
def aav:Su:=⟨[.c false [q5],.c false [ki],.c false [ki]],[(false,[.str]),(false,[ki]),(false,[.bool])],true,.inl fun x=>Bj x.1.1 x.2.1.1 x.2.2.1.1⟩
theorem JJ:ar Tryz.prog 193 aav :=
 fl (ac lR (ac zz (ac MC an))) [] [(0,⟨[.d 1 ki,.d 2 ki,.d 9 q5,.d 10 .bool,.own 11 q5,.d 27 q5,.d 28 ki,.d 29 ki],ah (xx qh)⟩)] [] Tryz.f193 (lp [0] (sc cN sn))
def sv (t1:Int) (t7:List R5) (t9:List R3) (t10:Int):Rd (Int×(List R5)×(List R3)×Int×Unit) Unit :=
 cond (bL t10 64) (
 let u1:=(aO .i64 t10 1)
 let u2:=(mA .i64 u1 8)
 cond (aR u2 t7) (
 let u3:=(fX u1 8)
 cond (bL 0 u3) (
 cond (!(aq (Bu .u8 (gt d5 t7 u2).1 (iT .u8 128 u3)) 0)) (
 cond (bT 8 t9 [(t10,())]) (
 let u4:=(aj .i64 t10 1)
 some (.inl (t1,t7,(jn t9 [(t10,())]),u4,()))
 ) none
 ) (
 let u4:=(aj .i64 t10 1)
 some (.inl (t1,t7,t9,u4,()))
 )
 ) none
 ) none
 ) (
 some (.inr (.inl (t1,t7,t9,t10,())))
 )
def JO:=mm (ah (cV sv))
def C7 (p0:List R5) (p1:Int):Option Zh :=
 (Ar p0 p1 8).bind fun y1 =>
 cond (!y1.2.2.1.1) (
 c9
 ) (
 (JO p1 y1.2.1.1 [] 1).bind (Sum.elim (fun y2 =>
 some ((),((y2.2.2.1,()),((aj .i64 y2.1 8),()),(true,()),()))
 ) (fun _ =>
 none
 ))
 )
def aa2:Su:=⟨[.c false [q5],.c false [ki]],[(false,[q3]),(false,[ki]),(false,[.bool])],true,.inl fun x=>C7 x.1.1 x.2.1.1⟩
theorem U6:ar Tryz.prog 194 aa2 :=
 fl (ac MC an) [] [(0,⟨[.d 1 ki,.d 7 q5,.own 9 q3,.d 10 ki],ah (cV sv)⟩)] [] Tryz.f194 (lp [0] (sc cN sn))
def Xf  : Option (Unit×(((List DP)×Unit)×Unit)) :=
 some ((),(([(2,3,19,()),(3,1,6,()),(4,1,12,()),(7,1,10,()),(11,1,6,()),(14,1,4,()),(37,2,12,()),(38,2,6,()),(39,2,2,()),(41,2,8,()),(48,5,60,()),(49,1,3,()),(54,5,60,()),(95,2,12,()),(102,4,20,()),(103,4,20,())],()),()))
def aaC:Su:=⟨[],[(false,[.sl 226 Ku])],true,.inl fun x=>Xf ⟩
theorem Uv:ar Tryz.prog 292 aaC :=
 fq an Tryz.f292
def tr (t0:Int) (t5:List DP) (t6 t7:Int) (b2:Int×Int×Int×Unit):Rd (Int×(List DP)×Int×Int×DP×Unit) (DP×Unit) :=
 cond (aw t7 t6) (
 cond (aR t7 t5) (
 let u1:=(gt d226 t5 t7)
 cond (aq u1.1 t0) (
 some (.inr (.inr (u1,())))
 ) (
 some (.inl (t0,t5,t6,(aj .i64 t7 1),b2,()))
 )
 ) none
 ) (
 some (.inr (.inl (t0,t5,t6,t7,b2,())))
 )
def Mm:=tV (ah (dQ tr))
def G8 (p0:Int):Option (Unit×(DP×Unit)) :=
 (Xf).bind fun y1 =>
 (Mm p0 y1.2.1.1 (ae y1.2.1.1) 0 (0,0,0,())).bind (Sum.elim (fun _ =>
 some ((),((0,0,0,()),()))
 ) (fun y2 =>
 some ((),(y2.1,()))
 ))
def ZD:Su:=⟨[.c false [ki]],[(true,[ki,ki,ki])],true,.inl fun x=>G8 x.1.1⟩
theorem IY:ar Tryz.prog 248 ZD :=
 fl (ac Uv an) [.box 2 [(false,ki),(false,ki),(false,ki)]] [(0,⟨[.d 0 ki,.own 5 (.sl 226 Ku),.d 6 ki,.d 7 ki,.box 2 [(false,ki),(false,ki),(false,ki)]],ah (dQ tr)⟩)] [] Tryz.f248 (lp [0] (sc cN sn))
def EO (p0:Int):Option im :=
 (G8 p0).bind fun y1 =>
 some ((),((y1.2.1.2.1,()),()))
def ach:Su:=⟨[.c false [ki]],[(false,[ki])],true,.inl fun x=>EO x.1.1⟩
theorem KT:ar Tryz.prog 195 ach :=
 fq (ac IY an) Tryz.f195
def Ps (p0:Int):Option im :=
 (G8 p0).bind fun y1 =>
 some ((),((y1.2.1.2.2.1,()),()))
def abY:Su:=⟨[.c false [ki]],[(false,[ki])],true,.inl fun x=>Ps x.1.1⟩
theorem Yl:ar Tryz.prog 249 abY :=
 fq (ac IY an) Tryz.f249
def NZ (p0:Int):Option im :=
 (EO p0).bind fun y1 =>
 cond (aq y1.2.1.1 5) (
 Zf
 ) (
 c5
 )
def aaf:Su:=⟨[.c false [ki]],[(false,[ki])],true,.inl fun x=>NZ x.1.1⟩
theorem Uz:ar Tryz.prog 251 aaf :=
 fq (ac KT an) Tryz.f251
section
open Go.RowKit Go.Lib
theorem ZZ:FD Tryz.prog 215 240 271:=by
 intro s b v w R R2 hd ha
 have e1:Enters Tryz.prog 240:=enters_of (fn:=Tryz.f240) (c:=ak Tryz.f240) (by kernel_rfl) (by kernel_rfl) (by kernel_rfl)
 have e2:Enters Tryz.prog 271:=enters_of (fn:=Tryz.f271) (c:=ak Tryz.f271) (by kernel_rfl) (by kernel_rfl) (by kernel_rfl)
 have hsz:s.size < 9223372036854775808∨9223372036854775808<=s.size:=adj _ _
 cases b with
 | false =>
   go_enter Tryz.func215,Tryz.ntmps215
   go_wp2_with (go_at_call 240; refine hd.mono ?_; rintro e W1 ⟨rfl,hW⟩)
   go_ret2
   exact .inr ⟨by simp,rfl,hW⟩
 | true =>
   by_cases hs:s.size<=18
   . have hb:=ha rfl hs
     have h1:¬ (18:Int) < (s.size:Int):=by omega
     go_enter Tryz.func215,Tryz.ntmps215
     go_wp2_with (first
      | (go_at_call 240; refine hd.mono ?_; rintro e W1 ⟨rfl,hW⟩)
      | (go_at_call 271; refine (hb _ hW).mono ?_; rintro e W2 ⟨rfl,hW2⟩))
     go_ret2
     exact .inl ⟨by trivial,hs,rfl,hW2⟩
   . have h1:(18:Int) < (s.size:Int):=by omega
     go_enter Tryz.func215,Tryz.ntmps215
     go_wp2_with (go_at_call 240; refine hd.mono ?_; rintro e W1 ⟨rfl,hW⟩)
     go_ret2
     exact .inr ⟨by simp [hs],rfl,hW⟩
end
def EP (p0:List UInt8):Option Y7:=ve uL p0
def abc:Su:=⟨[.c false [.str]],[(false,[ki]),(false,[.bool])],true,.inl fun x=>EP x.1.1⟩
theorem QJ:ar Tryz.prog 215 abc:=Hq wH (gd:=uL) zz (fnd:=Tryz.f240) (cd:=ak Tryz.f240) (by kernel_rfl) (by kernel_rfl) (by kernel_rfl) rfl ZZ (fn:=Tryz.f215) (c:=ak Tryz.f215) (by kernel_rfl) (by kernel_rfl) (by kernel_rfl)
def GO (p0:List R5) (p1 p2:Int):Option (Unit×(Y1×Y1×Y2×Unit)) :=
 (mS p2 2 3).bind fun y1 =>
 cond (!y1.2.1.1) (
 c16
 ) (
 (Bj p0 p1 p2).bind fun y2 =>
 cond (!y2.2.2.2.1.1) (
 c16
 ) (
 (EP y2.2.1.1).bind fun y3 =>
 some ((),(y3.2.1,y2.2.2.1,(true,()),()))
 )
 )
def abU:Su:=⟨[.c false [q5],.c false [ki],.c false [ki]],[(false,[ki]),(false,[ki]),(false,[.bool])],true,.inl fun x=>GO x.1.1 x.2.1.1 x.2.2.1.1⟩
theorem V8:ar Tryz.prog 250 abU :=
 fq (ac lR (ac JJ (ac QJ an))) Tryz.f250
def px (t0:List UInt8) (t5 t6:Int):Rd Uc Y2 :=
 cond (aw t6 t5) (
 cond (aR t6 t0) (
 let u1:=(dE t0 t6)
 cond (aw u1 32) (
 some (.inr (.inr (false,())))
 ) (
 cond (aR t6 t0) (
 cond (aw 126 u1) (
 some (.inr (.inr (false,())))
 ) (
 some (.inl (t0,t5,(aj .i64 t6 1),()))
 )
 ) none
 )
 ) none
 ) (
 some (.inr (.inl (t0,t5,t6,())))
 )
def I2:=kz (ah (dq px))
def Ho (p0:List UInt8):Option dY :=
 (I2 p0 (ae p0) 0).bind (Sum.elim (fun _ =>
 c2
 ) (fun y1 =>
 some ((),(y1,()))
 ))
def ab7:Su:=⟨[.c false [.str]],[(false,[.bool])],true,.inl fun x=>Ho x.1.1⟩
theorem UI:ar Tryz.prog 293 ab7 :=
 fl an [.d 2 .bool] [(0,⟨[.d 0 .str,.d 5 ki,.d 6 ki],ah (dq px)⟩)] [] Tryz.f293 (lp [0] (sc cN sn))
def yS (p0:Int) (p1:List UInt8):Option dY :=
 (G8 p0).bind fun y1 =>
 cond (aq y1.2.1.2.1 1) (
 let u1:=(uL p1)
 Option.bind u1 fun y2 =>
 let u2:=(ae p1)
 some ((),(((cond y2.2.1.1 (aq u2 y1.2.1.2.2.1) false),()),()))
 ) (
 cond (aq y1.2.1.2.1 2) (
 let u1:=(Ho p1)
 Option.bind u1 fun y2 =>
 let u2:=(ae p1)
 some ((),(((cond y2.2.1.1 (aq u2 y1.2.1.2.2.1) false),()),()))
 ) (
 cond (aq y1.2.1.2.1 3) (
 let u1:=(uL p1)
 Option.bind u1 fun y2 =>
 cond y2.2.1.1 (
 let u2:=(ae p1)
 let u3:=(mS u2 1 y1.2.1.2.2.1)
 Option.bind u3 fun y3 =>
 some ((),(y3.2.1,()))
 ) (
 c0
 )
 ) (
 cond (aq y1.2.1.2.1 4) (
 let u1:=(Ho p1)
 Option.bind u1 fun y2 =>
 cond y2.2.1.1 (
 let u2:=(ae p1)
 let u3:=(mS u2 1 y1.2.1.2.2.1)
 Option.bind u3 fun y3 =>
 some ((),(y3.2.1,()))
 ) (
 c0
 )
 ) (
 cond (aq y1.2.1.2.1 5) (
 let u1:=(Ho p1)
 Option.bind u1 fun y2 =>
 cond y2.2.1.1 (
 let u2:=(ae p1)
 let u3:=(mS u2 1 y1.2.1.2.2.1)
 Option.bind u3 fun y3 =>
 some ((),(y3.2.1,()))
 ) (
 c0
 )
 ) (
 c0
 )
 )
 )
 )
 )
def acC:Su:=⟨[.c false [ki],.c false [.str]],[(false,[.bool])],true,.inl fun x=>yS x.1.1 x.2.1.1⟩
theorem Qk:ar Tryz.prog 252 acC :=
 fq (ac lR (ac zz (ac IY (ac UI an)))) Tryz.f252
def K4 (p0:List R5) (p1 p2:Int):Option Xm :=
 (Ps p2).bind fun y1 =>
 (EO p2).bind fun y2 =>
 cond (cond (cond (aq y2.2.1.1 3) true (aq y2.2.1.1 4)) true (aq y2.2.1.1 5)) (
 (NZ p2).bind fun y3 =>
 (GO p0 p1 y3.2.1.1).bind fun y4 =>
 cond (!y4.2.2.2.1.1) (
 c4
 ) (
 let u1:=(cond (aq y2.2.1.1 1) true (aq y2.2.1.1 3))
 cond u1 (
 (Bj p0 y4.2.2.1.1 y4.2.1.1).bind fun y5 =>
 cond (!y5.2.2.2.1.1) (
 c4
 ) (
 (yS p2 y5.2.1.1).bind fun y6 =>
 cond (!y6.2.1.1) (
 c4
 ) (
 some ((),(y5.2.1,y5.2.2.1,(true,()),()))
 )
 )
 ) (
 (Ar p0 y4.2.2.1.1 y4.2.1.1).bind fun y5 =>
 cond (!y5.2.2.1.1) (
 c4
 ) (
 let u2:=(strOf y5.2.1.1)
 (yS p2 u2).bind fun y6 =>
 cond (!y6.2.1.1) (
 c4
 ) (
 some ((),((u2,()),((aj .i64 y4.2.2.1.1 y4.2.1.1),()),(true,()),()))
 )
 )
 )
 )
 ) (
 let u1:=(cond (aq y2.2.1.1 1) true (aq y2.2.1.1 3))
 cond u1 (
 (Bj p0 p1 y1.2.1.1).bind fun y3 =>
 cond (!y3.2.2.2.1.1) (
 c4
 ) (
 (yS p2 y3.2.1.1).bind fun y4 =>
 cond (!y4.2.1.1) (
 c4
 ) (
 some ((),(y3.2.1,y3.2.2.1,(true,()),()))
 )
 )
 ) (
 (Ar p0 p1 y1.2.1.1).bind fun y3 =>
 cond (!y3.2.2.1.1) (
 c4
 ) (
 let u2:=(strOf y3.2.1.1)
 (yS p2 u2).bind fun y4 =>
 cond (!y4.2.1.1) (
 c4
 ) (
 some ((),((u2,()),((aj .i64 p1 y1.2.1.1),()),(true,()),()))
 )
 )
 )
 )
def abi:Su:=⟨[.c false [q5],.c false [ki],.c false [ki]],[(false,[.str]),(false,[ki]),(false,[.bool])],true,.inl fun x=>K4 x.1.1 x.2.1.1 x.2.2.1.1⟩
theorem XO:ar Tryz.prog 196 abi :=
 fq (ac MC (ac JJ (ac KT (ac Yl (ac Uz (ac V8 (ac Qk an))))))) Tryz.f196
def po (t0:List R5) (t4:List UInt8) (t5:Int) (t8:List R3) (t9:Bool) (t41:List R3) (t42 t43:Int) (b2:(List UInt8)×(List iX)×Unit):Rd ((List R5)×(List UInt8)×Int×(List R3)×Bool×(List R3)×Int×Int×Dz×Unit) YK :=
 cond (aw t43 t42) (
 cond (aR t43 t41) (
 let u1:=(gt d3 t41 t43)
 cond (aq u1.1 1) (
 let u2:=(aj .i64 t43 1)
 some (.inl (t0,t4,t5,t8,true,t41,t42,u2,b2,()))
 ) (
 (EO u1.1).bind fun y1 =>
 cond (aq y1.2.1.1 0) (
 some (.inr (.inr (2,([],[],()),())))
 ) (
 cond (bT 8 t8 [u1]) (
 let u2:=(aj .i64 t43 1)
 some (.inl (t0,t4,t5,(jn t8 [u1]),t9,t41,t42,u2,b2,()))
 ) none
 )
 )
 ) none
 ) (
 some (.inr (.inl (t0,t4,t5,t8,t9,t41,t42,t43,b2,())))
 )
def IS:=UK (ah (DD po))
def oG (t0:List R5) (t4:List UInt8) (t5:Int) (t8 t76:List R3) (t77 t78:Int) (b2:(List UInt8)×(List iX)×Unit):Rd ((List R5)×(List UInt8)×Int×(List R3)×(List R3)×Int×Int×Dz×Unit) YK :=
 cond (aw t78 t77) (
 cond (aR t78 t76) (
 let u1:=(aj .i64 (gt d3 t76 t78).1 64)
 (EO u1).bind fun y1 =>
 cond (aq y1.2.1.1 0) (
 some (.inr (.inr (2,([],[],()),())))
 ) (
 cond (bT 8 t8 [(u1,())]) (
 some (.inl (t0,t4,t5,(jn t8 [(u1,())]),t76,t77,(aj .i64 t78 1),b2,()))
 ) none
 )
 ) none
 ) (
 some (.inr (.inl (t0,t4,t5,t8,t76,t77,t78,b2,())))
 )
def J9:=Tj (ah (xx oG))
def qk (t0:List R5) (t5:Int) (t95:List R3) (t96 t97:Int) (b2 b15:(List UInt8)×(List iX)×Unit):Rd ((List R5)×Int×(List R3)×Int×Int×Dz×Dz×Unit) YK :=
 cond (aw t97 t96) (
 cond (aR t97 t95) (
 (K4 t0 t5 (gt d3 t95 t97).1).bind fun y1 =>
 cond (!y1.2.2.2.1.1) (
 some (.inr (.inr (3,([],[],()),())))
 ) (
 cond (bT 24 b15.2.1 [((gt d3 t95 t97).1,y1.2.1.1,())]) (
 some (.inl (t0,y1.2.2.1.1,t95,t96,(aj .i64 t97 1),b2,(b15.1,(jn b15.2.1 [((gt d3 t95 t97).1,y1.2.1.1,())]),()),()))
 ) none
 )
 ) none
 ) (
 some (.inr (.inl (t0,t5,t95,t96,t97,b2,b15,())))
 )
def AO:=Za (ah (LC qk))
def O8 (p0:List R5):Option (Unit×(Dz×Y1×Unit)) :=
 (Bj p0 0 4).bind fun y1 =>
 cond (!y1.2.2.2.1.1) (
 some ((),(([],[],()),(1,()),()))
 ) (
 (C7 p0 y1.2.2.1.1).bind fun y2 =>
 cond (!y2.2.2.2.1.1) (
 c17
 ) (
 (IS p0 y1.2.1.1 y2.2.2.1.1 [] false y2.2.1.1 (ae y2.2.1.1) 0 ([],[],())).bind (Sum.elim (fun y3 =>
 cond y3.2.2.2.2.1 (
 (C7 y3.1 y3.2.2.1).bind fun y4 =>
 let u1:=(ae y4.2.1.1)
 cond (cond (!y4.2.2.2.1.1) true (aq u1 0)) (
 c17
 ) (
 (J9 y3.1 y3.2.1 y4.2.2.1.1 y3.2.2.2.1 y4.2.1.1 u1 0 y3.2.2.2.2.2.2.2.2.1).bind (Sum.elim (fun y5 =>
 (AO y5.1 y5.2.2.1 y5.2.2.2.1 (ae y5.2.2.2.1) 0 y5.2.2.2.2.2.2.2.1 (y5.2.1,[],())).bind (Sum.elim (fun y6 =>
 cond (!(aq y6.2.1 (ae y6.1))) (
 ZY
 ) (
 some ((),(y6.2.2.2.2.2.2.1,(0,()),()))
 )
 ) (fun y6 =>
 some ((),(y6.2.1,(y6.1,()),()))
 ))
 ) (fun y5 =>
 some ((),(y5.2.1,(y5.1,()),()))
 ))
 )
 ) (
 (AO y3.1 y3.2.2.1 y3.2.2.2.1 (ae y3.2.2.2.1) 0 y3.2.2.2.2.2.2.2.2.1 (y3.2.1,[],())).bind (Sum.elim (fun y4 =>
 cond (!(aq y4.2.1 (ae y4.1))) (
 ZY
 ) (
 some ((),(y4.2.2.2.2.2.2.1,(0,()),()))
 )
 ) (fun y4 =>
 some ((),(y4.2.1,(y4.1,()),()))
 ))
 )
 ) (fun y3 =>
 some ((),(y3.2.1,(y3.1,()),()))
 ))
 )
 )
def Zs:Su:=⟨[.c false [q5]],[(true,[.str,jf]),(false,[ki])],true,.inl fun x=>O8 x.1.1⟩
theorem Vn:ar Tryz.prog 150 Zs :=
 fl (ac JJ (ac U6 (ac KT (ac XO an)))) [.d 3 ki,.box 2 [(false,.str),(true,jf)]] [(0,⟨[.d 0 q5,.d 4 .str,.d 5 ki,.own 8 q3,.d 9 .bool,.own 41 q3,.d 42 ki,.d 43 ki,.box 2 [(false,.str),(true,jf)]],ah (DD po)⟩),(3,⟨[.d 0 q5,.d 4 .str,.d 5 ki,.own 8 q3,.own 76 q3,.d 77 ki,.d 78 ki,.box 2 [(false,.str),(true,jf)]],ah (xx oG)⟩),(5,⟨[.d 0 q5,.d 5 ki,.own 95 q3,.d 96 ki,.d 97 ki,.box 2 [(false,.str),(true,jf)],.box 15 [(false,.str),(true,jf)]],ah (LC qk)⟩)] [] Tryz.f150 (lp [0,3,5] (sc cN (sc cN (sc cN sn))))
def oL (t6:List iX) (t7 t8:Int) (b1:(List UInt8)×(List iX)×Unit):Rd ((List iX)×Int×Int×Dz×Unit) Y2 :=
 cond (aw t8 t7) (
 cond (aR t8 t6) (
 let u1:=(gt d175 t6 t8)
 (yS u1.1 u1.2.1).bind fun y1 =>
 cond (!y1.2.1.1) (
 some (.inr (.inr (false,())))
 ) (
 cond (aw 0 t8) (
 let u2:=(aO .i64 t8 1)
 cond (aR u2 b1.2.1) (
 cond (bL u1.1 (gt d175 b1.2.1 u2).1) (
 some (.inr (.inr (false,())))
 ) (
 some (.inl (t6,t7,(aj .i64 t8 1),b1,()))
 )
 ) none
 ) (
 some (.inl (t6,t7,(aj .i64 t8 1),b1,()))
 )
 )
 ) none
 ) (
 some (.inr (.inl (t6,t7,t8,b1,())))
 )
def DK:=mm (ah (cV oL))
def OT (p0:(List UInt8)×(List iX)×Unit):Option dY :=
 (DK p0.2.1 (ae p0.2.1) 0 p0).bind (Sum.elim (fun y1 =>
 (xy y1.2.2.2.1.1 4).bind fun y2 =>
 some ((),(y2.2.1,()))
 ) (fun y1 =>
 some ((),(y1,()))
 ))
def aak:Su:=⟨[.c true [.str,jf]],[(false,[.bool])],true,.inl fun x=>OT x.1⟩
theorem W9:ar Tryz.prog 209 aak :=
 fl (ac Ka (ac Qk an)) [.d 2 .bool] [(0,⟨[.d 6 jf,.d 7 ki,.d 8 ki,.box 1 [(false,.str),(false,jf)]],ah (cV oL)⟩)] [] Tryz.f209 (lp [0] (sc cN sn))
def SQ (p0:List UInt8):Option dY :=
 some ((),(((cond (cond (cC p0 [48,49,48,48]) true (cC p0 [48,50,48,48])) true (cC p0 [48,50,50,48])),()),()))
def aam:Su:=⟨[.c false [.str]],[(false,[.bool])],true,.inl fun x=>SQ x.1.1⟩
theorem UR:ar Tryz.prog 210 aam :=
 fq an Tryz.f210
def qj (t1:Int) (t9:List iX) (t10 t11:Int):Rd (Int×(List iX)×Int×Int×Unit) ((List UInt8)×Bool×Unit) :=
 cond (aw t11 t10) (
 cond (aR t11 t9) (
 let u1:=(gt d175 t9 t11)
 cond (aq u1.1 t1) (
 some (.inr (.inr (u1.2.1,true,())))
 ) (
 some (.inl (t1,t9,t10,(aj .i64 t11 1),()))
 )
 ) none
 ) (
 some (.inr (.inl (t1,t9,t10,t11,())))
 )
def Ls:=mm (ah (cV qj))
def Gt (p0:(List UInt8)×(List iX)×Unit) (p1:Int):Option (Unit×(Y9×Y2×Unit)) :=
 (Ls p1 p0.2.1 (ae p0.2.1) 0).bind (Sum.elim (fun _ =>
 some ((),(([],()),(false,()),()))
 ) (fun y1 =>
 some ((),((y1.1,()),(y1.2.1,()),()))
 ))
def ZT:Su:=⟨[.c true [.str,jf],.c false [ki]],[(false,[.str]),(false,[.bool])],true,.inl fun x=>Gt x.1 x.2.1.1⟩
theorem XJ:ar Tryz.prog 151 ZT :=
 fl an [.d 4 .str,.d 5 .bool] [(0,⟨[.d 1 ki,.d 9 jf,.d 10 ki,.d 11 ki],ah (cV qj)⟩)] [] Tryz.f151 (lp [0] (sc cN sn))
def OQ  : Option (Unit×(((List Hs)×Unit)×Unit)) :=
 some ((),(([([48,49,48,48],[48,48],[97,117,116,104],[(4,()),(14,()),(38,())],()),([48,49,48,48],[48,50],[109,111,114,101],[(4,()),(38,())],()),([48,50,50,48],[48,49],[112,97,114,116],[(4,()),(38,())],()),([48,50,50,48],[48,48],[102,105,110,97,108],[(4,()),(38,())],()),([48,50,50,48],[50,48],[102,114,101,101],[(38,())],()),([48,50,48,48],[52,48],[109,111,118,101],[(38,()),(103,())],()),([48,49,48,48],[51,49],[97,115,107],[],()),([48,50,48,48],[57,48],[115,119,101,101,112],[],())],()),()))
def aa0:Su:=⟨[],[(false,[.sl 198 Fv])],false,.inl fun x=>OQ ⟩
theorem Ri:ar Tryz.prog 212 aa0 :=
 fl an [] [] [999999] Tryz.f212 cN
def RA (p0:(List UInt8)×(List UInt8)×(List UInt8)×(List R3)×Unit) (p1:(List UInt8)×(List iX)×Unit) (p2:(List UInt8)×Unit):Option dY :=
 cond (cC p0.1 p1.1) (
 cond (dW 0 2 p2.1) (
 some ((),(((cC p0.2.1 (sub p2.1 0 2)),()),()))
 ) none
 ) (
 c0
 )
def Zw:Su:=⟨[.c true [.str,.str,.str,q3],.pt [.str,jf],.pt [.str]],[(false,[.bool])],true,.inl fun x=>RA x.1 x.2.1 x.2.2.1⟩
theorem Wm:ar Tryz.prog 213 Zw :=
 fq an Tryz.f213
def oE (t0:List Hs) (f1:Dz×Y9×Unit) (t7 t8:Int):Rd ((List Hs)×(Dz×Y9×Unit)×Int×Int×Unit) Y1 :=
 cond (aw t8 t7) (
 cond (aR t8 t0) (
 (RA (gt d198 t0 t8) f1.1 f1.2.1).bind fun y1 =>
 cond y1.2.1.1 (
 some (.inr (.inr (t8,())))
 ) (
 some (.inl (t0,f1,t7,(aj .i64 t8 1),()))
 )
 ) none
 ) (
 some (.inr (.inl (t0,f1,t7,t8,())))
 )
def TT:=mm (ah (cV oE))
def OO (p0:List Hs) (c1_0:(List UInt8)×(List iX)×Unit) (c1_1:(List UInt8)×Unit):Option im :=
 (TT p0 (c1_0,c1_1,()) (ae p0) 0).bind (Sum.elim (fun _ =>
 c3
 ) (fun y1 =>
 some ((),(y1,()))
 ))
def ab9:Su:=⟨[.c false [.sl 198 Fv],.fn 213 [.p [.str,jf],.p [.str]]],[(false,[ki])],true,.inl fun x=>OO x.1.1 x.2.1.1 x.2.1.2.1⟩
theorem VE:ar Tryz.prog 211 ab9 :=
 fl (ac Wm an) [.d 4 ki] [(0,⟨[.d 0 (.sl 198 Fv),.fn 1 213 [.p [.str,jf],.p [.str]],.d 7 ki,.d 8 ki],ah (cV oE)⟩)] [] Tryz.f211 (lp [0] (sc cN sn))
end
end Go.Av
