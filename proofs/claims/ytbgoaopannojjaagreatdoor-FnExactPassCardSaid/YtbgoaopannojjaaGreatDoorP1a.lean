/- Part of a proof that the law FnExactPass answers true for every input: the printed functions of this program and their plain laws. No conditions beyond the statement. -/
import Derived.Test.YtbgoaopannojjaaGreatDoorFw4
import Derived.Test.YtbgoaopannojjaaGreatDoorFw3
import Derived.WalkKit
import Derived.Lib.Walk
import Derived.Lib.SliceRun
import Derived.Shelf.Spec.SlicesInsert
import Derived.Test.YtbgoaopannojjaaGreatDoorProg
set_option maxRecDepth 100000
namespace Go.Av
open Go.Proofs
set_option maxHeartbeats 4000000
noncomputable section
def Cs:List K:=[.str,.int .i64,.int .i64]
def ll:List K:=[.int .i64]
def ub:List K:=[.int .u8]
def Bi:List K:=[.str,.str,.sl 5 ub]
def xA:List K:=[.str,.int .i64,.int .i64,.int .i64,.int .i64,.sl 253 Cs,.int .i64,.int .i64,.sl 3 ll,.sl 3 ll,.sl 255 Bi]
def F6:List K:=[.int .i64,.sl 164 xA]
def GC:List K:=[.sl 5 ub,.int .i64,.sl 3 ll,.int .i64,.int .i64,.int .i64,.int .i64,.int .i64,.sl 5 ub]
def CC:List K:=[.str,.int .i64,.int .i64]
def vM:List K:=[.str,.str,.sl 5 ub]
def DB:List K:=[.str,.int .i64,.int .i64,.int .i64,.int .i64,.sl 95 CC,.int .i64,.int .i64,.sl 3 ll,.sl 3 ll,.sl 166 vM]
def NR:List K:=[.int .i64,.sl 59 DB]
def LR:List K:=[.sl 5 ub,.int .i64,.sl 3 ll,.int .i64,.int .i64,.int .i64,.int .i64,.int .i64,.sl 5 ub]
def U0:List K:=[.str]
def Em:List K:=[.int .i64,.str]
def Fg:List K:=[.str,.str,.str,.sl 3 ll]
def Lf:List K:=[.sl 3 ll]
def KH:List K:=[.int .i64,.int .i64,.int .i64]
abbrev mg:=((List UInt8)×Int×Int×Unit)
def d253:mg:=([],0,0,())
abbrev R3:=(Int×Unit)
def d3:R3:=(0,())
abbrev R5:=(Int×Unit)
def d5:R5:=(0,())
abbrev lT:=((List UInt8)×(List UInt8)×(List R5)×Unit)
def d255:lT:=([],[],[],())
abbrev gL:=((List UInt8)×Int×Int×Int×Int×(List mg)×Int×Int×(List R3)×(List R3)×(List lT)×Unit)
def d164:gL:=([],0,0,0,0,[],0,0,[],[],[],())
abbrev p7:=(Int×(List gL)×Unit)
def d81:p7:=(0,[],())
abbrev nJ:=((List R5)×Int×(List R3)×Int×Int×Int×Int×Int×(List R5)×Unit)
def d83:nJ:=([],0,[],0,0,0,0,0,[],())
abbrev gr:=((List UInt8)×Int×Int×Unit)
def d95:gr:=([],0,0,())
abbrev cu:=((List UInt8)×(List UInt8)×(List R5)×Unit)
def d166:cu:=([],[],[],())
abbrev dp:=((List UInt8)×Int×Int×Int×Int×(List gr)×Int×Int×(List R3)×(List R3)×(List cu)×Unit)
def d59:dp:=([],0,0,0,0,[],0,0,[],[],[],())
abbrev eb:=(Int×(List dp)×Unit)
def d89:eb:=(0,[],())
abbrev gy:=((List R5)×Int×(List R3)×Int×Int×Int×Int×Int×(List R5)×Unit)
def d62:gy:=([],0,[],0,0,0,0,0,[],())
abbrev R9:=((List UInt8)×Unit)
def d9:R9:=([],())
abbrev iz:=(Int×(List UInt8)×Unit)
def d175:iz:=(0,[],())
abbrev FV:=((List UInt8)×(List UInt8)×(List UInt8)×(List R3)×Unit)
def d198:FV:=([],[],[],[],())
abbrev OL:=((List R3)×Unit)
def d54:OL:=([],())
abbrev Ds:=(Int×Int×Int×Unit)
def d226:Ds:=(0,0,0,())
def tt:List (Nat×TI):=[(2,⟨false,[.int .i64],0,8,[]⟩),
 (3,⟨false,[.int .i64],0,8,[]⟩),
 (4,⟨false,[.bool],0,1,[]⟩),
 (5,⟨false,[.int .u8],0,1,[]⟩),
 (6,⟨false,[.int .u8],0,1,[]⟩),
 (7,⟨true,[.int .i64,.int .i64,.bool,.int .u8],0,24,[(0,2),(1,3),(2,4),(3,6)]⟩),
 (8,⟨true,[.int .i64,.int .i64,.bool,.int .u8],0,24,[(0,2),(1,3),(2,4),(3,6)]⟩),
 (9,⟨false,[.str],0,16,[]⟩),
 (10,⟨false,[.str],0,16,[]⟩),
 (11,⟨false,[.str],0,16,[]⟩),
 (12,⟨false,[.int .u64],0,8,[]⟩),
 (13,⟨true,[.str,.int .u64],0,24,[(0,9),(1,12)]⟩),
 (14,⟨true,[.str,.int .u64],0,24,[(0,9),(1,12)]⟩),
 (21,⟨false,[.int .i32],0,4,[]⟩),
 (22,⟨false,[.sl 81 F6],81,24,[]⟩),
 (23,⟨false,[.sl 83 GC],83,24,[]⟩),
 (24,⟨true,[.sl 81 F6,.int .i64,.int .i64,.sl 83 GC],0,64,[(0,22),(1,3),(2,3),(3,23)]⟩),
 (25,⟨true,[.sl 81 F6,.int .i64,.int .i64,.sl 83 GC],0,64,[(0,22),(1,3),(2,3),(3,23)]⟩),
 (28,⟨false,[.sl 89 NR],89,24,[]⟩),
 (29,⟨false,[.sl 62 LR],62,24,[]⟩),
 (30,⟨true,[.sl 89 NR,.int .i64,.int .i64,.sl 62 LR],0,64,[(0,28),(1,3),(2,3),(3,29)]⟩),
 (31,⟨true,[.sl 89 NR,.int .i64,.int .i64,.sl 62 LR],0,64,[(0,28),(1,3),(2,3),(3,29)]⟩),
 (39,⟨false,[.sl 5 ub],5,24,[]⟩),
 (49,⟨false,[.sl 59 DB],59,24,[]⟩),
 (50,⟨true,[.sl 59 DB],0,24,[(0,49)]⟩),
 (51,⟨true,[.sl 59 DB],0,24,[(0,49)]⟩),
 (53,⟨false,[.sl 95 CC],95,24,[]⟩),
 (54,⟨false,[.sl 3 ll],3,24,[]⟩),
 (55,⟨true,[.int .i64,.int .i64,.sl 3 ll,.sl 3 ll],0,64,[(0,3),(1,3),(2,54),(3,54)]⟩),
 (56,⟨true,[.int .i64,.int .i64,.sl 3 ll,.sl 3 ll],0,64,[(0,3),(1,3),(2,54),(3,54)]⟩),
 (57,⟨false,[.sl 166 vM],166,24,[]⟩),
 (58,⟨true,[.str,.int .i64,.int .i64,.int .i64,.int .i64,.sl 95 CC,.int .i64,.int .i64,.sl 3 ll,.sl 3 ll,.sl 166 vM],0,160,[(0,9),(1,3),(2,3),(3,3),(4,3),(5,53),(6,56),(10,57)]⟩),
 (59,⟨true,[.str,.int .i64,.int .i64,.int .i64,.int .i64,.sl 95 CC,.int .i64,.int .i64,.sl 3 ll,.sl 3 ll,.sl 166 vM],0,160,[(0,9),(1,3),(2,3),(3,3),(4,3),(5,53),(6,56),(10,57)]⟩),
 (61,⟨true,[.sl 5 ub,.int .i64,.sl 3 ll,.int .i64,.int .i64,.int .i64,.int .i64,.int .i64,.sl 5 ub],0,120,[(0,39),(1,3),(2,54),(3,3),(4,3),(5,3),(6,3),(7,3),(8,39)]⟩),
 (62,⟨true,[.sl 5 ub,.int .i64,.sl 3 ll,.int .i64,.int .i64,.int .i64,.int .i64,.int .i64,.sl 5 ub],0,120,[(0,39),(1,3),(2,54),(3,3),(4,3),(5,3),(6,3),(7,3),(8,39)]⟩),
 (79,⟨false,[.sl 164 xA],164,24,[]⟩),
 (80,⟨true,[.int .i64,.sl 164 xA],0,32,[(0,3),(1,79)]⟩),
 (81,⟨true,[.int .i64,.sl 164 xA],0,32,[(0,3),(1,79)]⟩),
 (83,⟨true,[.sl 5 ub,.int .i64,.sl 3 ll,.int .i64,.int .i64,.int .i64,.int .i64,.int .i64,.sl 5 ub],0,120,[(0,39),(1,3),(2,54),(3,3),(4,3),(5,3),(6,3),(7,3),(8,39)]⟩),
 (88,⟨true,[.int .i64,.sl 59 DB],0,32,[(0,3),(1,49)]⟩),
 (89,⟨true,[.int .i64,.sl 59 DB],0,32,[(0,3),(1,49)]⟩),
 (94,⟨true,[.str,.int .i64,.int .i64],0,32,[(0,9),(1,3),(2,3)]⟩),
 (95,⟨true,[.str,.int .i64,.int .i64],0,32,[(0,9),(1,3),(2,3)]⟩),
 (112,⟨false,[.sl 9 U0],9,24,[]⟩),
 (129,⟨false,[.sl 175 Em],175,24,[]⟩),
 (130,⟨true,[.str,.sl 175 Em],0,40,[(0,9),(1,129)]⟩),
 (131,⟨true,[.str,.sl 175 Em],0,40,[(0,9),(1,129)]⟩),
 (150,⟨true,[.int .i64,.str,.str,.str,.str,.str,.int .i64,.int .i64],0,104,[(0,3),(1,9),(2,9),(3,9),(4,9),(5,9),(6,3),(7,3)]⟩),
 (151,⟨true,[.int .i64,.str,.str,.str,.str,.str,.int .i64,.int .i64],0,104,[(0,3),(1,9),(2,9),(3,9),(4,9),(5,9),(6,3),(7,3)]⟩),
 (160,⟨false,[.sl 253 Cs],253,24,[]⟩),
 (161,⟨true,[.int .i64,.int .i64,.sl 3 ll,.sl 3 ll],0,64,[(0,3),(1,3),(2,54),(3,54)]⟩),
 (162,⟨false,[.sl 255 Bi],255,24,[]⟩),
 (163,⟨true,[.str,.int .i64,.int .i64,.int .i64,.int .i64,.sl 253 Cs,.int .i64,.int .i64,.sl 3 ll,.sl 3 ll,.sl 255 Bi],0,160,[(0,9),(1,3),(2,3),(3,3),(4,3),(5,160),(6,161),(10,162)]⟩),
 (164,⟨true,[.str,.int .i64,.int .i64,.int .i64,.int .i64,.sl 253 Cs,.int .i64,.int .i64,.sl 3 ll,.sl 3 ll,.sl 255 Bi],0,160,[(0,9),(1,3),(2,3),(3,3),(4,3),(5,160),(6,161),(10,162)]⟩),
 (165,⟨true,[.str,.str,.sl 5 ub],0,56,[(0,9),(1,9),(2,39)]⟩),
 (166,⟨true,[.str,.str,.sl 5 ub],0,56,[(0,9),(1,9),(2,39)]⟩),
 (174,⟨true,[.int .i64,.str],0,24,[(0,3),(1,9)]⟩),
 (175,⟨true,[.int .i64,.str],0,24,[(0,3),(1,9)]⟩),
 (191,⟨false,[.int .u32],0,4,[]⟩),
 (194,⟨false,[.int .u64],0,8,[]⟩),
 (196,⟨false,[.sl 198 Fg],198,24,[]⟩),
 (197,⟨true,[.str,.str,.str,.sl 3 ll],0,72,[(0,9),(1,9),(2,9),(3,54)]⟩),
 (198,⟨true,[.str,.str,.str,.sl 3 ll],0,72,[(0,9),(1,9),(2,9),(3,54)]⟩),
 (212,⟨false,[.int .u64],0,8,[]⟩),
 (219,⟨false,[.sl 54 Lf],54,24,[]⟩),
 (225,⟨true,[.int .i64,.int .i64,.int .i64],0,24,[(0,3),(1,3),(2,3)]⟩),
 (226,⟨true,[.int .i64,.int .i64,.int .i64],0,24,[(0,3),(1,3),(2,3)]⟩),
 (233,⟨false,[.int .i64],0,8,[]⟩),
 (253,⟨true,[.str,.int .i64,.int .i64],0,32,[(0,9),(1,3),(2,3)]⟩),
 (255,⟨true,[.str,.str,.sl 5 ub],0,56,[(0,9),(1,9),(2,39)]⟩),
 (261,⟨false,[.sl 226 KH],226,24,[]⟩),
 (265,⟨false,[.int .u64],0,8,[]⟩),
 (284,⟨false,[.int .i64],0,8,[]⟩),
 (306,⟨true,[.str],0,16,[(0,9)]⟩),
 (307,⟨true,[.str],0,16,[(0,9)]⟩),
 (311,⟨true,[.int .u8,.int .u8],0,2,[(0,5),(1,5)]⟩),
 (312,⟨true,[.int .u8,.int .u8],0,2,[(0,5),(1,5)]⟩),
 (321,⟨false,[.int .u8],0,1,[]⟩),
 (322,⟨false,[.int .u8],0,1,[]⟩),
 (324,⟨false,[.int .i32],0,4,[]⟩),
 (325,⟨false,[.int .i32],0,4,[]⟩)]
def E0:En:=zJ 0 tt [] [] (fun _=>none) [] fun _=>none
theorem hT:bL Tryz.prog E0:=MC (by kernel_rfl)
theorem eP:Tryz.prog.follows .mixedOrders=true:=by kernel_rfl
theorem fl {f:Nat} {s:Su} {l:List (Nat×SS)} (hl:q8 Tryz.prog l) (ρ:List SE) (los:List (Nat×Lo ρ)) (pins:List Nat) (fn:Func)
 (hlo:VU Tryz.prog (Hu fn.ntmps tt l ρ los pins) (ak fn) (ak fn))
 (h : (Tryz.prog.funcs[f]?, (fn.name == "runtime.NumGoroutine"), fn.body.isSome) = (some fn, false, true) := by kernel_rfl)
 (ht:∀ x,(GM (Hu fn.ntmps tt l ρ los pins) (ak fn) fn.results.toList s.ps s.rs s.fresh x).run=s.tW x:=by intro x; kernel_rfl):ar Tryz.prog f s:=by
 simp only [Prod.mk.injEq] at h
 exact flq hT eP hl (fn:=fn) (by rw [h.1,h.2.1,h.2.2]) hlo ht
theorem fq {f:Nat} {s:Su} {l:List (Nat×SS)} (hl:q8 Tryz.prog l) (fn:Func)
 (h : (Tryz.prog.funcs[f]?, (fn.name == "runtime.NumGoroutine"), fn.body.isSome, dG (fun _ => false) (ak fn)) = (some fn, false, true, []) := by kernel_rfl)
 (ht:∀ x,(GM (Hu fn.ntmps tt l [] [] []) (ak fn) fn.results.toList s.ps s.rs s.fresh x).run=s.tW x:=by intro x; kernel_rfl):ar Tryz.prog f s:=by
 simp only [Prod.mk.injEq] at h
 exact flq hT eP hl (fn:=fn) (by rw [h.1,h.2.1,h.2.2.1]) (lp (n:=fn.ntmps) (tt:=tt) (l:=l) (ρ:=[]) (los:=[]) (pins:=[]) [] sn h.2.2.2) ht
def nH:List UInt8:=[0,1,2,2,3,3,3,3,4,4,4,4,4,4,4,4,5,5,5,5,5,5,5,5,5,5,5,5,5,5,5,5,6,6,6,6,6,6,6,6,6,6,6,6,6,6,6,6,6,6,6,6,6,6,6,6,6,6,6,6,6,6,6,6,7,7,7,7,7,7,7,7,7,7,7,7,7,7,7,7,7,7,7,7,7,7,7,7,7,7,7,7,7,7,7,7,7,7,7,7,7,7,7,7,7,7,7,7,7,7,7,7,7,7,7,7,7,7,7,7,7,7,7,7,7,7,7,7,8,8,8,8,8,8,8,8,8,8,8,8,8,8,8,8,8,8,8,8,8,8,8,8,8,8,8,8,8,8,8,8,8,8,8,8,8,8,8,8,8,8,8,8,8,8,8,8,8,8,8,8,8,8,8,8,8,8,8,8,8,8,8,8,8,8,8,8,8,8,8,8,8,8,8,8,8,8,8,8,8,8,8,8,8,8,8,8,8,8,8,8,8,8,8,8,8,8,8,8,8,8,8,8,8,8,8,8,8,8,8,8,8,8,8,8,8,8,8,8,8,8,8,8,8,8,8,8]
abbrev Y0:=Int×Unit
abbrev Y1:=Bool×Unit
abbrev Y2:=(List R3)×Unit
abbrev Y4:=(List dp)×Unit
abbrev Y8:=(List UInt8)×Unit
abbrev Y7:=Y0×Unit
abbrev VV:=Int×(List dp)×Unit
abbrev Wb:=(List UInt8)×Int×Unit
abbrev gY:=Unit×Y7
abbrev ed:=Unit×(Y1×Unit)
abbrev Xn:=(List dp)×Int×Int×Unit
abbrev Y19:=(List R3)×Int×Bool×Unit
abbrev S1:=(List UInt8)×Int×Int×Unit
abbrev CF:=(List UInt8)×(List iz)×Unit
abbrev SZ:=Unit×(((List R9)×Unit)×Unit)
abbrev O7:=Unit×(Y2×Unit)
abbrev YT:=(((List R9)×Unit)×Unit)×Unit
abbrev YJ:=(Y2×Unit)×Unit
abbrev Y31:=Unit×(((List eb)×Unit)×Unit)
abbrev SR:=Unit×(Y4×Unit)
abbrev Pv:=(Y4×Unit)×Unit
abbrev ZK:=Unit×(((List cu)×Unit)×Unit)
abbrev Ny:=Unit×(Y8×Unit)
abbrev CI:=(List eb)×Int×Int×(List gy)×Unit
abbrev WZ:=(List eb)×(List eb)×Int×Int×Unit
abbrev Y35:=(List dp)×Int×Unit×Int×Int×Unit
abbrev WY:=Unit×(Y0×Y1×Unit)
abbrev WQ:=(List cu)×(List cu)×Int×Int×Unit
abbrev Xx:=Int×CF×Unit
abbrev XG:=Unit×((Int×Int×(List R3)×(List R3)×Unit)×Unit)
abbrev ZH:=Unit×(CI×Unit)
abbrev Xq:=Unit×(Y2×Y0×Y1×Unit)
abbrev Ww:=Unit×(Y8×Y0×Y1×Unit)
abbrev XY:=Unit×(nJ×Unit)
abbrev Sd:=Int×(List UInt8)×(List UInt8)×(List UInt8)×(List UInt8)×(List UInt8)×Int×Int×Unit
abbrev Y70:=Unit×(dp×Unit)
abbrev ki:K:= .int .i64
abbrev G4:K:= .sl 253 Cs
abbrev q3:K:= .sl 3 ll
abbrev q5:K:= .sl 5 ub
abbrev F5:K:= .sl 255 Bi
abbrev FY:K:= .sl 164 xA
abbrev SH:K:= .sl 81 F6
abbrev SB:K:= .sl 83 GC
abbrev ma:K:= .sl 95 CC
abbrev dP:K:= .sl 166 vM
abbrev fF:K:= .sl 59 DB
abbrev fW:K:= .sl 89 NR
abbrev jW:K:= .sl 62 LR
abbrev iL:K:= .sl 175 Em
abbrev q9:K:= .sl 9 U0
abbrev c0:Option ed:=some ((),((false,()),()))
abbrev c1:Option (Unit×(Sd×Y0×Unit)):=some ((),((0,[],[],[],[],[],0,0,()),(1,()),()))
abbrev c2:Option ed:=some ((),((true,()),()))
abbrev c3:Option gY:=some ((),(((-1),()),()))
abbrev c4:Option Ww:=some ((),(([],()),(0,()),(false,()),()))
abbrev c5:Option gY:=some ((),((2,()),()))
abbrev c6:Option gY:=some ((),((0,()),()))
abbrev c7:Option gY:=some ((),((1,()),()))
abbrev c8:Option Xq:=some ((),(([],()),(0,()),(false,()),()))
abbrev c9:Option gY:=some ((),((3,()),()))
abbrev WR:Option (Unit×(CI×Y1×Unit)):=some ((),(([],0,0,[],()),(false,()),()))
abbrev Yw:Option WY:=some ((),((0,()),(false,()),()))
abbrev c12:Option gY:=some ((),((4,()),()))
abbrev c13:Option gY:=some ((),((6,()),()))
abbrev c14:Option gY:=some ((),((12,()),()))
abbrev c15:Option (Unit×(Y0×Y0×Y1×Unit)):=some ((),((0,()),(0,()),(false,()),()))
abbrev c16:Option (Unit×(CF×Y0×Unit)):=some ((),(([],[],()),(2,()),()))
abbrev Za:Option (Unit×(CF×Y0×Unit)):=some ((),(([],[],()),(4,()),()))
abbrev XH:Option Ny:=some ((),(([],()),()))
abbrev ZA:Option SZ:=some ((),(([],()),()))
abbrev c20:Option gY:=some ((),((4611686018427387904,()),()))
abbrev c21:Option (Unit×(Sd×Y0×Unit)):=some ((),((0,[],[],[],[],[],0,0,()),(2,()),()))
section
open Go.Shelf Go.RowKit Go.Lib
def sρ:Ren:=⟨fun | 129=>270 | 171=>79 | 172=>271 | 205=>329 | 243=>135 | 244=>304 | 245=>305 | 246=>184 | 247=>318 | 279=>319 | 280=>320 | 281=>321 | 282=>322 | 283=>234 | 284=>235 | 285=>236 | 286=>237 | 287=>327 | 316=>328 | 317=>287 | 318=>288 | 319=>289 | 320=>290 | 321=>333 | 322=>334 | 337=>314 | 338=>315 | n=>n,fun | 0=>0 | 2=>2 | 3=>3 | 4=>4 | 5=>5 | 9=>9 | 20=>20 | 21=>21 | 37=>39 | 46=>194 | 51=>191 | 53=>212 | 75=>242 | 76=>243 | 80=>314 | 85=>285 | 127=>304 | 143=>305 | 145=>307 | 167=>284 | 168=>287 | 171=>211 | 173=>215 | 175=>297 | 210=>300 | 212=>259 | 213=>260 | 232=>295 | 233=>296 | n=>n,fun | 15=>3 | 16=>4 | 17=>0 | 18=>1 | 19=>2 | n=>n⟩
theorem wP:LaysC.n172 Tryz.prog sρ:={ mixed:=by kernel_rfl,f129:=by kernel_rfl,f171:=by kernel_rfl,f172:=by kernel_rfl,f205:=by kernel_rfl,f243:=by kernel_rfl,f244:=by kernel_rfl,f245:=by kernel_rfl,f246:=by kernel_rfl,f247:=by kernel_rfl,f279:=by kernel_rfl,f280:=by kernel_rfl,f281:=by kernel_rfl,f282:=by kernel_rfl,f283:=by kernel_rfl,f284:=by kernel_rfl,f285:=by kernel_rfl,f286:=by kernel_rfl,f287:=by kernel_rfl,f316:=by kernel_rfl,f317:=by kernel_rfl,f318:=by kernel_rfl,f319:=by kernel_rfl,f320:=by kernel_rfl,f321:=by kernel_rfl,f322:=by kernel_rfl,f337:=by kernel_rfl,f338:=by kernel_rfl,t0:=by kernel_rfl,a0:=fun _=>by kernel_rfl,z0:=fun _=>by kernel_rfl,v0:=fun _=>by kernel_rfl,t2:=by kernel_rfl,a2:=fun _=>by kernel_rfl,z2:=fun _=>by kernel_rfl,v2:=fun _=>by kernel_rfl,t3:=by kernel_rfl,a3:=fun _=>by kernel_rfl,z3:=fun _=>by kernel_rfl,v3:=fun _=>by kernel_rfl,t4:=by kernel_rfl,a4:=fun _=>by kernel_rfl,z4:=fun _=>by kernel_rfl,v4:=fun _=>by kernel_rfl,t5:=by kernel_rfl,a5:=fun _=>by kernel_rfl,z5:=fun _=>by kernel_rfl,v5:=fun _=>by kernel_rfl,t9:=by kernel_rfl,a9:=fun _=>by kernel_rfl,z9:=fun _=>by kernel_rfl,v9:=fun _=>by kernel_rfl,t20:=by kernel_rfl,a20:=fun _=>by kernel_rfl,z20:=fun _=>by kernel_rfl,v20:=fun _=>by kernel_rfl,t21:=by kernel_rfl,a21:=fun _=>by kernel_rfl,z21:=fun _=>by kernel_rfl,v21:=fun _=>by kernel_rfl,t37:=by kernel_rfl,a37:=fun _=>by kernel_rfl,z37:=fun _=>by kernel_rfl,v37:=fun _=>by kernel_rfl,t46:=by kernel_rfl,a46:=fun _=>by kernel_rfl,z46:=fun _=>by kernel_rfl,v46:=fun _=>by kernel_rfl,t51:=by kernel_rfl,a51:=fun _=>by kernel_rfl,z51:=fun _=>by kernel_rfl,v51:=fun _=>by kernel_rfl,t53:=by kernel_rfl,a53:=fun _=>by kernel_rfl,z53:=fun _=>by kernel_rfl,v53:=fun _=>by kernel_rfl,t75:=by kernel_rfl,a75:=fun _=>by kernel_rfl,z75:=fun _=>by kernel_rfl,v75:=fun _=>by kernel_rfl,t76:=by kernel_rfl,a76:=fun _=>by kernel_rfl,z76:=fun _=>by kernel_rfl,v76:=fun _=>by kernel_rfl,t85:=by kernel_rfl,a85:=fun _=>by kernel_rfl,z85:=fun _=>by kernel_rfl,v85:=fun _=>by kernel_rfl,t127:=by kernel_rfl,a127:=fun _=>by kernel_rfl,z127:=fun _=>by kernel_rfl,v127:=fun _=>by kernel_rfl,t143:=by kernel_rfl,a143:=fun _=>by kernel_rfl,z143:=fun _=>by kernel_rfl,v143:=fun _=>by kernel_rfl,t145:=by kernel_rfl,a145:=fun _=>by kernel_rfl,z145:=fun _=>by kernel_rfl,v145:=fun _=>by kernel_rfl,t167:=by kernel_rfl,a167:=fun _=>by kernel_rfl,z167:=fun _=>by kernel_rfl,v167:=fun _=>by kernel_rfl,t168:=by kernel_rfl,a168:=fun _=>by kernel_rfl,z168:=fun _=>by kernel_rfl,v168:=fun _=>by kernel_rfl,t171:=by kernel_rfl,a171:=fun _=>by kernel_rfl,z171:=fun _=>by kernel_rfl,v171:=fun _=>by kernel_rfl,t173:=by kernel_rfl,a173:=fun _=>by kernel_rfl,z173:=fun _=>by kernel_rfl,v173:=fun _=>by kernel_rfl,t175:=by kernel_rfl,a175:=fun _=>by kernel_rfl,z175:=fun _=>by kernel_rfl,v175:=fun _=>by kernel_rfl,t210:=by kernel_rfl,a210:=fun _=>by kernel_rfl,z210:=fun _=>by kernel_rfl,v210:=fun _=>by kernel_rfl,t212:=by kernel_rfl,a212:=fun _=>by kernel_rfl,z212:=fun _=>by kernel_rfl,v212:=fun _=>by kernel_rfl,t213:=by kernel_rfl,a213:=fun _=>by kernel_rfl,z213:=fun _=>by kernel_rfl,t232:=by kernel_rfl,a232:=fun _=>by kernel_rfl,z232:=fun _=>by kernel_rfl,v232:=fun _=>by kernel_rfl,t233:=by kernel_rfl,a233:=fun _=>by kernel_rfl,z233:=fun _=>by kernel_rfl,v233:=fun _=>by kernel_rfl,g15:=by kernel_rfl,g16:=by kernel_rfl,g17:=by kernel_rfl,g18:=by kernel_rfl,g19:=by kernel_rfl,t80:=by kernel_rfl,a80:=fun _=>by kernel_rfl,z80:=fun _=>by kernel_rfl,v80:=fun _=>by kernel_rfl,i0:=by kernel_rfl,i2:=by kernel_rfl,i3:=by kernel_rfl,i4:=by kernel_rfl,i5:=by kernel_rfl,i9:=by kernel_rfl,i20:=by kernel_rfl,i21:=by kernel_rfl,i37:=by kernel_rfl,i46:=by kernel_rfl,i51:=by kernel_rfl,i53:=by kernel_rfl,i75:=by kernel_rfl,i76:=by kernel_rfl,i80:=by kernel_rfl,i85:=by kernel_rfl,i127:=by kernel_rfl,i143:=by kernel_rfl,i145:=by kernel_rfl,i167:=by kernel_rfl,i168:=by kernel_rfl,i171:=by kernel_rfl,i173:=by kernel_rfl,i175:=by kernel_rfl,i210:=by kernel_rfl,i212:=by kernel_rfl,i232:=by kernel_rfl,i233:=by kernel_rfl,m15:=by kernel_rfl,m16:=by kernel_rfl,m17:=by kernel_rfl,m18:=by kernel_rfl,m19:=by kernel_rfl,c0:=by kernel_rfl,c2:=by kernel_rfl,c3:=by kernel_rfl,c4:=by kernel_rfl,c5:=by kernel_rfl,c9:=by kernel_rfl,c20:=by kernel_rfl,c21:=by kernel_rfl,c37:=by kernel_rfl,c46:=by kernel_rfl,c51:=by kernel_rfl,c53:=by kernel_rfl,c75:=by kernel_rfl,c76:=by kernel_rfl,c80:=by kernel_rfl,c85:=by kernel_rfl,c127:=by kernel_rfl,c143:=by kernel_rfl,c145:=by kernel_rfl,c167:=by kernel_rfl,c168:=by kernel_rfl,c171:=by kernel_rfl,c173:=by kernel_rfl,c175:=by kernel_rfl,c210:=by kernel_rfl,c212:=by kernel_rfl,c213:=by kernel_rfl,c232:=by kernel_rfl,c233:=by kernel_rfl }
end
def LA (p0:(List UInt8)×Int×Int×Unit) (p1:Int):Option gY :=
 let u1:=(aM .i64 p1 (ae p0.1))
 cond (au u1 0) (
 c3
 ) (
 some ((),((u1,()),()))
 )
def X4:Su:=⟨[.c true [.str,ki,ki],.c false [ki]],[(false,[ki])],true,.inl fun x=>LA x.1 x.2.1.1⟩
theorem Ua:ar Tryz.prog 283 X4 :=
 fq an Tryz.f283
def pG (t0:List mg) (t1 t5:Int):Rd ((List mg)×Int×Int×Unit) Y0 :=
 cond (au t5 (ae t0)) (
 cond (aR t5 t0) (
 (LA (gt d253 t0 t5) t1).bind fun y1 =>
 cond (au y1.2.1.1 0) (
 some (.inr (.inr ((-1),())))
 ) (
 some (.inl (t0,y1.2.1.1,(ai .i64 t5 1),()))
 )
 ) none
 ) (
 some (.inr (.inl (t0,t1,t5,())))
 )
def K9:=kD (af (dk pG))
def Oj (p0:List mg) (p1:Int):Option gY :=
 let u1:=(aM .i64 p1 (ae p0))
 cond (au u1 0) (
 c3
 ) (
 (K9 p0 u1 0).bind (Sum.elim (fun y1 =>
 some ((),((y1.2.1,()),()))
 ) (fun y1 =>
 some ((),(y1,()))
 ))
 )
def abm:Su:=⟨[.c false [G4],.c false [ki]],[(false,[ki])],true,.inl fun x=>Oj x.1.1 x.2.1.1⟩
theorem Vx:ar Tryz.prog 219 abm :=
 fl (ac Ua an) [.d 4 ki] [(0,⟨[.d 0 G4,.d 1 ki,.d 5 ki],af (dk pG)⟩)] [] Tryz.f219 (lp [0] (sc cN sn))
def F3 (p0:List R3) (p1:Int):Option gY :=
 let u1:=(aM .i64 p1 (ae p0))
 cond (au u1 0) (
 c3
 ) (
 some ((),((u1,()),()))
 )
def YB:Su:=⟨[.c false [q3],.c false [ki]],[(false,[ki])],true,.inl fun x=>F3 x.1.1 x.2.1.1⟩
theorem OB:ar Tryz.prog 113 YB :=
 fq an Tryz.f113
def MS (p0:Int×Int×(List R3)×(List R3)×Unit) (p1:Int):Option gY :=
 (F3 p0.2.2.1 p1).bind fun y1 =>
 cond (au y1.2.1.1 0) (
 c3
 ) (
 (F3 p0.2.2.2.1 y1.2.1.1).bind fun y2 =>
 cond (au y2.2.1.1 0) (
 c3
 ) (
 some ((),(y2.2.1,()))
 )
 )
def ZU:Su:=⟨[.c true [ki,ki,q3,q3],.c false [ki]],[(false,[ki])],true,.inl fun x=>MS x.1 x.2.1.1⟩
theorem UD:ar Tryz.prog 220 ZU :=
 fq (ac OB an) Tryz.f220
def Hk (p0:List R5) (p1:Int):Option gY :=
 let u1:=(aM .i64 p1 (ae p0))
 cond (au u1 0) (
 c3
 ) (
 some ((),((u1,()),()))
 )
def YM:Su:=⟨[.c false [q5],.c false [ki]],[(false,[ki])],true,.inl fun x=>Hk x.1.1 x.2.1.1⟩
theorem PF:ar Tryz.prog 112 YM :=
 fq an Tryz.f112
def Ma (p0:(List UInt8)×(List UInt8)×(List R5)×Unit) (p1:Int):Option gY :=
 let u1:=(aM .i64 p1 (ae p0.1))
 cond (au u1 0) (
 c3
 ) (
 let u2:=(aM .i64 u1 (ae p0.2.1))
 cond (au u2 0) (
 c3
 ) (
 (Hk p0.2.2.1 u2).bind fun y1 =>
 cond (au y1.2.1.1 0) (
 c3
 ) (
 some ((),(y1.2.1,()))
 )
 )
 )
def Zx:Su:=⟨[.c true [.str,.str,q5],.c false [ki]],[(false,[ki])],true,.inl fun x=>Ma x.1 x.2.1.1⟩
theorem Vg:ar Tryz.prog 284 Zx :=
 fq (ac PF an) Tryz.f284
def ob (t0:List lT) (t1 t5:Int):Rd ((List lT)×Int×Int×Unit) Y0 :=
 cond (au t5 (ae t0)) (
 cond (aR t5 t0) (
 (Ma (gt d255 t0 t5) t1).bind fun y1 =>
 cond (au y1.2.1.1 0) (
 some (.inr (.inr ((-1),())))
 ) (
 some (.inl (t0,y1.2.1.1,(ai .i64 t5 1),()))
 )
 ) none
 ) (
 some (.inr (.inl (t0,t1,t5,())))
 )
def JS:=kD (af (dk ob))
def Nd (p0:List lT) (p1:Int):Option gY :=
 let u1:=(aM .i64 p1 (ae p0))
 cond (au u1 0) (
 c3
 ) (
 (JS p0 u1 0).bind (Sum.elim (fun y1 =>
 some ((),((y1.2.1,()),()))
 ) (fun y1 =>
 some ((),(y1,()))
 ))
 )
def Zw:Su:=⟨[.c false [F5],.c false [ki]],[(false,[ki])],true,.inl fun x=>Nd x.1.1 x.2.1.1⟩
theorem VA:ar Tryz.prog 221 Zw :=
 fl (ac Vg an) [.d 4 ki] [(0,⟨[.d 0 F5,.d 1 ki,.d 5 ki],af (dk ob)⟩)] [] Tryz.f221 (lp [0] (sc cN sn))
def MV (p0:(List UInt8)×Int×Int×Int×Int×(List mg)×Int×Int×(List R3)×(List R3)×(List lT)×Unit) (p1:Int):Option gY :=
 let u1:=(aM .i64 p1 (ae p0.1))
 cond (au u1 0) (
 c3
 ) (
 (Oj p0.2.2.2.2.2.1 u1).bind fun y1 =>
 cond (au y1.2.1.1 0) (
 c3
 ) (
 (MS (p0.2.2.2.2.2.2.1,p0.2.2.2.2.2.2.2.1,p0.2.2.2.2.2.2.2.2.1,p0.2.2.2.2.2.2.2.2.2.1,()) y1.2.1.1).bind fun y2 =>
 cond (au y2.2.1.1 0) (
 c3
 ) (
 (Nd p0.2.2.2.2.2.2.2.2.2.2.1 y2.2.1.1).bind fun y3 =>
 cond (au y3.2.1.1 0) (
 c3
 ) (
 some ((),(y3.2.1,()))
 )
 )
 )
 )
def YK:Su:=⟨[.c true [.str,ki,ki,ki,ki,G4,ki,ki,q3,q3,F5],.c false [ki]],[(false,[ki])],true,.inl fun x=>MV x.1 x.2.1.1⟩
theorem T6:ar Tryz.prog 174 YK :=
 fq (ac Vx (ac UD (ac VA an))) Tryz.f174
def pZ (t0:List gL) (t1 t5:Int):Rd ((List gL)×Int×Int×Unit) Y0 :=
 cond (au t5 (ae t0)) (
 cond (aR t5 t0) (
 (MV (gt d164 t0 t5) t1).bind fun y1 =>
 cond (au y1.2.1.1 0) (
 some (.inr (.inr ((-1),())))
 ) (
 some (.inl (t0,y1.2.1.1,(ai .i64 t5 1),()))
 )
 ) none
 ) (
 some (.inr (.inl (t0,t1,t5,())))
 )
def Kr:=kD (af (dk pZ))
def Mo (p0:List gL) (p1:Int):Option gY :=
 let u1:=(aM .i64 p1 (ae p0))
 cond (au u1 0) (
 c3
 ) (
 (Kr p0 u1 0).bind (Sum.elim (fun y1 =>
 some ((),((y1.2.1,()),()))
 ) (fun y1 =>
 some ((),(y1,()))
 ))
 )
def abp:Su:=⟨[.c false [FY],.c false [ki]],[(false,[ki])],true,.inl fun x=>Mo x.1.1 x.2.1.1⟩
theorem Uc:ar Tryz.prog 111 abp :=
 fl (ac T6 an) [.d 4 ki] [(0,⟨[.d 0 FY,.d 1 ki,.d 5 ki],af (dk pZ)⟩)] [] Tryz.f111 (lp [0] (sc cN sn))
def WS (p0:Int×(List gL)×Unit) (p1:Int):Option gY :=
 (Mo p0.2.1 p1).bind fun y1 =>
 cond (au y1.2.1.1 0) (
 c3
 ) (
 some ((),(y1.2.1,()))
 )
def s55:Su:=⟨[.c true [ki,FY],.c false [ki]],[(false,[ki])],true,.inl fun x=>WS x.1 x.2.1.1⟩
theorem YG:ar Tryz.prog 55 s55 :=
 fq (ac Uc an) Tryz.f55
def xp (t0:List p7) (t1 t5:Int):Rd ((List p7)×Int×Int×Unit) Y0 :=
 cond (au t5 (ae t0)) (
 cond (aR t5 t0) (
 (WS (gt d81 t0 t5) t1).bind fun y1 =>
 cond (au y1.2.1.1 0) (
 some (.inr (.inr ((-1),())))
 ) (
 some (.inl (t0,y1.2.1.1,(ai .i64 t5 1),()))
 )
 ) none
 ) (
 some (.inr (.inl (t0,t1,t5,())))
 )
def PS:=kD (af (dk xp))
def g23 (p0:List p7) (p1:Int):Option gY :=
 let u1:=(aM .i64 p1 (ae p0))
 cond (au u1 0) (
 c3
 ) (
 (PS p0 u1 0).bind (Sum.elim (fun y1 =>
 some ((),((y1.2.1,()),()))
 ) (fun y1 =>
 some ((),(y1,()))
 ))
 )
def s23:Su:=⟨[.c false [SH],.c false [ki]],[(false,[ki])],true,.inl fun x=>g23 x.1.1 x.2.1.1⟩
theorem aaD:ar Tryz.prog 23 s23 :=
 fl (ac YG an) [.d 4 ki] [(0,⟨[.d 0 SH,.d 1 ki,.d 5 ki],af (dk xp)⟩)] [] Tryz.f23 (lp [0] (sc cN sn))
def Xo (p0:(List R5)×Int×(List R3)×Int×Int×Int×Int×Int×(List R5)×Unit) (p1:Int):Option gY :=
 (Hk p0.1 p1).bind fun y1 =>
 cond (au y1.2.1.1 0) (
 c3
 ) (
 (F3 p0.2.2.1 y1.2.1.1).bind fun y2 =>
 cond (au y2.2.1.1 0) (
 c3
 ) (
 (Hk p0.2.2.2.2.2.2.2.2.1 y2.2.1.1).bind fun y3 =>
 cond (au y3.2.1.1 0) (
 c3
 ) (
 some ((),(y3.2.1,()))
 )
 )
 )
def s56:Su:=⟨[.c true [q5,ki,q3,ki,ki,ki,ki,ki,q5],.c false [ki]],[(false,[ki])],true,.inl fun x=>Xo x.1 x.2.1.1⟩
theorem YD:ar Tryz.prog 56 s56 :=
 fq (ac OB (ac PF an)) Tryz.f56
def vq (t0:List nJ) (t1 t5:Int):Rd ((List nJ)×Int×Int×Unit) Y0 :=
 cond (au t5 (ae t0)) (
 cond (aR t5 t0) (
 (Xo (gt d83 t0 t5) t1).bind fun y1 =>
 cond (au y1.2.1.1 0) (
 some (.inr (.inr ((-1),())))
 ) (
 some (.inl (t0,y1.2.1.1,(ai .i64 t5 1),()))
 )
 ) none
 ) (
 some (.inr (.inl (t0,t1,t5,())))
 )
def Pu:=kD (af (dk vq))
def g24 (p0:List nJ) (p1:Int):Option gY :=
 let u1:=(aM .i64 p1 (ae p0))
 cond (au u1 0) (
 c3
 ) (
 (Pu p0 u1 0).bind (Sum.elim (fun y1 =>
 some ((),((y1.2.1,()),()))
 ) (fun y1 =>
 some ((),(y1,()))
 ))
 )
def s24:Su:=⟨[.c false [SB],.c false [ki]],[(false,[ki])],true,.inl fun x=>g24 x.1.1 x.2.1.1⟩
theorem XV:ar Tryz.prog 24 s24 :=
 fl (ac YD an) [.d 4 ki] [(0,⟨[.d 0 SB,.d 1 ki,.d 5 ki],af (dk vq)⟩)] [] Tryz.f24 (lp [0] (sc cN sn))
def g7 (p0:(List p7)×Int×Int×(List nJ)×Unit) (p1:Int):Option gY :=
 (g23 p0.1 p1).bind fun y1 =>
 cond (au y1.2.1.1 0) (
 c3
 ) (
 (g24 p0.2.2.2.1 y1.2.1.1).bind fun y2 =>
 cond (au y2.2.1.1 0) (
 c3
 ) (
 some ((),(y2.2.1,()))
 )
 )
def s7:Su:=⟨[.c true [SH,ki,ki,SB],.c false [ki]],[(false,[ki])],true,.inl fun x=>g7 x.1 x.2.1.1⟩
theorem ok7:ar Tryz.prog 7 s7 :=
 fq (ac aaD (ac XV an)) Tryz.f7
def Nb (p0:(List UInt8)×Int×Int×Unit):Option (Unit×(S1×Unit)) :=
 some ((),(p0,()))
def aaO:Su:=⟨[.c true [.str,ki,ki]],[(true,[.str,ki,ki])],true,.inl fun x=>Nb x.1⟩
theorem WB:ar Tryz.prog 285 aaO :=
 fq an Tryz.f285
def oH (t0:List mg) (t3:List gr) (t4:Int):Rd ((List mg)×(List gr)×Int×Unit) Unit :=
 cond (au t4 (ae t0)) (
 cond (aR t4 t0) (
 (Nb (gt d253 t0 t4)).bind fun y1 =>
 cond (aR t4 t3) (
 let u1:=(gt d95 t3 t4)
 let u2:=(jl t3 t4 (y1.2.1.1,u1.2.1,u1.2.2.1,()))
 let u3:=(gt d95 u2 t4)
 let u4:=(jl u2 t4 (u3.1,y1.2.1.2.1,u3.2.2.1,()))
 let u5:=(gt d95 u4 t4)
 some (.inl (t0,(jl u4 t4 (u5.1,u5.2.1,y1.2.1.2.2.1,())),(ai .i64 t4 1),()))
 ) none
 ) none
 ) (
 some (.inr (.inl (t0,t3,t4,())))
 )
def Hz:=kD (af (dk oH))
def Og (p0:List mg):Option (Unit×(((List gr)×Unit)×Unit)) :=
 let u1:=(ae p0)
 cond (Mn 32 u1) (
 (Hz p0 (xh d95 u1) 0).bind (Sum.elim (fun y1 =>
 some ((),((y1.2.1,()),()))
 ) (fun _ =>
 none
 ))
 ) none
def ZG:Su:=⟨[.c false [G4]],[(false,[ma])],true,.inl fun x=>Og x.1.1⟩
theorem VO:ar Tryz.prog 231 ZG :=
 fl (ac WB an) [] [(0,⟨[.d 0 G4,.own 3 ma,.d 4 ki],af (dk oH)⟩)] [] Tryz.f231 (lp [0] (sc cN sn))
def nZ (t0 t3:List R3) (t4:Int):Rd ((List R3)×(List R3)×Int×Unit) Unit :=
 cond (au t4 (ae t0)) (
 cond (aR t4 t0) (
 cond (aR t4 t3) (
 some (.inl (t0,(jl t3 t4 (gt d3 t0 t4)),(ai .i64 t4 1),()))
 ) none
 ) none
 ) (
 some (.inr (.inl (t0,t3,t4,())))
 )
def Ll:=kD (af (dk nZ))
def Fz (p0:List R3):Option O7 :=
 let u1:=(ae p0)
 cond (Mn 8 u1) (
 (Ll p0 (xh d3 u1) 0).bind (Sum.elim (fun y1 =>
 some ((),((y1.2.1,()),()))
 ) (fun _ =>
 none
 ))
 ) none
def abf:Su:=⟨[.c false [q3]],[(false,[q3])],true,.inl fun x=>Fz x.1.1⟩
theorem PI:ar Tryz.prog 132 abf :=
 fl an [] [(0,⟨[.d 0 q3,.own 3 q3,.d 4 ki],af (dk nZ)⟩)] [] Tryz.f132 (lp [0] (sc cN sn))
def MD (p0:Int×Int×(List R3)×(List R3)×Unit):Option XG :=
 (Fz p0.2.2.1).bind fun y1 =>
 (Fz p0.2.2.2.1).bind fun y2 =>
 some ((),((p0.1,p0.2.1,y1.2.1.1,y2.2.1.1,()),()))
def XE:Su:=⟨[.c true [ki,ki,q3,q3]],[(true,[ki,ki,q3,q3])],true,.inl fun x=>MD x.1⟩
theorem Wf:ar Tryz.prog 232 XE :=
 fq (ac PI an) Tryz.f232
def xm (t0 t3:List R5) (t4:Int):Rd ((List R5)×(List R5)×Int×Unit) Unit :=
 cond (au t4 (ae t0)) (
 cond (aR t4 t0) (
 cond (aR t4 t3) (
 some (.inl (t0,(jl t3 t4 (gt d5 t0 t4)),(ai .i64 t4 1),()))
 ) none
 ) none
 ) (
 some (.inr (.inl (t0,t3,t4,())))
 )
def OS:=kD (af (dk xm))
def g17 (p0:List R5):Option (Unit×(((List R5)×Unit)×Unit)) :=
 let u1:=(ae p0)
 cond (Mn 1 u1) (
 (OS p0 (xh d5 u1) 0).bind (Sum.elim (fun y1 =>
 some ((),((y1.2.1,()),()))
 ) (fun _ =>
 none
 ))
 ) none
def s17:Su:=⟨[.c false [q5]],[(false,[q5])],true,.inl fun x=>g17 x.1.1⟩
theorem WI:ar Tryz.prog 17 s17 :=
 fl an [] [(0,⟨[.d 0 q5,.own 3 q5,.d 4 ki],af (dk xm)⟩)] [] Tryz.f17 (lp [0] (sc cN sn))
def Nv (p0:(List UInt8)×(List UInt8)×(List R5)×Unit):Option (Unit×(lT×Unit)) :=
 (g17 p0.2.2.1).bind fun y1 =>
 some ((),((p0.1,p0.2.1,y1.2.1.1,()),()))
def YQ:Su:=⟨[.c true [.str,.str,q5]],[(true,[.str,.str,q5])],true,.inl fun x=>Nv x.1⟩
theorem Wg:ar Tryz.prog 286 YQ :=
 fq (ac WI an) Tryz.f286
def oZ (t0:List lT) (t3:List cu) (t4:Int):Rd ((List lT)×(List cu)×Int×Unit) Unit :=
 cond (au t4 (ae t0)) (
 cond (aR t4 t0) (
 (Nv (gt d255 t0 t4)).bind fun y1 =>
 cond (aR t4 t3) (
 let u1:=(gt d166 t3 t4)
 let u2:=(jl t3 t4 (y1.2.1.1,u1.2.1,u1.2.2.1,()))
 let u3:=(gt d166 u2 t4)
 let u4:=(jl u2 t4 (u3.1,y1.2.1.2.1,u3.2.2.1,()))
 let u5:=(gt d166 u4 t4)
 some (.inl (t0,(jl u4 t4 (u5.1,u5.2.1,y1.2.1.2.2.1,())),(ai .i64 t4 1),()))
 ) none
 ) none
 ) (
 some (.inr (.inl (t0,t3,t4,())))
 )
def Jf:=kD (af (dk oZ))
def Mf (p0:List lT):Option ZK :=
 let u1:=(ae p0)
 cond (Mn 56 u1) (
 (Jf p0 (xh d166 u1) 0).bind (Sum.elim (fun y1 =>
 some ((),((y1.2.1,()),()))
 ) (fun _ =>
 none
 ))
 ) none
def X8:Su:=⟨[.c false [F5]],[(false,[dP])],true,.inl fun x=>Mf x.1.1⟩
theorem T7:ar Tryz.prog 233 X8 :=
 fl (ac Wg an) [] [(0,⟨[.d 0 F5,.own 3 dP,.d 4 ki],af (dk oZ)⟩)] [] Tryz.f233 (lp [0] (sc cN sn))
def MP (p0:(List UInt8)×Int×Int×Int×Int×(List mg)×Int×Int×(List R3)×(List R3)×(List lT)×Unit):Option Y70 :=
 (Og p0.2.2.2.2.2.1).bind fun y1 =>
 (MD (p0.2.2.2.2.2.2.1,p0.2.2.2.2.2.2.2.1,p0.2.2.2.2.2.2.2.2.1,p0.2.2.2.2.2.2.2.2.2.1,())).bind fun y2 =>
 (Mf p0.2.2.2.2.2.2.2.2.2.2.1).bind fun y3 =>
 some ((),((p0.1,p0.2.1,p0.2.2.1,p0.2.2.2.1,p0.2.2.2.2.1,y1.2.1.1,y2.2.1.1,y2.2.1.2.1,y2.2.1.2.2.1,y2.2.1.2.2.2.1,y3.2.1.1,()),()))
def aa2:Su:=⟨[.c true [.str,ki,ki,ki,ki,G4,ki,ki,q3,q3,F5]],[(true,[.str,ki,ki,ki,ki,ma,ki,ki,q3,q3,dP])],true,.inl fun x=>MP x.1⟩
theorem TE:ar Tryz.prog 183 aa2 :=
 fq (ac VO (ac Wf (ac T7 an))) Tryz.f183
def ph (t0:List gL) (t3:List dp) (t4:Int):Rd ((List gL)×(List dp)×Int×Unit) Unit :=
 cond (au t4 (ae t0)) (
 cond (aR t4 t0) (
 (MP (gt d164 t0 t4)).bind fun y1 =>
 cond (aR t4 t3) (
 some (.inl (t0,(jl t3 t4 y1.2.1),(ai .i64 t4 1),()))
 ) none
 ) none
 ) (
 some (.inr (.inl (t0,t3,t4,())))
 )
def KJ:=kD (af (dk ph))
def L7 (p0:List gL):Option SR :=
 let u1:=(ae p0)
 cond (Mn 160 u1) (
 (KJ p0 (xh d59 u1) 0).bind (Sum.elim (fun y1 =>
 some ((),((y1.2.1,()),()))
 ) (fun _ =>
 none
 ))
 ) none
def aam:Su:=⟨[.c false [FY]],[(false,[fF])],true,.inl fun x=>L7 x.1.1⟩
theorem UZ:ar Tryz.prog 131 aam :=
 fl (ac TE an) [] [(0,⟨[.d 0 FY,.own 3 fF,.d 4 ki],af (dk ph)⟩)] [] Tryz.f131 (lp [0] (sc cN sn))
def Xb (p0:Int×(List gL)×Unit):Option (Unit×(VV×Unit)) :=
 (L7 p0.2.1).bind fun y1 =>
 some ((),((p0.1,y1.2.1.1,()),()))
def s71:Su:=⟨[.c true [ki,FY]],[(true,[ki,fF])],true,.inl fun x=>Xb x.1⟩
theorem YX:ar Tryz.prog 71 s71 :=
 fq (ac UZ an) Tryz.f71
def vR (t0:List p7) (t3:List eb) (t4:Int):Rd ((List p7)×(List eb)×Int×Unit) Unit :=
 cond (au t4 (ae t0)) (
 cond (aR t4 t0) (
 (Xb (gt d81 t0 t4)).bind fun y1 =>
 cond (aR t4 t3) (
 let u1:=(jl t3 t4 (y1.2.1.1,(gt d89 t3 t4).2.1,()))
 some (.inl (t0,(jl u1 t4 ((gt d89 u1 t4).1,y1.2.1.2.1,())),(ai .i64 t4 1),()))
 ) none
 ) none
 ) (
 some (.inr (.inl (t0,t3,t4,())))
 )
def PQ:=kD (af (dk vR))
def Xd (p0:List p7):Option Y31 :=
 let u1:=(ae p0)
 cond (Mn 32 u1) (
 (PQ p0 (xh d89 u1) 0).bind (Sum.elim (fun y1 =>
 some ((),((y1.2.1,()),()))
 ) (fun _ =>
 none
 ))
 ) none
def s30:Su:=⟨[.c false [SH]],[(false,[fW])],true,.inl fun x=>Xd x.1.1⟩
theorem Yj:ar Tryz.prog 30 s30 :=
 fl (ac YX an) [] [(0,⟨[.d 0 SH,.own 3 fW,.d 4 ki],af (dk vR)⟩)] [] Tryz.f30 (lp [0] (sc cN sn))
def Xw (p0:(List R5)×Int×(List R3)×Int×Int×Int×Int×Int×(List R5)×Unit):Option XY :=
 (g17 p0.1).bind fun y1 =>
 (Fz p0.2.2.1).bind fun y2 =>
 (g17 p0.2.2.2.2.2.2.2.2.1).bind fun y3 =>
 some ((),((y1.2.1.1,p0.2.1,y2.2.1.1,p0.2.2.2.1,p0.2.2.2.2.1,p0.2.2.2.2.2.1,p0.2.2.2.2.2.2.1,p0.2.2.2.2.2.2.2.1,y3.2.1.1,()),()))
def s72:Su:=⟨[.c true [q5,ki,q3,ki,ki,ki,ki,ki,q5]],[(true,[q5,ki,q3,ki,ki,ki,ki,ki,q5])],true,.inl fun x=>Xw x.1⟩
theorem Yc:ar Tryz.prog 72 s72 :=
 fq (ac PI (ac WI an)) Tryz.f72
def wZ (t0:List nJ) (t3:List gy) (t4:Int):Rd ((List nJ)×(List gy)×Int×Unit) Unit :=
 cond (au t4 (ae t0)) (
 cond (aR t4 t0) (
 (Xw (gt d83 t0 t4)).bind fun y1 =>
 cond (aR t4 t3) (
 some (.inl (t0,(jl t3 t4 y1.2.1),(ai .i64 t4 1),()))
 ) none
 ) none
 ) (
 some (.inr (.inl (t0,t3,t4,())))
 )
def Oq:=kD (af (dk wZ))
def Xg (p0:List nJ):Option (Unit×(((List gy)×Unit)×Unit)) :=
 let u1:=(ae p0)
 cond (Mn 120 u1) (
 (Oq p0 (xh d62 u1) 0).bind (Sum.elim (fun y1 =>
 some ((),((y1.2.1,()),()))
 ) (fun _ =>
 none
 ))
 ) none
def s31:Su:=⟨[.c false [SB]],[(false,[jW])],true,.inl fun x=>Xg x.1.1⟩
theorem aax:ar Tryz.prog 31 s31 :=
 fl (ac Yc an) [] [(0,⟨[.d 0 SB,.own 3 jW,.d 4 ki],af (dk wZ)⟩)] [] Tryz.f31 (lp [0] (sc cN sn))
def g9 (p0:(List p7)×Int×Int×(List nJ)×Unit):Option ZH :=
 (Xd p0.1).bind fun y1 =>
 (Xg p0.2.2.2.1).bind fun y2 =>
 some ((),((y1.2.1.1,p0.2.1,p0.2.2.1,y2.2.1.1,()),()))
def s9:Su:=⟨[.c true [SH,ki,ki,SB]],[(true,[fW,ki,ki,jW])],true,.inl fun x=>g9 x.1⟩
theorem ok9:ar Tryz.prog 9 s9 :=
 fq (ac Yj (ac aax an)) Tryz.f9
def qN (p0 p1 p2:Int):Option ed :=
 some ((),(((cond (bH p1 p0) (bH p0 p2) false),()),()))
def s39:Su:=⟨[.c false [ki],.c false [ki],.c false [ki]],[(false,[.bool])],true,.inl fun x=>qN x.1.1 x.2.1.1 x.2.2.1.1⟩
theorem nY:ar Tryz.prog 39 s39 :=
 fq an Tryz.f39
def Lk (p0:Int×Int×(List R3)×(List R3)×Unit):Option XG :=
 cond (ct 8 [] p0.2.2.1) (
 cond (ct 8 [] p0.2.2.2.1) (
 some ((),((p0.1,p0.2.1,(j3 [] p0.2.2.1),(j3 [] p0.2.2.2.1),()),()))
 ) none
 ) none
def abn:Su:=⟨[.c true [ki,ki,q3,q3]],[(true,[ki,ki,q3,q3])],true,.inl fun x=>Lk x.1⟩
theorem Tc:ar Tryz.prog 117 abn :=
 fq an Tryz.f117
def qd (t3 t7:List cu) (t8 t9:Int):Rd WQ Unit :=
 cond (au t9 t8) (
 cond (aR t9 t7) (
 let u1:=(gt d166 t7 t9)
 cond (ct 1 [] u1.2.2.1) (
 cond (ct 56 t3 [(u1.1,u1.2.1,(j3 [] u1.2.2.1),())]) (
 some (.inl ((j3 t3 [(u1.1,u1.2.1,(j3 [] u1.2.2.1),())]),t7,t8,(ai .i64 t9 1),()))
 ) none
 ) none
 ) none
 ) (
 some (.inr (.inl (t3,t7,t8,t9,())))
 )
def HS:=mc (af (cV qd))
def N2 (p0:List cu):Option ZK :=
 (HS [] p0 (ae p0) 0).bind (Sum.elim (fun y1 =>
 some ((),((y1.1,()),()))
 ) (fun _ =>
 none
 ))
def aay:Su:=⟨[.c false [dP]],[(false,[dP])],true,.inl fun x=>N2 x.1.1⟩
theorem Tm:ar Tryz.prog 118 aay :=
 fl an [] [(0,⟨[.own 3 dP,.d 7 dP,.d 8 ki,.d 9 ki],af (cV qd)⟩)] [] Tryz.f118 (lp [0] (sc cN sn))
def Tj (p0:(List UInt8)×Int×Int×Int×Int×(List gr)×Int×Int×(List R3)×(List R3)×(List cu)×Unit):Option Y70 :=
 cond (ct 32 [] p0.2.2.2.2.2.1) (
 (Lk (p0.2.2.2.2.2.2.1,p0.2.2.2.2.2.2.2.1,p0.2.2.2.2.2.2.2.2.1,p0.2.2.2.2.2.2.2.2.2.1,())).bind fun y1 =>
 (N2 p0.2.2.2.2.2.2.2.2.2.2.1).bind fun y2 =>
 some ((),((p0.1,p0.2.1,p0.2.2.1,p0.2.2.2.1,p0.2.2.2.2.1,(j3 [] p0.2.2.2.2.2.1),y1.2.1.1,y1.2.1.2.1,y1.2.1.2.2.1,y1.2.1.2.2.2.1,y2.2.1.1,()),()))
 ) none
def s63:Su:=⟨[.c true [.str,ki,ki,ki,ki,ma,ki,ki,q3,q3,dP]],[(true,[.str,ki,ki,ki,ki,ma,ki,ki,q3,q3,dP])],true,.inl fun x=>Tj x.1⟩
theorem NW:ar Tryz.prog 63 s63 :=
 fq (ac Tc (ac Tm an)) Tryz.f63
def vY (t3:List dp) (t8:Int) (t11:List eb) (t12 t13:Int) (t18:List dp) (t19 t20:Int) (b2:(List dp)×Unit) (b7:(List UInt8)×Int×Int×Int×Int×(List gr)×Int×Int×(List R3)×(List R3)×(List cu)×Unit):Rd ((List dp)×Int×(List eb)×Int×Int×(List dp)×Int×Int×Y4×dp×Unit) Unit :=
 cond (au 0 t8) (
 let u1:=(aM .i64 t8 1)
 cond (aR u1 t3) (
 cond (!(Qi (gt d59 t3 u1).1 b7.1)) (
 some (.inl (t3,u1,t11,t12,t13,t18,t19,t20,b2,b7,()))
 ) (
 some (.inr (.inl (t3,t8,t11,t12,t13,t18,t19,t20,b2,b7,())))
 )
 ) none
 ) (
 some (.inr (.inl (t3,t8,t11,t12,t13,t18,t19,t20,b2,b7,())))
 )
def Ci:=Ti (af (Bp vY))
def th (t3:List dp) (t11:List eb) (t12 t13:Int) (t18:List dp) (t19 t20:Int) (b2:(List dp)×Unit):Rd ((List dp)×(List eb)×Int×Int×(List dp)×Int×Int×Y4×Unit) Unit :=
 cond (au t20 t19) (
 cond (aR t20 t18) (
 (Ci t3 (ae t3) t11 t12 t13 t18 t19 t20 b2 (gt d59 t18 t20)).bind (Sum.elim (fun y1 =>
 cond (dO 0 y1.2.1 y1.1) (
 cond (VC 160 [] y1.1 y1.2.1) (
 (Tj y1.2.2.2.2.2.2.2.2.2.1).bind fun y2 =>
 let u1:=(j3 [] (PU y1.1 y1.2.1))
 cond (ct 160 u1 [y2.2.1]) (
 cond (QP y1.2.1 y1.2.1) (
 let u2:=(j3 u1 [y2.2.1])
 let u3:=(drI y1.1 y1.2.1)
 cond (ct 160 u2 u3) (
 some (.inl ((j3 u2 u3),y1.2.2.1,y1.2.2.2.1,y1.2.2.2.2.1,y1.2.2.2.2.2.1,y1.2.2.2.2.2.2.1,(ai .i64 y1.2.2.2.2.2.2.2.1 1),y1.2.2.2.2.2.2.2.2.1,()))
 ) none
 ) none
 ) none
 ) none
 ) none
 ) (fun _ =>
 some (.inr (.inr ()))
 ))
 ) none
 ) (
 some (.inr (.inl (t3,t11,t12,t13,t18,t19,t20,b2,())))
 )
def EL:=SU (af (yz th))
def tz (t3:List dp) (t11:List eb) (t12 t13:Int) (b2:(List dp)×Unit):Rd ((List dp)×(List eb)×Int×Int×Y4×Unit) Unit :=
 cond (au t13 t12) (
 cond (aR t13 t11) (
 (EL t3 t11 t12 t13 (gt d89 t11 t13).2.1 (ae (gt d89 t11 t13).2.1) 0 b2).bind (Sum.elim (fun y1 =>
 some (.inl (y1.1,y1.2.1,y1.2.2.1,(ai .i64 y1.2.2.2.1 1),y1.2.2.2.2.2.2.2.1,()))
 ) (fun _ =>
 some (.inr (.inr ()))
 ))
 ) none
 ) (
 some (.inr (.inl (t3,t11,t12,t13,b2,())))
 )
def Ew:=xP (af (fh tz))
def Pb (p0:List eb):Option SR :=
 (Ew [] p0 (ae p0) 0 ([],())).bind (Sum.elim (fun y1 =>
 some ((),((y1.1,()),()))
 ) (fun _ =>
 none
 ))
def WV:Su:=⟨[.c false [fW]],[(true,[fF])],true,.inl fun x=>Pb x.1.1⟩
def wv:List SE:=[.own 3 fF,.d 8 ki,.d 11 fW,.d 12 ki,.d 13 ki,.d 18 fF,.d 19 ki,.d 20 ki,.box 2 [(true,fF)],.box 7 [(false,.str),(false,ki),(false,ki),(false,ki),(false,ki),(false,ma),(false,ki),(false,ki),(false,q3),(false,q3),(false,dP)]]
def vP:List SE:=[.own 3 fF,.d 11 fW,.d 12 ki,.d 13 ki,.d 18 fF,.d 19 ki,.d 20 ki,.box 2 [(true,fF)]]
def uG:List SE:=[.own 3 fF,.d 11 fW,.d 12 ki,.d 13 ki,.box 2 [(true,fF)]]
def RQ:List SE:=[]
def Ws:Nat->Option (Lo RQ)
 | 4=>some ⟨wv,Bp Ci⟩
 | 2=>some ⟨vP,yz EL⟩
 | 0=>some ⟨uG,fh Ew⟩
 | _=>none
def IK:List (Nat×SS):=[(63,iS s63)]
def BK:En:=zJ 60 tt IK RQ Ws [] fun _=>none
def YP:Nat->Option (St->Tr St)
 | 11=>some (vT BK (fP (bh 11 (ak Tryz.f27)) 0).op 49 49 49 3 8 41 42 43 44 45 9)
 | 13=>some (Cw BK 49 49 49 9 3 8 51 52 53 54 55)
 | _=>none
def HV:En:=zJ 60 tt IK RQ Ws [] (YP)
theorem T8 (x:bM wv):(dh HV 4 wv (bc 4 (ak Tryz.f27)) x).run=Bp vY x:=by kernel_rfl
theorem VF (x:bM vP):(dh HV 2 vP (bc 2 (ak Tryz.f27)) x).run=yz th x:=by kernel_rfl
theorem UO (x:bM uG):(dh HV 0 uG (bc 0 (ak Tryz.f27)) x).run=fh tz x:=by kernel_rfl
theorem t27 (x:PT WV.ps):(GM HV (ak Tryz.f27) Tryz.f27.results.toList WV.ps WV.rs true x).run=Pb x.1.1:=by kernel_rfl
theorem EH:dm Tryz.prog HV:=cZ (l:=IK) ⟨NW,trivial⟩
theorem GL:dm Tryz.prog BK:=cZ (l:=IK) ⟨NW,trivial⟩
theorem Sq:cP Tryz.prog HV (bh 11 (ak Tryz.f27)) (vT BK (fP (bh 11 (ak Tryz.f27)) 0).op 49 49 49 3 8 41 42 43 44 45 9) :=
 gB rfl rfl (IB (E:=BK) (lN hT) GL (cd:=(bh 11 (ak Tryz.f27))) (rid:=11) (o1:=fP (bh 11 (ak Tryz.f27)) 0) (o2:=fP (bh 11 (ak Tryz.f27)) 1) (o3:=fP (bh 11 (ak Tryz.f27)) 2) (o4:=fP (bh 11 (ak Tryz.f27)) 3) (o5:=fP (bh 11 (ak Tryz.f27)) 4) (o6:=fP (bh 11 (ak Tryz.f27)) 5) (c:=Ak (fP (bh 11 (ak Tryz.f27)) 4)) (tys:=[])
  (by kernel_rfl) (by kernel_rfl) (by kernel_rfl) (by kernel_rfl) (by kernel_rfl) (by kernel_rfl) (by kernel_rfl) (by kernel_rfl) (by kernel_rfl) (by kernel_rfl) (by kernel_rfl) (by kernel_rfl) (by kernel_rfl) (by kernel_rfl) (by kernel_rfl) (by kernel_rfl) (by kernel_rfl) (by kernel_rfl) (by kernel_rfl) (by kernel_rfl) (by kernel_rfl))
theorem F8:dm Tryz.prog BK:=cZ (l:=IK) ⟨NW,trivial⟩
theorem Rb:cP Tryz.prog HV (bh 13 (ak Tryz.f27)) (Cw BK 49 49 49 9 3 8 51 52 53 54 55) :=
 gB rfl rfl (Mh (E:=BK) (lN hT) F8 (cd:=(bh 13 (ak Tryz.f27))) (rid:=13) (o1:=fP (bh 13 (ak Tryz.f27)) 0) (o2:=fP (bh 13 (ak Tryz.f27)) 1) (o3:=fP (bh 13 (ak Tryz.f27)) 2) (o4:=fP (bh 13 (ak Tryz.f27)) 3) (o5:=fP (bh 13 (ak Tryz.f27)) 4) (o6:=fP (bh 13 (ak Tryz.f27)) 5) (c:=Ak (fP (bh 13 (ak Tryz.f27)) 4)) (tys:=[])
  (by kernel_rfl) (by kernel_rfl) (by kernel_rfl) (by kernel_rfl) (by kernel_rfl) (by kernel_rfl) (by kernel_rfl) (by kernel_rfl) (by kernel_rfl) (by kernel_rfl) (by kernel_rfl) (by kernel_rfl) (by kernel_rfl) (by kernel_rfl) (by kernel_rfl) (by kernel_rfl) (by kernel_rfl) (by kernel_rfl) (by kernel_rfl) (by kernel_rfl) (by kernel_rfl) (by kernel_rfl))
theorem Va:cr Tryz.prog HV 4 (.loop (bc 4 (ak Tryz.f27))) ⟨wv,Bp Ci⟩ :=
 eC (lN hT) EH eP (step:=fun (x:bM wv)=>vY x.1 x.2.1 x.2.2.1 x.2.2.2.1 x.2.2.2.2.1 x.2.2.2.2.2.1 x.2.2.2.2.2.2.1 x.2.2.2.2.2.2.2.1 x.2.2.2.2.2.2.2.2.1 x.2.2.2.2.2.2.2.2.2.1) T8 (ba [] (by kernel_rfl) trivial [] (by kernel_rfl) trivial)
theorem V7:cr Tryz.prog HV 2 (.loop (bc 2 (ak Tryz.f27))) ⟨vP,yz EL⟩ :=
 eC (lN hT) EH eP (step:=fun (x:bM vP)=>th x.1 x.2.1 x.2.2.1 x.2.2.2.1 x.2.2.2.2.1 x.2.2.2.2.2.1 x.2.2.2.2.2.2.1 x.2.2.2.2.2.2.2.1) VF (ba [(4,.loop (bc 4 (ak Tryz.f27)))] (by kernel_rfl) ⟨l8 rfl Va,trivial⟩ [(11,bh 11 (ak Tryz.f27)),(13,bh 13 (ak Tryz.f27))] (by kernel_rfl) ⟨xW rfl Sq,xW rfl Rb,trivial⟩)
theorem UF:cr Tryz.prog HV 0 (.loop (bc 0 (ak Tryz.f27))) ⟨uG,fh Ew⟩ :=
 eC (lN hT) EH eP (step:=fun (x:bM uG)=>tz x.1 x.2.1 x.2.2.1 x.2.2.2.1 x.2.2.2.2.1) UO (ba [(2,.loop (bc 2 (ak Tryz.f27)))] (by kernel_rfl) ⟨l8 rfl V7,trivial⟩ [] (by kernel_rfl) trivial)
theorem Yy:ar Tryz.prog 27 WV :=
 qX (E:=HV) (lN hT) EH eP (fn:=Tryz.f27) (c:=(ak Tryz.f27)) (by kernel_rfl) (by kernel_rfl) (by kernel_rfl) rfl (ba [(0,.loop (bc 0 (ak Tryz.f27)))] (by kernel_rfl) ⟨l8 rfl UF,trivial⟩ [] (by kernel_rfl) trivial) fun x y h=>⟨y.1,fun _=>rfl,(t27 x).trans h⟩
def o9 (t0:List UInt8) (t3:Int):Rd Wb Y1 :=
 cond (au t3 (ae t0)) (
 cond (aR t3 t0) (
 let u1:=(dx t0 t3)
 cond (au u1 48) (
 some (.inr (.inr (false,())))
 ) (
 cond (aR t3 t0) (
 cond (au 57 u1) (
 some (.inr (.inr (false,())))
 ) (
 some (.inl (t0,(ai .i64 t3 1),()))
 )
 ) none
 )
 ) none
 ) (
 some (.inr (.inl (t0,t3,())))
 )
def HE:=PL (af (xo o9))
def rk (p0:List UInt8):Option ed :=
 (HE p0 0).bind (Sum.elim (fun y1 =>
 some ((),(((au 0 (ae y1.1)),()),()))
 ) (fun y1 =>
 some ((),(y1,()))
 ))
def aaI:Su:=⟨[.c false [.str]],[(false,[.bool])],true,.inl fun x=>rk x.1.1⟩
theorem tT:ar Tryz.prog 222 aaI :=
 fl an [.d 2 .bool] [(0,⟨[.d 0 .str,.d 3 ki],af (xo o9)⟩)] [] Tryz.f222 (lp [0] (sc cN sn))
def sh (t0:List UInt8) (t3:Int) (t4:Bool) (t5:Int):Rd ((List UInt8)×Int×Bool×Int×Unit) Unit :=
 cond (bH 0 t5) (
 cond (aR t5 t0) (
 cond t4 (
 let u1:=(aM .i64 (bG .i64 (dx t0 t5)) 48)
 let u2:=(jZ .i64 2 u1)
 cond (au 9 u2) (
 let u3:=(aM .i64 t5 1)
 some (.inl (t0,(fx (ai .i64 t3 (aM .i64 u2 9)) 10),(!t4),u3,()))
 ) (
 let u3:=(aM .i64 t5 1)
 some (.inl (t0,(fx (ai .i64 t3 u2) 10),(!t4),u3,()))
 )
 ) (
 let u1:=(aM .i64 (bG .i64 (dx t0 t5)) 48)
 let u2:=(aM .i64 t5 1)
 some (.inl (t0,(fx (ai .i64 t3 u1) 10),(!t4),u2,()))
 )
 ) none
 ) (
 some (.inr (.inl (t0,t3,t4,t5,())))
 )
def Jh:=mc (af (cV sh))
def Nn (p0:List UInt8):Option gY :=
 (rk p0).bind fun y1 =>
 cond (!y1.2.1.1) (
 c3
 ) (
 (Jh p0 0 true (aM .i64 (ae p0) 1)).bind (Sum.elim (fun y2 =>
 some ((),(((fx (aM .i64 10 y2.2.1) 10),()),()))
 ) (fun _ =>
 none
 ))
 )
def ZJ:Su:=⟨[.c false [.str]],[(false,[ki])],true,.inl fun x=>Nn x.1.1⟩
theorem TL:ar Tryz.prog 223 ZJ :=
 fl (ac tT an) [] [(0,⟨[.d 0 .str,.d 3 ki,.d 4 .bool,.d 5 ki],af (cV sh)⟩)] [] Tryz.f223 (lp [0] (sc cN sn))
def Nh (p0:List UInt8):Option ed :=
 (rk p0).bind fun y1 =>
 let u1:=(ae p0)
 cond (cond (!y1.2.1.1) true (au u1 2)) (
 c0
 ) (
 let u2:=(aM .i64 u1 1)
 cond (dO 0 u2 p0) (
 (Nn (sub p0 0 u2)).bind fun y2 =>
 cond (aR u2 p0) (
 some ((),(((aq y2.2.1.1 (aM .i64 (bG .i64 (dx p0 u2)) 48)),()),()))
 ) none
 ) none
 )
def aa8:Su:=⟨[.c false [.str]],[(false,[.bool])],true,.inl fun x=>Nh x.1.1⟩
theorem T1:ar Tryz.prog 175 aa8 :=
 fq (ac tT (ac TL an)) Tryz.f175
def su (p0:List UInt8):Option ed :=
 cond (bH (ae p0) 19) (
 (Nh p0).bind fun y1 =>
 some ((),(y1.2.1,()))
 ) (
 c0
 )
def Zq:Su:=⟨[.c false [.str]],[(false,[.bool])],true,.inl fun x=>su x.1.1⟩
theorem Po:ar Tryz.prog 119 Zq :=
 fq (ac T1 an) Tryz.f119
def QQ (p0:Int):Option ed :=
 some ((),(((cond (bH 0 p0) (bH p0 4611686018427387904) false),()),()))
def s62:Su:=⟨[.c false [ki]],[(false,[.bool])],true,.inl fun x=>QQ x.1.1⟩
theorem QW:ar Tryz.prog 62 s62 :=
 fq an Tryz.f62
def pn (t0:List UInt8) (t3:Int):Rd Wb Y1 :=
 cond (au t3 (ae t0)) (
 cond (aR t3 t0) (
 let u1:=(dx t0 t3)
 cond (au u1 48) (
 cond (aR t3 t0) (
 cond (au u1 97) (
 some (.inr (.inr (false,())))
 ) (
 cond (aR t3 t0) (
 cond (au 122 u1) (
 some (.inr (.inr (false,())))
 ) (
 some (.inl (t0,(ai .i64 t3 1),()))
 )
 ) none
 )
 ) none
 ) (
 cond (aR t3 t0) (
 cond (au 57 u1) (
 cond (aR t3 t0) (
 cond (au u1 97) (
 some (.inr (.inr (false,())))
 ) (
 cond (aR t3 t0) (
 cond (au 122 u1) (
 some (.inr (.inr (false,())))
 ) (
 some (.inl (t0,(ai .i64 t3 1),()))
 )
 ) none
 )
 ) none
 ) (
 some (.inl (t0,(ai .i64 t3 1),()))
 )
 ) none
 )
 ) none
 ) (
 some (.inr (.inl (t0,t3,())))
 )
def Ib:=PL (af (xo pn))
def KC (p0:List UInt8):Option ed :=
 (Ib p0 0).bind (Sum.elim (fun y1 =>
 (qN (ae y1.1) 1 6).bind fun y2 =>
 some ((),(y2.2.1,()))
 ) (fun y1 =>
 some ((),(y1,()))
 ))
def abe:Su:=⟨[.c false [.str]],[(false,[.bool])],true,.inl fun x=>KC x.1.1⟩
theorem Om:ar Tryz.prog 224 abe :=
 fl (ac nY an) [.d 2 .bool] [(0,⟨[.d 0 .str,.d 3 ki],af (xo pn)⟩)] [] Tryz.f224 (lp [0] (sc cN sn))
def Hw (p0:Int):Option ed :=
 (qN p0 0 1000000000).bind fun y1 =>
 some ((),(y1.2.1,()))
def s58:Su:=⟨[.c false [ki]],[(false,[.bool])],true,.inl fun x=>Hw x.1.1⟩
theorem Nj:ar Tryz.prog 58 s58 :=
 fq (ac nY an) Tryz.f58
def Mx (p0:(List UInt8)×Int×Int×Unit):Option ed :=
 (KC p0.1).bind fun y1 =>
 cond y1.2.1.1 (
 (qN p0.2.1 1 9007199254740992).bind fun y2 =>
 cond y2.2.1.1 (
 (Hw p0.2.2.1).bind fun y3 =>
 some ((),(y3.2.1,()))
 ) (
 c0
 )
 ) (
 c0
 )
def aaM:Su:=⟨[.c true [.str,ki,ki]],[(false,[.bool])],true,.inl fun x=>Mx x.1⟩
theorem Tw:ar Tryz.prog 176 aaM :=
 fq (ac nY (ac Om (ac Nj an))) Tryz.f176
def py (t0 t5:List gr) (t6 t7:Int):Rd ((List gr)×(List gr)×Int×Int×Unit) Y1 :=
 cond (au t7 t6) (
 cond (aR t7 t5) (
 let u1:=(gt d95 t5 t7)
 (Mx u1).bind fun y1 =>
 cond (!y1.2.1.1) (
 some (.inr (.inr (false,())))
 ) (
 cond (au 0 t7) (
 let u2:=(aM .i64 t7 1)
 cond (aR u2 t0) (
 cond (!(j8 (gt d95 t0 u2).1 u1.1)) (
 some (.inr (.inr (false,())))
 ) (
 some (.inl (t0,t5,t6,(ai .i64 t7 1),()))
 )
 ) none
 ) (
 some (.inl (t0,t5,t6,(ai .i64 t7 1),()))
 )
 )
 ) none
 ) (
 some (.inr (.inl (t0,t5,t6,t7,())))
 )
def KS:=mc (af (cV py))
def Mv (p0:List gr):Option ed :=
 (KS p0 p0 (ae p0) 0).bind (Sum.elim (fun y1 =>
 some ((),(((bH (ae y1.1) 4),()),()))
 ) (fun y1 =>
 some ((),(y1,()))
 ))
def aaw:Su:=⟨[.c false [ma]],[(false,[.bool])],true,.inl fun x=>Mv x.1.1⟩
theorem Vp:ar Tryz.prog 120 aaw :=
 fl (ac Tw an) [.d 2 .bool] [(0,⟨[.d 0 ma,.d 5 ma,.d 6 ki,.d 7 ki],af (cV py)⟩)] [] Tryz.f120 (lp [0] (sc cN sn))
def pd (t32 t33:Int) (b1:Int×Int×(List R3)×(List R3)×Unit):Rd (Int×Int×(Int×Int×(List R3)×(List R3)×Unit)×Unit) Y1 :=
 cond (au t33 t32) (
 cond (aR t33 b1.2.2.1) (
 (QQ (gt d3 b1.2.2.1 t33).1).bind fun y1 =>
 cond (!y1.2.1.1) (
 some (.inr (.inr (false,())))
 ) (
 cond (aR t33 b1.2.2.2.1) (
 (QQ (gt d3 b1.2.2.2.1 t33).1).bind fun y2 =>
 cond (!y2.2.1.1) (
 some (.inr (.inr (false,())))
 ) (
 some (.inl (t32,(ai .i64 t33 1),b1,()))
 )
 ) none
 )
 ) none
 ) (
 some (.inr (.inl (t32,t33,b1,())))
 )
def JM:=kD (af (dk pd))
def IT (p0:Int×Int×(List R3)×(List R3)×Unit):Option ed :=
 (qN p0.1 1 1000).bind fun y1 =>
 cond (!y1.2.1.1) (
 c0
 ) (
 let u1:=(ae p0.2.2.1)
 (qN u1 1 8).bind fun y2 =>
 cond (cond (!y2.2.1.1) true (!(aq (ae p0.2.2.2.1) u1))) (
 c0
 ) (
 (Hw p0.2.1).bind fun y3 =>
 cond (!y3.2.1.1) (
 c0
 ) (
 (JM u1 0 p0).bind (Sum.elim (fun _ =>
 c2
 ) (fun y4 =>
 some ((),(y4,()))
 ))
 )
 )
 )
def Yq:Su:=⟨[.c true [ki,ki,q3,q3]],[(false,[.bool])],true,.inl fun x=>IT x.1⟩
theorem WH:ar Tryz.prog 121 Yq :=
 fl (ac nY (ac QW (ac Nj an))) [.d 2 .bool] [(0,⟨[.d 32 ki,.d 33 ki,.box 1 [(false,ki),(false,ki),(false,q3),(false,q3)]],af (dk pd)⟩)] [] Tryz.f121 (lp [0] (sc cN sn))
def M8 (p0:(List UInt8)×(List UInt8)×(List R5)×Unit):Option ed :=
 (rk p0.1).bind fun y1 =>
 cond (cond y1.2.1.1 (aq (ae p0.1) 6) false) (
 (rk p0.2.1).bind fun y2 =>
 cond (cond y2.2.1.1 (aq (ae p0.2.1) 4) false) (
 (qN (ae p0.2.2.1) 1 200).bind fun y3 =>
 some ((),(y3.2.1,()))
 ) (
 c0
 )
 ) (
 c0
 )
def Zd:Su:=⟨[.c true [.str,.str,q5]],[(false,[.bool])],true,.inl fun x=>M8 x.1⟩
theorem V3:ar Tryz.prog 177 Zd :=
 fq (ac nY (ac tT an)) Tryz.f177
def pP (t0 t7:List cu) (t8 t9:Int) (t19:List cu) (t20 t21:Int) (b4:(List UInt8)×(List UInt8)×(List R5)×Unit):Rd ((List cu)×(List cu)×Int×Int×(List cu)×Int×Int×lT×Unit) Y1 :=
 cond (au t21 t20) (
 cond (aR t21 t19) (
 let u1:=(gt d166 t19 t21)
 cond (cond (cq u1.1 b4.1) (cq u1.2.1 b4.2.1) false) (
 some (.inr (.inr (false,())))
 ) (
 some (.inl (t0,t7,t8,t9,t19,t20,(ai .i64 t21 1),b4,()))
 )
 ) none
 ) (
 some (.inr (.inl (t0,t7,t8,t9,t19,t20,t21,b4,())))
 )
def IM:=SU (af (yz pP))
def qb (t0 t7:List cu) (t8 t9:Int):Rd WQ Y1 :=
 cond (au t9 t8) (
 cond (aR t9 t7) (
 let u1:=(gt d166 t7 t9)
 (M8 u1).bind fun y1 =>
 cond (!y1.2.1.1) (
 some (.inr (.inr (false,())))
 ) (
 cond (dO 0 t9 t0) (
 let u2:=(sub t0 0 t9)
 (IM t0 t7 t8 t9 u2 (ae u2) 0 u1).bind (Sum.elim (fun y2 =>
 some (.inl (y2.1,y2.2.1,y2.2.2.1,(ai .i64 y2.2.2.2.1 1),()))
 ) (fun y2 =>
 some (.inr (.inr (y2.1,())))
 ))
 ) none
 )
 ) none
 ) (
 some (.inr (.inl (t0,t7,t8,t9,())))
 )
def J3:=mc (af (cV qb))
def No (p0:List cu):Option ed :=
 (J3 p0 p0 (ae p0) 0).bind (Sum.elim (fun y1 =>
 some ((),(((bH (ae y1.1) 6),()),()))
 ) (fun y1 =>
 some ((),(y1,()))
 ))
def aag:Su:=⟨[.c false [dP]],[(false,[.bool])],true,.inl fun x=>No x.1.1⟩
theorem Tt:ar Tryz.prog 122 aag :=
 fl (ac V3 an) [.d 2 .bool] [(2,⟨[.d 0 dP,.d 7 dP,.d 8 ki,.d 9 ki,.d 19 dP,.d 20 ki,.d 21 ki,.box 4 [(false,.str),(false,.str),(false,q5)]],af (yz pP)⟩),(0,⟨[.d 0 dP,.d 7 dP,.d 8 ki,.d 9 ki],af (cV qb)⟩)] [] Tryz.f122 (lp [0] (sc (lp [2] (sc cN sn)) sn))
def KG (p0 p1 p2:Int):Option gY :=
 cond (au p0 p1) (
 some ((),((p1,()),()))
 ) (
 cond (au p2 p0) (
 some ((),((p2,()),()))
 ) (
 some ((),((p0,()),()))
 )
 )
def abc:Su:=⟨[.c false [ki],.c false [ki],.c false [ki]],[(false,[ki])],true,.inl fun x=>KG x.1.1 x.2.1.1 x.2.2.1.1⟩
theorem Tp:ar Tryz.prog 179 abc :=
 fq an Tryz.f179
def Rr (p0 p1:Int):Option WY :=
 (QQ p0).bind fun y1 =>
 cond (!y1.2.1.1) (
 Yw
 ) (
 (QQ p1).bind fun y2 =>
 cond (cond (!y2.2.1.1) true (au (aM .i64 4611686018427387904 p1) p0)) (
 Yw
 ) (
 some ((),(((ai .i64 p0 p1),()),(true,()),()))
 )
 )
def Zm:Su:=⟨[.c false [ki],.c false [ki]],[(false,[ki]),(false,[.bool])],true,.inl fun x=>Rr x.1.1 x.2.1.1⟩
theorem T0:ar Tryz.prog 178 Zm :=
 fq (ac QW an) Tryz.f178
def JY (p0 p1:Int):Option gY :=
 (KG p0 0 4611686018427387904).bind fun y1 =>
 (KG p1 0 4611686018427387904).bind fun y2 =>
 (Rr y1.2.1.1 y2.2.1.1).bind fun y3 =>
 cond (!y3.2.2.1.1) (
 c20
 ) (
 some ((),(y3.2.1,()))
 )
def abj:Su:=⟨[.c false [ki],.c false [ki]],[(false,[ki])],true,.inl fun x=>JY x.1.1 x.2.1.1⟩
theorem PE:ar Tryz.prog 123 abj :=
 fq (ac Tp (ac T0 an)) Tryz.f123
def qf (t3:Int) (t6:List gr) (t7 t8:Int):Rd (Int×(List gr)×Int×Int×Unit) Unit :=
 cond (au t8 t7) (
 cond (aR t8 t6) (
 (JY t3 (gt d95 t6 t8).2.1).bind fun y1 =>
 some (.inl (y1.2.1.1,t6,t7,(ai .i64 t8 1),()))
 ) none
 ) (
 some (.inr (.inl (t3,t6,t7,t8,())))
 )
def K4:=mc (af (cV qf))
def NS (p0:List gr):Option gY :=
 (K4 0 p0 (ae p0) 0).bind (Sum.elim (fun y1 =>
 some ((),((y1.1,()),()))
 ) (fun _ =>
 none
 ))
def aa3:Su:=⟨[.c false [ma]],[(false,[ki])],true,.inl fun x=>NS x.1.1⟩
theorem S7:ar Tryz.prog 124 aa3 :=
 fl (ac PE an) [] [(0,⟨[.d 3 ki,.d 6 ma,.d 7 ki,.d 8 ki],af (cV qf)⟩)] [] Tryz.f124 (lp [0] (sc cN sn))
def Xe (p0:(List UInt8)×Int×Int×Int×Int×(List gr)×Int×Int×(List R3)×(List R3)×(List cu)×Unit):Option ed :=
 (su p0.1).bind fun y1 =>
 cond (!y1.2.1.1) (
 c0
 ) (
 (qN p0.2.1 0 9007199254740992).bind fun y2 =>
 cond (!y2.2.1.1) (
 c0
 ) (
 (qN p0.2.2.2.1 0 1000).bind fun y3 =>
 cond (!y3.2.1.1) (
 c0
 ) (
 (qN p0.2.2.2.2.1 0 9007199254740992).bind fun y4 =>
 cond (!y4.2.1.1) (
 c0
 ) (
 (QQ p0.2.2.1).bind fun y5 =>
 cond (!y5.2.1.1) (
 c0
 ) (
 (Mv p0.2.2.2.2.2.1).bind fun y6 =>
 cond y6.2.1.1 (
 (IT (p0.2.2.2.2.2.2.1,p0.2.2.2.2.2.2.2.1,p0.2.2.2.2.2.2.2.2.1,p0.2.2.2.2.2.2.2.2.2.1,())).bind fun y7 =>
 cond y7.2.1.1 (
 (No p0.2.2.2.2.2.2.2.2.2.2.1).bind fun y8 =>
 cond y8.2.1.1 (
 (NS p0.2.2.2.2.2.1).bind fun y9 =>
 (JY p0.2.2.1 y9.2.1.1).bind fun y10 =>
 some ((),(((bH y10.2.1.1 p0.2.1),()),()))
 ) (
 c0
 )
 ) (
 c0
 )
 ) (
 c0
 )
 )
 )
 )
 )
 )
def s64:Su:=⟨[.c true [.str,ki,ki,ki,ki,ma,ki,ki,q3,q3,dP]],[(false,[.bool])],true,.inl fun x=>Xe x.1⟩
theorem YW:ar Tryz.prog 64 s64 :=
 fq (ac nY (ac Po (ac QW (ac Vp (ac WH (ac Tt (ac PE (ac S7 an)))))))) Tryz.f64
def oe (t6:List dp) (t7 t8:Int) (b1:(List dp)×Unit):Rd ((List dp)×Int×Int×Y4×Unit) Y1 :=
 cond (au t8 t7) (
 cond (aR t8 t6) (
 let u1:=(gt d59 t6 t8)
 (Xe u1).bind fun y1 =>
 cond (!y1.2.1.1) (
 some (.inr (.inr (false,())))
 ) (
 cond (au 0 t8) (
 let u2:=(aM .i64 t8 1)
 cond (aR u2 b1.1) (
 cond (!(j8 (gt d59 b1.1 u2).1 u1.1)) (
 some (.inr (.inr (false,())))
 ) (
 some (.inl (t6,t7,(ai .i64 t8 1),b1,()))
 )
 ) none
 ) (
 some (.inl (t6,t7,(ai .i64 t8 1),b1,()))
 )
 )
 ) none
 ) (
 some (.inr (.inl (t6,t7,t8,b1,())))
 )
def Jj:=mc (af (cV oe))
def I9 (p0:(List dp)×Unit):Option ed :=
 (Jj p0.1 (ae p0.1) 0 p0).bind (Sum.elim (fun y1 =>
 some ((),(((bH (ae y1.2.2.2.1.1) 6),()),()))
 ) (fun y1 =>
 some ((),(y1,()))
 ))
def Zu:Su:=⟨[.c true [fF]],[(false,[.bool])],true,.inl fun x=>I9 x.1⟩
theorem Td:ar Tryz.prog 100 Zu :=
 fl (ac YW an) [.d 2 .bool] [(0,⟨[.d 6 fF,.d 7 ki,.d 8 ki,.box 1 [(false,fF)]],af (cV oe)⟩)] [] Tryz.f100 (lp [0] (sc cN sn))
def o7 (t0:List UInt8) (t3 t4:Int):Rd S1 Unit :=
 cond (au t4 (ae t0)) (
 cond (aR t4 t0) (
 some (.inl (t0,(Ad .i64 (jZ .i64 (Br .i64 t3 (bG .i64 (dx t0 t4))) 16777619) 4294967295),(ai .i64 t4 1),()))
 ) none
 ) (
 some (.inr (.inl (t0,t3,t4,())))
 )
def HJ:=kD (af (dk o7))
def MA (p0:List UInt8):Option gY :=
 (HJ p0 2166136261 0).bind (Sum.elim (fun y1 =>
 some ((),((y1.2.1,()),()))
 ) (fun _ =>
 none
 ))
def Z4:Su:=⟨[.c false [.str]],[(false,[ki])],true,.inl fun x=>MA x.1.1⟩
theorem U3:ar Tryz.prog 163 Z4 :=
 fl an [] [(0,⟨[.d 0 .str,.d 3 ki,.d 4 ki],af (dk o7)⟩)] [] Tryz.f163 (lp [0] (sc cN sn))
def Bj (p0:List UInt8) (p1:Int):Option gY :=
 cond (au p1 1) (
 c6
 ) (
 (MA p0).bind fun y1 =>
 cond (!(aq p1 0)) (
 some ((),(((fx y1.2.1.1 p1),()),()))
 ) none
 )
def aa9:Su:=⟨[.c false [.str],.c false [ki]],[(false,[ki])],true,.inl fun x=>Bj x.1.1 x.2.1.1⟩
theorem O6:ar Tryz.prog 101 aa9 :=
 fq (ac U3 an) Tryz.f101
def vi (t0:List eb) (t3:Int) (t11:List eb) (t12 t13:Int) (t23:List dp) (t24 t25:Int) (b4:Int×(List dp)×Unit):Rd ((List eb)×Int×(List eb)×Int×Int×(List dp)×Int×Int×VV×Unit) Y1 :=
 cond (au t25 t24) (
 cond (aR t25 t23) (
 (Bj (gt d59 t23 t25).1 (ae t0)).bind fun y1 =>
 cond (!(aq y1.2.1.1 t3)) (
 some (.inr (.inr (false,())))
 ) (
 cond (au 0 t25) (
 let u1:=(aM .i64 t25 1)
 cond (aR u1 b4.2.1) (
 cond (!(j8 (gt d59 b4.2.1 u1).1 (gt d59 t23 t25).1)) (
 some (.inr (.inr (false,())))
 ) (
 some (.inl (t0,t3,t11,t12,t13,t23,t24,(ai .i64 t25 1),b4,()))
 )
 ) none
 ) (
 some (.inl (t0,t3,t11,t12,t13,t23,t24,(ai .i64 t25 1),b4,()))
 )
 )
 ) none
 ) (
 some (.inr (.inl (t0,t3,t11,t12,t13,t23,t24,t25,b4,())))
 )
def PJ:=UM (af (Dd vi))
def vc (t0 t11:List eb) (t12 t13:Int):Rd WZ Y1 :=
 cond (au t13 t12) (
 cond (aR t13 t11) (
 let u1:=(gt d89 t11 t13)
 (qN u1.1 (-1) 11).bind fun y1 =>
 cond (!y1.2.1.1) (
 some (.inr (.inr (false,())))
 ) (
 (PJ t0 t13 t11 t12 t13 u1.2.1 (ae u1.2.1) 0 u1).bind (Sum.elim (fun y2 =>
 some (.inl (y2.1,y2.2.2.1,y2.2.2.2.1,(ai .i64 y2.2.2.2.2.1 1),()))
 ) (fun y2 =>
 some (.inr (.inr (y2.1,())))
 ))
 )
 ) none
 ) (
 some (.inr (.inl (t0,t11,t12,t13,())))
 )
def Vz:=mc (af (cV vc))
def Xs (p0:List eb):Option ed :=
 let u1:=(ae p0)
 (qN u1 1 5).bind fun y1 =>
 cond (!y1.2.1.1) (
 c0
 ) (
 (Vz p0 p0 u1 0).bind (Sum.elim (fun y2 =>
 (Pb y2.1).bind fun y3 =>
 (I9 y3.2.1).bind fun y4 =>
 some ((),(y4.2.1,()))
 ) (fun y2 =>
 some ((),(y2,()))
 ))
 )
def s57:Su:=⟨[.c false [fW]],[(false,[.bool])],true,.inl fun x=>Xs x.1.1⟩
theorem ZY:ar Tryz.prog 57 s57 :=
 fl (ac nY (ac Yy (ac Td (ac O6 an)))) [.d 2 .bool] [(2,⟨[.d 0 fW,.d 3 ki,.d 11 fW,.d 12 ki,.d 13 ki,.d 23 fF,.d 24 ki,.d 25 ki,.box 4 [(false,ki),(false,fF)]],af (Dd vi)⟩),(0,⟨[.d 0 fW,.d 11 fW,.d 12 ki,.d 13 ki],af (cV vc)⟩)] [] Tryz.f57 (lp [0] (sc (lp [2] (sc cN sn)) sn))
def oB (t1:Int) (t7:List R3) (t8 t9:Int):Rd (Int×(List R3)×Int×Int×Unit) Y1 :=
 cond (au t9 t8) (
 cond (aR t9 t7) (
 cond (aq (gt d3 t7 t9).1 t1) (
 some (.inr (.inr (true,())))
 ) (
 some (.inl (t1,t7,t8,(ai .i64 t9 1),()))
 )
 ) none
 ) (
 some (.inr (.inl (t1,t7,t8,t9,())))
 )
def QJ:=mc (af (cV oB))
def Mm (p0:List R3) (p1:Int):Option ed :=
 (QJ p1 p0 (ae p0) 0).bind (Sum.elim (fun _ =>
 c0
 ) (fun y1 =>
 some ((),(y1,()))
 ))
def abk:Su:=⟨[.c false [q3],.c false [ki]],[(false,[.bool])],true,.inl fun x=>Mm x.1.1 x.2.1.1⟩
theorem Vd:ar Tryz.prog 114 abk :=
 fl an [.d 4 .bool] [(0,⟨[.d 1 ki,.d 7 q3,.d 8 ki,.d 9 ki],af (cV oB)⟩)] [] Tryz.f114 (lp [0] (sc cN sn))
def wm (t1:Int) (t5:List R3) (t11:List gy) (t12 t13:Int) (t23:List R3) (t24 t25:Int):Rd (Int×(List R3)×(List gy)×Int×Int×(List R3)×Int×Int×Unit) Y1 :=
 cond (au t25 t24) (
 cond (aR t25 t23) (
 let u1:=(gt d3 t23 t25)
 cond (aq u1.1 (-1)) (
 let u2:=(ai .i64 t25 1)
 some (.inl (t1,t5,t11,t12,t13,t23,t24,u2,()))
 ) (
 cond (bH t1 u1.1) (
 some (.inr (.inr (false,())))
 ) (
 (Mm t5 u1.1).bind fun y1 =>
 cond y1.2.1.1 (
 some (.inr (.inr (false,())))
 ) (
 cond (ct 8 t5 [u1]) (
 let u2:=(ai .i64 t25 1)
 some (.inl (t1,(j3 t5 [u1]),t11,t12,t13,t23,t24,u2,()))
 ) none
 )
 )
 )
 ) none
 ) (
 some (.inr (.inl (t1,t5,t11,t12,t13,t23,t24,t25,())))
 )
def OU:=SU (af (yz wm))
def uL (t1:Int) (t5:List R3) (t11:List gy) (t12 t13:Int):Rd (Int×(List R3)×(List gy)×Int×Int×Unit) Y1 :=
 cond (au t13 t12) (
 cond (aR t13 t11) (
 let u1:=(gt d62 t11 t13)
 (OU t1 t5 t11 t12 t13 [(u1.2.2.2.2.1,()),(u1.2.2.2.2.2.1,()),(u1.2.2.2.2.2.2.1,())] (ae [(u1.2.2.2.2.1,()),(u1.2.2.2.2.2.1,()),(u1.2.2.2.2.2.2.1,())]) 0).bind (Sum.elim (fun y1 =>
 some (.inl (y1.1,y1.2.1,y1.2.2.1,y1.2.2.2.1,(ai .i64 y1.2.2.2.2.1 1),()))
 ) (fun y1 =>
 some (.inr (.inr (y1.1,())))
 ))
 ) none
 ) (
 some (.inr (.inl (t1,t5,t11,t12,t13,())))
 )
def Wx:=xP (af (fh uL))
def Xv (p0:List gy) (p1:Int):Option ed :=
 (Wx p1 [] p0 (ae p0) 0).bind (Sum.elim (fun _ =>
 c2
 ) (fun y1 =>
 some ((),(y1,()))
 ))
def s59:Su:=⟨[.c false [jW],.c false [ki]],[(false,[.bool])],true,.inl fun x=>Xv x.1.1 x.2.1.1⟩
theorem XL:ar Tryz.prog 59 s59 :=
 fl (ac Vd an) [.d 4 .bool] [(2,⟨[.d 1 ki,.own 5 q3,.d 11 jW,.d 12 ki,.d 13 ki,.own 23 q3,.d 24 ki,.d 25 ki],af (yz wm)⟩),(0,⟨[.d 1 ki,.own 5 q3,.d 11 jW,.d 12 ki,.d 13 ki],af (fh uL)⟩)] [] Tryz.f59 (lp [0] (sc (lp [2] (sc cN sn)) sn))
def MK (p0:(List R5)×Int×(List R3)×Int×Int×Int×Int×Int×(List R5)×Unit):Option ed :=
 cond (aq p0.2.1 1) (
 let u1:=(ae p0.2.2.1)
 some ((),(((cond (bH 0 p0.2.2.2.1) (au p0.2.2.2.1 u1) false),()),()))
 ) (
 cond (aq p0.2.1 2) (
 let u1:=(ae p0.2.2.1)
 some ((),(((cond (aq p0.2.2.2.1 u1) (au 0 u1) false),()),()))
 ) (
 cond (aq p0.2.1 3) (
 let u1:=(ae p0.2.2.1)
 (qN p0.2.2.2.1 1 u1).bind fun y1 =>
 some ((),(y1.2.1,()))
 ) (
 some ((),(((aq p0.2.2.2.1 0),()),()))
 )
 )
 )
def ZQ:Su:=⟨[.c true [q5,ki,q3,ki,ki,ki,ki,ki,q5]],[(false,[.bool])],true,.inl fun x=>MK x.1⟩
theorem Tn:ar Tryz.prog 115 ZQ :=
 fq (ac nY an) Tryz.f115
def oY (t0:List R5) (t1 t2:Int) (t9:List UInt8) (t10:Int):Rd ((List R5)×Int×Int×(List UInt8)×Int×Unit) Unit :=
 cond (au t10 (ai .i64 t1 (l9 .i64 (ai .i64 t2 1) 2))) (
 cond (aR t10 t0) (
 cond (aR t10 t0) (
 let u1:=(bG .i64 (gt d5 t0 t10).1)
 let u2:=(strOf [((bG .u8 (ai .i64 48 (l9 .i64 u1 16))),()),((bG .u8 (ai .i64 48 (fx u1 16))),())])
 cond (FQ t9 u2) (
 some (.inl (t0,t1,t2,(P5 t9 u2),(ai .i64 t10 1),()))
 ) none
 ) none
 ) none
 ) (
 some (.inr (.inl (t0,t1,t2,t9,t10,())))
 )
def KQ:=xP (af (fh oY))
def xx (p0:List R5) (p1 p2:Int):Option Ww :=
 let u1:=(ae p0)
 cond (cond (cond (cond (au p2 1) true (au 38 p2)) true (au p1 0)) true (au u1 p1)) (
 c4
 ) (
 cond (au (aM .i64 u1 p1) (l9 .i64 (ai .i64 p2 1) 2)) (
 c4
 ) (
 (KQ p0 p1 p2 [] p1).bind (Sum.elim (fun y1 =>
 cond (aq (fx y1.2.2.1 2) 1) (
 cond (aR 0 y1.2.2.2.1) (
 cond (!(aq (dx y1.2.2.2.1 0) 48)) (
 c4
 ) (
 let u2:=(ae y1.2.2.2.1)
 cond (dO 1 u2 y1.2.2.2.1) (
 let u3:=(sub y1.2.2.2.1 1 u2)
 (rk u3).bind fun y2 =>
 cond (!y2.2.1.1) (
 c4
 ) (
 some ((),((u3,()),((ai .i64 y1.2.1 (l9 .i64 (ai .i64 y1.2.2.1 1) 2)),()),(true,()),()))
 )
 ) none
 )
 ) none
 ) (
 (rk y1.2.2.2.1).bind fun y2 =>
 cond (!y2.2.1.1) (
 c4
 ) (
 some ((),((y1.2.2.2.1,()),((ai .i64 y1.2.1 (l9 .i64 (ai .i64 y1.2.2.1 1) 2)),()),(true,()),()))
 )
 )
 ) (fun _ =>
 none
 ))
 )
 )
def Y9:Su:=⟨[.c false [q5],.c false [ki],.c false [ki]],[(false,[.str]),(false,[ki]),(false,[.bool])],true,.inl fun x=>xx x.1.1 x.2.1.1 x.2.2.1.1⟩
theorem I4:ar Tryz.prog 180 Y9 :=
 fl (ac tT an) [] [(0,⟨[.d 0 q5,.d 1 ki,.d 2 ki,.d 9 .str,.d 10 ki],af (fh oY)⟩)] [] Tryz.f180 (lp [0] (sc cN sn))
def sx (t0:List R5) (t1:Int) (t7:List R3) (t8:Int):Rd ((List R5)×Int×(List R3)×Int×Unit) Unit :=
 cond (bH t8 64) (
 let u1:=(aM .i64 t8 1)
 let u2:=(ai .i64 t1 (l9 .i64 u1 8))
 cond (aR u2 t0) (
 let u3:=(aM .i64 7 (fx u1 8))
 cond (bH 0 u3) (
 cond (aq (fx (iC .i64 (bG .i64 (gt d5 t0 u2).1) u3) 2) 1) (
 cond (ct 8 t7 [(t8,())]) (
 let u4:=(ai .i64 t8 1)
 some (.inl (t0,t1,(j3 t7 [(t8,())]),u4,()))
 ) none
 ) (
 let u4:=(ai .i64 t8 1)
 some (.inl (t0,t1,t7,u4,()))
 )
 ) none
 ) none
 ) (
 some (.inr (.inl (t0,t1,t7,t8,())))
 )
def Ih:=mc (af (cV sx))
def CV (p0:List R5) (p1:Int):Option Xq :=
 cond (cond (au p1 0) true (au (aM .i64 (ae p0) 8) p1)) (
 c8
 ) (
 (Ih p0 p1 [] 1).bind (Sum.elim (fun y1 =>
 some ((),((y1.2.2.1,()),((ai .i64 y1.2.1 8),()),(true,()),()))
 ) (fun _ =>
 none
 ))
 )
def Zt:Su:=⟨[.c false [q5],.c false [ki]],[(false,[q3]),(false,[ki]),(false,[.bool])],true,.inl fun x=>CV x.1.1 x.2.1.1⟩
theorem Ue:ar Tryz.prog 225 Zt :=
 fl an [] [(0,⟨[.d 0 q5,.d 1 ki,.own 7 q3,.d 8 ki],af (cV sx)⟩)] [] Tryz.f225 (lp [0] (sc cN sn))
def F4 (p0:Int):Option gY :=
 cond (aq p0 3) (
 c7
 ) (
 cond (aq p0 4) (
 c7
 ) (
 cond (aq p0 7) (
 c7
 ) (
 cond (aq p0 11) (
 c7
 ) (
 cond (aq p0 14) (
 c7
 ) (
 cond (aq p0 49) (
 c7
 ) (
 cond (aq p0 37) (
 c5
 ) (
 cond (aq p0 38) (
 c5
 ) (
 cond (aq p0 39) (
 c5
 ) (
 cond (aq p0 41) (
 c5
 ) (
 cond (aq p0 95) (
 c5
 ) (
 cond (aq p0 2) (
 c9
 ) (
 cond (aq p0 102) (
 c12
 ) (
 cond (aq p0 103) (
 c12
 ) (
 cond (aq p0 48) (
 some ((),((5,()),()))
 ) (
 cond (aq p0 54) (
 some ((),((5,()),()))
 ) (
 c6
 )
 )
 )
 )
 )
 )
 )
 )
 )
 )
 )
 )
 )
 )
 )
 )
def XZ:Su:=⟨[.c false [ki]],[(false,[ki])],true,.inl fun x=>F4 x.1.1⟩
theorem Kl:ar Tryz.prog 226 XZ :=
 fq an Tryz.f226
def pz (t0:List R5) (t6:Int) (t8:List R3) (t9:Bool) (t28:List R3) (t29 t30:Int):Rd ((List R5)×Int×(List R3)×Bool×(List R3)×Int×Int×Unit) Y19 :=
 cond (au t30 t29) (
 cond (aR t30 t28) (
 let u1:=(gt d3 t28 t30)
 cond (aq u1.1 1) (
 let u2:=(ai .i64 t30 1)
 some (.inl (t0,t6,t8,true,t28,t29,u2,()))
 ) (
 cond (ct 8 t8 [u1]) (
 let u2:=(ai .i64 t30 1)
 some (.inl (t0,t6,(j3 t8 [u1]),t9,t28,t29,u2,()))
 ) none
 )
 ) none
 ) (
 some (.inr (.inl (t0,t6,t8,t9,t28,t29,t30,())))
 )
def K7:=WO (af (HL pz))
def oQ (t8:List R3) (t13:Int) (t56:List R3) (t57 t58:Int):Rd ((List R3)×Int×(List R3)×Int×Int×Unit) Y19 :=
 cond (au t58 t57) (
 cond (aR t58 t56) (
 cond (ct 8 t8 [((ai .i64 (gt d3 t56 t58).1 64),())]) (
 some (.inl ((j3 t8 [((ai .i64 (gt d3 t56 t58).1 64),())]),t13,t56,t57,(ai .i64 t58 1),()))
 ) none
 ) none
 ) (
 some (.inr (.inl (t8,t13,t56,t57,t58,())))
 )
def H3:=xP (af (fh oQ))
def pM (_:Unit) (t6:Int) (t8:List R3) (t70 t71:Int):Rd (Unit×Int×(List R3)×Int×Int×Unit) Y19 :=
 cond (au t71 t70) (
 cond (aR t71 t8) (
 (F4 (gt d3 t8 t71).1).bind fun y1 =>
 cond (aq y1.2.1.1 0) (
 some (.inr (.inr ([],0,false,())))
 ) (
 some (.inl ((),t6,t8,t70,(ai .i64 t71 1),()))
 )
 ) none
 ) (
 some (.inr (.inl ((),t6,t8,t70,t71,())))
 )
def DP:=xP (af (fh pM))
def HG (p0:List R5):Option Xq :=
 (CV p0 2).bind fun y1 =>
 cond (!y1.2.2.2.1.1) (
 c8
 ) (
 (K7 p0 y1.2.2.1.1 [] false y1.2.1.1 (ae y1.2.1.1) 0).bind (Sum.elim (fun y2 =>
 cond y2.2.2.2.1 (
 (CV y2.1 y2.2.1).bind fun y3 =>
 let u1:=(ae y3.2.1.1)
 cond (cond (!y3.2.2.2.1.1) true (aq u1 0)) (
 c8
 ) (
 (H3 y2.2.2.1 y3.2.2.1.1 y3.2.1.1 u1 0).bind (Sum.elim (fun y4 =>
 (DP () y4.2.1 y4.1 (ae y4.1) 0).bind (Sum.elim (fun y5 =>
 some ((),((y5.2.2.1,()),(y5.2.1,()),(true,()),()))
 ) (fun y5 =>
 some ((),((y5.1,()),(y5.2.1,()),(y5.2.2.1,()),()))
 ))
 ) (fun y4 =>
 some ((),((y4.1,()),(y4.2.1,()),(y4.2.2.1,()),()))
 ))
 )
 ) (
 (DP () y2.2.1 y2.2.2.1 (ae y2.2.2.1) 0).bind (Sum.elim (fun y3 =>
 some ((),((y3.2.2.1,()),(y3.2.1,()),(true,()),()))
 ) (fun y3 =>
 some ((),((y3.1,()),(y3.2.1,()),(y3.2.2.1,()),()))
 ))
 )
 ) (fun y2 =>
 some ((),((y2.1,()),(y2.2.1,()),(y2.2.2.1,()),()))
 ))
 )
def Ye:Su:=⟨[.c false [q5]],[(false,[q3]),(false,[ki]),(false,[.bool])],true,.inl fun x=>HG x.1.1⟩
theorem Uu:ar Tryz.prog 181 Ye :=
 fl (ac Ue (ac Kl an)) [.own 2 q3,.d 3 ki,.d 4 .bool] [(0,⟨[.d 0 q5,.d 6 ki,.own 8 q3,.d 9 .bool,.own 28 q3,.d 29 ki,.d 30 ki],af (HL pz)⟩),(2,⟨[.own 8 q3,.d 13 ki,.own 56 q3,.d 57 ki,.d 58 ki],af (fh oQ)⟩),(4,⟨[.al 69 8,.d 6 ki,.own 8 q3,.d 70 ki,.d 71 ki],af (fh pM)⟩)] [] Tryz.f181 (lp [0,2,4] (sc cN (sc cN (sc cN sn))))
def Is (p0:Int):Option gY :=
 cond (aq p0 2) (
 some ((),((19,()),()))
 ) (
 cond (aq p0 3) (
 c13
 ) (
 cond (aq p0 11) (
 c13
 ) (
 cond (aq p0 38) (
 c13
 ) (
 cond (aq p0 4) (
 c14
 ) (
 cond (aq p0 37) (
 c14
 ) (
 cond (aq p0 95) (
 c14
 ) (
 cond (aq p0 7) (
 some ((),((10,()),()))
 ) (
 cond (aq p0 14) (
 c12
 ) (
 cond (aq p0 39) (
 c5
 ) (
 cond (aq p0 41) (
 some ((),((8,()),()))
 ) (
 cond (aq p0 49) (
 c9
 ) (
 cond (aq p0 102) (
 some ((),((20,()),()))
 ) (
 cond (aq p0 103) (
 some ((),((20,()),()))
 ) (
 cond (aq p0 48) (
 some ((),((60,()),()))
 ) (
 cond (aq p0 54) (
 some ((),((60,()),()))
 ) (
 c6
 )
 )
 )
 )
 )
 )
 )
 )
 )
 )
 )
 )
 )
 )
 )
 )
def YL:Su:=⟨[.c false [ki]],[(false,[ki])],true,.inl fun x=>Is x.1.1⟩
theorem Oy:ar Tryz.prog 227 YL :=
 fq an Tryz.f227
def VI (p0:Int):Option gY :=
 cond (aq p0 3) (
 c5
 ) (
 cond (aq p0 4) (
 c5
 ) (
 cond (aq p0 5) (
 c9
 ) (
 c6
 )
 )
 )
def XK:Su:=⟨[.c false [ki]],[(false,[ki])],true,.inl fun x=>VI x.1.1⟩
theorem UI:ar Tryz.prog 228 XK :=
 fq an Tryz.f228
def nW (t0:List UInt8) (t4 t5:Int):Rd S1 Unit :=
 cond (au t5 (ae t0)) (
 cond (aR t5 t0) (
 some (.inl (t0,(aM .i64 (ai .i64 (jZ .i64 t4 10) (bG .i64 (dx t0 t5))) 48),(ai .i64 t5 1),()))
 ) none
 ) (
 some (.inr (.inl (t0,t4,t5,())))
 )
def KW:=kD (af (dk nW))
def ua (p0:List UInt8):Option WY :=
 (rk p0).bind fun y1 =>
 cond (cond (!y1.2.1.1) true (au 18 (ae p0))) (
 Yw
 ) (
 (KW p0 0 0).bind (Sum.elim (fun y2 =>
 some ((),((y2.2.1,()),(true,()),()))
 ) (fun _ =>
 none
 ))
 )
def aaN:Su:=⟨[.c false [.str]],[(false,[ki]),(false,[.bool])],true,.inl fun x=>ua x.1.1⟩
theorem PR:ar Tryz.prog 205 aaN :=
 fl (ac tT an) [] [(0,⟨[.d 0 .str,.d 4 ki,.d 5 ki],af (dk nW)⟩)] [] Tryz.f205 (lp [0] (sc cN sn))
def Io (p0:List R5) (p1 p2:Int):Option (Unit×(Y0×Y0×Y1×Unit)) :=
 cond (cond (!(aq p2 2)) (!(aq p2 3)) false) (
 c15
 ) (
 (xx p0 p1 p2).bind fun y1 =>
 (ua y1.2.1.1).bind fun y2 =>
 some ((),(y2.2.1,y1.2.2.1,y1.2.2.2.1,()))
 )
def aaz:Su:=⟨[.c false [q5],.c false [ki],.c false [ki]],[(false,[ki]),(false,[ki]),(false,[.bool])],true,.inl fun x=>Io x.1.1 x.2.1.1 x.2.2.1.1⟩
theorem U9:ar Tryz.prog 229 aaz :=
 fq (ac I4 (ac PR an)) Tryz.f229
def pH (t0:List UInt8) (t3:Int):Rd Wb Y1 :=
 cond (au t3 (ae t0)) (
 cond (aR t3 t0) (
 let u1:=(dx t0 t3)
 cond (au u1 32) (
 some (.inr (.inr (false,())))
 ) (
 cond (aR t3 t0) (
 cond (au 126 u1) (
 some (.inr (.inr (false,())))
 ) (
 some (.inl (t0,(ai .i64 t3 1),()))
 )
 ) none
 )
 ) none
 ) (
 some (.inr (.inl (t0,t3,())))
 )
def Iu:=PL (af (xo pH))
def zy (p0:List UInt8):Option ed :=
 (Iu p0 0).bind (Sum.elim (fun _ =>
 c2
 ) (fun y1 =>
 some ((),(y1,()))
 ))
def Yu:Su:=⟨[.c false [.str]],[(false,[.bool])],true,.inl fun x=>zy x.1.1⟩
theorem Pp:ar Tryz.prog 230 Yu :=
 fl an [.d 2 .bool] [(0,⟨[.d 0 .str,.d 3 ki],af (xo pH)⟩)] [] Tryz.f230 (lp [0] (sc cN sn))
def M9 (p0:List R5) (p1 p2:Int):Option Ww :=
 (F4 p2).bind fun y1 =>
 (Is p2).bind fun y2 =>
 cond (cond (aq y1.2.1.1 0) true (au p1 0)) (
 c4
 ) (
 let u1:=(VI y1.2.1.1)
 Option.bind u1 fun y3 =>
 cond (au 0 y3.2.1.1) (
 Option.bind u1 fun y4 =>
 (Io p0 p1 y4.2.1.1).bind fun y5 =>
 cond (!y5.2.2.2.1.1) (
 c4
 ) (
 (qN y5.2.1.1 1 y2.2.1.1).bind fun y6 =>
 cond (!y6.2.1.1) (
 c4
 ) (
 let u2:=(cond (aq y1.2.1.1 1) true (aq y1.2.1.1 3))
 cond u2 (
 (xx p0 y5.2.2.1.1 y5.2.1.1).bind fun y7 =>
 some ((),(y7.2.1,y7.2.2.1,y7.2.2.2.1,()))
 ) (
 let u3:=(ae p0)
 cond (cond (au u3 y5.2.2.1.1) true (au (aM .i64 u3 y5.2.2.1.1) y5.2.1.1)) (
 c4
 ) (
 let u4:=(ai .i64 y5.2.2.1.1 y5.2.1.1)
 let u5:=(dO y5.2.2.1.1 u4 p0)
 cond u5 (
 let u6:=(strOf (sub p0 y5.2.2.1.1 u4))
 (zy u6).bind fun y7 =>
 cond (!y7.2.1.1) (
 c4
 ) (
 cond u5 (
 some ((),((u6,()),(u4,()),(true,()),()))
 ) none
 )
 ) none
 )
 )
 )
 )
 ) (
 let u2:=(cond (aq y1.2.1.1 1) true (aq y1.2.1.1 3))
 cond u2 (
 (xx p0 p1 y2.2.1.1).bind fun y4 =>
 some ((),(y4.2.1,y4.2.2.1,y4.2.2.2.1,()))
 ) (
 let u3:=(ae p0)
 cond (cond (au u3 p1) true (au (aM .i64 u3 p1) y2.2.1.1)) (
 c4
 ) (
 let u4:=(ai .i64 p1 y2.2.1.1)
 let u5:=(dO p1 u4 p0)
 cond u5 (
 let u6:=(strOf (sub p0 p1 u4))
 (zy u6).bind fun y4 =>
 cond (!y4.2.1.1) (
 c4
 ) (
 cond u5 (
 some ((),((u6,()),(u4,()),(true,()),()))
 ) none
 )
 ) none
 )
 )
 )
 )
def aaG:Su:=⟨[.c false [q5],.c false [ki],.c false [ki]],[(false,[.str]),(false,[ki]),(false,[.bool])],true,.inl fun x=>M9 x.1.1 x.2.1.1 x.2.2.1.1⟩
theorem Wi:ar Tryz.prog 182 aaG :=
 fq (ac nY (ac I4 (ac Kl (ac Oy (ac UI (ac U9 (ac Pp an))))))) Tryz.f182
def oK (t0:List R5) (t8:Int) (t35:List R3) (t36 t37:Int) (b2 b9:(List UInt8)×(List iz)×Unit):Rd ((List R5)×Int×(List R3)×Int×Int×CF×CF×Unit) Xx :=
 cond (au t37 t36) (
 cond (aR t37 t35) (
 (M9 t0 t8 (gt d3 t35 t37).1).bind fun y1 =>
 cond (!y1.2.2.2.1.1) (
 some (.inr (.inr (3,([],[],()),())))
 ) (
 cond (ct 24 b9.2.1 [((gt d3 t35 t37).1,y1.2.1.1,())]) (
 some (.inl (t0,y1.2.2.1.1,t35,t36,(ai .i64 t37 1),b2,(b9.1,(j3 b9.2.1 [((gt d3 t35 t37).1,y1.2.1.1,())]),()),()))
 ) none
 )
 ) none
 ) (
 some (.inr (.inl (t0,t8,t35,t36,t37,b2,b9,())))
 )
def KM:=WO (af (HL oK))
def N7 (p0:List R5):Option (Unit×(CF×Y0×Unit)) :=
 (xx p0 0 4).bind fun y1 =>
 cond (!y1.2.2.2.1.1) (
 some ((),(([],[],()),(1,()),()))
 ) (
 (HG p0).bind fun y2 =>
 cond (!y2.2.2.2.1.1) (
 c16
 ) (
 (KM p0 y2.2.2.1.1 y2.2.1.1 (ae y2.2.1.1) 0 ([],[],()) (y1.2.1.1,[],())).bind (Sum.elim (fun y3 =>
 cond (!(aq y3.2.1 (ae y3.1))) (
 Za
 ) (
 some ((),(y3.2.2.2.2.2.2.1,(0,()),()))
 )
 ) (fun y3 =>
 some ((),(y3.2.1,(y3.1,()),()))
 ))
 )
 )
def abi:Su:=⟨[.c false [q5]],[(true,[.str,iL]),(false,[ki])],true,.inl fun x=>N7 x.1.1⟩
theorem V8:ar Tryz.prog 127 abi :=
 fl (ac I4 (ac Uu (ac Wi an))) [.d 3 ki,.box 2 [(false,.str),(true,iL)]] [(0,⟨[.d 0 q5,.d 8 ki,.own 35 q3,.d 36 ki,.d 37 ki,.box 2 [(false,.str),(true,iL)],.box 9 [(false,.str),(true,iL)]],af (HL oK)⟩)] [] Tryz.f127 (lp [0] (sc cN sn))
def Nx (p0:Int) (p1:List UInt8):Option ed :=
 (Is p0).bind fun y1 =>
 (F4 p0).bind fun y2 =>
 cond (aq y2.2.1.1 1) (
 let u1:=(rk p1)
 Option.bind u1 fun y3 =>
 let u2:=(ae p1)
 some ((),(((cond y3.2.1.1 (aq u2 y1.2.1.1) false),()),()))
 ) (
 cond (aq y2.2.1.1 2) (
 let u1:=(zy p1)
 Option.bind u1 fun y3 =>
 let u2:=(ae p1)
 some ((),(((cond y3.2.1.1 (aq u2 y1.2.1.1) false),()),()))
 ) (
 cond (aq y2.2.1.1 3) (
 let u1:=(rk p1)
 Option.bind u1 fun y3 =>
 let u2:=(ae p1)
 some ((),(((cond y3.2.1.1 (bH u2 y1.2.1.1) false),()),()))
 ) (
 cond (aq y2.2.1.1 4) (
 let u1:=(zy p1)
 Option.bind u1 fun y3 =>
 cond y3.2.1.1 (
 let u2:=(ae p1)
 let u3:=(qN u2 1 y1.2.1.1)
 Option.bind u3 fun y4 =>
 some ((),(y4.2.1,()))
 ) (
 c0
 )
 ) (
 cond (aq y2.2.1.1 5) (
 let u1:=(zy p1)
 Option.bind u1 fun y3 =>
 cond y3.2.1.1 (
 let u2:=(ae p1)
 let u3:=(qN u2 1 y1.2.1.1)
 Option.bind u3 fun y4 =>
 some ((),(y4.2.1,()))
 ) (
 c0
 )
 ) (
 c0
 )
 )
 )
 )
 )
def XS:Su:=⟨[.c false [ki],.c false [.str]],[(false,[.bool])],true,.inl fun x=>Nx x.1.1 x.2.1.1⟩
theorem S8:ar Tryz.prog 256 XS :=
 fq (ac nY (ac tT (ac Kl (ac Oy (ac Pp an))))) Tryz.f256
def pf (t16:List iz) (t17 t18:Int) (b1:(List UInt8)×(List iz)×Unit):Rd ((List iz)×Int×Int×CF×Unit) Y1 :=
 cond (au t18 t17) (
 cond (aR t18 t16) (
 let u1:=(gt d175 t16 t18)
 (Nx u1.1 u1.2.1).bind fun y1 =>
 cond (!y1.2.1.1) (
 some (.inr (.inr (false,())))
 ) (
 cond (au 0 t18) (
 let u2:=(aM .i64 t18 1)
 cond (aR u2 b1.2.1) (
 cond (bH u1.1 (gt d175 b1.2.1 u2).1) (
 some (.inr (.inr (false,())))
 ) (
 some (.inl (t16,t17,(ai .i64 t18 1),b1,()))
 )
 ) none
 ) (
 some (.inl (t16,t17,(ai .i64 t18 1),b1,()))
 )
 )
 ) none
 ) (
 some (.inr (.inl (t16,t17,t18,b1,())))
 )
def DQ:=mc (af (cV pf))
def Mi (p0:(List UInt8)×(List iz)×Unit):Option ed :=
 (rk p0.1).bind fun y1 =>
 cond (cond (!y1.2.1.1) true (!(aq (ae p0.1) 4))) (
 c0
 ) (
 (DQ p0.2.1 (ae p0.2.1) 0 p0).bind (Sum.elim (fun _ =>
 c2
 ) (fun y2 =>
 some ((),(y2,()))
 ))
 )
def aaV:Su:=⟨[.c true [.str,iL]],[(false,[.bool])],true,.inl fun x=>Mi x.1⟩
theorem Ve:ar Tryz.prog 199 aaV :=
 fl (ac tT (ac S8 an)) [.d 2 .bool] [(0,⟨[.d 16 iL,.d 17 ki,.d 18 ki,.box 1 [(false,.str),(false,iL)]],af (cV pf)⟩)] [] Tryz.f199 (lp [0] (sc cN sn))
def QK (p0:List UInt8):Option ed :=
 some ((),(((cond (cond (cq p0 [48,49,48,48]) true (cq p0 [48,50,48,48])) true (cq p0 [48,50,50,48])),()),()))
def ZZ:Su:=⟨[.c false [.str]],[(false,[.bool])],true,.inl fun x=>QK x.1.1⟩
theorem Vb:ar Tryz.prog 200 ZZ :=
 fq an Tryz.f200
def pV (t1:Int) (t9:List iz) (t10 t11:Int):Rd (Int×(List iz)×Int×Int×Unit) ((List UInt8)×Bool×Unit) :=
 cond (au t11 t10) (
 cond (aR t11 t9) (
 let u1:=(gt d175 t9 t11)
 cond (aq u1.1 t1) (
 some (.inr (.inr (u1.2.1,true,())))
 ) (
 some (.inl (t1,t9,t10,(ai .i64 t11 1),()))
 )
 ) none
 ) (
 some (.inr (.inl (t1,t9,t10,t11,())))
 )
def Jm:=mc (af (cV pV))
def j4 (p0:(List UInt8)×(List iz)×Unit) (p1:Int):Option (Unit×(Y8×Y1×Unit)) :=
 (Jm p1 p0.2.1 (ae p0.2.1) 0).bind (Sum.elim (fun _ =>
 some ((),(([],()),(false,()),()))
 ) (fun y1 =>
 some ((),((y1.1,()),(y1.2.1,()),()))
 ))
def Ym:Su:=⟨[.c true [.str,iL],.c false [ki]],[(false,[.str]),(false,[.bool])],true,.inl fun x=>j4 x.1 x.2.1.1⟩
theorem WL:ar Tryz.prog 128 Ym :=
 fl an [.d 4 .str,.d 5 .bool] [(0,⟨[.d 1 ki,.d 9 iL,.d 10 ki,.d 11 ki],af (cV pV)⟩)] [] Tryz.f128 (lp [0] (sc cN sn))
def BD (p0:Int):Option ed :=
 (qN p0 1 8).bind fun y1 =>
 some ((),(y1.2.1,()))
def Yb:Su:=⟨[.c false [ki]],[(false,[.bool])],true,.inl fun x=>BD x.1.1⟩
theorem Fc:ar Tryz.prog 259 Yb :=
 fq (ac nY an) Tryz.f259
def Ty  : Option SZ :=
 some ((),(([([],()),([48,49,48,48],()),([48,49,48,48],()),([48,50,50,48],()),([48,50,50,48],()),([48,50,50,48],()),([48,50,48,48],()),([48,49,48,48],()),([48,50,48,48],())],()),()))
def aal:Su:=⟨[],[(false,[q9])],true,.inl fun x=>Ty ⟩
theorem V6:ar Tryz.prog 296 aal :=
 fq an Tryz.f296
def Ft (p0:Int):Option Ny :=
 (BD p0).bind fun y1 =>
 cond (!y1.2.1.1) (
 XH
 ) (
 (Ty).bind fun y2 =>
 cond (aR p0 y2.2.1.1) (
 some ((),((gt d9 y2.2.1.1 p0),()))
 ) none
 )
def YV:Su:=⟨[.c false [ki]],[(false,[.str])],true,.inl fun x=>Ft x.1.1⟩
theorem Ot:ar Tryz.prog 257 YV :=
 fq (ac Fc (ac V6 an)) Tryz.f257
def Tz  : Option SZ :=
 some ((),(([([],()),([48,48],()),([48,50],()),([48,49],()),([48,48],()),([50,48],()),([52,48],()),([51,49],()),([57,48],())],()),()))
def Z8:Su:=⟨[],[(false,[q9])],true,.inl fun x=>Tz ⟩
theorem Wd:ar Tryz.prog 297 Z8 :=
 fq an Tryz.f297
def Qw (p0:Int):Option Ny :=
 (BD p0).bind fun y1 =>
 cond (!y1.2.1.1) (
 XH
 ) (
 (Tz).bind fun y2 =>
 cond (aR p0 y2.2.1.1) (
 some ((),((gt d9 y2.2.1.1 p0),()))
 ) none
 )
def ZT:Su:=⟨[.c false [ki]],[(false,[.str])],true,.inl fun x=>Qw x.1.1⟩
theorem Ux:ar Tryz.prog 258 ZT :=
 fq (ac Fc (ac Wd an)) Tryz.f258
def wN (t0 t1:List UInt8) (t5:Int):Rd ((List UInt8)×(List UInt8)×Int×Unit) Y0 :=
 cond (bH t5 8) (
 (Ft t5).bind fun y1 =>
 cond (cq y1.2.1.1 t0) (
 (Qw t5).bind fun y2 =>
 cond (dO 0 2 t1) (
 cond (cq y2.2.1.1 (sub t1 0 2)) (
 some (.inr (.inr (t5,())))
 ) (
 some (.inl (t0,t1,(ai .i64 t5 1),()))
 )
 ) none
 ) (
 some (.inl (t0,t1,(ai .i64 t5 1),()))
 )
 ) (
 some (.inr (.inl (t0,t1,t5,())))
 )
def JK:=kD (af (dk wN))
def J4 (p0 p1:List UInt8):Option gY :=
 (JK p0 p1 1).bind (Sum.elim (fun _ =>
 c6
 ) (fun y1 =>
 some ((),(y1,()))
 ))
def aaJ:Su:=⟨[.c false [.str],.c false [.str]],[(false,[ki])],true,.inl fun x=>J4 x.1.1 x.2.1.1⟩
theorem Wc:ar Tryz.prog 201 aaJ :=
 fl (ac Ot (ac Ux an)) [.d 4 ki] [(0,⟨[.d 0 .str,.d 1 .str,.d 5 ki],af (dk wN)⟩)] [] Tryz.f201 (lp [0] (sc cN sn))
def FX (p0:Int):Option ed :=
 (BD p0).bind fun y1 =>
 some ((),(((cond y1.2.1.1 (au p0 7) false),()),()))
def Zg:Su:=⟨[.c false [ki]],[(false,[.bool])],true,.inl fun x=>FX x.1.1⟩
theorem O0:ar Tryz.prog 202 Zg :=
 fq (ac Fc an) Tryz.f202
def AD (t0:List UInt8) (t3:Int):Rd Wb Unit :=
 cond (au 0 t3) (
 let u1:=(aM .i64 t3 1)
 cond (aR u1 t0) (
 cond (aq (dx t0 u1) 32) (
 some (.inl (t0,u1,()))
 ) (
 some (.inr (.inl (t0,t3,())))
 )
 ) none
 ) (
 some (.inr (.inl (t0,t3,())))
 )
def Je:=PL (af (xo AD))
def LG (p0:List UInt8):Option Ny :=
 (Je p0 (ae p0)).bind (Sum.elim (fun y1 =>
 cond (dO 0 y1.2.1 y1.1) (
 some ((),(((sub y1.1 0 y1.2.1),()),()))
 ) none
 ) (fun _ =>
 none
 ))
def ZF:Su:=⟨[.c false [.str]],[(false,[.str])],true,.inl fun x=>LG x.1.1⟩
theorem S6:ar Tryz.prog 203 ZF :=
 fl an [] [(0,⟨[.d 0 .str,.d 3 ki],af (xo AD)⟩)] [] Tryz.f203 (lp [0] (sc cN sn))
def Ck (p0:Int):Option ed :=
 (qN p0 1 4).bind fun y1 =>
 some ((),(y1.2.1,()))
def XX:Su:=⟨[.c false [ki]],[(false,[.bool])],true,.inl fun x=>Ck x.1.1⟩
theorem OE:ar Tryz.prog 204 XX :=
 fq (ac nY an) Tryz.f204
def kP (p0:Int×(List UInt8)×(List UInt8)×(List UInt8)×(List UInt8)×(List UInt8)×Int×Int×Unit):Option ed :=
 (BD p0.1).bind fun y1 =>
 cond (!y1.2.1.1) (
 c0
 ) (
 (Ft p0.1).bind fun y2 =>
 cond (!(cq p0.2.2.2.2.2.1 y2.2.1.1)) (
 c0
 ) (
 (su p0.2.1).bind fun y3 =>
 cond (!y3.2.1.1) (
 c0
 ) (
 (rk p0.2.2.2.2.1).bind fun y4 =>
 cond (cond (!y4.2.1.1) true (!(aq (ae p0.2.2.2.2.1) 6))) (
 c0
 ) (
 let u1:=(FX p0.1)
 Option.bind u1 fun y5 =>
 cond y5.2.1.1 (
 (KC p0.2.2.2.1).bind fun y6 =>
 cond (!y6.2.1.1) (
 c0
 ) (
 Option.bind u1 fun y7 =>
 cond (cond (!y7.2.1.1) (!(cq p0.2.2.2.1 [])) false) (
 c0
 ) (
 let u2:=(Ck p0.1)
 Option.bind u2 fun y8 =>
 cond y8.2.1.1 (
 let u3:=(qN p0.2.2.2.2.2.2.1 0 999999999999)
 Option.bind u3 fun y9 =>
 cond (!y9.2.1.1) (
 c0
 ) (
 Option.bind u2 fun y10 =>
 cond (cond (!y10.2.1.1) (!(aq p0.2.2.2.2.2.2.1 0)) false) (
 c0
 ) (
 cond (aq p0.1 1) (
 let u4:=(qN p0.2.2.2.2.2.2.2.1 0 9999)
 Option.bind u4 fun y11 =>
 cond (!y11.2.1.1) (
 c0
 ) (
 let u5:=(cond (!(aq p0.1 1)) (!(aq p0.2.2.2.2.2.2.2.1 0)) false)
 cond u5 (
 c0
 ) (
 cond (aq p0.1 6) (
 let u6:=(su p0.2.2.1)
 Option.bind u6 fun y12 =>
 cond y12.2.1.1 (
 c2
 ) (
 some ((),(((cond (!(aq p0.1 6)) (cq p0.2.2.1 []) false),()),()))
 )
 ) (
 some ((),(((cond (!(aq p0.1 6)) (cq p0.2.2.1 []) false),()),()))
 )
 )
 )
 ) (
 let u4:=(cond (!(aq p0.1 1)) (!(aq p0.2.2.2.2.2.2.2.1 0)) false)
 cond u4 (
 c0
 ) (
 cond (aq p0.1 6) (
 let u5:=(su p0.2.2.1)
 Option.bind u5 fun y11 =>
 cond y11.2.1.1 (
 c2
 ) (
 some ((),(((cond (!(aq p0.1 6)) (cq p0.2.2.1 []) false),()),()))
 )
 ) (
 some ((),(((cond (!(aq p0.1 6)) (cq p0.2.2.1 []) false),()),()))
 )
 )
 )
 )
 )
 ) (
 Option.bind u2 fun y9 =>
 let u3:=(cond (!y9.2.1.1) (!(aq p0.2.2.2.2.2.2.1 0)) false)
 cond u3 (
 c0
 ) (
 cond (aq p0.1 1) (
 let u4:=(qN p0.2.2.2.2.2.2.2.1 0 9999)
 Option.bind u4 fun y10 =>
 cond (!y10.2.1.1) (
 c0
 ) (
 let u5:=(cond (!(aq p0.1 1)) (!(aq p0.2.2.2.2.2.2.2.1 0)) false)
 cond u5 (
 c0
 ) (
 cond (aq p0.1 6) (
 let u6:=(su p0.2.2.1)
 Option.bind u6 fun y11 =>
 cond y11.2.1.1 (
 c2
 ) (
 some ((),(((cond (!(aq p0.1 6)) (cq p0.2.2.1 []) false),()),()))
 )
 ) (
 some ((),(((cond (!(aq p0.1 6)) (cq p0.2.2.1 []) false),()),()))
 )
 )
 )
 ) (
 let u4:=(cond (!(aq p0.1 1)) (!(aq p0.2.2.2.2.2.2.2.1 0)) false)
 cond u4 (
 c0
 ) (
 cond (aq p0.1 6) (
 let u5:=(su p0.2.2.1)
 Option.bind u5 fun y10 =>
 cond y10.2.1.1 (
 c2
 ) (
 some ((),(((cond (!(aq p0.1 6)) (cq p0.2.2.1 []) false),()),()))
 )
 ) (
 some ((),(((cond (!(aq p0.1 6)) (cq p0.2.2.1 []) false),()),()))
 )
 )
 )
 )
 )
 )
 )
 ) (
 Option.bind u1 fun y6 =>
 cond (cond (!y6.2.1.1) (!(cq p0.2.2.2.1 [])) false) (
 c0
 ) (
 let u2:=(Ck p0.1)
 Option.bind u2 fun y7 =>
 cond y7.2.1.1 (
 let u3:=(qN p0.2.2.2.2.2.2.1 0 999999999999)
 Option.bind u3 fun y8 =>
 cond (!y8.2.1.1) (
 c0
 ) (
 Option.bind u2 fun y9 =>
 let u4:=(cond (!y9.2.1.1) (!(aq p0.2.2.2.2.2.2.1 0)) false)
 cond u4 (
 c0
 ) (
 cond (aq p0.1 1) (
 let u5:=(qN p0.2.2.2.2.2.2.2.1 0 9999)
 Option.bind u5 fun y10 =>
 cond (!y10.2.1.1) (
 c0
 ) (
 let u6:=(cond (!(aq p0.1 1)) (!(aq p0.2.2.2.2.2.2.2.1 0)) false)
 cond u6 (
 c0
 ) (
 cond (aq p0.1 6) (
 let u7:=(su p0.2.2.1)
 Option.bind u7 fun y11 =>
 cond y11.2.1.1 (
 c2
 ) (
 some ((),(((cond (!(aq p0.1 6)) (cq p0.2.2.1 []) false),()),()))
 )
 ) (
 some ((),(((cond (!(aq p0.1 6)) (cq p0.2.2.1 []) false),()),()))
 )
 )
 )
 ) (
 let u5:=(cond (!(aq p0.1 1)) (!(aq p0.2.2.2.2.2.2.2.1 0)) false)
 cond u5 (
 c0
 ) (
 cond (aq p0.1 6) (
 let u6:=(su p0.2.2.1)
 Option.bind u6 fun y10 =>
 cond y10.2.1.1 (
 c2
 ) (
 some ((),(((cond (!(aq p0.1 6)) (cq p0.2.2.1 []) false),()),()))
 )
 ) (
 some ((),(((cond (!(aq p0.1 6)) (cq p0.2.2.1 []) false),()),()))
 )
 )
 )
 )
 )
 ) (
 Option.bind u2 fun y8 =>
 cond (cond (!y8.2.1.1) (!(aq p0.2.2.2.2.2.2.1 0)) false) (
 c0
 ) (
 cond (aq p0.1 1) (
 let u3:=(qN p0.2.2.2.2.2.2.2.1 0 9999)
 Option.bind u3 fun y9 =>
 cond (!y9.2.1.1) (
 c0
 ) (
 let u4:=(cond (!(aq p0.1 1)) (!(aq p0.2.2.2.2.2.2.2.1 0)) false)
 cond u4 (
 c0
 ) (
 cond (aq p0.1 6) (
 let u5:=(su p0.2.2.1)
 Option.bind u5 fun y10 =>
 cond y10.2.1.1 (
 c2
 ) (
 some ((),(((cond (!(aq p0.1 6)) (cq p0.2.2.1 []) false),()),()))
 )
 ) (
 some ((),(((cond (!(aq p0.1 6)) (cq p0.2.2.1 []) false),()),()))
 )
 )
 )
 ) (
 let u3:=(cond (!(aq p0.1 1)) (!(aq p0.2.2.2.2.2.2.2.1 0)) false)
 cond u3 (
 c0
 ) (
 cond (aq p0.1 6) (
 let u4:=(su p0.2.2.1)
 Option.bind u4 fun y9 =>
 cond y9.2.1.1 (
 c2
 ) (
 some ((),(((cond (!(aq p0.1 6)) (cq p0.2.2.1 []) false),()),()))
 )
 ) (
 some ((),(((cond (!(aq p0.1 6)) (cq p0.2.2.1 []) false),()),()))
 )
 )
 )
 )
 )
 )
 )
 )
 )
 )
 )
def XQ:Su:=⟨[.c true [ki,.str,.str,.str,.str,.str,ki,ki]],[(false,[.bool])],true,.inl fun x=>kP x.1⟩
theorem WA:ar Tryz.prog 206 XQ :=
 fq (ac nY (ac tT (ac Po (ac Om (ac Fc (ac Ot (ac O0 (ac OE an)))))))) Tryz.f206
def NF (p0:(List UInt8)×(List iz)×Unit):Option (Unit×(Sd×Y0×Unit)) :=
 (Mi p0).bind fun y1 =>
 cond (!y1.2.1.1) (
 c1
 ) (
 (QK p0.1).bind fun y2 =>
 cond (!y2.2.1.1) (
 c21
 ) (
 (j4 p0 3).bind fun y3 =>
 cond (!y3.2.2.1.1) (
 c1
 ) (
 (J4 p0.1 y3.2.1.1).bind fun y4 =>
 (j4 p0 2).bind fun y5 =>
 (j4 p0 11).bind fun y6 =>
 (FX y4.2.1.1).bind fun y7 =>
 cond y7.2.1.1 (
 (j4 p0 38).bind fun y8 =>
 (LG y8.2.1.1).bind fun y9 =>
 let u1:=(Ck y4.2.1.1)
 Option.bind u1 fun y10 =>
 cond y10.2.1.1 (
 let u2:=(j4 p0 4)
 Option.bind u2 fun y11 =>
 let u3:=(ua y11.2.1.1)
 Option.bind u3 fun y12 =>
 cond (aq y4.2.1.1 1) (
 let u4:=(j4 p0 14)
 Option.bind u4 fun y13 =>
 (ua y13.2.1.1).bind fun y14 =>
 cond (aq y4.2.1.1 6) (
 let u5:=(j4 p0 103)
 Option.bind u5 fun y15 =>
 let u6:=(cond y3.2.2.1.1 y11.2.2.1.1 false)
 cond (!(cond u6 y13.2.2.1.1 false)) (
 c1
 ) (
 (kP (y4.2.1.1,y5.2.1.1,y15.2.1.1,y9.2.1.1,y6.2.1.1,p0.1,y12.2.1.1,y14.2.1.1,())).bind fun y16 =>
 cond (!y16.2.1.1) (
 c1
 ) (
 some ((),((y4.2.1.1,y5.2.1.1,y15.2.1.1,y9.2.1.1,y6.2.1.1,p0.1,y12.2.1.1,y14.2.1.1,()),(0,()),()))
 )
 )
 ) (
 let u5:=(cond y3.2.2.1.1 y11.2.2.1.1 false)
 cond (!(cond u5 y13.2.2.1.1 false)) (
 c1
 ) (
 (kP (y4.2.1.1,y5.2.1.1,[],y9.2.1.1,y6.2.1.1,p0.1,y12.2.1.1,y14.2.1.1,())).bind fun y15 =>
 cond (!y15.2.1.1) (
 c1
 ) (
 some ((),((y4.2.1.1,y5.2.1.1,[],y9.2.1.1,y6.2.1.1,p0.1,y12.2.1.1,y14.2.1.1,()),(0,()),()))
 )
 )
 )
 ) (
 cond (aq y4.2.1.1 6) (
 let u4:=(j4 p0 103)
 Option.bind u4 fun y13 =>
 let u5:=(cond y3.2.2.1.1 y11.2.2.1.1 false)
 cond (!u5) (
 c1
 ) (
 (kP (y4.2.1.1,y5.2.1.1,y13.2.1.1,y9.2.1.1,y6.2.1.1,p0.1,y12.2.1.1,0,())).bind fun y14 =>
 cond (!y14.2.1.1) (
 c1
 ) (
 some ((),((y4.2.1.1,y5.2.1.1,y13.2.1.1,y9.2.1.1,y6.2.1.1,p0.1,y12.2.1.1,0,()),(0,()),()))
 )
 )
 ) (
 let u4:=(cond y3.2.2.1.1 y11.2.2.1.1 false)
 cond (!u4) (
 c1
 ) (
 (kP (y4.2.1.1,y5.2.1.1,[],y9.2.1.1,y6.2.1.1,p0.1,y12.2.1.1,0,())).bind fun y13 =>
 cond (!y13.2.1.1) (
 c1
 ) (
 some ((),((y4.2.1.1,y5.2.1.1,[],y9.2.1.1,y6.2.1.1,p0.1,y12.2.1.1,0,()),(0,()),()))
 )
 )
 )
 )
 ) (
 cond (aq y4.2.1.1 1) (
 let u2:=(j4 p0 14)
 Option.bind u2 fun y11 =>
 let u3:=(ua y11.2.1.1)
 Option.bind u3 fun y12 =>
 cond (aq y4.2.1.1 6) (
 let u4:=(j4 p0 103)
 Option.bind u4 fun y13 =>
 let u5:=(cond y3.2.2.1.1 y11.2.2.1.1 false)
 cond (!u5) (
 c1
 ) (
 (kP (y4.2.1.1,y5.2.1.1,y13.2.1.1,y9.2.1.1,y6.2.1.1,p0.1,0,y12.2.1.1,())).bind fun y14 =>
 cond (!y14.2.1.1) (
 c1
 ) (
 some ((),((y4.2.1.1,y5.2.1.1,y13.2.1.1,y9.2.1.1,y6.2.1.1,p0.1,0,y12.2.1.1,()),(0,()),()))
 )
 )
 ) (
 let u4:=(cond y3.2.2.1.1 y11.2.2.1.1 false)
 cond (!u4) (
 c1
 ) (
 (kP (y4.2.1.1,y5.2.1.1,[],y9.2.1.1,y6.2.1.1,p0.1,0,y12.2.1.1,())).bind fun y13 =>
 cond (!y13.2.1.1) (
 c1
 ) (
 some ((),((y4.2.1.1,y5.2.1.1,[],y9.2.1.1,y6.2.1.1,p0.1,0,y12.2.1.1,()),(0,()),()))
 )
 )
 )
 ) (
 cond (aq y4.2.1.1 6) (
 let u2:=(j4 p0 103)
 Option.bind u2 fun y11 =>
 cond (!y3.2.2.1.1) (
 c1
 ) (
 (kP (y4.2.1.1,y5.2.1.1,y11.2.1.1,y9.2.1.1,y6.2.1.1,p0.1,0,0,())).bind fun y12 =>
 cond (!y12.2.1.1) (
 c1
 ) (
 some ((),((y4.2.1.1,y5.2.1.1,y11.2.1.1,y9.2.1.1,y6.2.1.1,p0.1,0,0,()),(0,()),()))
 )
 )
 ) (
 cond (!y3.2.2.1.1) (
 c1
 ) (
 (kP (y4.2.1.1,y5.2.1.1,[],y9.2.1.1,y6.2.1.1,p0.1,0,0,())).bind fun y11 =>
 cond (!y11.2.1.1) (
 c1
 ) (
 some ((),((y4.2.1.1,y5.2.1.1,[],y9.2.1.1,y6.2.1.1,p0.1,0,0,()),(0,()),()))
 )
 )
 )
 )
 )
 ) (
 let u1:=(Ck y4.2.1.1)
 Option.bind u1 fun y8 =>
 cond y8.2.1.1 (
 let u2:=(j4 p0 4)
 Option.bind u2 fun y9 =>
 let u3:=(ua y9.2.1.1)
 Option.bind u3 fun y10 =>
 cond (aq y4.2.1.1 1) (
 let u4:=(j4 p0 14)
 Option.bind u4 fun y11 =>
 let u5:=(ua y11.2.1.1)
 Option.bind u5 fun y12 =>
 cond (aq y4.2.1.1 6) (
 let u6:=(j4 p0 103)
 Option.bind u6 fun y13 =>
 let u7:=(cond y3.2.2.1.1 y9.2.2.1.1 false)
 cond (!(cond u7 y11.2.2.1.1 false)) (
 c1
 ) (
 (kP (y4.2.1.1,y5.2.1.1,y13.2.1.1,[],y6.2.1.1,p0.1,y10.2.1.1,y12.2.1.1,())).bind fun y14 =>
 cond (!y14.2.1.1) (
 c1
 ) (
 some ((),((y4.2.1.1,y5.2.1.1,y13.2.1.1,[],y6.2.1.1,p0.1,y10.2.1.1,y12.2.1.1,()),(0,()),()))
 )
 )
 ) (
 let u6:=(cond y3.2.2.1.1 y9.2.2.1.1 false)
 cond (!(cond u6 y11.2.2.1.1 false)) (
 c1
 ) (
 (kP (y4.2.1.1,y5.2.1.1,[],[],y6.2.1.1,p0.1,y10.2.1.1,y12.2.1.1,())).bind fun y13 =>
 cond (!y13.2.1.1) (
 c1
 ) (
 some ((),((y4.2.1.1,y5.2.1.1,[],[],y6.2.1.1,p0.1,y10.2.1.1,y12.2.1.1,()),(0,()),()))
 )
 )
 )
 ) (
 cond (aq y4.2.1.1 6) (
 let u4:=(j4 p0 103)
 Option.bind u4 fun y11 =>
 let u5:=(cond y3.2.2.1.1 y9.2.2.1.1 false)
 cond (!u5) (
 c1
 ) (
 (kP (y4.2.1.1,y5.2.1.1,y11.2.1.1,[],y6.2.1.1,p0.1,y10.2.1.1,0,())).bind fun y12 =>
 cond (!y12.2.1.1) (
 c1
 ) (
 some ((),((y4.2.1.1,y5.2.1.1,y11.2.1.1,[],y6.2.1.1,p0.1,y10.2.1.1,0,()),(0,()),()))
 )
 )
 ) (
 let u4:=(cond y3.2.2.1.1 y9.2.2.1.1 false)
 cond (!u4) (
 c1
 ) (
 (kP (y4.2.1.1,y5.2.1.1,[],[],y6.2.1.1,p0.1,y10.2.1.1,0,())).bind fun y11 =>
 cond (!y11.2.1.1) (
 c1
 ) (
 some ((),((y4.2.1.1,y5.2.1.1,[],[],y6.2.1.1,p0.1,y10.2.1.1,0,()),(0,()),()))
 )
 )
 )
 )
 ) (
 cond (aq y4.2.1.1 1) (
 let u2:=(j4 p0 14)
 Option.bind u2 fun y9 =>
 let u3:=(ua y9.2.1.1)
 Option.bind u3 fun y10 =>
 cond (aq y4.2.1.1 6) (
 let u4:=(j4 p0 103)
 Option.bind u4 fun y11 =>
 let u5:=(cond y3.2.2.1.1 y9.2.2.1.1 false)
 cond (!u5) (
 c1
 ) (
 (kP (y4.2.1.1,y5.2.1.1,y11.2.1.1,[],y6.2.1.1,p0.1,0,y10.2.1.1,())).bind fun y12 =>
 cond (!y12.2.1.1) (
 c1
 ) (
 some ((),((y4.2.1.1,y5.2.1.1,y11.2.1.1,[],y6.2.1.1,p0.1,0,y10.2.1.1,()),(0,()),()))
 )
 )
 ) (
 let u4:=(cond y3.2.2.1.1 y9.2.2.1.1 false)
 cond (!u4) (
 c1
 ) (
 (kP (y4.2.1.1,y5.2.1.1,[],[],y6.2.1.1,p0.1,0,y10.2.1.1,())).bind fun y11 =>
 cond (!y11.2.1.1) (
 c1
 ) (
 some ((),((y4.2.1.1,y5.2.1.1,[],[],y6.2.1.1,p0.1,0,y10.2.1.1,()),(0,()),()))
 )
 )
 )
 ) (
 cond (aq y4.2.1.1 6) (
 let u2:=(j4 p0 103)
 Option.bind u2 fun y9 =>
 cond (!y3.2.2.1.1) (
 c1
 ) (
 (kP (y4.2.1.1,y5.2.1.1,y9.2.1.1,[],y6.2.1.1,p0.1,0,0,())).bind fun y10 =>
 cond (!y10.2.1.1) (
 c1
 ) (
 some ((),((y4.2.1.1,y5.2.1.1,y9.2.1.1,[],y6.2.1.1,p0.1,0,0,()),(0,()),()))
 )
 )
 ) (
 cond (!y3.2.2.1.1) (
 c1
 ) (
 (kP (y4.2.1.1,y5.2.1.1,[],[],y6.2.1.1,p0.1,0,0,())).bind fun y9 =>
 cond (!y9.2.1.1) (
 c1
 ) (
 some ((),((y4.2.1.1,y5.2.1.1,[],[],y6.2.1.1,p0.1,0,0,()),(0,()),()))
 )
 )
 )
 )
 )
 )
 )
 )
 )
def abb:Su:=⟨[.c true [.str,iL]],[(true,[ki,.str,.str,.str,.str,.str,ki,ki]),(false,[ki])],true,.inl fun x=>NF x.1⟩
theorem UJ:ar Tryz.prog 164 abb :=
 fq (ac PR (ac Ve (ac Vb (ac WL (ac Wc (ac O0 (ac S6 (ac OE (ac WA an))))))))) Tryz.f164
def ND (p0:List R5):Option SZ :=
 (N7 p0).bind fun y1 =>
 cond (!(aq y1.2.2.1.1 0)) (
 ZA
 ) (
 (NF y1.2.1).bind fun y2 =>
 cond (!(aq y2.2.2.1.1 0)) (
 ZA
 ) (
 cond (cond (!(aq y2.2.1.1 6)) true (cq y2.2.1.2.2.1 y2.2.1.2.1)) (
 some ((),(([(y2.2.1.2.1,())],()),()))
 ) (
 cond (j8 y2.2.1.2.2.1 y2.2.1.2.1) (
 some ((),(([(y2.2.1.2.2.1,()),(y2.2.1.2.1,())],()),()))
 ) (
 some ((),(([(y2.2.1.2.1,()),(y2.2.1.2.2.1,())],()),()))
 )
 )
 )
 )
def aaA:Su:=⟨[.c false [q5]],[(false,[q9])],true,.inl fun x=>ND x.1.1⟩
theorem VQ:ar Tryz.prog 103 aaA :=
 fq (ac V8 (ac UJ an)) Tryz.f103
def Da (t1:Int) (t5:List R3) (t8 t9:Int) (t12:List R9) (t13 t14:Int):Rd (Int×(List R3)×Int×Int×(List R9)×Int×Int×Unit) Unit :=
 cond (au t9 (ae t5)) (
 cond (aR t9 t5) (
 cond (au (gt d3 t5 t9).1 t8) (
 some (.inl (t1,t5,t8,(ai .i64 t9 1),t12,t13,t14,()))
 ) (
 some (.inr (.inl (t1,t5,t8,t9,t12,t13,t14,())))
 )
 ) none
 ) (
 some (.inr (.inl (t1,t5,t8,t9,t12,t13,t14,())))
 )
def rM:=WO (af (HL Da))
def mN (t1:Int) (t5:List R3) (t12:List R9) (t13 t14:Int):Rd (Int×(List R3)×(List R9)×Int×Int×Unit) Unit :=
 cond (au t14 t13) (
 cond (aR t14 t12) (
 (Bj (gt d9 t12 t14).1 t1).bind fun y1 =>
 (rM t1 t5 y1.2.1.1 0 t12 t13 t14).bind (Sum.elim (fun y2 =>
 let u1:=(ae y2.2.1)
 cond (au y2.2.2.2.1 u1) (
 cond (aR y2.2.2.2.1 y2.2.1) (
 cond (aq (gt d3 y2.2.1 y2.2.2.2.1).1 y2.2.2.1) (
 let u2:=(ai .i64 y2.2.2.2.2.2.2.1 1)
 some (.inl (y2.1,y2.2.1,y2.2.2.2.2.1,y2.2.2.2.2.2.1,u2,()))
 ) (
 let u2:=(dO 0 y2.2.2.2.1 y2.2.1)
 cond u2 (
 let u3:=(PU y2.2.1 y2.2.2.2.1)
 let u4:=(ct 8 [] u3)
 cond u4 (
 let u5:=(j3 [] u3)
 let u6:=(ct 8 u5 [(y2.2.2.1,())])
 cond u6 (
 let u7:=(dO y2.2.2.2.1 u1 y2.2.1)
 cond u7 (
 let u8:=(j3 u5 [(y2.2.2.1,())])
 let u9:=(sub y2.2.1 y2.2.2.2.1 u1)
 let u10:=(ct 8 u8 u9)
 cond u10 (
 let u11:=(ai .i64 y2.2.2.2.2.2.2.1 1)
 some (.inl (y2.1,(j3 u8 u9),y2.2.2.2.2.1,y2.2.2.2.2.2.1,u11,()))
 ) none
 ) none
 ) none
 ) none
 ) none
 )
 ) none
 ) (
 let u2:=(dO 0 y2.2.2.2.1 y2.2.1)
 cond u2 (
 let u3:=(PU y2.2.1 y2.2.2.2.1)
 let u4:=(ct 8 [] u3)
 cond u4 (
 let u5:=(j3 [] u3)
 let u6:=(ct 8 u5 [(y2.2.2.1,())])
 cond u6 (
 let u7:=(dO y2.2.2.2.1 u1 y2.2.1)
 cond u7 (
 let u8:=(j3 u5 [(y2.2.2.1,())])
 let u9:=(sub y2.2.1 y2.2.2.2.1 u1)
 let u10:=(ct 8 u8 u9)
 cond u10 (
 let u11:=(ai .i64 y2.2.2.2.2.2.2.1 1)
 some (.inl (y2.1,(j3 u8 u9),y2.2.2.2.2.1,y2.2.2.2.2.2.1,u11,()))
 ) none
 ) none
 ) none
 ) none
 ) none
 )
 ) (fun _ =>
 some (.inr (.inr ()))
 ))
 ) none
 ) (
 some (.inr (.inl (t1,t5,t12,t13,t14,())))
 )
def Ag:=xP (af (fh mN))
def MZ (p0:List R9) (p1:Int):Option O7 :=
 (Ag p1 [] p0 (ae p0) 0).bind (Sum.elim (fun y1 =>
 some ((),((y1.2.1,()),()))
 ) (fun _ =>
 none
 ))
def YN:Su:=⟨[.c false [q9],.c false [ki]],[(false,[q3])],true,.inl fun x=>MZ x.1.1 x.2.1.1⟩
theorem TB:ar Tryz.prog 102 YN :=
 fl (ac O6 an) [] [(2,⟨[.d 1 ki,.own 5 q3,.d 8 ki,.d 9 ki,.d 12 q9,.d 13 ki,.d 14 ki],af (HL Da)⟩),(0,⟨[.d 1 ki,.own 5 q3,.d 12 q9,.d 13 ki,.d 14 ki],af (fh mN)⟩)] [] Tryz.f102 (lp [0] (sc (lp [2] (sc cN sn)) sn))
def WW (p0:(List R5)×Int×(List R3)×Int×Int×Int×Int×Int×(List R5)×Unit) (p1:Int):Option O7 :=
 (ND p0.1).bind fun y1 =>
 (MZ y1.2.1.1 p1).bind fun y2 =>
 some ((),(y2.2.1,()))
def s51:Su:=⟨[.c true [q5,ki,q3,ki,ki,ki,ki,ki,q5],.c false [ki]],[(false,[q3])],true,.inl fun x=>WW x.1 x.2.1.1⟩
theorem Yp:ar Tryz.prog 51 s51 :=
 fq (ac VQ (ac TB an)) Tryz.f51
def oC (t0 t1:List R3) (t12 t13:Int):Rd ((List R3)×(List R3)×Int×Int×Unit) Y1 :=
 cond (au t13 t12) (
 cond (aR t13 t0) (
 cond (aR t13 t1) (
 cond (!(aq (gt d3 t0 t13).1 (gt d3 t1 t13).1)) (
 some (.inr (.inr (false,())))
 ) (
 some (.inl (t0,t1,t12,(ai .i64 t13 1),()))
 )
 ) none
 ) none
 ) (
 some (.inr (.inl (t0,t1,t12,t13,())))
 )
def Qf:=mc (af (cV oC))
def ML (p0 p1:List R3):Option ed :=
 let u1:=(ae p0)
 cond (!(aq u1 (ae p1))) (
 c0
 ) (
 (Qf p0 p1 u1 0).bind (Sum.elim (fun _ =>
 c2
 ) (fun y1 =>
 some ((),(y1,()))
 ))
 )
def aaa:Su:=⟨[.c false [q3],.c false [q3]],[(false,[.bool])],true,.inl fun x=>ML x.1.1 x.2.1.1⟩
theorem S2:ar Tryz.prog 116 aaa :=
 fl an [.d 4 .bool] [(0,⟨[.d 0 q3,.d 1 q3,.d 12 ki,.d 13 ki],af (cV oC)⟩)] [] Tryz.f116 (lp [0] (sc cN sn))
def XA (p0:(List R5)×Int×(List R3)×Int×Int×Int×Int×Int×(List R5)×Unit) (p1:Int):Option ed :=
 (qN p1 1 5).bind fun y1 =>
 let u1:=(ae p0.2.2.2.2.2.2.2.2.1)
 cond (cond (cond (!y1.2.1.1) true (au 300 (ae p0.1))) true (au 200 u1)) (
 c0
 ) (
 (Hw p0.2.2.2.2.1).bind fun y2 =>
 cond (!y2.2.1.1) (
 c0
 ) (
 (Hw p0.2.2.2.2.2.2.2.1).bind fun y3 =>
 cond (!y3.2.1.1) (
 c0
 ) (
 (qN p0.2.1 0 5).bind fun y4 =>
 cond (!y4.2.1.1) (
 c0
 ) (
 (MK p0).bind fun y5 =>
 cond (!y5.2.1.1) (
 c0
 ) (
 cond (cond (aq p0.2.1 0) (au 0 (ae p0.2.2.1)) false) (
 c0
 ) (
 cond (!(aq p0.2.1 0)) (
 (WW p0 p1).bind fun y6 =>
 (ML p0.2.2.1 y6.2.1.1).bind fun y7 =>
 cond (!y7.2.1.1) (
 c0
 ) (
 cond (bH p0.2.1 2) (
 some ((),(((cond (cond (cond (aq p0.2.2.2.2.2.1 (-1)) (aq p0.2.2.2.2.2.2.1 (-1)) false) (aq p0.2.2.2.2.2.2.2.1 0) false) (aq u1 0) false),()),()))
 ) (
 let u2:=(Hw p0.2.2.2.2.2.1)
 Option.bind u2 fun y8 =>
 cond (cond (!y8.2.1.1) true (au p0.2.2.2.2.2.1 p0.2.2.2.2.1)) (
 c0
 ) (
 cond (aq p0.2.1 5) (
 let u3:=(Hw p0.2.2.2.2.2.2.1)
 Option.bind u3 fun y9 =>
 some ((),(((cond y9.2.1.1 (bH p0.2.2.2.2.2.1 p0.2.2.2.2.2.2.1) false),()),()))
 ) (
 some ((),(((aq p0.2.2.2.2.2.2.1 (-1)),()),()))
 )
 )
 )
 )
 ) (
 cond (bH p0.2.1 2) (
 some ((),(((cond (cond (cond (aq p0.2.2.2.2.2.1 (-1)) (aq p0.2.2.2.2.2.2.1 (-1)) false) (aq p0.2.2.2.2.2.2.2.1 0) false) (aq u1 0) false),()),()))
 ) (
 let u2:=(Hw p0.2.2.2.2.2.1)
 Option.bind u2 fun y6 =>
 cond (cond (!y6.2.1.1) true (au p0.2.2.2.2.2.1 p0.2.2.2.2.1)) (
 c0
 ) (
 cond (aq p0.2.1 5) (
 let u3:=(Hw p0.2.2.2.2.2.2.1)
 Option.bind u3 fun y7 =>
 some ((),(((cond y7.2.1.1 (bH p0.2.2.2.2.2.1 p0.2.2.2.2.2.2.1) false),()),()))
 ) (
 some ((),(((aq p0.2.2.2.2.2.2.1 (-1)),()),()))
 )
 )
 )
 )
 )
 )
 )
 )
 )
 )
def s60:Su:=⟨[.c true [q5,ki,q3,ki,ki,ki,ki,ki,q5],.c false [ki]],[(false,[.bool])],true,.inl fun x=>XA x.1 x.2.1.1⟩
theorem Yk:ar Tryz.prog 60 s60 :=
 fq (ac nY (ac Nj (ac Tn (ac Yp (ac S2 an))))) Tryz.f60
def xk (t1 t5:Int) (b2:(List R5)×Int×(List R3)×Int×Int×Int×Int×Int×(List R5)×Unit):Rd (Int×Int×nJ×Unit) Y1 :=
 cond (cond (au t5 b2.2.2.2.1) (au t5 (ae b2.2.2.1)) false) (
 cond (aR t5 b2.2.2.1) (
 cond (aq (gt d3 b2.2.2.1 t5).1 t1) (
 some (.inr (.inr (true,())))
 ) (
 some (.inl (t1,(ai .i64 t5 1),b2,()))
 )
 ) none
 ) (
 some (.inr (.inl (t1,t5,b2,())))
 )
def Uj:=kD (af (dk xk))
def Xr (p0:(List R5)×Int×(List R3)×Int×Int×Int×Int×Int×(List R5)×Unit) (p1:Int):Option ed :=
 (Uj p1 0 p0).bind (Sum.elim (fun _ =>
 c0
 ) (fun y1 =>
 some ((),(y1,()))
 ))
def s61:Su:=⟨[.c true [q5,ki,q3,ki,ki,ki,ki,ki,q5],.c false [ki]],[(false,[.bool])],true,.inl fun x=>Xr x.1 x.2.1.1⟩
theorem aau:ar Tryz.prog 61 s61 :=
 fl an [.d 4 .bool] [(0,⟨[.d 1 ki,.d 5 ki,.box 2 [(false,q5),(false,ki),(false,q3),(false,ki),(false,ki),(false,ki),(false,ki),(false,ki),(false,q5)]],af (dk xk)⟩)] [] Tryz.f61 (lp [0] (sc cN sn))
def wT (t40:List gy) (t41 t42:Int) (b1:(List eb)×Int×Int×(List gy)×Unit):Rd ((List gy)×Int×Int×CI×Unit) Y1 :=
 cond (au t42 t41) (
 cond (aR t42 t40) (
 let u1:=(gt d62 t40 t42)
 (XA u1 (ae b1.1)).bind fun y1 =>
 cond (cond (!y1.2.1.1) true (au b1.2.1 u1.2.2.2.2.2.2.2.1)) (
 some (.inr (.inr (false,())))
 ) (
 some (.inl (t40,t41,(ai .i64 t42 1),b1,()))
 )
 ) none
 ) (
 some (.inr (.inl (t40,t41,t42,b1,())))
 )
def Lj:=mc (af (cV wT))
def xD (t5:Int) (t61:List eb) (t62 t63:Int) (t75:List gy) (t76 t77:Int) (b1:(List eb)×Int×Int×(List gy)×Unit) (b6:Int×(List dp)×Unit):Rd (Int×(List eb)×Int×Int×(List gy)×Int×Int×CI×VV×Unit) Y1 :=
 cond (au t77 t76) (
 cond (aR t77 t75) (
 (Xr (gt d62 t75 t77) t5).bind fun y1 =>
 cond (!(Jk y1.2.1.1 (aq b6.1 t77))) (
 some (.inr (.inr (false,())))
 ) (
 some (.inl (t5,t61,t62,t63,t75,t76,(ai .i64 t77 1),b1,b6,()))
 )
 ) none
 ) (
 some (.inr (.inl (t5,t61,t62,t63,t75,t76,t77,b1,b6,())))
 )
def OT:=UM (af (Dd xD))
def uY (t61:List eb) (t62 t63:Int) (b1:(List eb)×Int×Int×(List gy)×Unit):Rd ((List eb)×Int×Int×CI×Unit) Y1 :=
 cond (au t63 t62) (
 cond (aR t63 t61) (
 let u1:=(ae b1.2.2.2.1)
 let u2:=(gt d89 t61 t63)
 cond (bH u1 u2.1) (
 some (.inr (.inr (false,())))
 ) (
 (OT t63 t61 t62 t63 b1.2.2.2.1 u1 0 b1 u2).bind (Sum.elim (fun y1 =>
 some (.inl (y1.2.1,y1.2.2.1,(ai .i64 y1.2.2.2.1 1),y1.2.2.2.2.2.2.2.1,()))
 ) (fun y1 =>
 some (.inr (.inr (y1.1,())))
 ))
 )
 ) none
 ) (
 some (.inr (.inl (t61,t62,t63,b1,())))
 )
def P0:=mc (af (cV uY))
def W8 (p0:(List eb)×Int×Int×(List gy)×Unit):Option ed :=
 (Xs p0.1).bind fun y1 =>
 cond (!y1.2.1.1) (
 c0
 ) (
 (Hw p0.2.1).bind fun y2 =>
 cond (!y2.2.1.1) (
 c0
 ) (
 (Hw p0.2.2.1).bind fun y3 =>
 let u1:=(ae p0.2.2.2.1)
 cond (cond (!y3.2.1.1) true (au 12 u1)) (
 c0
 ) (
 (Xv p0.2.2.2.1 p0.2.2.1).bind fun y4 =>
 cond (!y4.2.1.1) (
 c0
 ) (
 (Lj p0.2.2.2.1 u1 0 p0).bind (Sum.elim (fun y5 =>
 (P0 y5.2.2.2.1.1 (ae y5.2.2.2.1.1) 0 y5.2.2.2.1).bind (Sum.elim (fun _ =>
 c2
 ) (fun y6 =>
 some ((),(y6,()))
 ))
 ) (fun y5 =>
 some ((),(y5,()))
 ))
 )
 )
 )
 )
def s25:Su:=⟨[.c true [fW,ki,ki,jW]],[(false,[.bool])],true,.inl fun x=>W8 x.1⟩
theorem Y6:ar Tryz.prog 25 s25 :=
 fl (ac Nj (ac ZY (ac XL (ac Yk (ac aau an))))) [.d 2 .bool] [(0,⟨[.d 40 jW,.d 41 ki,.d 42 ki,.box 1 [(false,fW),(false,ki),(false,ki),(false,jW)]],af (cV wT)⟩),(4,⟨[.d 5 ki,.d 61 fW,.d 62 ki,.d 63 ki,.d 75 jW,.d 76 ki,.d 77 ki,.box 1 [(false,fW),(false,ki),(false,ki),(false,jW)],.box 6 [(false,ki),(false,fF)]],af (Dd xD)⟩),(2,⟨[.d 61 fW,.d 62 ki,.d 63 ki,.box 1 [(false,fW),(false,ki),(false,ki),(false,jW)]],af (cV uY)⟩)] [] Tryz.f25 (lp [0,2] (sc cN (sc (lp [4] (sc cN sn)) sn)))
def pv (t8:List dp) (t9 t10:Int) (b2 b3:(List dp)×Unit):Rd ((List dp)×Int×Int×Y4×Y4×Unit) Unit :=
 cond (au t10 t9) (
 cond (aR t10 t8) (
 (Tj (gt d59 t8 t10)).bind fun y1 =>
 cond (ct 160 b3.1 [y1.2.1]) (
 some (.inl (t8,t9,(ai .i64 t10 1),b2,((j3 b3.1 [y1.2.1]),()),()))
 ) none
 ) none
 ) (
 some (.inr (.inl (t8,t9,t10,b2,b3,())))
 )
def KI:=xP (af (fh pv))
def Ob (p0:(List dp)×Unit):Option SR :=
 (KI p0.1 (ae p0.1) 0 ([],()) ([],())).bind (Sum.elim (fun y1 =>
 some ((),(y1.2.2.2.2.1,()))
 ) (fun _ =>
 none
 ))
def Yt:Su:=⟨[.c true [fF]],[(true,[fF])],true,.inl fun x=>Ob x.1⟩
theorem Uy:ar Tryz.prog 156 Yt :=
 fl (ac NW an) [] [(0,⟨[.d 8 fF,.d 9 ki,.d 10 ki,.box 2 [(true,fF)],.box 3 [(true,fF)]],af (fh pv)⟩)] [] Tryz.f156 (lp [0] (sc cN sn))
def vJ (t3 t7:List eb) (t8 t9:Int):Rd WZ Unit :=
 cond (au t9 t8) (
 cond (aR t9 t7) (
 let u1:=(gt d89 t7 t9)
 (Ob (u1.2.1,())).bind fun y1 =>
 cond (ct 32 t3 [(u1.1,y1.2.1.1,())]) (
 some (.inl ((j3 t3 [(u1.1,y1.2.1.1,())]),t7,t8,(ai .i64 t9 1),()))
 ) none
 ) none
 ) (
 some (.inr (.inl (t3,t7,t8,t9,())))
 )
def OG:=mc (af (cV vJ))
def Xl (p0:List eb):Option Y31 :=
 (OG [] p0 (ae p0) 0).bind (Sum.elim (fun y1 =>
 some ((),((y1.1,()),()))
 ) (fun _ =>
 none
 ))
def s90:Su:=⟨[.c false [fW]],[(false,[fW])],true,.inl fun x=>Xl x.1.1⟩
theorem YZ:ar Tryz.prog 90 s90 :=
 fl (ac Uy an) [] [(0,⟨[.own 3 fW,.d 7 fW,.d 8 ki,.d 9 ki],af (cV vJ)⟩)] [] Tryz.f90 (lp [0] (sc cN sn))
def Xy (p0:(List R5)×Int×(List R3)×Int×Int×Int×Int×Int×(List R5)×Unit):Option XY :=
 cond (ct 1 [] p0.1) (
 cond (ct 8 [] p0.2.2.1) (
 cond (ct 1 [] p0.2.2.2.2.2.2.2.2.1) (
 some ((),(((j3 [] p0.1),p0.2.1,(j3 [] p0.2.2.1),p0.2.2.2.1,p0.2.2.2.2.1,p0.2.2.2.2.2.1,p0.2.2.2.2.2.2.1,p0.2.2.2.2.2.2.2.1,(j3 [] p0.2.2.2.2.2.2.2.2.1),()),()))
 ) none
 ) none
 ) none
def s91:Su:=⟨[.c true [q5,ki,q3,ki,ki,ki,ki,ki,q5]],[(true,[q5,ki,q3,ki,ki,ki,ki,ki,q5])],true,.inl fun x=>Xy x.1⟩
theorem X6:ar Tryz.prog 91 s91 :=
 fq an Tryz.f91
def vm (t15:List gy) (t16 t17:Int) (b2 b3:(List eb)×Int×Int×(List gy)×Unit):Rd ((List gy)×Int×Int×CI×CI×Unit) Unit :=
 cond (au t17 t16) (
 cond (aR t17 t15) (
 (Xy (gt d62 t15 t17)).bind fun y1 =>
 cond (ct 120 b3.2.2.2.1 [y1.2.1]) (
 some (.inl (t15,t16,(ai .i64 t17 1),b2,(b3.1,b3.2.1,b3.2.2.1,(j3 b3.2.2.2.1 [y1.2.1]),()),()))
 ) none
 ) none
 ) (
 some (.inr (.inl (t15,t16,t17,b2,b3,())))
 )
def O8:=xP (af (fh vm))
def Xa (p0:(List eb)×Int×Int×(List gy)×Unit):Option ZH :=
 (Xl p0.1).bind fun y1 =>
 (O8 p0.2.2.2.1 (ae p0.2.2.2.1) 0 ([],0,0,[],()) (y1.2.1.1,p0.2.1,p0.2.2.1,[],())).bind (Sum.elim (fun y2 =>
 some ((),(y2.2.2.2.2.1,()))
 ) (fun _ =>
 none
 ))
def s40:Su:=⟨[.c true [fW,ki,ki,jW]],[(true,[fW,ki,ki,jW])],true,.inl fun x=>Xa x.1⟩
theorem Zs:ar Tryz.prog 40 s40 :=
 fl (ac YZ (ac X6 an)) [] [(0,⟨[.d 15 jW,.d 16 ki,.d 17 ki,.box 2 [(true,fW),(false,ki),(false,ki),(true,jW)],.box 3 [(true,fW),(false,ki),(false,ki),(true,jW)]],af (fh vm)⟩)] [] Tryz.f40 (lp [0] (sc cN sn))
def g12 (p0:(List eb)×Int×Int×(List gy)×Unit) (p1:Int):Option (Unit×(CI×Y1×Unit)) :=
 (W8 p0).bind fun y1 =>
 cond (cond (!y1.2.1.1) true (aq p0.2.2.1 1000000000)) (
 WR
 ) (
 (qN p1 1 1000).bind fun y2 =>
 let u1:=(ai .i64 p0.2.1 p1)
 cond (cond (!y2.2.1.1) true (au 1000000000 u1)) (
 WR
 ) (
 (Xa p0).bind fun y3 =>
 some ((),((y3.2.1.1,u1,(ai .i64 p0.2.2.1 1),y3.2.1.2.2.2.1,()),(true,()),()))
 )
 )
def s12:Su:=⟨[.c true [fW,ki,ki,jW],.c false [ki]],[(true,[fW,ki,ki,jW]),(false,[.bool])],true,.inl fun x=>g12 x.1 x.2.1.1⟩
theorem Ya:ar Tryz.prog 12 s12 :=
 fq (ac nY (ac Y6 (ac Zs an))) Tryz.f12
def nh (p0 p1 p2:Int):Option ed :=
 some ((),(((cond (bH p1 p0) (bH p0 p2) false),()),()))
def s41:Su:=⟨[.c false [ki],.c false [ki],.c false [ki]],[(false,[.bool])],true,.inl fun x=>nh x.1.1 x.2.1.1 x.2.2.1.1⟩
theorem mW:ar Tryz.prog 41 s41 :=
 fq an Tryz.f41
def DE (p0 p1:(List UInt8)×Int×Int×Int×Int×(List gr)×Int×Int×(List R3)×(List R3)×(List cu)×Unit):Option gY :=
 cond (j8 p0.1 p1.1) (
 c3
 ) (
 cond (!(Qi p0.1 p1.1)) (
 c7
 ) (
 c6
 )
 )
def QR:Su:=⟨[.c true [.str,ki,ki,ki,ki,ma,ki,ki,q3,q3,dP],.c true [.str,ki,ki,ki,ki,ma,ki,ki,q3,q3,dP]],[(false,[ki])],true,.inl fun x=>DE x.1 x.2.1⟩
theorem Cr:ar Tryz.prog 138 QR :=
 fq an Tryz.f138
def pg (t0:List dp) (t1 t2:Int) (_:Unit) (t8 t9:Int):Rd ((List dp)×Int×Int×Unit×Int×Int×Unit) Unit :=
 cond (au t1 t9) (
 cond (aR t9 t0) (
 let u1:=(aM .i64 t9 1)
 cond (aR u1 t0) (
 (DE (gt d59 t0 t9) (gt d59 t0 u1)).bind fun y1 =>
 cond (au y1.2.1.1 0) (
 cond (aR u1 t0) (
 cond (aR t9 t0) (
 cond (AE t9 t0 t9) (
 cond (AE u1 t0 u1) (
 some (.inl ((Hv d59 t0 t9 u1),t1,t2,(),t8,u1,()))
 ) none
 ) none
 ) none
 ) none
 ) (
 some (.inr (.inl (t0,t1,t2,(),t8,t9,())))
 )
 ) none
 ) none
 ) (
 some (.inr (.inl (t0,t1,t2,(),t8,t9,())))
 )
def Ab:=Uv (af (D5 pg))
def lC (t0:List dp) (t1 t2:Int) (_:Unit) (t8:Int):Rd ((List dp)×Int×Int×Unit×Int×Unit) Unit :=
 cond (au t8 t2) (
 (Ab t0 t1 t2 () t8 t8).bind (Sum.elim (fun y1 =>
 some (.inl (y1.1,y1.2.1,y1.2.2.1,(),(ai .i64 y1.2.2.2.2.1 1),()))
 ) (fun _ =>
 some (.inr (.inr ()))
 ))
 ) (
 some (.inr (.inl (t0,t1,t2,(),t8,())))
 )
def oM:=xP (af (fh lC))
def GI (p0:List dp) (p1 p2:Int):Option Pv :=
 (oM p0 p1 p2 () (ai .i64 p1 1)).bind (Sum.elim (fun y1 =>
 some (((y1.1,()),()),())
 ) (fun _ =>
 none
 ))
def Oe:Su:=⟨[.io false [fF],.c false [ki],.c false [ki],.fn 138 []],[],true,.inl fun x=>GI x.1.1 x.2.1.1 x.2.2.1.1⟩
def qF:List SE:=[.own 0 fF,.d 1 ki,.d 2 ki,.fn 3 138 [],.d 8 ki,.d 9 ki]
def rI:List SE:=[.own 0 fF,.d 1 ki,.d 2 ki,.fn 3 138 [],.d 8 ki]
def Ij:List SE:=[]
def OJ:Nat->Option (Lo Ij)
 | 2=>some ⟨qF,D5 Ab⟩
 | 0=>some ⟨rI,fh oM⟩
 | _=>none
def D4:List (Nat×SS):=[(138,iS QR)]
def E1:En:=zJ 53 tt D4 Ij OJ [0] fun _=>none
def TJ:Nat->Option (St->Tr St)
 | 6=>some (swapT E1 (opsOf (bh 6 (ak Tryz.f238))) [9] [(14,2),(14,3),(14,4)] 14 9 13)
 | _=>none
def AN:En:=zJ 53 tt D4 Ij OJ [0] (TJ)
theorem QH (x:bM qF):(dh AN 2 qF (bc 2 (ak Tryz.f238)) x).run=D5 pg x:=by kernel_rfl
theorem QD (x:bM rI):(dh AN 0 rI (bc 0 (ak Tryz.f238)) x).run=fh lC x:=by kernel_rfl
theorem t238 (x:PT Oe.ps):(GM AN (ak Tryz.f238) Tryz.f238.results.toList Oe.ps Oe.rs true x).run=GI x.1.1 x.2.1.1 x.2.2.1.1:=by kernel_rfl
theorem DK:dm Tryz.prog AN:=cZ (l:=D4) ⟨Cr,trivial⟩
theorem F9:dm Tryz.prog E1:=cZ (l:=D4) ⟨Cr,trivial⟩
theorem Qg:cP Tryz.prog AN (bh 6 (ak Tryz.f238)) (swapT E1 (opsOf (bh 6 (ak Tryz.f238))) [9] [(14,2),(14,3),(14,4)] 14 9 13) :=
 gB rfl rfl (uf (E:=E1) (lN hT) F9 eP (c:=(bh 6 (ak Tryz.f238))) (id:=6) (by kernel_rfl))
theorem Q3:cr Tryz.prog AN 2 (.loop (bc 2 (ak Tryz.f238))) ⟨qF,D5 Ab⟩ :=
 eC (lN hT) DK eP (step:=fun (x:bM qF)=>pg x.1 x.2.1 x.2.2.1 x.2.2.2.1 x.2.2.2.2.1 x.2.2.2.2.2.1) QH (ba [] (by kernel_rfl) trivial [(6,bh 6 (ak Tryz.f238))] (by kernel_rfl) ⟨xW rfl Qg,trivial⟩)
theorem Sm:cr Tryz.prog AN 0 (.loop (bc 0 (ak Tryz.f238))) ⟨rI,fh oM⟩ :=
 eC (lN hT) DK eP (step:=fun (x:bM rI)=>lC x.1 x.2.1 x.2.2.1 x.2.2.2.1 x.2.2.2.2.1) QD (ba [(2,.loop (bc 2 (ak Tryz.f238)))] (by kernel_rfl) ⟨l8 rfl Q3,trivial⟩ [] (by kernel_rfl) trivial)
theorem VD:ar Tryz.prog 238 Oe :=
 qX (E:=AN) (lN hT) DK eP (fn:=Tryz.f238) (c:=(ak Tryz.f238)) (by kernel_rfl) (by kernel_rfl) (by kernel_rfl) rfl (ba [(0,.loop (bc 0 (ak Tryz.f238)))] (by kernel_rfl) ⟨l8 rfl Sm,trivial⟩ [] (by kernel_rfl) trivial) fun x y h=>⟨y.1,fun _=>rfl,(t238 x).trans h⟩
def o8 (t0:List dp) (t1 t2 t3 t10:Int):Rd ((List dp)×Int×Int×Int×Int×Unit) Unit :=
 cond (au t10 t3) (
 let u1:=(ai .i64 t2 t10)
 cond (aR u1 t0) (
 let u2:=(ai .i64 t1 t10)
 cond (aR u2 t0) (
 cond (AE u2 t0 u2) (
 cond (AE u1 t0 u1) (
 some (.inl ((Hv d59 t0 u2 u1),t1,t2,t3,(ai .i64 t10 1),()))
 ) none
 ) none
 ) none
 ) none
 ) (
 some (.inr (.inl (t0,t1,t2,t3,t10,())))
 )
def xI:=xP (af (fh o8))
def zu (p0:List dp) (p1 p2 p3:Int):Option Pv :=
 (xI p0 p1 p2 p3 0).bind (Sum.elim (fun y1 =>
 some (((y1.1,()),()),())
 ) (fun _ =>
 none
 ))
def Me:Su:=⟨[.io false [fF],.c false [ki],.c false [ki],.c false [ki],.fn 138 []],[],true,.inl fun x=>zu x.1.1 x.2.1.1 x.2.2.1.1 x.2.2.2.1.1⟩
def qx:List SE:=[.own 0 fF,.d 1 ki,.d 2 ki,.d 3 ki,.d 10 ki]
def HW:List SE:=[]
def P9:Nat->Option (Lo HW)
 | 0=>some ⟨qx,fh xI⟩
 | _=>none
def EG:List (Nat×SS):=[]
def Fk:En:=zJ 38 tt EG HW P9 [0] fun _=>none
def Ta:Nat->Option (St->Tr St)
 | 3=>some (swapT Fk (opsOf (bh 3 (ak Tryz.f316))) [2,10] [(20,4),(20,5),(20,6),(20,7)] 20 13 19)
 | _=>none
def FE:En:=zJ 38 tt EG HW P9 [0] (Ta)
theorem RH (x:bM qx):(dh FE 0 qx (bc 0 (ak Tryz.f316)) x).run=fh o8 x:=by kernel_rfl
theorem t316 (x:PT Me.ps):(GM FE (ak Tryz.f316) Tryz.f316.results.toList Me.ps Me.rs true x).run=zu x.1.1 x.2.1.1 x.2.2.1.1 x.2.2.2.1.1:=by kernel_rfl
theorem KX:dm Tryz.prog FE:=cZ (l:=EG) trivial
theorem Gf:dm Tryz.prog Fk:=cZ (l:=EG) trivial
theorem SA:cP Tryz.prog FE (bh 3 (ak Tryz.f316)) (swapT Fk (opsOf (bh 3 (ak Tryz.f316))) [2,10] [(20,4),(20,5),(20,6),(20,7)] 20 13 19) :=
 gB rfl rfl (uf (E:=Fk) (lN hT) Gf eP (c:=(bh 3 (ak Tryz.f316))) (id:=3) (by kernel_rfl))
theorem Ra:cr Tryz.prog FE 0 (.loop (bc 0 (ak Tryz.f316))) ⟨qx,fh xI⟩ :=
 eC (lN hT) KX eP (step:=fun (x:bM qx)=>o8 x.1 x.2.1 x.2.2.1 x.2.2.2.1 x.2.2.2.2.1) RH (ba [] (by kernel_rfl) trivial [(3,bh 3 (ak Tryz.f316))] (by kernel_rfl) ⟨xW rfl SA,trivial⟩)
theorem TQ:ar Tryz.prog 316 Me :=
 qX (E:=FE) (lN hT) KX eP (fn:=Tryz.f316) (c:=(ak Tryz.f316)) (by kernel_rfl) (by kernel_rfl) (by kernel_rfl) rfl (ba [(0,.loop (bc 0 (ak Tryz.f316)))] (by kernel_rfl) ⟨l8 rfl Ra,trivial⟩ [] (by kernel_rfl) trivial) fun x y h=>⟨y.1,fun _=>rfl,(t316 x).trans h⟩
def mG (t0:List dp) (t2:Int) (_:Unit) (t10 t11:Int):Rd Y35 Unit :=
 cond (!(aq t10 t11)) (
 cond (au t11 t10) (
 let u1:=(aM .i64 t2 t10)
 (zu t0 u1 t2 t11).bind fun y1 =>
 some (.inl (y1.1.1.1,t2,(),(aM .i64 t10 t11),t11,()))
 ) (
 let u1:=(aM .i64 t2 t10)
 (zu t0 u1 (aM .i64 (ai .i64 t2 t11) t10) t10).bind fun y1 =>
 some (.inl (y1.1.1.1,t2,(),t10,(aM .i64 t11 t10),()))
 )
 ) (
 some (.inr (.inl (t0,t2,(),t10,t11,())))
 )
def Jw:=xP (af (fh mG))
def An (p0:List dp) (p1 p2 p3:Int):Option Pv :=
 (Jw p0 p2 () (aM .i64 p2 p1) (aM .i64 p3 p2)).bind (Sum.elim (fun y1 =>
 (zu y1.1 (aM .i64 y1.2.1 y1.2.2.2.1) y1.2.1 y1.2.2.2.1).bind fun y2 =>
 some ((y2.1.1,()),())
 ) (fun _ =>
 none
 ))
def UG:Su:=⟨[.io false [fF],.c false [ki],.c false [ki],.c false [ki],.fn 138 []],[],true,.inl fun x=>An x.1.1 x.2.1.1 x.2.2.1.1 x.2.2.2.1.1⟩
theorem Ki:ar Tryz.prog 291 UG :=
 fl (ac TQ an) [] [(0,⟨[.own 0 fF,.d 2 ki,.fn 4 138 [],.d 10 ki,.d 11 ki],af (fh mG)⟩)] [0] Tryz.f291 (lp [0] (sc cN sn))
-- REC 239
def mY (t0:List dp) (t1:Int) (_:Unit) (t10 t11:Int):Rd Y35 Unit :=
 cond (au t10 t11) (
 let u1:=(bG .i64 (iC .u64 (bG .u64 (ai .i64 t10 t11)) 1))
 cond (aR u1 t0) (
 cond (aR t1 t0) (
 (DE (gt d59 t0 u1) (gt d59 t0 t1)).bind fun y1 =>
 cond (au y1.2.1.1 0) (
 some (.inl (t0,t1,(),(ai .i64 u1 1),t11,()))
 ) (
 some (.inl (t0,t1,(),t10,u1,()))
 )
 ) none
 ) none
 ) (
 some (.inr (.inl (t0,t1,(),t10,t11,())))
 )
def wD:=xP (af (fh mY))
def nT (t0:List dp) (t10 t13:Int):Rd Xn Unit :=
 cond (au t13 (aM .i64 t10 1)) (
 let u1:=(ai .i64 t13 1)
 cond (aR u1 t0) (
 cond (aR t13 t0) (
 cond (AE t13 t0 t13) (
 cond (AE u1 t0 u1) (
 some (.inl ((Hv d59 t0 t13 u1),t10,u1,()))
 ) none
 ) none
 ) none
 ) none
 ) (
 some (.inr (.inl (t0,t10,t13,())))
 )
def wE:=kD (af (dk nT))
def mU (t0:List dp) (t2:Int) (_:Unit) (t14 t15:Int):Rd Y35 Unit :=
 cond (au t14 t15) (
 cond (aR t2 t0) (
 let u1:=(bG .i64 (iC .u64 (bG .u64 (ai .i64 t14 t15)) 1))
 cond (aR u1 t0) (
 (DE (gt d59 t0 t2) (gt d59 t0 u1)).bind fun y1 =>
 cond (!(au y1.2.1.1 0)) (
 some (.inl (t0,t2,(),(ai .i64 u1 1),t15,()))
 ) (
 some (.inl (t0,t2,(),t14,u1,()))
 )
 ) none
 ) none
 ) (
 some (.inr (.inl (t0,t2,(),t14,t15,())))
 )
def uN:=xP (af (fh mU))
def pN (t0:List dp) (t14 t17:Int):Rd Xn Unit :=
 cond (au t14 t17) (
 let u1:=(aM .i64 t17 1)
 cond (aR u1 t0) (
 cond (aR t17 t0) (
 cond (AE t17 t0 t17) (
 cond (AE u1 t0 u1) (
 some (.inl ((Hv d59 t0 t17 u1),t14,u1,()))
 ) none
 ) none
 ) none
 ) none
 ) (
 some (.inr (.inl (t0,t14,t17,())))
 )
def vZ:=kD (af (dk pN))
def mB (t0:List dp) (t1 t2 t3:Int) (_:Unit) (t18 t19 t20 t21 t22:Int):Rd ((List dp)×Int×Int×Int×Unit×Int×Int×Int×Int×Int×Unit) Unit :=
 cond (au t20 t21) (
 let u1:=(bG .i64 (iC .u64 (bG .u64 (ai .i64 t20 t21)) 1))
 let u2:=(aM .i64 t22 u1)
 cond (aR u2 t0) (
 cond (aR u1 t0) (
 (DE (gt d59 t0 u2) (gt d59 t0 u1)).bind fun y1 =>
 cond (!(au y1.2.1.1 0)) (
 some (.inl (t0,t1,t2,t3,(),t18,t19,(ai .i64 u1 1),t21,t22,()))
 ) (
 some (.inl (t0,t1,t2,t3,(),t18,t19,t20,u1,t22,()))
 )
 ) none
 ) none
 ) (
 some (.inr (.inl (t0,t1,t2,t3,(),t18,t19,t20,t21,t22,())))
 )
def lF:=Ti (af (Bp mB))
def eS (n:Nat):(List dp)->Int->Int->Int->Option Pv:=Nat.rec (motive:=fun _=>(List dp)->Int->Int->Int->Option Pv) (fun _ _ _ _=>none) (fun _ mw=>fun p0 p1 p2 p3 =>
 cond (aq (aM .i64 p2 p1) 1) (
 (wD p0 p1 () p2 p3).bind (Sum.elim (fun y1 =>
 (wE y1.1 y1.2.2.2.1 y1.2.1).bind (Sum.elim (fun y2 =>
 some (((y2.1,()),()),())
 ) (fun _ =>
 none
 ))
 ) (fun _ =>
 none
 ))
 ) (
 cond (aq (aM .i64 p3 p2) 1) (
 (uN p0 p2 () p1 p2).bind (Sum.elim (fun y1 =>
 (vZ y1.1 y1.2.2.2.1 y1.2.1).bind (Sum.elim (fun y2 =>
 some (((y2.1,()),()),())
 ) (fun _ =>
 none
 ))
 ) (fun _ =>
 none
 ))
 ) (
 let u1:=(bG .i64 (iC .u64 (bG .u64 (ai .i64 p1 p3)) 1))
 cond (au u1 p2) (
 let u2:=(ai .i64 u1 p2)
 let u3:=(aM .i64 u2 1)
 (lF p0 p1 p2 p3 () u1 u2 (aM .i64 u2 p3) u1 u3).bind (Sum.elim (fun y1 =>
 let u4:=(aM .i64 y1.2.2.2.2.2.2.1 y1.2.2.2.2.2.2.2.1)
 let u5:=(cond (au y1.2.2.2.2.2.2.2.1 y1.2.2.1) (au y1.2.2.1 u4) false)
 cond u5 (
 let u6:=(An y1.1 y1.2.2.2.2.2.2.2.1 y1.2.2.1 u4)
 Option.bind u6 fun y2 =>
 let u7:=(cond (au y1.2.1 y1.2.2.2.2.2.2.2.1) (au y1.2.2.2.2.2.2.2.1 y1.2.2.2.2.2.1) false)
 cond u7 (
 let u8:=(mw y2.1.1.1 y1.2.1 y1.2.2.2.2.2.2.2.1 y1.2.2.2.2.2.1)
 Option.bind u8 fun y3 =>
 let u9:=(cond (au y1.2.2.2.2.2.1 u4) (au u4 y1.2.2.2.1) false)
 cond u9 (
 let u10:=(mw y3.1.1.1 y1.2.2.2.2.2.1 u4 y1.2.2.2.1)
 Option.bind u10 fun y4 =>
 some ((y4.1.1,()),())
 ) (
 some ((y3.1.1,()),())
 )
 ) (
 let u8:=(cond (au y1.2.2.2.2.2.1 u4) (au u4 y1.2.2.2.1) false)
 cond u8 (
 let u9:=(mw y2.1.1.1 y1.2.2.2.2.2.1 u4 y1.2.2.2.1)
 Option.bind u9 fun y3 =>
 some ((y3.1.1,()),())
 ) (
 some ((y2.1.1,()),())
 )
 )
 ) (
 let u6:=(cond (au y1.2.1 y1.2.2.2.2.2.2.2.1) (au y1.2.2.2.2.2.2.2.1 y1.2.2.2.2.2.1) false)
 cond u6 (
 let u7:=(mw y1.1 y1.2.1 y1.2.2.2.2.2.2.2.1 y1.2.2.2.2.2.1)
 Option.bind u7 fun y2 =>
 let u8:=(cond (au y1.2.2.2.2.2.1 u4) (au u4 y1.2.2.2.1) false)
 cond u8 (
 let u9:=(mw y2.1.1.1 y1.2.2.2.2.2.1 u4 y1.2.2.2.1)
 Option.bind u9 fun y3 =>
 some ((y3.1.1,()),())
 ) (
 some ((y2.1.1,()),())
 )
 ) (
 let u7:=(cond (au y1.2.2.2.2.2.1 u4) (au u4 y1.2.2.2.1) false)
 cond u7 (
 let u8:=(mw y1.1 y1.2.2.2.2.2.1 u4 y1.2.2.2.1)
 Option.bind u8 fun y2 =>
 some ((y2.1.1,()),())
 ) (
 some (((y1.1,()),()),())
 )
 )
 )
 ) (fun _ =>
 none
 ))
 ) (
 let u2:=(ai .i64 u1 p2)
 let u3:=(aM .i64 u2 1)
 (lF p0 p1 p2 p3 () u1 u2 p1 p2 u3).bind (Sum.elim (fun y1 =>
 let u4:=(aM .i64 y1.2.2.2.2.2.2.1 y1.2.2.2.2.2.2.2.1)
 let u5:=(cond (au y1.2.2.2.2.2.2.2.1 y1.2.2.1) (au y1.2.2.1 u4) false)
 cond u5 (
 let u6:=(An y1.1 y1.2.2.2.2.2.2.2.1 y1.2.2.1 u4)
 Option.bind u6 fun y2 =>
 let u7:=(cond (au y1.2.1 y1.2.2.2.2.2.2.2.1) (au y1.2.2.2.2.2.2.2.1 y1.2.2.2.2.2.1) false)
 cond u7 (
 let u8:=(mw y2.1.1.1 y1.2.1 y1.2.2.2.2.2.2.2.1 y1.2.2.2.2.2.1)
 Option.bind u8 fun y3 =>
 let u9:=(cond (au y1.2.2.2.2.2.1 u4) (au u4 y1.2.2.2.1) false)
 cond u9 (
 let u10:=(mw y3.1.1.1 y1.2.2.2.2.2.1 u4 y1.2.2.2.1)
 Option.bind u10 fun y4 =>
 some ((y4.1.1,()),())
 ) (
 some ((y3.1.1,()),())
 )
 ) (
 let u8:=(cond (au y1.2.2.2.2.2.1 u4) (au u4 y1.2.2.2.1) false)
 cond u8 (
 let u9:=(mw y2.1.1.1 y1.2.2.2.2.2.1 u4 y1.2.2.2.1)
 Option.bind u9 fun y3 =>
 some ((y3.1.1,()),())
 ) (
 some ((y2.1.1,()),())
 )
 )
 ) (
 let u6:=(cond (au y1.2.1 y1.2.2.2.2.2.2.2.1) (au y1.2.2.2.2.2.2.2.1 y1.2.2.2.2.2.1) false)
 cond u6 (
 let u7:=(mw y1.1 y1.2.1 y1.2.2.2.2.2.2.2.1 y1.2.2.2.2.2.1)
 Option.bind u7 fun y2 =>
 let u8:=(cond (au y1.2.2.2.2.2.1 u4) (au u4 y1.2.2.2.1) false)
 cond u8 (
 let u9:=(mw y2.1.1.1 y1.2.2.2.2.2.1 u4 y1.2.2.2.1)
 Option.bind u9 fun y3 =>
 some ((y3.1.1,()),())
 ) (
 some ((y2.1.1,()),())
 )
 ) (
 let u7:=(cond (au y1.2.2.2.2.2.1 u4) (au u4 y1.2.2.2.1) false)
 cond u7 (
 let u8:=(mw y1.1 y1.2.2.2.2.2.1 u4 y1.2.2.2.1)
 Option.bind u8 fun y2 =>
 some ((y2.1.1,()),())
 ) (
 some (((y1.1,()),()),())
 )
 )
 )
 ) (fun _ =>
 none
 ))
 )
 )
 )) n
theorem px (n:Nat) (p0:(List dp)) (p1:Int) (p2:Int) (p3:Int):eS (n + 1) p0 p1 p2 p3 =
 cond (aq (aM .i64 p2 p1) 1) (
  (wD p0 p1 () p2 p3).bind (Sum.elim (fun y1 =>
    (wE y1.1 y1.2.2.2.1 y1.2.1).bind (Sum.elim (fun y2 =>
      some (((y2.1,()),()),())
    ) (fun y2 =>
     none
    ))
  ) (fun y1 =>
   none
  ))
 ) (
  cond (aq (aM .i64 p3 p2) 1) (
   (uN p0 p2 () p1 p2).bind (Sum.elim (fun y1 =>
     (vZ y1.1 y1.2.2.2.1 y1.2.1).bind (Sum.elim (fun y2 =>
       some (((y2.1,()),()),())
     ) (fun y2 =>
      none
     ))
   ) (fun y1 =>
    none
   ))
  ) (
   let u1:=(bG .i64 (iC .u64 (bG .u64 (ai .i64 p1 p3)) 1))
   cond (au u1 p2) (
    let u2:=(ai .i64 u1 p2)
    let u3:=(aM .i64 u2 1)
    (lF p0 p1 p2 p3 () u1 u2 (aM .i64 u2 p3) u1 u3).bind (Sum.elim (fun y1 =>
      let u4:=(aM .i64 y1.2.2.2.2.2.2.1 y1.2.2.2.2.2.2.2.1)
      let u5:=(cond (au y1.2.2.2.2.2.2.2.1 y1.2.2.1) (au y1.2.2.1 u4) false)
      cond u5 (
       let u6:=(An y1.1 y1.2.2.2.2.2.2.2.1 y1.2.2.1 u4)
       Option.bind u6 fun y2 =>
       let u7:=(cond (au y1.2.1 y1.2.2.2.2.2.2.2.1) (au y1.2.2.2.2.2.2.2.1 y1.2.2.2.2.2.1) false)
       cond u7 (
        let u8:=(eS n y2.1.1.1 y1.2.1 y1.2.2.2.2.2.2.2.1 y1.2.2.2.2.2.1)
        Option.bind u8 fun y3 =>
        let u9:=(cond (au y1.2.2.2.2.2.1 u4) (au u4 y1.2.2.2.1) false)
        cond u9 (
         let u10:=(eS n y3.1.1.1 y1.2.2.2.2.2.1 u4 y1.2.2.2.1)
         Option.bind u10 fun y4 =>
         some ((y4.1.1,()),())
        ) (
         some ((y3.1.1,()),())
        )
       ) (
        let u8:=(cond (au y1.2.2.2.2.2.1 u4) (au u4 y1.2.2.2.1) false)
        cond u8 (
         let u9:=(eS n y2.1.1.1 y1.2.2.2.2.2.1 u4 y1.2.2.2.1)
         Option.bind u9 fun y3 =>
         some ((y3.1.1,()),())
        ) (
         some ((y2.1.1,()),())
        )
       )
      ) (
       let u6:=(cond (au y1.2.1 y1.2.2.2.2.2.2.2.1) (au y1.2.2.2.2.2.2.2.1 y1.2.2.2.2.2.1) false)
       cond u6 (
        let u7:=(eS n y1.1 y1.2.1 y1.2.2.2.2.2.2.2.1 y1.2.2.2.2.2.1)
        Option.bind u7 fun y2 =>
        let u8:=(cond (au y1.2.2.2.2.2.1 u4) (au u4 y1.2.2.2.1) false)
        cond u8 (
         let u9:=(eS n y2.1.1.1 y1.2.2.2.2.2.1 u4 y1.2.2.2.1)
         Option.bind u9 fun y3 =>
         some ((y3.1.1,()),())
        ) (
         some ((y2.1.1,()),())
        )
       ) (
        let u7:=(cond (au y1.2.2.2.2.2.1 u4) (au u4 y1.2.2.2.1) false)
        cond u7 (
         let u8:=(eS n y1.1 y1.2.2.2.2.2.1 u4 y1.2.2.2.1)
         Option.bind u8 fun y2 =>
         some ((y2.1.1,()),())
        ) (
         some (((y1.1,()),()),())
        )
       )
      )
    ) (fun y1 =>
     none
    ))
   ) (
    let u2:=(ai .i64 u1 p2)
    let u3:=(aM .i64 u2 1)
    (lF p0 p1 p2 p3 () u1 u2 p1 p2 u3).bind (Sum.elim (fun y1 =>
      let u4:=(aM .i64 y1.2.2.2.2.2.2.1 y1.2.2.2.2.2.2.2.1)
      let u5:=(cond (au y1.2.2.2.2.2.2.2.1 y1.2.2.1) (au y1.2.2.1 u4) false)
      cond u5 (
       let u6:=(An y1.1 y1.2.2.2.2.2.2.2.1 y1.2.2.1 u4)
       Option.bind u6 fun y2 =>
       let u7:=(cond (au y1.2.1 y1.2.2.2.2.2.2.2.1) (au y1.2.2.2.2.2.2.2.1 y1.2.2.2.2.2.1) false)
       cond u7 (
        let u8:=(eS n y2.1.1.1 y1.2.1 y1.2.2.2.2.2.2.2.1 y1.2.2.2.2.2.1)
        Option.bind u8 fun y3 =>
        let u9:=(cond (au y1.2.2.2.2.2.1 u4) (au u4 y1.2.2.2.1) false)
        cond u9 (
         let u10:=(eS n y3.1.1.1 y1.2.2.2.2.2.1 u4 y1.2.2.2.1)
         Option.bind u10 fun y4 =>
         some ((y4.1.1,()),())
        ) (
         some ((y3.1.1,()),())
        )
       ) (
        let u8:=(cond (au y1.2.2.2.2.2.1 u4) (au u4 y1.2.2.2.1) false)
        cond u8 (
         let u9:=(eS n y2.1.1.1 y1.2.2.2.2.2.1 u4 y1.2.2.2.1)
         Option.bind u9 fun y3 =>
         some ((y3.1.1,()),())
        ) (
         some ((y2.1.1,()),())
        )
       )
      ) (
       let u6:=(cond (au y1.2.1 y1.2.2.2.2.2.2.2.1) (au y1.2.2.2.2.2.2.2.1 y1.2.2.2.2.2.1) false)
       cond u6 (
        let u7:=(eS n y1.1 y1.2.1 y1.2.2.2.2.2.2.2.1 y1.2.2.2.2.2.1)
        Option.bind u7 fun y2 =>
        let u8:=(cond (au y1.2.2.2.2.2.1 u4) (au u4 y1.2.2.2.1) false)
        cond u8 (
         let u9:=(eS n y2.1.1.1 y1.2.2.2.2.2.1 u4 y1.2.2.2.1)
         Option.bind u9 fun y3 =>
         some ((y3.1.1,()),())
        ) (
         some ((y2.1.1,()),())
        )
       ) (
        let u7:=(cond (au y1.2.2.2.2.2.1 u4) (au u4 y1.2.2.2.1) false)
        cond u7 (
         let u8:=(eS n y1.1 y1.2.2.2.2.2.1 u4 y1.2.2.2.1)
         Option.bind u8 fun y2 =>
         some ((y2.1.1,()),())
        ) (
         some (((y1.1,()),()),())
        )
       )
      )
    ) (fun y1 =>
     none
    ))
   )
  )
 ):=rfl
def mw (p0:List dp) (p1 p2 p3:Int):Option Pv:=Dj fun n=>eS n p0 p1 p2 p3
def ju (n:Nat):Su:=⟨[.io false [fF],.c false [ki],.c false [ki],.c false [ki],.fn 138 []],[],true,.inl fun x=>eS n x.1.1 x.2.1.1 x.2.2.1.1 x.2.2.2.1.1⟩
def Kj:Su:=⟨[.io false [fF],.c false [ki],.c false [ki],.c false [ki],.fn 138 []],[],true,.inl fun x=>mw x.1.1 x.2.1.1 x.2.2.1.1 x.2.2.2.1.1⟩
def qo:List SE:=[.own 0 fF,.d 1 ki,.fn 4 138 [],.d 10 ki,.d 11 ki]
def rm:List SE:=[.own 0 fF,.d 10 ki,.d 13 ki]
def qD:List SE:=[.own 0 fF,.d 2 ki,.fn 4 138 [],.d 14 ki,.d 15 ki]
def qC:List SE:=[.own 0 fF,.d 14 ki,.d 17 ki]
def qZ:List SE:=[.own 0 fF,.d 1 ki,.d 2 ki,.d 3 ki,.fn 4 138 [],.d 18 ki,.d 19 ki,.d 20 ki,.d 21 ki,.d 22 ki]
def La:List SE:=[]
def O4:Nat->Option (Lo La)
 | 0=>some ⟨qo,fh wD⟩
 | 2=>some ⟨rm,dk wE⟩
 | 4=>some ⟨qD,fh uN⟩
 | 6=>some ⟨qC,dk vZ⟩
 | 8=>some ⟨qZ,Bp lF⟩
 | _=>none
def BY (n:Nat):List (Nat×SS):=[(138,iS QR),(239,iS (ju n)),(291,iS UG)]
def tJ (n:Nat):En:=zJ 220 tt (BY n) La O4 [0] fun _=>none
def Tk (n:Nat):Nat->Option (St->Tr St)
 | 11=>some (swapT (tJ n) (opsOf (bh 11 (ak Tryz.f239))) [13] [(14,2),(14,3),(14,4)] 14 9 13)
 | 23=>some (swapT (tJ n) (opsOf (bh 23 (ak Tryz.f239))) [17] [(14,2),(14,3),(14,4)] 14 9 13)
 | _=>none
def pT (n:Nat):En:=zJ 220 tt (BY n) La O4 [0] ((Tk n))
theorem Sk (n:Nat) (x:bM qo):(dh (pT n) 0 qo (bc 0 (ak Tryz.f239)) x).run=fh mY x:=by kernel_rfl
theorem SL (n:Nat) (x:bM rm):(dh (pT n) 2 rm (bc 2 (ak Tryz.f239)) x).run=dk nT x:=by kernel_rfl
theorem Rj (n:Nat) (x:bM qD):(dh (pT n) 4 qD (bc 4 (ak Tryz.f239)) x).run=fh mU x:=by kernel_rfl
theorem RF (n:Nat) (x:bM qC):(dh (pT n) 6 qC (bc 6 (ak Tryz.f239)) x).run=dk pN x:=by kernel_rfl
theorem RY (n:Nat) (x:bM qZ):(dh (pT n) 8 qZ (bc 8 (ak Tryz.f239)) x).run=Bp mB x:=by kernel_rfl
theorem t239 (n:Nat) (x:PT (ju (n + 1)).ps):(GM (pT n) (ak Tryz.f239) Tryz.f239.results.toList (ju (n + 1)).ps (ju (n + 1)).rs true x).run=eS (n + 1) x.1.1 x.2.1.1 x.2.2.1.1 x.2.2.2.1.1:=by kernel_rfl
theorem sk (n:Nat) (hn:ar Tryz.prog 239 (ju n)):dm Tryz.prog (pT n):=cZ (l:=(BY n)) ⟨Cr,hn,Ki,trivial⟩
theorem CO (n:Nat) (hn:ar Tryz.prog 239 (ju n)):dm Tryz.prog (tJ n):=cZ (l:=(BY n)) ⟨Cr,hn,Ki,trivial⟩
theorem LK (n:Nat) (hn:ar Tryz.prog 239 (ju n)):cP Tryz.prog (pT n) (bh 11 (ak Tryz.f239)) (swapT (tJ n) (opsOf (bh 11 (ak Tryz.f239))) [13] [(14,2),(14,3),(14,4)] 14 9 13) :=
 gB rfl rfl (uf (E:=(tJ n)) (lN hT) (CO n hn) eP (c:=(bh 11 (ak Tryz.f239))) (id:=11) (by kernel_rfl))
theorem CL (n:Nat) (hn:ar Tryz.prog 239 (ju n)):dm Tryz.prog (tJ n):=cZ (l:=(BY n)) ⟨Cr,hn,Ki,trivial⟩
theorem Nu (n:Nat) (hn:ar Tryz.prog 239 (ju n)):cP Tryz.prog (pT n) (bh 23 (ak Tryz.f239)) (swapT (tJ n) (opsOf (bh 23 (ak Tryz.f239))) [17] [(14,2),(14,3),(14,4)] 14 9 13) :=
 gB rfl rfl (uf (E:=(tJ n)) (lN hT) (CL n hn) eP (c:=(bh 23 (ak Tryz.f239))) (id:=23) (by kernel_rfl))
theorem QV (n:Nat) (hn:ar Tryz.prog 239 (ju n)):cr Tryz.prog (pT n) 0 (.loop (bc 0 (ak Tryz.f239))) ⟨qo,fh wD⟩ :=
 eC (lN hT) (sk n hn) eP (step:=fun (x:bM qo)=>mY x.1 x.2.1 x.2.2.1 x.2.2.2.1 x.2.2.2.2.1) (Sk n) (ba [] (by kernel_rfl) trivial [] (by kernel_rfl) trivial)
theorem RD (n:Nat) (hn:ar Tryz.prog 239 (ju n)):cr Tryz.prog (pT n) 2 (.loop (bc 2 (ak Tryz.f239))) ⟨rm,dk wE⟩ :=
 eC (lN hT) (sk n hn) eP (step:=fun (x:bM rm)=>nT x.1 x.2.1 x.2.2.1) (SL n) (ba [] (by kernel_rfl) trivial [(11,bh 11 (ak Tryz.f239))] (by kernel_rfl) ⟨xW rfl (LK n hn),trivial⟩)
theorem Sj (n:Nat) (hn:ar Tryz.prog 239 (ju n)):cr Tryz.prog (pT n) 4 (.loop (bc 4 (ak Tryz.f239))) ⟨qD,fh uN⟩ :=
 eC (lN hT) (sk n hn) eP (step:=fun (x:bM qD)=>mU x.1 x.2.1 x.2.2.1 x.2.2.2.1 x.2.2.2.2.1) (Rj n) (ba [] (by kernel_rfl) trivial [] (by kernel_rfl) trivial)
theorem Sl (n:Nat) (hn:ar Tryz.prog 239 (ju n)):cr Tryz.prog (pT n) 6 (.loop (bc 6 (ak Tryz.f239))) ⟨qC,dk vZ⟩ :=
 eC (lN hT) (sk n hn) eP (step:=fun (x:bM qC)=>pN x.1 x.2.1 x.2.2.1) (RF n) (ba [] (by kernel_rfl) trivial [(23,bh 23 (ak Tryz.f239))] (by kernel_rfl) ⟨xW rfl (Nu n hn),trivial⟩)
theorem RX (n:Nat) (hn:ar Tryz.prog 239 (ju n)):cr Tryz.prog (pT n) 8 (.loop (bc 8 (ak Tryz.f239))) ⟨qZ,Bp lF⟩ :=
 eC (lN hT) (sk n hn) eP (step:=fun (x:bM qZ)=>mB x.1 x.2.1 x.2.2.1 x.2.2.2.1 x.2.2.2.2.1 x.2.2.2.2.2.1 x.2.2.2.2.2.2.1 x.2.2.2.2.2.2.2.1 x.2.2.2.2.2.2.2.2.1 x.2.2.2.2.2.2.2.2.2.1) (RY n) (ba [] (by kernel_rfl) trivial [] (by kernel_rfl) trivial)
theorem I0:∀ n,ar Tryz.prog 239 (ju n)
 | 0=>ar.zero fun _=>rfl
 | n + 1=>have hn:=I0 n
 qX (E:=(pT n)) (lN hT) (sk n hn) eP (fn:=Tryz.f239) (c:=(ak Tryz.f239)) (by kernel_rfl) (by kernel_rfl) (by kernel_rfl) rfl (ba [(0,.loop (bc 0 (ak Tryz.f239))),(2,.loop (bc 2 (ak Tryz.f239))),(4,.loop (bc 4 (ak Tryz.f239))),(6,.loop (bc 6 (ak Tryz.f239))),(8,.loop (bc 8 (ak Tryz.f239)))] (by kernel_rfl) ⟨l8 rfl (QV n hn),l8 rfl (RD n hn),l8 rfl (Sj n hn),l8 rfl (Sl n hn),l8 rfl (RX n hn),trivial⟩ [] (by kernel_rfl) trivial) fun x y h=>⟨y.1,fun _=>rfl,((t239 n) x).trans h⟩
theorem U8:ar Tryz.prog 239 Kj:=ar.fix (ps:=Kj.ps) (rs:=Kj.rs) (fr:=Kj.fresh) (G:=fun n (x:PT Kj.ps)=>eS n x.1.1 x.2.1.1 x.2.2.1.1 x.2.2.2.1.1) I0
def sf (t0:List dp) (t1:Int) (_:Unit) (t6 t7 t8:Int):Rd ((List dp)×Int×Unit×Int×Int×Int×Unit) Unit :=
 cond (bH t8 t1) (
 (GI t0 t7 t8).bind fun y1 =>
 some (.inl (y1.1.1.1,t1,(),t6,t8,(ai .i64 t8 t6),()))
 ) (
 some (.inr (.inl (t0,t1,(),t6,t7,t8,())))
 )
def Dx:=Uv (af (D5 sf))
def rN (t0:List dp) (t1:Int) (_:Unit) (t6 t7 t8:Int):Rd ((List dp)×Int×Unit×Int×Int×Int×Unit) Unit :=
 cond (bH t8 t1) (
 (mw t0 t7 (ai .i64 t7 t6) t8).bind fun y1 =>
 some (.inl (y1.1.1.1,t1,(),t6,t8,(ai .i64 t8 (jZ .i64 2 t6)),()))
 ) (
 some (.inr (.inl (t0,t1,(),t6,t7,t8,())))
 )
def zi:=Uv (af (D5 rN))
def sM (t0:List dp) (t1:Int) (_:Unit) (t6:Int):Rd ((List dp)×Int×Unit×Int×Unit) Unit :=
 cond (au t6 t1) (
 (zi t0 t1 () t6 0 (jZ .i64 2 t6)).bind (Sum.elim (fun y1 =>
 let u1:=(ai .i64 y1.2.2.2.2.1 y1.2.2.2.1)
 cond (au u1 y1.2.1) (
 (mw y1.1 y1.2.2.2.2.1 u1 y1.2.1).bind fun y2 =>
 let u2:=(jZ .i64 y1.2.2.2.1 2)
 some (.inl (y2.1.1.1,y1.2.1,(),u2,()))
 ) (
 let u2:=(jZ .i64 y1.2.2.2.1 2)
 some (.inl (y1.1,y1.2.1,(),u2,()))
 )
 ) (fun _ =>
 some (.inr (.inr ()))
 ))
 ) (
 some (.inr (.inl (t0,t1,(),t6,())))
 )
def DM:=mc (af (cV sM))
def Sw (p0:List dp) (p1:Int):Option Pv :=
 (Dx p0 p1 () 20 0 20).bind (Sum.elim (fun y1 =>
 (GI y1.1 y1.2.2.2.2.1 y1.2.1).bind fun y2 =>
 (DM y2.1.1.1 y1.2.1 () y1.2.2.2.1).bind (Sum.elim (fun y3 =>
 some (((y3.1,()),()),())
 ) (fun _ =>
 none
 ))
 ) (fun _ =>
 none
 ))
def XD:Su:=⟨[.io false [fF],.c false [ki],.fn 138 []],[],true,.inl fun x=>Sw x.1.1 x.2.1.1⟩
theorem Ur:ar Tryz.prog 186 XD :=
 fl (ac VD (ac U8 an)) [] [(0,⟨[.own 0 fF,.d 1 ki,.fn 2 138 [],.d 6 ki,.d 7 ki,.d 8 ki],af (D5 sf)⟩),(4,⟨[.own 0 fF,.d 1 ki,.fn 2 138 [],.d 6 ki,.d 7 ki,.d 8 ki],af (D5 rN)⟩),(2,⟨[.own 0 fF,.d 1 ki,.fn 2 138 [],.d 6 ki],af (cV sM)⟩)] [0] Tryz.f186 (lp [0,2] (sc cN (sc (lp [4] (sc cN sn)) sn)))
def Ok (p0:List dp):Option Pv :=
 (Sw p0 (ae p0)).bind fun y1 =>
 some ((y1.1.1,()),())
def aaL:Su:=⟨[.io false [fF],.fn 138 []],[],true,.inl fun x=>Ok x.1.1⟩
theorem TP:ar Tryz.prog 137 aaL :=
 fl (ac Ur an) [] [] [0] Tryz.f137 cN
def HK (p0:List gr):Option (Unit×((List gr)×Unit)×Unit):=cond (ct 32 ([]:List gr) p0) (some ((),((p0,()),()))) none
def Hp:Su:=⟨[.c false [ma]],[(false,[ma])],true,.inl fun x=>HK x.1.1⟩
def Rp:En:=zJ 8 tt [] [] (fun _=>none) [] fun _=>none
def Pe (x:PT Hp.ps):St:=⟨[(2,.v .nil),(0,.v (.d ma x.1.1))],[]⟩
theorem t147 (x:PT Hp.ps) (b:Bool):((cI Rp (.seq (de (dY (de (ak Tryz.f147)))) (de (de (ak Tryz.f147)))) (((Pe x).aA 3 (.v (.d ma x.1.1),none)).aA 4 (.v (.d .bool b),none))).bind (B0 Rp Tryz.f147.results.toList Hp.ps Hp.rs Hp.fresh)).run =
 cond b (some ((),(([],()),()))) (HK x.1.1):=by kernel_rfl
theorem V0:ar Tryz.prog 147 Hp :=
 Dl (E:=Rp) (lN hT) (cZ (l:=[]) trivial) eP (fn:=Tryz.f147) (c0:=dY (ak Tryz.f147)) (cc:=de (dY (de (ak Tryz.f147)))) (c3:=de (de (ak Tryz.f147))) (id:=IZ (dY (dY (de (ak Tryz.f147)))))
  (o1:=fP (dY (dY (de (ak Tryz.f147)))) 0) (o2:=fP (dY (dY (de (ak Tryz.f147)))) 1) (by kernel_rfl) (by kernel_rfl) (by kernel_rfl) rfl
  (bE (fun _=>rfl) _ (by kernel_rfl)) (bE (fun _=>rfl) _ (by kernel_rfl)) (bE (fun _=>rfl) _ (by kernel_rfl)) (t0:=0) (t3:=3) (t4:=4) (ty:=53) (ty':=53) (e:=95) (e':=95) (by':=24) (fl:=[]) (ks:=CC) (by kernel_rfl) (by kernel_rfl) (by kernel_rfl) (by kernel_rfl) (by kernel_rfl) (by kernel_rfl) (by kernel_rfl) (by kernel_rfl) (by kernel_rfl)
  Pe (fun x=>x.1.1) (fun x=>by kernel_rfl) (fun x=>by kernel_rfl) fun x y hy b hb=>by
   refine ⟨y.1,fun _=>rfl,?_⟩
   rw [t147]
   have hy:HK x.1.1=some y:=hy
   cases b with
   | false=>exact hy
   | true =>
     have he:x.1.1=([]:List gr):=hb rfl
     rw [he] at hy
     exact hy
def BH (p0:List R3):Option (Unit×Y2×Unit):=cond (ct 8 ([]:List R3) p0) (some ((),((p0,()),()))) none
def FK:Su:=⟨[.c false [q3]],[(false,[q3])],true,.inl fun x=>BH x.1.1⟩
def QS:En:=zJ 8 tt [] [] (fun _=>none) [] fun _=>none
def O2 (x:PT FK.ps):St:=⟨[(2,.v .nil),(0,.v (.d q3 x.1.1))],[]⟩
theorem t157 (x:PT FK.ps) (b:Bool):((cI QS (.seq (de (dY (de (ak Tryz.f157)))) (de (de (ak Tryz.f157)))) (((O2 x).aA 3 (.v (.d q3 x.1.1),none)).aA 4 (.v (.d .bool b),none))).bind (B0 QS Tryz.f157.results.toList FK.ps FK.rs FK.fresh)).run =
 cond b (some ((),(([],()),()))) (BH x.1.1):=by kernel_rfl
theorem OQ:ar Tryz.prog 157 FK :=
 Dl (E:=QS) (lN hT) (cZ (l:=[]) trivial) eP (fn:=Tryz.f157) (c0:=dY (ak Tryz.f157)) (cc:=de (dY (de (ak Tryz.f157)))) (c3:=de (de (ak Tryz.f157))) (id:=IZ (dY (dY (de (ak Tryz.f157)))))
  (o1:=fP (dY (dY (de (ak Tryz.f157)))) 0) (o2:=fP (dY (dY (de (ak Tryz.f157)))) 1) (by kernel_rfl) (by kernel_rfl) (by kernel_rfl) rfl
  (bE (fun _=>rfl) _ (by kernel_rfl)) (bE (fun _=>rfl) _ (by kernel_rfl)) (bE (fun _=>rfl) _ (by kernel_rfl)) (t0:=0) (t3:=3) (t4:=4) (ty:=54) (ty':=54) (e:=3) (e':=3) (by':=24) (fl:=[]) (ks:=ll) (by kernel_rfl) (by kernel_rfl) (by kernel_rfl) (by kernel_rfl) (by kernel_rfl) (by kernel_rfl) (by kernel_rfl) (by kernel_rfl) (by kernel_rfl)
  O2 (fun x=>x.1.1) (fun x=>by kernel_rfl) (fun x=>by kernel_rfl) fun x y hy b hb=>by
   refine ⟨y.1,fun _=>rfl,?_⟩
   rw [t157]
   have hy:BH x.1.1=some y:=hy
   cases b with
   | false=>exact hy
   | true =>
     have he:x.1.1=([]:List R3):=hb rfl
     rw [he] at hy
     exact hy
def IW (p0:Int×Int×(List R3)×(List R3)×Unit):Option XG :=
 (BH p0.2.2.1).bind fun y1 =>
 (BH p0.2.2.2.1).bind fun y2 =>
 some ((),((p0.1,p0.2.1,y1.2.1.1,y2.2.1.1,()),()))
def ZW:Su:=⟨[.c true [ki,ki,q3,q3]],[(true,[ki,ki,q3,q3])],true,.inl fun x=>IW x.1⟩
theorem UC:ar Tryz.prog 167 ZW :=
 fq (ac OQ an) Tryz.f167
def Pl (p0:List R5):Option (Unit×((List R5)×Unit)×Unit):=cond (ct 1 ([]:List R5) p0) (some ((),((p0,()),()))) none
def SO:Su:=⟨[.c false [q5]],[(false,[q5])],true,.inl fun x=>Pl x.1.1⟩
def Yz:En:=zJ 8 tt [] [] (fun _=>none) [] fun _=>none
def V4 (x:PT SO.ps):St:=⟨[(2,.v .nil),(0,.v (.d q5 x.1.1))],[]⟩
theorem t99 (x:PT SO.ps) (b:Bool):((cI Yz (.seq (de (dY (de (ak Tryz.f99)))) (de (de (ak Tryz.f99)))) (((V4 x).aA 3 (.v (.d q5 x.1.1),none)).aA 4 (.v (.d .bool b),none))).bind (B0 Yz Tryz.f99.results.toList SO.ps SO.rs SO.fresh)).run =
 cond b (some ((),(([],()),()))) (Pl x.1.1):=by kernel_rfl
theorem TW:ar Tryz.prog 99 SO :=
 Dl (E:=Yz) (lN hT) (cZ (l:=[]) trivial) eP (fn:=Tryz.f99) (c0:=dY (ak Tryz.f99)) (cc:=de (dY (de (ak Tryz.f99)))) (c3:=de (de (ak Tryz.f99))) (id:=IZ (dY (dY (de (ak Tryz.f99)))))
  (o1:=fP (dY (dY (de (ak Tryz.f99)))) 0) (o2:=fP (dY (dY (de (ak Tryz.f99)))) 1) (by kernel_rfl) (by kernel_rfl) (by kernel_rfl) rfl
  (bE (fun _=>rfl) _ (by kernel_rfl)) (bE (fun _=>rfl) _ (by kernel_rfl)) (bE (fun _=>rfl) _ (by kernel_rfl)) (t0:=0) (t3:=3) (t4:=4) (ty:=39) (ty':=39) (e:=5) (e':=5) (by':=24) (fl:=[]) (ks:=ub) (by kernel_rfl) (by kernel_rfl) (by kernel_rfl) (by kernel_rfl) (by kernel_rfl) (by kernel_rfl) (by kernel_rfl) (by kernel_rfl) (by kernel_rfl)
  V4 (fun x=>x.1.1) (fun x=>by kernel_rfl) (fun x=>by kernel_rfl) fun x y hy b hb=>by
   refine ⟨y.1,fun _=>rfl,?_⟩
   rw [t99]
   have hy:Pl x.1.1=some y:=hy
   cases b with
   | false=>exact hy
   | true =>
     have he:x.1.1=([]:List R5):=hb rfl
     rw [he] at hy
     exact hy
def pk (t3 t7:List cu) (t8 t9:Int):Rd WQ Unit :=
 cond (au t9 t8) (
 cond (aR t9 t7) (
 let u1:=(gt d166 t7 t9)
 (Pl u1.2.2.1).bind fun y1 =>
 cond (ct 56 t3 [(u1.1,u1.2.1,y1.2.1.1,())]) (
 some (.inl ((j3 t3 [(u1.1,u1.2.1,y1.2.1.1,())]),t7,t8,(ai .i64 t9 1),()))
 ) none
 ) none
 ) (
 some (.inr (.inl (t3,t7,t8,t9,())))
 )
def HN:=mc (af (cV pk))
def NX (p0:List cu):Option ZK :=
 (HN [] p0 (ae p0) 0).bind (Sum.elim (fun y1 =>
 some ((),((y1.1,()),()))
 ) (fun _ =>
 none
 ))
def Yf:Su:=⟨[.c false [dP]],[(false,[dP])],true,.inl fun x=>NX x.1.1⟩
theorem Up:ar Tryz.prog 168 Yf :=
 fl (ac TW an) [] [(0,⟨[.own 3 dP,.d 7 dP,.d 8 ki,.d 9 ki],af (cV pk)⟩)] [] Tryz.f168 (lp [0] (sc cN sn))
def Mu (p0:(List UInt8)×Int×Int×Int×Int×(List gr)×Int×Int×(List R3)×(List R3)×(List cu)×Unit):Option Y70 :=
 (HK p0.2.2.2.2.2.1).bind fun y1 =>
 (IW (p0.2.2.2.2.2.2.1,p0.2.2.2.2.2.2.2.1,p0.2.2.2.2.2.2.2.2.1,p0.2.2.2.2.2.2.2.2.2.1,())).bind fun y2 =>
 (NX p0.2.2.2.2.2.2.2.2.2.2.1).bind fun y3 =>
 some ((),((p0.1,p0.2.1,p0.2.2.1,p0.2.2.2.1,p0.2.2.2.2.1,y1.2.1.1,y2.2.1.1,y2.2.1.2.1,y2.2.1.2.2.1,y2.2.1.2.2.2.1,y3.2.1.1,()),()))
def abg:Su:=⟨[.c true [.str,ki,ki,ki,ki,ma,ki,ki,q3,q3,dP]],[(true,[.str,ki,ki,ki,ki,ma,ki,ki,q3,q3,dP])],true,.inl fun x=>Mu x.1⟩
theorem VL:ar Tryz.prog 108 abg :=
 fq (ac V0 (ac UC (ac Up an))) Tryz.f108
def oI (_:Unit) (t10:List dp) (t11 t12:Int) (b4 b5:(List dp)×Unit):Rd (Unit×(List dp)×Int×Int×Y4×Y4×Unit) Unit :=
 cond (au t12 t11) (
 cond (aR t12 t10) (
 (Mu (gt d59 t10 t12)).bind fun y1 =>
 cond (ct 160 b5.1 [y1.2.1]) (
 some (.inl ((),t10,t11,(ai .i64 t12 1),b4,((j3 b5.1 [y1.2.1]),()),()))
 ) none
 ) none
 ) (
 some (.inr (.inl ((),t10,t11,t12,b4,b5,())))
 )
def Kp:=Uv (af (D5 oI))
def SF (p0:(List dp)×Unit):Option SR :=
 (Kp () p0.1 (ae p0.1) 0 ([],()) ([],())).bind (Sum.elim (fun y1 =>
 some ((),(y1.2.2.2.2.2.1,()))
 ) (fun _ =>
 none
 ))
def Yl:Su:=⟨[.c true [fF],.fn 108 []],[(true,[fF])],true,.inl fun x=>SF x.1⟩
theorem TU:ar Tryz.prog 185 Yl :=
 fl (ac VL an) [] [(0,⟨[.fn 1 108 [],.d 10 fF,.d 11 ki,.d 12 ki,.box 4 [(true,fF)],.box 5 [(true,fF)]],af (D5 oI)⟩)] [] Tryz.f185 (lp [0] (sc cN sn))
def Jl (p0:(List dp)×Unit):Option SR :=
 (SF p0).bind fun y1 =>
 some ((),(y1.2.1,()))
def XF:Su:=⟨[.c true [fF]],[(true,[fF])],true,.inl fun x=>Jl x.1⟩
theorem Oz:ar Tryz.prog 136 XF :=
 fq (ac TU an) Tryz.f136
def wG (t7:List eb) (t8 t9:Int) (b2 b3:(List dp)×Unit):Rd ((List eb)×Int×Int×Y4×Y4×Unit) Unit :=
 cond (au t9 t8) (
 cond (aR t9 t7) (
 (Jl ((gt d89 t7 t9).2.1,())).bind fun y1 =>
 cond (ct 160 b3.1 y1.2.1.1) (
 some (.inl (t7,t8,(ai .i64 t9 1),b2,((j3 b3.1 y1.2.1.1),()),()))
 ) none
 ) none
 ) (
 some (.inr (.inl (t7,t8,t9,b2,b3,())))
 )
def Ov:=xP (af (fh wG))
def RI (p0:List eb):Option SR :=
 (Ov p0 (ae p0) 0 ([],()) ([],())).bind (Sum.elim (fun y1 =>
 (Ok y1.2.2.2.2.1.1).bind fun y2 =>
 some ((),(y2.1.1,()))
 ) (fun _ =>
 none
 ))
def s80:Su:=⟨[.c false [fW]],[(true,[fF])],true,.inl fun x=>RI x.1.1⟩
theorem aaj:ar Tryz.prog 80 s80 :=
 fl (ac TP (ac Oz an)) [] [(0,⟨[.d 7 fW,.d 8 ki,.d 9 ki,.box 2 [(true,fF)],.box 3 [(true,fF)]],af (fh wG)⟩)] [] Tryz.f80 (lp [0] (sc cN sn))
def oq (t0:List UInt8) (t5 t6:Int):Rd S1 Y1 :=
 cond (au t6 t5) (
 cond (aR t6 t0) (
 let u1:=(dx t0 t6)
 cond (au u1 48) (
 some (.inr (.inr (false,())))
 ) (
 cond (aR t6 t0) (
 cond (au 57 u1) (
 some (.inr (.inr (false,())))
 ) (
 some (.inl (t0,t5,(ai .i64 t6 1),()))
 )
 ) none
 )
 ) none
 ) (
 some (.inr (.inl (t0,t5,t6,())))
 )
def Lm:=kD (af (dk oq))
def tZ (p0:List UInt8):Option ed :=
 (Lm p0 (ae p0) 0).bind (Sum.elim (fun y1 =>
 some ((),(((!(cq y1.1 [])),()),()))
 ) (fun y1 =>
 some ((),(y1,()))
 ))
def ZO:Su:=⟨[.c false [.str]],[(false,[.bool])],true,.inl fun x=>tZ x.1.1⟩
theorem yG:ar Tryz.prog 240 ZO :=
 fl an [.d 2 .bool] [(0,⟨[.d 0 .str,.d 5 ki,.d 6 ki],af (dk oq)⟩)] [] Tryz.f240 (lp [0] (sc cN sn))
def sr (t0:List UInt8) (t3:Int) (t4:Bool) (t5:Int):Rd ((List UInt8)×Int×Bool×Int×Unit) Unit :=
 cond (bH 0 t5) (
 cond (aR t5 t0) (
 cond t4 (
 let u1:=(bG .i64 (aM .u8 (dx t0 t5) 48))
 let u2:=(jZ .i64 u1 2)
 cond (au 9 u2) (
 let u3:=(aM .i64 t5 1)
 some (.inl (t0,(ai .i64 t3 (aM .i64 u2 9)),(!t4),u3,()))
 ) (
 let u3:=(aM .i64 t5 1)
 some (.inl (t0,(ai .i64 t3 u2),(!t4),u3,()))
 )
 ) (
 let u1:=(bG .i64 (aM .u8 (dx t0 t5) 48))
 let u2:=(aM .i64 t5 1)
 some (.inl (t0,(ai .i64 t3 u1),(!t4),u2,()))
 )
 ) none
 ) (
 some (.inr (.inl (t0,t3,t4,t5,())))
 )
def I8:=mc (af (cV sr))
def Mp (p0:List UInt8):Option gY :=
 (tZ p0).bind fun y1 =>
 cond (!y1.2.1.1) (
 c3
 ) (
 (I8 p0 0 true (aM .i64 (ae p0) 1)).bind (Sum.elim (fun y2 =>
 some ((),(((fx (aM .i64 10 (fx y2.2.1 10)) 10),()),()))
 ) (fun _ =>
 none
 ))
 )
def Yi:Su:=⟨[.c false [.str]],[(false,[ki])],true,.inl fun x=>Mp x.1.1⟩
theorem UL:ar Tryz.prog 241 Yi :=
 fl (ac yG an) [] [(0,⟨[.d 0 .str,.d 3 ki,.d 4 .bool,.d 5 ki],af (cV sr)⟩)] [] Tryz.f241 (lp [0] (sc cN sn))
def MG (p0:List UInt8):Option ed :=
 let u1:=(aM .i64 (ae p0) 1)
 cond (bH 1 u1) (
 (tZ p0).bind fun y1 =>
 cond y1.2.1.1 (
 cond (dO 0 u1 p0) (
 (Mp (sub p0 0 u1)).bind fun y2 =>
 cond (aR u1 p0) (
 some ((),(((aq y2.2.1.1 (bG .i64 (aM .u8 (dx p0 u1) 48))),()),()))
 ) none
 ) none
 ) (
 c0
 )
 ) (
 c0
 )
def aai:Su:=⟨[.c false [.str]],[(false,[.bool])],true,.inl fun x=>MG x.1.1⟩
theorem Ui:ar Tryz.prog 187 aai :=
 fq (ac yG (ac UL an)) Tryz.f187
def sF (p0:List UInt8):Option ed :=
 cond (bH (ae p0) 19) (
 (MG p0).bind fun y1 =>
 some ((),(y1.2.1,()))
 ) (
 c0
 )
def Zp:Su:=⟨[.c false [.str]],[(false,[.bool])],true,.inl fun x=>sF x.1.1⟩
theorem OH:ar Tryz.prog 139 Zp :=
 fq (ac Ui an) Tryz.f139
def W9 (p0:Int):Option ed :=
 (nh p0 0 4611686018427387904).bind fun y1 =>
 some ((),(y1.2.1,()))
def s78:Su:=⟨[.c false [ki]],[(false,[.bool])],true,.inl fun x=>W9 x.1.1⟩
theorem WC:ar Tryz.prog 78 s78 :=
 fq (ac mW an) Tryz.f78
def oS (t0:List UInt8) (t5 t6:Int):Rd S1 Y1 :=
 cond (au t6 t5) (
 cond (aR t6 t0) (
 let u1:=(dx t0 t6)
 cond (au u1 48) (
 cond (aR t6 t0) (
 cond (au u1 97) (
 some (.inr (.inr (false,())))
 ) (
 cond (aR t6 t0) (
 cond (au 122 u1) (
 some (.inr (.inr (false,())))
 ) (
 some (.inl (t0,t5,(ai .i64 t6 1),()))
 )
 ) none
 )
 ) none
 ) (
 cond (aR t6 t0) (
 cond (au 57 u1) (
 cond (aR t6 t0) (
 cond (au u1 97) (
 some (.inr (.inr (false,())))
 ) (
 cond (aR t6 t0) (
 cond (au 122 u1) (
 some (.inr (.inr (false,())))
 ) (
 some (.inl (t0,t5,(ai .i64 t6 1),()))
 )
 ) none
 )
 ) none
 ) (
 some (.inl (t0,t5,(ai .i64 t6 1),()))
 )
 ) none
 )
 ) none
 ) (
 some (.inr (.inl (t0,t5,t6,())))
 )
def KU:=kD (af (dk oS))
def Le (p0:List UInt8):Option ed :=
 (KU p0 (ae p0) 0).bind (Sum.elim (fun y1 =>
 (nh (ae y1.1) 1 6).bind fun y2 =>
 some ((),(y2.2.1,()))
 ) (fun y1 =>
 some ((),(y1,()))
 ))
def XI:Su:=⟨[.c false [.str]],[(false,[.bool])],true,.inl fun x=>Le x.1.1⟩
theorem On:ar Tryz.prog 242 XI :=
 fl (ac mW an) [.d 2 .bool] [(0,⟨[.d 0 .str,.d 5 ki,.d 6 ki],af (dk oS)⟩)] [] Tryz.f242 (lp [0] (sc cN sn))
def uC (p0:Int):Option ed :=
 (nh p0 0 1000000000).bind fun y1 =>
 some ((),(y1.2.1,()))
def s74:Su:=⟨[.c false [ki]],[(false,[.bool])],true,.inl fun x=>uC x.1.1⟩
theorem NN:ar Tryz.prog 74 s74 :=
 fq (ac mW an) Tryz.f74
def MH (p0:(List UInt8)×Int×Int×Unit):Option ed :=
 (Le p0.1).bind fun y1 =>
 cond y1.2.1.1 (
 (nh p0.2.1 1 9007199254740992).bind fun y2 =>
 cond y2.2.1.1 (
 (uC p0.2.2.1).bind fun y3 =>
 some ((),(y3.2.1,()))
 ) (
 c0
 )
 ) (
 c0
 )
def XB:Su:=⟨[.c true [.str,ki,ki]],[(false,[.bool])],true,.inl fun x=>MH x.1⟩
theorem Uq:ar Tryz.prog 188 XB :=
 fq (ac mW (ac On (ac NN an))) Tryz.f188
def oN (t0 t5:List gr) (t6 t7:Int):Rd ((List gr)×(List gr)×Int×Int×Unit) Y1 :=
 cond (au t7 t6) (
 cond (aR t7 t5) (
 let u1:=(gt d95 t5 t7)
 (MH u1).bind fun y1 =>
 cond (!y1.2.1.1) (
 some (.inr (.inr (false,())))
 ) (
 cond (au 0 t7) (
 let u2:=(aM .i64 t7 1)
 cond (aR u2 t0) (
 cond (Qi u1.1 (gt d95 t0 u2).1) (
 some (.inr (.inr (false,())))
 ) (
 some (.inl (t0,t5,t6,(ai .i64 t7 1),()))
 )
 ) none
 ) (
 some (.inl (t0,t5,t6,(ai .i64 t7 1),()))
 )
 )
 ) none
 ) (
 some (.inr (.inl (t0,t5,t6,t7,())))
 )
def J5:=mc (af (cV oN))
def NJ (p0:List gr):Option ed :=
 (J5 p0 p0 (ae p0) 0).bind (Sum.elim (fun y1 =>
 some ((),(((bH (ae y1.1) 4),()),()))
 ) (fun y1 =>
 some ((),(y1,()))
 ))
def Y5:Su:=⟨[.c false [ma]],[(false,[.bool])],true,.inl fun x=>NJ x.1.1⟩
theorem Wy:ar Tryz.prog 140 Y5 :=
 fl (ac Uq an) [.d 2 .bool] [(0,⟨[.d 0 ma,.d 5 ma,.d 6 ki,.d 7 ki],af (cV oN)⟩)] [] Tryz.f140 (lp [0] (sc cN sn))
def Mq (p1:Int):Option O7 :=
 cond (au p1 0) (
 none
 ) (
 let u1:=(aM .i64 p1 (aM .i64 0 0))
 cond (au 0 u1) (
 cond (WM 0 0) (
 cond (mzB 8 u1) (
 let u2:=(xh d3 u1)
 cond (dO 0 0 u2) (
 some ((),(((PU u2 0),()),()))
 ) none
 ) none
 ) none
 ) (
 some ((),(([],()),()))
 )
 )
def YF:Su:=⟨[.nil,.c false [ki]],[(false,[q3])],true,.inl fun x=>Mq x.1.1⟩
theorem Wt:ar Tryz.prog 243 YF :=
 fq an Tryz.f243
def sJ (t0:List OL) (t3:Int) (t9:List OL) (t10 t11:Int):Rd ((List OL)×Int×(List OL)×Int×Int×Unit) Unit :=
 cond (au t11 t10) (
 cond (aR t11 t9) (
 let u1:=(ai .i64 t3 (ae (gt d54 t9 t11).1))
 cond (au u1 0) (
 none
 ) (
 some (.inl (t0,u1,t9,t10,(ai .i64 t11 1),()))
 )
 ) none
 ) (
 some (.inr (.inl (t0,t3,t9,t10,t11,())))
 )
def Du:=xP (af (fh sJ))
def rL (t6:List R3) (t25:List OL) (t26 t27:Int):Rd ((List R3)×(List OL)×Int×Int×Unit) Unit :=
 cond (au t27 t26) (
 cond (aR t27 t25) (
 cond (ct 8 t6 (gt d54 t25 t27).1) (
 some (.inl ((j3 t6 (gt d54 t25 t27).1),t25,t26,(ai .i64 t27 1),()))
 ) none
 ) none
 ) (
 some (.inr (.inl (t6,t25,t26,t27,())))
 )
def Dp:=mc (af (cV rL))
def LX (p0:List OL):Option O7 :=
 (Du p0 0 p0 (ae p0) 0).bind (Sum.elim (fun y1 =>
 (Mq y1.2.1).bind fun y2 =>
 (Dp y2.2.1.1 y1.1 (ae y1.1) 0).bind (Sum.elim (fun y3 =>
 some ((),((y3.1,()),()))
 ) (fun _ =>
 none
 ))
 ) (fun _ =>
 none
 ))
def aaP:Su:=⟨[.c false [.sl 54 Lf]],[(false,[q3])],true,.inl fun x=>LX x.1.1⟩
theorem UN:ar Tryz.prog 189 aaP :=
 fl (ac Wt an) [] [(0,⟨[.d 0 (.sl 54 Lf),.d 3 ki,.d 9 (.sl 54 Lf),.d 10 ki,.d 11 ki],af (fh sJ)⟩),(2,⟨[.own 6 q3,.d 25 (.sl 54 Lf),.d 26 ki,.d 27 ki],af (cV rL)⟩)] [] Tryz.f189 (lp [0,2] (sc cN (sc cN sn)))
def nU (t3:Int) (t14:List R3) (t15 t16:Int) (b1:Int×Int×(List R3)×(List R3)×Unit):Rd (Int×(List R3)×Int×Int×(Int×Int×(List R3)×(List R3)×Unit)×Unit) Y1 :=
 cond (au t16 t15) (
 cond (aR t16 t14) (
 (W9 (gt d3 t14 t16).1).bind fun y1 =>
 cond (!y1.2.1.1) (
 some (.inr (.inr (false,())))
 ) (
 some (.inl (t3,t14,t15,(ai .i64 t16 1),b1,()))
 )
 ) none
 ) (
 some (.inr (.inl (t3,t14,t15,t16,b1,())))
 )
def JI:=xP (af (fh nU))
def Lh (p0:Int×Int×(List R3)×(List R3)×Unit):Option ed :=
 (LX [(p0.2.2.1,()),(p0.2.2.2.1,())]).bind fun y1 =>
 (JI (ae p0.2.2.1) y1.2.1.1 (ae y1.2.1.1) 0 p0).bind (Sum.elim (fun y2 =>
 (nh y2.2.2.2.2.1.1 1 1000).bind fun y3 =>
 cond y3.2.1.1 (
 (nh y2.1 1 8).bind fun y4 =>
 cond (cond y4.2.1.1 (aq (ae y2.2.2.2.2.1.2.2.2.1) y2.1) false) (
 (uC y2.2.2.2.2.1.2.1).bind fun y5 =>
 some ((),(y5.2.1,()))
 ) (
 c0
 )
 ) (
 c0
 )
 ) (fun y2 =>
 some ((),(y2,()))
 ))
def Zv:Su:=⟨[.c true [ki,ki,q3,q3]],[(false,[.bool])],true,.inl fun x=>Lh x.1⟩
theorem UP:ar Tryz.prog 141 Zv :=
 fl (ac mW (ac WC (ac NN (ac UN an)))) [.d 2 .bool] [(0,⟨[.d 3 ki,.own 14 q3,.d 15 ki,.d 16 ki,.box 1 [(false,ki),(false,ki),(false,q3),(false,q3)]],af (fh nU)⟩)] [] Tryz.f141 (lp [0] (sc cN sn))
def uV (p0:List UInt8) (p1:Int):Option ed :=
 (tZ p0).bind fun y1 =>
 some ((),(((cond y1.2.1.1 (aq (ae p0) p1) false),()),()))
def Yx:Su:=⟨[.c false [.str],.c false [ki]],[(false,[.bool])],true,.inl fun x=>uV x.1.1 x.2.1.1⟩
theorem K8:ar Tryz.prog 244 Yx :=
 fq (ac yG an) Tryz.f244
def LQ (p0:(List UInt8)×(List UInt8)×(List R5)×Unit):Option ed :=
 (uV p0.1 6).bind fun y1 =>
 cond y1.2.1.1 (
 (uV p0.2.1 4).bind fun y2 =>
 cond y2.2.1.1 (
 (nh (ae p0.2.2.1) 1 200).bind fun y3 =>
 some ((),(y3.2.1,()))
 ) (
 c0
 )
 ) (
 c0
 )
def XC:Su:=⟨[.c true [.str,.str,q5]],[(false,[.bool])],true,.inl fun x=>LQ x.1⟩
theorem VN:ar Tryz.prog 190 XC :=
 fq (ac mW (ac K8 an)) Tryz.f190
def QZ (p0:(List UInt8)×(List UInt8)×(List R5)×Unit) (p1 p2:(List UInt8)×Unit):Option ed :=
 some ((),(((cond (cq p0.1 p1.1) (cq p0.2.1 p2.1) false),()),()))
def YA:Su:=⟨[.c true [.str,.str,q5],.pt [.str],.pt [.str]],[(false,[.bool])],true,.inl fun x=>QZ x.1 x.2.1 x.2.2.1⟩
theorem Tg:ar Tryz.prog 246 YA :=
 fq an Tryz.f246
def pX (t0:List cu) (f1:Y8×Y8×Unit) (t7 t8:Int):Rd ((List cu)×(Y8×Y8×Unit)×Int×Int×Unit) Y0 :=
 cond (au t8 t7) (
 cond (aR t8 t0) (
 (QZ (gt d166 t0 t8) f1.1 f1.2.1).bind fun y1 =>
 cond y1.2.1.1 (
 some (.inr (.inr (t8,())))
 ) (
 some (.inl (t0,f1,t7,(ai .i64 t8 1),()))
 )
 ) none
 ) (
 some (.inr (.inl (t0,f1,t7,t8,())))
 )
def KK:=mc (af (cV pX))
def SG (p0:List cu) (c1_0 c1_1:(List UInt8)×Unit):Option gY :=
 (KK p0 (c1_0,c1_1,()) (ae p0) 0).bind (Sum.elim (fun _ =>
 c3
 ) (fun y1 =>
 some ((),(y1,()))
 ))
def aaF:Su:=⟨[.c false [dP],.fn 246 [.p [.str],.p [.str]]],[(false,[ki])],true,.inl fun x=>SG x.1.1 x.2.1.1 x.2.1.2.1⟩
theorem T4:ar Tryz.prog 245 aaF :=
 fl (ac Tg an) [.d 4 ki] [(0,⟨[.d 0 dP,.fn 1 246 [.p [.str],.p [.str]],.d 7 ki,.d 8 ki],af (cV pX)⟩)] [] Tryz.f245 (lp [0] (sc cN sn))
def Nf (p0:List cu) (p1 p2:List UInt8):Option gY :=
 (SG p0 (p1,()) (p2,())).bind fun y1 =>
 some ((),(y1.2.1,()))
def YS:Su:=⟨[.c false [dP],.c false [.str],.c false [.str]],[(false,[ki])],true,.inl fun x=>Nf x.1.1 x.2.1.1 x.2.2.1.1⟩
theorem S5:ar Tryz.prog 191 YS :=
 fq (ac T4 an) Tryz.f191
def ow (t0 t5:List cu) (t6 t7:Int):Rd WQ Y1 :=
 cond (au t7 t6) (
 cond (aR t7 t5) (
 let u1:=(gt d166 t5 t7)
 (LQ u1).bind fun y1 =>
 cond (!y1.2.1.1) (
 some (.inr (.inr (false,())))
 ) (
 (Nf t0 u1.1 u1.2.1).bind fun y2 =>
 cond (!(aq y2.2.1.1 t7)) (
 some (.inr (.inr (false,())))
 ) (
 some (.inl (t0,t5,t6,(ai .i64 t7 1),()))
 )
 )
 ) none
 ) (
 some (.inr (.inl (t0,t5,t6,t7,())))
 )
def Kg:=mc (af (cV ow))
def LN (p0:List cu):Option ed :=
 (Kg p0 p0 (ae p0) 0).bind (Sum.elim (fun y1 =>
 some ((),(((bH (ae y1.1) 6),()),()))
 ) (fun y1 =>
 some ((),(y1,()))
 ))
def abd:Su:=⟨[.c false [dP]],[(false,[.bool])],true,.inl fun x=>LN x.1.1⟩
theorem Vl:ar Tryz.prog 142 abd :=
 fl (ac VN (ac S5 an)) [.d 2 .bool] [(0,⟨[.d 0 dP,.d 5 dP,.d 6 ki,.d 7 ki],af (cV ow)⟩)] [] Tryz.f142 (lp [0] (sc cN sn))
def Ig (p0 p1:Int):Option gY :=
 let u1:=(Hj 0 (FJ p1 4611686018427387904))
 let u2:=(Hj 0 (FJ p0 4611686018427387904))
 cond (au (aM .i64 4611686018427387904 u1) u2) (
 c20
 ) (
 some ((),(((ai .i64 u2 u1),()),()))
 )
def aaR:Su:=⟨[.c false [ki],.c false [ki]],[(false,[ki])],true,.inl fun x=>Ig x.1.1 x.2.1.1⟩
theorem Qa:ar Tryz.prog 143 aaR :=
 fq an Tryz.f143
def pU (t3:Int) (t6:List gr) (t7 t8:Int):Rd (Int×(List gr)×Int×Int×Unit) Unit :=
 cond (au t8 t7) (
 cond (aR t8 t6) (
 (Ig t3 (gt d95 t6 t8).2.1).bind fun y1 =>
 some (.inl (y1.2.1.1,t6,t7,(ai .i64 t8 1),()))
 ) none
 ) (
 some (.inr (.inl (t3,t6,t7,t8,())))
 )
def Li:=mc (af (cV pU))
def LZ (p0:List gr):Option gY :=
 (Li 0 p0 (ae p0) 0).bind (Sum.elim (fun y1 =>
 some ((),((y1.1,()),()))
 ) (fun _ =>
 none
 ))
def Zi:Su:=⟨[.c false [ma]],[(false,[ki])],true,.inl fun x=>LZ x.1.1⟩
theorem Wr:ar Tryz.prog 144 Zi :=
 fl (ac Qa an) [] [(0,⟨[.d 3 ki,.d 6 ma,.d 7 ki,.d 8 ki],af (cV pU)⟩)] [] Tryz.f144 (lp [0] (sc cN sn))
def W4 (p0:(List UInt8)×Int×Int×Int×Int×(List gr)×Int×Int×(List R3)×(List R3)×(List cu)×Unit):Option ed :=
 (sF p0.1).bind fun y1 =>
 cond y1.2.1.1 (
 (nh p0.2.1 0 9007199254740992).bind fun y2 =>
 cond y2.2.1.1 (
 (nh p0.2.2.2.1 0 1000).bind fun y3 =>
 cond y3.2.1.1 (
 (nh p0.2.2.2.2.1 0 9007199254740992).bind fun y4 =>
 cond y4.2.1.1 (
 (W9 p0.2.2.1).bind fun y5 =>
 cond y5.2.1.1 (
 (NJ p0.2.2.2.2.2.1).bind fun y6 =>
 cond y6.2.1.1 (
 (Lh (p0.2.2.2.2.2.2.1,p0.2.2.2.2.2.2.2.1,p0.2.2.2.2.2.2.2.2.1,p0.2.2.2.2.2.2.2.2.2.1,())).bind fun y7 =>
 cond y7.2.1.1 (
 (LN p0.2.2.2.2.2.2.2.2.2.2.1).bind fun y8 =>
 cond y8.2.1.1 (
 (LZ p0.2.2.2.2.2.1).bind fun y9 =>
 (Ig p0.2.2.1 y9.2.1.1).bind fun y10 =>
 some ((),(((bH y10.2.1.1 p0.2.1),()),()))
 ) (
 c0
 )
 ) (
 c0
 )
 ) (
 c0
 )
 ) (
 c0
 )
 ) (
 c0
 )
 ) (
 c0
 )
 ) (
 c0
 )
 ) (
 c0
 )
def s81:Su:=⟨[.c true [.str,ki,ki,ki,ki,ma,ki,ki,q3,q3,dP]],[(false,[.bool])],true,.inl fun x=>W4 x.1⟩
theorem aaf:ar Tryz.prog 81 s81 :=
 fq (ac mW (ac OH (ac WC (ac Wy (ac UP (ac Vl (ac Qa (ac Wr an)))))))) Tryz.f81
def pw (t6:List dp) (t7 t8:Int) (b1:(List dp)×Unit):Rd ((List dp)×Int×Int×Y4×Unit) Y1 :=
 cond (au t8 t7) (
 cond (aR t8 t6) (
 let u1:=(gt d59 t6 t8)
 (W4 u1).bind fun y1 =>
 cond (!y1.2.1.1) (
 some (.inr (.inr (false,())))
 ) (
 cond (au 0 t8) (
 let u2:=(aM .i64 t8 1)
 cond (aR u2 b1.1) (
 cond (Qi u1.1 (gt d59 b1.1 u2).1) (
 some (.inr (.inr (false,())))
 ) (
 some (.inl (t6,t7,(ai .i64 t8 1),b1,()))
 )
 ) none
 ) (
 some (.inl (t6,t7,(ai .i64 t8 1),b1,()))
 )
 )
 ) none
 ) (
 some (.inr (.inl (t6,t7,t8,b1,())))
 )
def Ip:=mc (af (cV pw))
def IA (p0:(List dp)×Unit):Option ed :=
 (Ip p0.1 (ae p0.1) 0 p0).bind (Sum.elim (fun y1 =>
 some ((),(((bH (ae y1.2.2.2.1.1) 6),()),()))
 ) (fun y1 =>
 some ((),(y1,()))
 ))
def aac:Su:=⟨[.c true [fF]],[(false,[.bool])],true,.inl fun x=>IA x.1⟩
theorem U7:ar Tryz.prog 106 aac :=
 fl (ac aaf an) [.d 2 .bool] [(0,⟨[.d 6 fF,.d 7 ki,.d 8 ki,.box 1 [(false,fF)]],af (cV pw)⟩)] [] Tryz.f106 (lp [0] (sc cN sn))
def oE (t0:List UInt8) (t3 t6 t7:Int):Rd ((List UInt8)×Int×Int×Int×Unit) Unit :=
 cond (au t7 t6) (
 cond (aR t7 t0) (
 some (.inl (t0,(jZ .u32 (Br .u32 t3 (bG .u32 (dx t0 t7))) 16777619),t6,(ai .i64 t7 1),()))
 ) none
 ) (
 some (.inr (.inl (t0,t3,t6,t7,())))
 )
def Kt:=mc (af (cV oE))
def Ml (p0:List UInt8):Option gY :=
 (Kt p0 2166136261 (ae p0) 0).bind (Sum.elim (fun y1 =>
 some ((),(((bG .i64 y1.2.1),()),()))
 ) (fun _ =>
 none
 ))
def Y3:Su:=⟨[.c false [.str]],[(false,[ki])],true,.inl fun x=>Ml x.1.1⟩
theorem Ug:ar Tryz.prog 166 Y3 :=
 fl an [] [(0,⟨[.d 0 .str,.d 3 (.int .u32),.d 6 ki,.d 7 ki],af (cV oE)⟩)] [] Tryz.f166 (lp [0] (sc cN sn))
def Kn (p0:List UInt8) (p1:Int):Option gY :=
 cond (au p1 1) (
 c6
 ) (
 (Ml p0).bind fun y1 =>
 cond (!(aq p1 0)) (
 some ((),(((fx y1.2.1.1 p1),()),()))
 ) none
 )
def aa5:Su:=⟨[.c false [.str],.c false [ki]],[(false,[ki])],true,.inl fun x=>Kn x.1.1 x.2.1.1⟩
theorem Pr:ar Tryz.prog 107 aa5 :=
 fq (ac Ug an) Tryz.f107
def wa (t0:List eb) (t3:Int) (t7:List eb) (t8 t9:Int) (t19:List dp) (t20 t21:Int) (b4:Int×(List dp)×Unit):Rd ((List eb)×Int×(List eb)×Int×Int×(List dp)×Int×Int×VV×Unit) Y1 :=
 cond (au t21 t20) (
 cond (aR t21 t19) (
 (Kn (gt d59 t19 t21).1 (ae t0)).bind fun y1 =>
 cond (!(aq y1.2.1.1 t3)) (
 some (.inr (.inr (false,())))
 ) (
 cond (au 0 t21) (
 let u1:=(aM .i64 t21 1)
 cond (aR u1 b4.2.1) (
 cond (Qi (gt d59 t19 t21).1 (gt d59 b4.2.1 u1).1) (
 some (.inr (.inr (false,())))
 ) (
 some (.inl (t0,t3,t7,t8,t9,t19,t20,(ai .i64 t21 1),b4,()))
 )
 ) none
 ) (
 some (.inl (t0,t3,t7,t8,t9,t19,t20,(ai .i64 t21 1),b4,()))
 )
 )
 ) none
 ) (
 some (.inr (.inl (t0,t3,t7,t8,t9,t19,t20,t21,b4,())))
 )
def Oo:=UM (af (Dd wa))
def xG (t0 t7:List eb) (t8 t9:Int):Rd WZ Y1 :=
 cond (au t9 t8) (
 cond (aR t9 t7) (
 let u1:=(gt d89 t7 t9)
 (nh u1.1 (-1) 11).bind fun y1 =>
 cond (!y1.2.1.1) (
 some (.inr (.inr (false,())))
 ) (
 (Oo t0 t9 t7 t8 t9 u1.2.1 (ae u1.2.1) 0 u1).bind (Sum.elim (fun y2 =>
 some (.inl (y2.1,y2.2.2.1,y2.2.2.2.1,(ai .i64 y2.2.2.2.2.1 1),()))
 ) (fun y2 =>
 some (.inr (.inr (y2.1,())))
 ))
 )
 ) none
 ) (
 some (.inr (.inl (t0,t7,t8,t9,())))
 )
def Tb:=mc (af (cV xG))
def Xf (p0:List eb):Option ed :=
 (Tb p0 p0 (ae p0) 0).bind (Sum.elim (fun y1 =>
 (nh (ae y1.1) 1 5).bind fun y2 =>
 cond y2.2.1.1 (
 (RI y1.1).bind fun y3 =>
 (IA y3.2.1).bind fun y4 =>
 some ((),(y4.2.1,()))
 ) (
 c0
 )
 ) (fun y1 =>
 some ((),(y1,()))
 ))
def s73:Su:=⟨[.c false [fW]],[(false,[.bool])],true,.inl fun x=>Xf x.1.1⟩
theorem Zr:ar Tryz.prog 73 s73 :=
 fl (ac mW (ac aaj (ac U7 (ac Pr an)))) [.d 2 .bool] [(2,⟨[.d 0 fW,.d 3 ki,.d 7 fW,.d 8 ki,.d 9 ki,.d 19 fF,.d 20 ki,.d 21 ki,.box 4 [(false,ki),(false,fF)]],af (Dd wa)⟩),(0,⟨[.d 0 fW,.d 7 fW,.d 8 ki,.d 9 ki],af (cV xG)⟩)] [] Tryz.f73 (lp [0] (sc (lp [2] (sc cN sn)) sn))
def V2 (p0:Int):Option Ny :=
 (nh p0 0 5).bind fun y1 =>
 cond (!y1.2.1.1) (
 XH
 ) (
 cond (aR p0 [([114,101,97,100],()),([108,111,99,107],()),([119,111,114,107],()),([102,114,101,101],()),([115,101,110,100],()),([100,111,110,101],())]) (
 some ((),((gt d9 [([114,101,97,100],()),([108,111,99,107],()),([119,111,114,107],()),([102,114,101,101],()),([115,101,110,100],()),([100,111,110,101],())] p0),()))
 ) none
 )
def s85:Su:=⟨[.c false [ki]],[(false,[.str])],true,.inl fun x=>V2 x.1.1⟩
theorem YO:ar Tryz.prog 85 s85 :=
 fq (ac mW an) Tryz.f85
def zX (p0:List R5) (p1 p2:Int):Option (Unit×(((List R5)×Unit)×Y1×Unit)) :=
 let u1:=(ae p0)
 (nh p1 0 u1).bind fun y1 =>
 cond (cond (cond (!y1.2.1.1) true (au p2 0)) true (au (aM .i64 u1 p1) p2)) (
 some ((),(([],()),(false,()),()))
 ) (
 let u2:=(ai .i64 p1 p2)
 cond (dO p1 u2 p0) (
 some ((),(((sub p0 p1 u2),()),(true,()),()))
 ) none
 )
def aa1:Su:=⟨[.c false [q5],.c false [ki],.c false [ki]],[(false,[q5]),(false,[.bool])],false,.inl fun x=>zX x.1.1 x.2.1.1 x.2.2.1.1⟩
theorem KR:ar Tryz.prog 247 aa1 :=
 fq (ac mW an) Tryz.f247
def pR (t1 t2:Int) (t9:List R5) (t10:Bool) (t11 t27:List R5) (t28 t29:Int):Rd (Int×Int×(List R5)×Bool×(List R5)×(List R5)×Int×Int×Unit) Unit :=
 cond (au t29 t28) (
 cond (aR t29 t27) (
 cond (ct 1 t11 [((ai .u8 48 (iC .u8 (gt d5 t27 t29).1 4)),()),((ai .u8 48 (Ad .u8 (gt d5 t27 t29).1 15)),())]) (
 some (.inl (t1,t2,t9,t10,(j3 t11 [((ai .u8 48 (iC .u8 (gt d5 t27 t29).1 4)),()),((ai .u8 48 (Ad .u8 (gt d5 t27 t29).1 15)),())]),t27,t28,(ai .i64 t29 1),()))
 ) none
 ) none
 ) (
 some (.inr (.inl (t1,t2,t9,t10,t11,t27,t28,t29,())))
 )
def Im:=SU (af (yz pR))
def zS (p0:List R5) (p1 p2:Int):Option Ww :=
 (nh p2 1 38).bind fun y1 =>
 cond (!y1.2.1.1) (
 c4
 ) (
 (zX p0 p1 (l9 .i64 (ai .i64 p2 1) 2)).bind fun y2 =>
 (Im p1 p2 y2.2.1.1 y2.2.2.1.1 [] y2.2.1.1 (ae y2.2.1.1) 0).bind (Sum.elim (fun y3 =>
 cond (!y3.2.2.2.1) (
 c4
 ) (
 (tZ (strOf y3.2.2.2.2.1)).bind fun y4 =>
 cond (!y4.2.1.1) (
 c4
 ) (
 cond (aq (fx y3.2.1 2) 1) (
 cond (aR 0 y3.2.2.2.2.1) (
 cond (!(aq (gt d5 y3.2.2.2.2.1 0).1 48)) (
 c4
 ) (
 let u1:=(ae y3.2.2.2.2.1)
 let u2:=(aM .i64 u1 y3.2.1)
 let u3:=(dO u2 u1 y3.2.2.2.2.1)
 cond u3 (
 some ((),(((strOf (sub y3.2.2.2.2.1 u2 u1)),()),((ai .i64 y3.1 (ae y3.2.2.1)),()),(true,()),()))
 ) none
 )
 ) none
 ) (
 let u1:=(ae y3.2.2.2.2.1)
 let u2:=(aM .i64 u1 y3.2.1)
 let u3:=(dO u2 u1 y3.2.2.2.2.1)
 cond u3 (
 some ((),(((strOf (sub y3.2.2.2.2.1 u2 u1)),()),((ai .i64 y3.1 (ae y3.2.2.1)),()),(true,()),()))
 ) none
 )
 )
 )
 ) (fun _ =>
 none
 ))
 )
def XU:Su:=⟨[.c false [q5],.c false [ki],.c false [ki]],[(false,[.str]),(false,[ki]),(false,[.bool])],true,.inl fun x=>zS x.1.1 x.2.1.1 x.2.2.1.1⟩
theorem H9:ar Tryz.prog 193 XU :=
 fl (ac mW (ac yG (ac KR an))) [] [(0,⟨[.d 1 ki,.d 2 ki,.d 9 q5,.d 10 .bool,.own 11 q5,.d 27 q5,.d 28 ki,.d 29 ki],af (yz pR)⟩)] [] Tryz.f193 (lp [0] (sc cN sn))
def rQ (t1:Int) (t7:List R5) (t9:List R3) (t10:Int):Rd (Int×(List R5)×(List R3)×Int×Unit) Unit :=
 cond (bH t10 64) (
 let u1:=(aM .i64 t10 1)
 let u2:=(l9 .i64 u1 8)
 cond (aR u2 t7) (
 let u3:=(fx u1 8)
 cond (bH 0 u3) (
 cond (!(aq (Ad .u8 (gt d5 t7 u2).1 (iC .u8 128 u3)) 0)) (
 cond (ct 8 t9 [(t10,())]) (
 let u4:=(ai .i64 t10 1)
 some (.inl (t1,t7,(j3 t9 [(t10,())]),u4,()))
 ) none
 ) (
 let u4:=(ai .i64 t10 1)
 some (.inl (t1,t7,t9,u4,()))
 )
 ) none
 ) none
 ) (
 some (.inr (.inl (t1,t7,t9,t10,())))
 )
def IY:=mc (af (cV rQ))
def AF (p0:List R5) (p1:Int):Option Xq :=
 (zX p0 p1 8).bind fun y1 =>
 cond (!y1.2.2.1.1) (
 c8
 ) (
 (IY p1 y1.2.1.1 [] 1).bind (Sum.elim (fun y2 =>
 some ((),((y2.2.2.1,()),((ai .i64 y2.1 8),()),(true,()),()))
 ) (fun _ =>
 none
 ))
 )
def aaZ:Su:=⟨[.c false [q5],.c false [ki]],[(false,[q3]),(false,[ki]),(false,[.bool])],true,.inl fun x=>AF x.1.1 x.2.1.1⟩
theorem UK:ar Tryz.prog 194 aaZ :=
 fl (ac KR an) [] [(0,⟨[.d 1 ki,.d 7 q5,.own 9 q3,.d 10 ki],af (cV rQ)⟩)] [] Tryz.f194 (lp [0] (sc cN sn))
def TC  : Option (Unit×(((List Ds)×Unit)×Unit)) :=
 some ((),(([(2,3,19,()),(3,1,6,()),(4,1,12,()),(7,1,10,()),(11,1,6,()),(14,1,4,()),(37,2,12,()),(38,2,6,()),(39,2,2,()),(41,2,8,()),(48,5,60,()),(49,1,3,()),(54,5,60,()),(95,2,12,()),(102,4,20,()),(103,4,20,())],()),()))
def ZB:Su:=⟨[],[(false,[.sl 226 KH])],true,.inl fun x=>TC ⟩
theorem VP:ar Tryz.prog 292 ZB :=
 fq an Tryz.f292
def rU (t0:Int) (t5:List Ds) (t6 t7:Int) (b2:Int×Int×Int×Unit):Rd (Int×(List Ds)×Int×Int×Ds×Unit) (Ds×Unit) :=
 cond (au t7 t6) (
 cond (aR t7 t5) (
 let u1:=(gt d226 t5 t7)
 cond (aq u1.1 t0) (
 some (.inr (.inr (u1,())))
 ) (
 some (.inl (t0,t5,t6,(ai .i64 t7 1),b2,()))
 )
 ) none
 ) (
 some (.inr (.inl (t0,t5,t6,t7,b2,())))
 )
def Ii:=xP (af (fh rU))
def FO (p0:Int):Option (Unit×(Ds×Unit)) :=
 (TC).bind fun y1 =>
 (Ii p0 y1.2.1.1 (ae y1.2.1.1) 0 (0,0,0,())).bind (Sum.elim (fun _ =>
 some ((),((0,0,0,()),()))
 ) (fun y2 =>
 some ((),(y2.1,()))
 ))
def YY:Su:=⟨[.c false [ki]],[(true,[ki,ki,ki])],true,.inl fun x=>FO x.1.1⟩
theorem IJ:ar Tryz.prog 248 YY :=
 fl (ac VP an) [.box 2 [(false,ki),(false,ki),(false,ki)]] [(0,⟨[.d 0 ki,.own 5 (.sl 226 KH),.d 6 ki,.d 7 ki,.box 2 [(false,ki),(false,ki),(false,ki)]],af (fh rU)⟩)] [] Tryz.f248 (lp [0] (sc cN sn))
def CR (p0:Int):Option gY :=
 (FO p0).bind fun y1 =>
 some ((),((y1.2.1.2.1,()),()))
def YR:Su:=⟨[.c false [ki]],[(false,[ki])],true,.inl fun x=>CR x.1.1⟩
theorem Kh:ar Tryz.prog 195 YR :=
 fq (ac IJ an) Tryz.f195
def Ly (p0:Int):Option gY :=
 (FO p0).bind fun y1 =>
 some ((),((y1.2.1.2.2.1,()),()))
def aaY:Su:=⟨[.c false [ki]],[(false,[ki])],true,.inl fun x=>Ly x.1.1⟩
theorem Ud:ar Tryz.prog 249 aaY :=
 fq (ac IJ an) Tryz.f249
def NK (p0:Int):Option gY :=
 (CR p0).bind fun y1 =>
 cond (aq y1.2.1.1 5) (
 c9
 ) (
 c5
 )
def abo:Su:=⟨[.c false [ki]],[(false,[ki])],true,.inl fun x=>NK x.1.1⟩
theorem UW:ar Tryz.prog 251 abo :=
 fq (ac Kh an) Tryz.f251
section
open Go.RowKit Go.Lib
theorem YI:Es Tryz.prog 215 240 271:=by
 intro s b v w R R2 hd ha
 have e1:Enters Tryz.prog 240:=enters_of (fn:=Tryz.f240) (c:=ak Tryz.f240) (by kernel_rfl) (by kernel_rfl) (by kernel_rfl)
 have e2:Enters Tryz.prog 271:=enters_of (fn:=Tryz.f271) (c:=ak Tryz.f271) (by kernel_rfl) (by kernel_rfl) (by kernel_rfl)
 have hsz:s.size < 9223372036854775808∨9223372036854775808<=s.size:=Nat.lt_or_ge _ _
 cases b with
 | false =>
   go_enter Tryz.func215,Tryz.ntmps215
   go_wp2_with (go_at_call 240; refine hd.mono ?_; rintro e W1 ⟨rfl,hW⟩)
   go_ret2
   exact .inr ⟨by simp,rfl,hW⟩
 | true =>
   by_cases hs:s.size<=18
   . have hb:=ha rfl hs
     have h1:¬ (18:Int) < (s.size:Int):=by omega
     go_enter Tryz.func215,Tryz.ntmps215
     go_wp2_with (first
      | (go_at_call 240; refine hd.mono ?_; rintro e W1 ⟨rfl,hW⟩)
      | (go_at_call 271; refine (hb _ hW).mono ?_; rintro e W2 ⟨rfl,hW2⟩))
     go_ret2
     exact .inl ⟨by trivial,hs,rfl,hW2⟩
   . have h1:(18:Int) < (s.size:Int):=by omega
     go_enter Tryz.func215,Tryz.ntmps215
     go_wp2_with (go_at_call 240; refine hd.mono ?_; rintro e W1 ⟨rfl,hW⟩)
     go_ret2
     exact .inr ⟨by simp [hs],rfl,hW⟩
end
def DX (p0:List UInt8):Option WY:=ug tZ p0
def Yh:Su:=⟨[.c false [.str]],[(false,[ki]),(false,[.bool])],true,.inl fun x=>DX x.1.1⟩
theorem Pd:ar Tryz.prog 215 Yh:=GW wP (gd:=tZ) yG (fnd:=Tryz.f240) (cd:=ak Tryz.f240) (by kernel_rfl) (by kernel_rfl) (by kernel_rfl) rfl YI (fn:=Tryz.f215) (c:=ak Tryz.f215) (by kernel_rfl) (by kernel_rfl) (by kernel_rfl)
def GO (p0:List R5) (p1 p2:Int):Option (Unit×(Y0×Y0×Y1×Unit)) :=
 (nh p2 2 3).bind fun y1 =>
 cond (!y1.2.1.1) (
 c15
 ) (
 (zS p0 p1 p2).bind fun y2 =>
 cond (!y2.2.2.2.1.1) (
 c15
 ) (
 (DX y2.2.1.1).bind fun y3 =>
 some ((),(y3.2.1,y2.2.2.1,(true,()),()))
 )
 )
def Z3:Su:=⟨[.c false [q5],.c false [ki],.c false [ki]],[(false,[ki]),(false,[ki]),(false,[.bool])],true,.inl fun x=>GO x.1.1 x.2.1.1 x.2.2.1.1⟩
theorem Wp:ar Tryz.prog 250 Z3 :=
 fq (ac mW (ac H9 (ac Pd an))) Tryz.f250
def oG (t0:List UInt8) (t5 t6:Int):Rd S1 Y1 :=
 cond (au t6 t5) (
 cond (aR t6 t0) (
 let u1:=(dx t0 t6)
 cond (au u1 32) (
 some (.inr (.inr (false,())))
 ) (
 cond (aR t6 t0) (
 cond (au 126 u1) (
 some (.inr (.inr (false,())))
 ) (
 some (.inl (t0,t5,(ai .i64 t6 1),()))
 )
 ) none
 )
 ) none
 ) (
 some (.inr (.inl (t0,t5,t6,())))
 )
def Iz:=kD (af (dk oG))
def Hh (p0:List UInt8):Option ed :=
 (Iz p0 (ae p0) 0).bind (Sum.elim (fun _ =>
 c2
 ) (fun y1 =>
 some ((),(y1,()))
 ))
def Yd:Su:=⟨[.c false [.str]],[(false,[.bool])],true,.inl fun x=>Hh x.1.1⟩
theorem TM:ar Tryz.prog 293 Yd :=
 fl an [.d 2 .bool] [(0,⟨[.d 0 .str,.d 5 ki,.d 6 ki],af (dk oG)⟩)] [] Tryz.f293 (lp [0] (sc cN sn))
def xU (p0:Int) (p1:List UInt8):Option ed :=
 (FO p0).bind fun y1 =>
 cond (aq y1.2.1.2.1 1) (
 let u1:=(tZ p1)
 Option.bind u1 fun y2 =>
 let u2:=(ae p1)
 some ((),(((cond y2.2.1.1 (aq u2 y1.2.1.2.2.1) false),()),()))
 ) (
 cond (aq y1.2.1.2.1 2) (
 let u1:=(Hh p1)
 Option.bind u1 fun y2 =>
 let u2:=(ae p1)
 some ((),(((cond y2.2.1.1 (aq u2 y1.2.1.2.2.1) false),()),()))
 ) (
 cond (aq y1.2.1.2.1 3) (
 let u1:=(tZ p1)
 Option.bind u1 fun y2 =>
 cond y2.2.1.1 (
 let u2:=(ae p1)
 let u3:=(nh u2 1 y1.2.1.2.2.1)
 Option.bind u3 fun y3 =>
 some ((),(y3.2.1,()))
 ) (
 c0
 )
 ) (
 cond (aq y1.2.1.2.1 4) (
 let u1:=(Hh p1)
 Option.bind u1 fun y2 =>
 cond y2.2.1.1 (
 let u2:=(ae p1)
 let u3:=(nh u2 1 y1.2.1.2.2.1)
 Option.bind u3 fun y3 =>
 some ((),(y3.2.1,()))
 ) (
 c0
 )
 ) (
 cond (aq y1.2.1.2.1 5) (
 let u1:=(Hh p1)
 Option.bind u1 fun y2 =>
 cond y2.2.1.1 (
 let u2:=(ae p1)
 let u3:=(nh u2 1 y1.2.1.2.2.1)
 Option.bind u3 fun y3 =>
 some ((),(y3.2.1,()))
 ) (
 c0
 )
 ) (
 c0
 )
 )
 )
 )
 )
def X7:Su:=⟨[.c false [ki],.c false [.str]],[(false,[.bool])],true,.inl fun x=>xU x.1.1 x.2.1.1⟩
theorem PW:ar Tryz.prog 252 X7 :=
 fq (ac mW (ac yG (ac IJ (ac TM an)))) Tryz.f252
def K1 (p0:List R5) (p1 p2:Int):Option Ww :=
 (Ly p2).bind fun y1 =>
 (CR p2).bind fun y2 =>
 cond (cond (cond (aq y2.2.1.1 3) true (aq y2.2.1.1 4)) true (aq y2.2.1.1 5)) (
 (NK p2).bind fun y3 =>
 (GO p0 p1 y3.2.1.1).bind fun y4 =>
 cond (!y4.2.2.2.1.1) (
 c4
 ) (
 let u1:=(cond (aq y2.2.1.1 1) true (aq y2.2.1.1 3))
 cond u1 (
 (zS p0 y4.2.2.1.1 y4.2.1.1).bind fun y5 =>
 cond (!y5.2.2.2.1.1) (
 c4
 ) (
 (xU p2 y5.2.1.1).bind fun y6 =>
 cond (!y6.2.1.1) (
 c4
 ) (
 some ((),(y5.2.1,y5.2.2.1,(true,()),()))
 )
 )
 ) (
 (zX p0 y4.2.2.1.1 y4.2.1.1).bind fun y5 =>
 cond (!y5.2.2.1.1) (
 c4
 ) (
 let u2:=(strOf y5.2.1.1)
 (xU p2 u2).bind fun y6 =>
 cond (!y6.2.1.1) (
 c4
 ) (
 some ((),((u2,()),((ai .i64 y4.2.2.1.1 y4.2.1.1),()),(true,()),()))
 )
 )
 )
 )
 ) (
 let u1:=(cond (aq y2.2.1.1 1) true (aq y2.2.1.1 3))
 cond u1 (
 (zS p0 p1 y1.2.1.1).bind fun y3 =>
 cond (!y3.2.2.2.1.1) (
 c4
 ) (
 (xU p2 y3.2.1.1).bind fun y4 =>
 cond (!y4.2.1.1) (
 c4
 ) (
 some ((),(y3.2.1,y3.2.2.1,(true,()),()))
 )
 )
 ) (
 (zX p0 p1 y1.2.1.1).bind fun y3 =>
 cond (!y3.2.2.1.1) (
 c4
 ) (
 let u2:=(strOf y3.2.1.1)
 (xU p2 u2).bind fun y4 =>
 cond (!y4.2.1.1) (
 c4
 ) (
 some ((),((u2,()),((ai .i64 p1 y1.2.1.1),()),(true,()),()))
 )
 )
 )
 )
def aan:Su:=⟨[.c false [q5],.c false [ki],.c false [ki]],[(false,[.str]),(false,[ki]),(false,[.bool])],true,.inl fun x=>K1 x.1.1 x.2.1.1 x.2.2.1.1⟩
theorem U1:ar Tryz.prog 196 aan :=
 fq (ac KR (ac H9 (ac Kh (ac Ud (ac UW (ac Wp (ac PW an))))))) Tryz.f196
def pY (t0:List R5) (t4:List UInt8) (t5:Int) (t8:List R3) (t9:Bool) (t41:List R3) (t42 t43:Int) (b2:(List UInt8)×(List iz)×Unit):Rd ((List R5)×(List UInt8)×Int×(List R3)×Bool×(List R3)×Int×Int×CF×Unit) Xx :=
 cond (au t43 t42) (
 cond (aR t43 t41) (
 let u1:=(gt d3 t41 t43)
 cond (aq u1.1 1) (
 let u2:=(ai .i64 t43 1)
 some (.inl (t0,t4,t5,t8,true,t41,t42,u2,b2,()))
 ) (
 (CR u1.1).bind fun y1 =>
 cond (aq y1.2.1.1 0) (
 some (.inr (.inr (2,([],[],()),())))
 ) (
 cond (ct 8 t8 [u1]) (
 let u2:=(ai .i64 t43 1)
 some (.inl (t0,t4,t5,(j3 t8 [u1]),t9,t41,t42,u2,b2,()))
 ) none
 )
 )
 ) none
 ) (
 some (.inr (.inl (t0,t4,t5,t8,t9,t41,t42,t43,b2,())))
 )
def HA:=UM (af (Dd pY))
def pW (t0:List R5) (t4:List UInt8) (t5:Int) (t8 t76:List R3) (t77 t78:Int) (b2:(List UInt8)×(List iz)×Unit):Rd ((List R5)×(List UInt8)×Int×(List R3)×(List R3)×Int×Int×CF×Unit) Xx :=
 cond (au t78 t77) (
 cond (aR t78 t76) (
 let u1:=(ai .i64 (gt d3 t76 t78).1 64)
 (CR u1).bind fun y1 =>
 cond (aq y1.2.1.1 0) (
 some (.inr (.inr (2,([],[],()),())))
 ) (
 cond (ct 8 t8 [(u1,())]) (
 some (.inl (t0,t4,t5,(j3 t8 [(u1,())]),t76,t77,(ai .i64 t78 1),b2,()))
 ) none
 )
 ) none
 ) (
 some (.inr (.inl (t0,t4,t5,t8,t76,t77,t78,b2,())))
 )
def Kv:=SU (af (yz pW))
def pr (t0:List R5) (t5:Int) (t95:List R3) (t96 t97:Int) (b2 b15:(List UInt8)×(List iz)×Unit):Rd ((List R5)×Int×(List R3)×Int×Int×CF×CF×Unit) Xx :=
 cond (au t97 t96) (
 cond (aR t97 t95) (
 (K1 t0 t5 (gt d3 t95 t97).1).bind fun y1 =>
 cond (!y1.2.2.2.1.1) (
 some (.inr (.inr (3,([],[],()),())))
 ) (
 cond (ct 24 b15.2.1 [((gt d3 t95 t97).1,y1.2.1.1,())]) (
 some (.inl (t0,y1.2.2.1.1,t95,t96,(ai .i64 t97 1),b2,(b15.1,(j3 b15.2.1 [((gt d3 t95 t97).1,y1.2.1.1,())]),()),()))
 ) none
 )
 ) none
 ) (
 some (.inr (.inl (t0,t5,t95,t96,t97,b2,b15,())))
 )
def zw:=WO (af (HL pr))
def Mr (p0:List R5):Option (Unit×(CF×Y0×Unit)) :=
 (zS p0 0 4).bind fun y1 =>
 cond (!y1.2.2.2.1.1) (
 some ((),(([],[],()),(1,()),()))
 ) (
 (AF p0 y1.2.2.1.1).bind fun y2 =>
 cond (!y2.2.2.2.1.1) (
 c16
 ) (
 (HA p0 y1.2.1.1 y2.2.2.1.1 [] false y2.2.1.1 (ae y2.2.1.1) 0 ([],[],())).bind (Sum.elim (fun y3 =>
 cond y3.2.2.2.2.1 (
 (AF y3.1 y3.2.2.1).bind fun y4 =>
 let u1:=(ae y4.2.1.1)
 cond (cond (!y4.2.2.2.1.1) true (aq u1 0)) (
 c16
 ) (
 (Kv y3.1 y3.2.1 y4.2.2.1.1 y3.2.2.2.1 y4.2.1.1 u1 0 y3.2.2.2.2.2.2.2.2.1).bind (Sum.elim (fun y5 =>
 (zw y5.1 y5.2.2.1 y5.2.2.2.1 (ae y5.2.2.2.1) 0 y5.2.2.2.2.2.2.2.1 (y5.2.1,[],())).bind (Sum.elim (fun y6 =>
 cond (!(aq y6.2.1 (ae y6.1))) (
 Za
 ) (
 some ((),(y6.2.2.2.2.2.2.1,(0,()),()))
 )
 ) (fun y6 =>
 some ((),(y6.2.1,(y6.1,()),()))
 ))
 ) (fun y5 =>
 some ((),(y5.2.1,(y5.1,()),()))
 ))
 )
 ) (
 (zw y3.1 y3.2.2.1 y3.2.2.2.1 (ae y3.2.2.2.1) 0 y3.2.2.2.2.2.2.2.2.1 (y3.2.1,[],())).bind (Sum.elim (fun y4 =>
 cond (!(aq y4.2.1 (ae y4.1))) (
 Za
 ) (
 some ((),(y4.2.2.2.2.2.2.1,(0,()),()))
 )
 ) (fun y4 =>
 some ((),(y4.2.1,(y4.1,()),()))
 ))
 )
 ) (fun y3 =>
 some ((),(y3.2.1,(y3.1,()),()))
 ))
 )
 )
def ZI:Su:=⟨[.c false [q5]],[(true,[.str,iL]),(false,[ki])],true,.inl fun x=>Mr x.1.1⟩
theorem Wl:ar Tryz.prog 150 ZI :=
 fl (ac H9 (ac UK (ac Kh (ac U1 an)))) [.d 3 ki,.box 2 [(false,.str),(true,iL)]] [(0,⟨[.d 0 q5,.d 4 .str,.d 5 ki,.own 8 q3,.d 9 .bool,.own 41 q3,.d 42 ki,.d 43 ki,.box 2 [(false,.str),(true,iL)]],af (Dd pY)⟩),(3,⟨[.d 0 q5,.d 4 .str,.d 5 ki,.own 8 q3,.own 76 q3,.d 77 ki,.d 78 ki,.box 2 [(false,.str),(true,iL)]],af (yz pW)⟩),(5,⟨[.d 0 q5,.d 5 ki,.own 95 q3,.d 96 ki,.d 97 ki,.box 2 [(false,.str),(true,iL)],.box 15 [(false,.str),(true,iL)]],af (HL pr)⟩)] [] Tryz.f150 (lp [0,3,5] (sc cN (sc cN (sc cN sn))))
def qc (t6:List iz) (t7 t8:Int) (b1:(List UInt8)×(List iz)×Unit):Rd ((List iz)×Int×Int×CF×Unit) Y1 :=
 cond (au t8 t7) (
 cond (aR t8 t6) (
 let u1:=(gt d175 t6 t8)
 (xU u1.1 u1.2.1).bind fun y1 =>
 cond (!y1.2.1.1) (
 some (.inr (.inr (false,())))
 ) (
 cond (au 0 t8) (
 let u2:=(aM .i64 t8 1)
 cond (aR u2 b1.2.1) (
 cond (bH u1.1 (gt d175 b1.2.1 u2).1) (
 some (.inr (.inr (false,())))
 ) (
 some (.inl (t6,t7,(ai .i64 t8 1),b1,()))
 )
 ) none
 ) (
 some (.inl (t6,t7,(ai .i64 t8 1),b1,()))
 )
 )
 ) none
 ) (
 some (.inr (.inl (t6,t7,t8,b1,())))
 )
def Dt:=mc (af (cV qc))
def Nl (p0:(List UInt8)×(List iz)×Unit):Option ed :=
 (Dt p0.2.1 (ae p0.2.1) 0 p0).bind (Sum.elim (fun y1 =>
 (uV y1.2.2.2.1.1 4).bind fun y2 =>
 some ((),(y2.2.1,()))
 ) (fun y1 =>
 some ((),(y1,()))
 ))
def aaU:Su:=⟨[.c true [.str,iL]],[(false,[.bool])],true,.inl fun x=>Nl x.1⟩
theorem TZ:ar Tryz.prog 209 aaU :=
 fl (ac K8 (ac PW an)) [.d 2 .bool] [(0,⟨[.d 6 iL,.d 7 ki,.d 8 ki,.box 1 [(false,.str),(false,iL)]],af (cV qc)⟩)] [] Tryz.f209 (lp [0] (sc cN sn))
def RS (p0:List UInt8):Option ed :=
 some ((),(((cond (cond (cq p0 [48,49,48,48]) true (cq p0 [48,50,48,48])) true (cq p0 [48,50,50,48])),()),()))
def abh:Su:=⟨[.c false [.str]],[(false,[.bool])],true,.inl fun x=>RS x.1.1⟩
theorem Vi:ar Tryz.prog 210 abh :=
 fq an Tryz.f210
def po (t1:Int) (t9:List iz) (t10 t11:Int):Rd (Int×(List iz)×Int×Int×Unit) ((List UInt8)×Bool×Unit) :=
 cond (au t11 t10) (
 cond (aR t11 t9) (
 let u1:=(gt d175 t9 t11)
 cond (aq u1.1 t1) (
 some (.inr (.inr (u1.2.1,true,())))
 ) (
 some (.inl (t1,t9,t10,(ai .i64 t11 1),()))
 )
 ) none
 ) (
 some (.inr (.inl (t1,t9,t10,t11,())))
 )
def HU:=mc (af (cV po))
def F2 (p0:(List UInt8)×(List iz)×Unit) (p1:Int):Option (Unit×(Y8×Y1×Unit)) :=
 (HU p1 p0.2.1 (ae p0.2.1) 0).bind (Sum.elim (fun _ =>
 some ((),(([],()),(false,()),()))
 ) (fun y1 =>
 some ((),((y1.1,()),(y1.2.1,()),()))
 ))
def Yn:Su:=⟨[.c true [.str,iL],.c false [ki]],[(false,[.str]),(false,[.bool])],true,.inl fun x=>F2 x.1 x.2.1.1⟩
theorem Vr:ar Tryz.prog 151 Yn :=
 fl an [.d 4 .str,.d 5 .bool] [(0,⟨[.d 1 ki,.d 9 iL,.d 10 ki,.d 11 ki],af (cV po)⟩)] [] Tryz.f151 (lp [0] (sc cN sn))
def L6  : Option (Unit×(((List FV)×Unit)×Unit)) :=
 some ((),(([([48,49,48,48],[48,48],[97,117,116,104],[(4,()),(14,()),(38,())],()),([48,49,48,48],[48,50],[109,111,114,101],[(4,()),(38,())],()),([48,50,50,48],[48,49],[112,97,114,116],[(4,()),(38,())],()),([48,50,50,48],[48,48],[102,105,110,97,108],[(4,()),(38,())],()),([48,50,50,48],[50,48],[102,114,101,101],[(38,())],()),([48,50,48,48],[52,48],[109,111,118,101],[(38,()),(103,())],()),([48,49,48,48],[51,49],[97,115,107],[],()),([48,50,48,48],[57,48],[115,119,101,101,112],[],())],()),()))
def aab:Su:=⟨[],[(false,[.sl 198 Fg])],false,.inl fun x=>L6 ⟩
theorem Py:ar Tryz.prog 212 aab :=
 fl an [] [] [999999] Tryz.f212 cN
def Rw (p0:(List UInt8)×(List UInt8)×(List UInt8)×(List R3)×Unit) (p1:(List UInt8)×(List iz)×Unit) (p2:(List UInt8)×Unit):Option ed :=
 cond (cq p0.1 p1.1) (
 cond (dO 0 2 p2.1) (
 some ((),(((cq p0.2.1 (sub p2.1 0 2)),()),()))
 ) none
 ) (
 c0
 )
def Zf:Su:=⟨[.c true [.str,.str,.str,q3],.pt [.str,iL],.pt [.str]],[(false,[.bool])],true,.inl fun x=>Rw x.1 x.2.1 x.2.2.1⟩
theorem T9:ar Tryz.prog 213 Zf :=
 fq an Tryz.f213
def ot (t0:List FV) (f1:CF×Y8×Unit) (t7 t8:Int):Rd ((List FV)×(CF×Y8×Unit)×Int×Int×Unit) Y0 :=
 cond (au t8 t7) (
 cond (aR t8 t0) (
 (Rw (gt d198 t0 t8) f1.1 f1.2.1).bind fun y1 =>
 cond y1.2.1.1 (
 some (.inr (.inr (t8,())))
 ) (
 some (.inl (t0,f1,t7,(ai .i64 t8 1),()))
 )
 ) none
 ) (
 some (.inr (.inl (t0,f1,t7,t8,())))
 )
def QT:=mc (af (cV ot))
def NL (p0:List FV) (c1_0:(List UInt8)×(List iz)×Unit) (c1_1:(List UInt8)×Unit):Option gY :=
 (QT p0 (c1_0,c1_1,()) (ae p0) 0).bind (Sum.elim (fun _ =>
 c3
 ) (fun y1 =>
 some ((),(y1,()))
 ))
def abq:Su:=⟨[.c false [.sl 198 Fg],.fn 213 [.p [.str,iL],.p [.str]]],[(false,[ki])],true,.inl fun x=>NL x.1.1 x.2.1.1 x.2.1.2.1⟩
theorem Vo:ar Tryz.prog 211 abq :=
 fl (ac T9 an) [.d 4 ki] [(0,⟨[.d 0 (.sl 198 Fg),.fn 1 213 [.p [.str,iL],.p [.str]],.d 7 ki,.d 8 ki],af (cV ot)⟩)] [] Tryz.f211 (lp [0] (sc cN sn))
def Aq (p0:Int):Option (Unit×(FV×Unit)) :=
 (nh p0 1 8).bind fun y1 =>
 cond (!y1.2.1.1) (
 some ((),(([],[],[],[],()),()))
 ) (
 (L6).bind fun y2 =>
 let u1:=(aM .i64 p0 1)
 cond (aR u1 y2.2.1.1) (
 some ((),((gt d198 y2.2.1.1 u1),()))
 ) none
 )
def X3:Su:=⟨[.c false [ki]],[(true,[.str,.str,.str,q3])],false,.inl fun x=>Aq x.1.1⟩
theorem IS:ar Tryz.prog 214 X3 :=
 fl (ac mW (ac Py an)) [] [] [999999] Tryz.f214 cN
def pI (t0:List R3) (t1 t7 t8:Int):Rd ((List R3)×Int×Int×Int×Unit) Y0 :=
 cond (au t8 t7) (
 cond (aR t8 t0) (
 cond (aq t1 (gt d3 t0 t8).1) (
 some (.inr (.inr (t8,())))
 ) (
 some (.inl (t0,t1,t7,(ai .i64 t8 1),()))
 )
 ) none
 ) (
 some (.inr (.inl (t0,t1,t7,t8,())))
 )
def Lc:=mc (af (cV pI))
def Qk (p0:List R3) (p1:Int):Option gY :=
 (Lc p0 p1 (ae p0) 0).bind (Sum.elim (fun _ =>
 c3
 ) (fun y1 =>
 some ((),(y1,()))
 ))
def Ys:Su:=⟨[.c false [q3],.c false [ki]],[(false,[ki])],true,.inl fun x=>Qk x.1.1 x.2.1.1⟩
theorem VS:ar Tryz.prog 134 Ys :=
 fl an [.d 4 ki] [(0,⟨[.d 0 q3,.d 1 ki,.d 7 ki,.d 8 ki],af (cV pI)⟩)] [] Tryz.f134 (lp [0] (sc cN sn))
def Sh (p0:List R3) (p1:Int):Option ed :=
 (Qk p0 p1).bind fun y1 =>
 some ((),(((bH 0 y1.2.1.1),()),()))
def s76:Su:=⟨[.c false [q3],.c false [ki]],[(false,[.bool])],true,.inl fun x=>Sh x.1.1 x.2.1.1⟩
theorem Sz:ar Tryz.prog 76 s76 :=
 fq (ac VS an) Tryz.f76
def kl (p0 p1:Int):Option ed :=
 (Aq p0).bind fun y1 =>
 (Sh y1.2.1.2.2.2.1 p1).bind fun y2 =>
 some ((),(y2.2.1,()))
def aaK:Su:=⟨[.c false [ki],.c false [ki]],[(false,[.bool])],true,.inl fun x=>kl x.1.1 x.2.1.1⟩
theorem UX:ar Tryz.prog 273 aaK :=
 fq (ac IS (ac Sz an)) Tryz.f273
def Ke (p0:Int×(List UInt8)×(List UInt8)×(List UInt8)×(List UInt8)×(List UInt8)×Int×Int×Unit):Option ed :=
 (Aq p0.1).bind fun y1 =>
 cond (cond (cq y1.2.1.2.2.1 []) true (!(cq p0.2.2.2.2.2.1 y1.2.1.1))) (
 c0
 ) (
 (sF p0.2.1).bind fun y2 =>
 cond (!y2.2.1.1) (
 c0
 ) (
 (uV p0.2.2.2.2.1 6).bind fun y3 =>
 cond (!y3.2.1.1) (
 c0
 ) (
 (kl p0.1 38).bind fun y4 =>
 cond y4.2.1.1 (
 (Le p0.2.2.2.1).bind fun y5 =>
 let u1:=(kl p0.1 4)
 Option.bind u1 fun y6 =>
 cond y6.2.1.1 (
 let u2:=(nh p0.2.2.2.2.2.2.1 0 999999999999)
 Option.bind u2 fun y7 =>
 let u3:=(kl p0.1 14)
 Option.bind u3 fun y8 =>
 cond y8.2.1.1 (
 let u4:=(nh p0.2.2.2.2.2.2.2.1 0 9999)
 Option.bind u4 fun y9 =>
 let u5:=(kl p0.1 103)
 Option.bind u5 fun y10 =>
 cond y10.2.1.1 (
 let u6:=(sF p0.2.2.1)
 Option.bind u6 fun y11 =>
 let u7:=(cond y5.2.1.1 y7.2.1.1 false)
 let u8:=(cond u7 y9.2.1.1 false)
 some ((),(((cond u8 y11.2.1.1 false),()),()))
 ) (
 let u6:=(cond y5.2.1.1 y7.2.1.1 false)
 let u7:=(cond u6 y9.2.1.1 false)
 let u8:=(cq p0.2.2.1 [])
 some ((),(((cond u7 u8 false),()),()))
 )
 ) (
 let u4:=(kl p0.1 103)
 Option.bind u4 fun y9 =>
 cond y9.2.1.1 (
 let u5:=(sF p0.2.2.1)
 Option.bind u5 fun y10 =>
 let u6:=(cond y5.2.1.1 y7.2.1.1 false)
 let u7:=(cond u6 (aq p0.2.2.2.2.2.2.2.1 0) false)
 some ((),(((cond u7 y10.2.1.1 false),()),()))
 ) (
 let u5:=(cond y5.2.1.1 y7.2.1.1 false)
 let u6:=(cond u5 (aq p0.2.2.2.2.2.2.2.1 0) false)
 let u7:=(cq p0.2.2.1 [])
 some ((),(((cond u6 u7 false),()),()))
 )
 )
 ) (
 let u2:=(kl p0.1 14)
 Option.bind u2 fun y7 =>
 cond y7.2.1.1 (
 let u3:=(nh p0.2.2.2.2.2.2.2.1 0 9999)
 Option.bind u3 fun y8 =>
 let u4:=(kl p0.1 103)
 Option.bind u4 fun y9 =>
 cond y9.2.1.1 (
 let u5:=(sF p0.2.2.1)
 Option.bind u5 fun y10 =>
 let u6:=(cond y5.2.1.1 (aq p0.2.2.2.2.2.2.1 0) false)
 let u7:=(cond u6 y8.2.1.1 false)
 some ((),(((cond u7 y10.2.1.1 false),()),()))
 ) (
 let u5:=(cond y5.2.1.1 (aq p0.2.2.2.2.2.2.1 0) false)
 let u6:=(cond u5 y8.2.1.1 false)
 let u7:=(cq p0.2.2.1 [])
 some ((),(((cond u6 u7 false),()),()))
 )
 ) (
 let u3:=(kl p0.1 103)
 Option.bind u3 fun y8 =>
 cond y8.2.1.1 (
 let u4:=(sF p0.2.2.1)
 Option.bind u4 fun y9 =>
 let u5:=(cond y5.2.1.1 (aq p0.2.2.2.2.2.2.1 0) false)
 let u6:=(cond u5 (aq p0.2.2.2.2.2.2.2.1 0) false)
 some ((),(((cond u6 y9.2.1.1 false),()),()))
 ) (
 let u4:=(cond y5.2.1.1 (aq p0.2.2.2.2.2.2.1 0) false)
 let u5:=(cond u4 (aq p0.2.2.2.2.2.2.2.1 0) false)
 let u6:=(cq p0.2.2.1 [])
 some ((),(((cond u5 u6 false),()),()))
 )
 )
 )
 ) (
 let u1:=(kl p0.1 4)
 Option.bind u1 fun y5 =>
 cond y5.2.1.1 (
 let u2:=(nh p0.2.2.2.2.2.2.1 0 999999999999)
 Option.bind u2 fun y6 =>
 let u3:=(kl p0.1 14)
 Option.bind u3 fun y7 =>
 cond y7.2.1.1 (
 let u4:=(nh p0.2.2.2.2.2.2.2.1 0 9999)
 Option.bind u4 fun y8 =>
 let u5:=(kl p0.1 103)
 Option.bind u5 fun y9 =>
 cond y9.2.1.1 (
 let u6:=(sF p0.2.2.1)
 Option.bind u6 fun y10 =>
 let u7:=(cq p0.2.2.2.1 [])
 let u8:=(cond u7 y6.2.1.1 false)
 let u9:=(cond u8 y8.2.1.1 false)
 some ((),(((cond u9 y10.2.1.1 false),()),()))
 ) (
 let u6:=(cq p0.2.2.2.1 [])
 let u7:=(cond u6 y6.2.1.1 false)
 let u8:=(cond u7 y8.2.1.1 false)
 let u9:=(cq p0.2.2.1 [])
 some ((),(((cond u8 u9 false),()),()))
 )
 ) (
 let u4:=(kl p0.1 103)
 Option.bind u4 fun y8 =>
 cond y8.2.1.1 (
 let u5:=(sF p0.2.2.1)
 Option.bind u5 fun y9 =>
 let u6:=(cq p0.2.2.2.1 [])
 let u7:=(cond u6 y6.2.1.1 false)
 let u8:=(cond u7 (aq p0.2.2.2.2.2.2.2.1 0) false)
 some ((),(((cond u8 y9.2.1.1 false),()),()))
 ) (
 let u5:=(cq p0.2.2.2.1 [])
 let u6:=(cond u5 y6.2.1.1 false)
 let u7:=(cond u6 (aq p0.2.2.2.2.2.2.2.1 0) false)
 let u8:=(cq p0.2.2.1 [])
 some ((),(((cond u7 u8 false),()),()))
 )
 )
 ) (
 let u2:=(kl p0.1 14)
 Option.bind u2 fun y6 =>
 cond y6.2.1.1 (
 let u3:=(nh p0.2.2.2.2.2.2.2.1 0 9999)
 Option.bind u3 fun y7 =>
 let u4:=(kl p0.1 103)
 Option.bind u4 fun y8 =>
 cond y8.2.1.1 (
 let u5:=(sF p0.2.2.1)
 Option.bind u5 fun y9 =>
 let u6:=(cq p0.2.2.2.1 [])
 let u7:=(cond u6 (aq p0.2.2.2.2.2.2.1 0) false)
 let u8:=(cond u7 y7.2.1.1 false)
 some ((),(((cond u8 y9.2.1.1 false),()),()))
 ) (
 let u5:=(cq p0.2.2.2.1 [])
 let u6:=(cond u5 (aq p0.2.2.2.2.2.2.1 0) false)
 let u7:=(cond u6 y7.2.1.1 false)
 let u8:=(cq p0.2.2.1 [])
 some ((),(((cond u7 u8 false),()),()))
 )
 ) (
 let u3:=(kl p0.1 103)
 Option.bind u3 fun y7 =>
 cond y7.2.1.1 (
 let u4:=(sF p0.2.2.1)
 Option.bind u4 fun y8 =>
 let u5:=(cq p0.2.2.2.1 [])
 let u6:=(cond u5 (aq p0.2.2.2.2.2.2.1 0) false)
 let u7:=(cond u6 (aq p0.2.2.2.2.2.2.2.1 0) false)
 some ((),(((cond u7 y8.2.1.1 false),()),()))
 ) (
 let u4:=(cq p0.2.2.2.1 [])
 let u5:=(cond u4 (aq p0.2.2.2.2.2.2.1 0) false)
 let u6:=(cond u5 (aq p0.2.2.2.2.2.2.2.1 0) false)
 let u7:=(cq p0.2.2.1 [])
 some ((),(((cond u6 u7 false),()),()))
 )
 )
 )
 )
 )
 )
 )
def Z6:Su:=⟨[.c true [ki,.str,.str,.str,.str,.str,ki,ki]],[(false,[.bool])],true,.inl fun x=>Ke x.1⟩
theorem Ts:ar Tryz.prog 217 Z6 :=
 fq (ac mW (ac OH (ac On (ac K8 (ac IS (ac UX an)))))) Tryz.f217
end
end Go.Av
