/- Part of a proof that the law FnExactWorldShow answers true for every input: the printed functions of this program and their plain laws. No conditions beyond the statement. -/
import Derived.Test.YtbgoaopannojjaaGreatDoorFw4
import Derived.Test.YtbgoaopannojjaaGreatDoorFw3
import Derived.WalkKit
import Derived.Lib.Walk
import Derived.Lib.SliceRun
import Derived.Shelf.Spec.SlicesInsert
import Derived.Test.YtbgoaopannojjaaGreatDoorProg
set_option maxRecDepth 100000
namespace Go.Av
open Go.Proofs
set_option maxHeartbeats 4000000
noncomputable section
def BU:List K:=[.str,.int .i64,.int .i64]
def lh:List K:=[.int .i64]
def tZ:List K:=[.int .u8]
def AI:List K:=[.str,.str,.sl 5 tZ]
def wi:List K:=[.str,.int .i64,.int .i64,.int .i64,.int .i64,.sl 253 BU,.int .i64,.int .i64,.sl 3 lh,.sl 3 lh,.sl 255 AI]
def FP:List K:=[.int .i64,.sl 164 wi]
def Gt:List K:=[.sl 5 tZ,.int .i64,.sl 3 lh,.int .i64,.int .i64,.int .i64,.int .i64,.int .i64,.sl 5 tZ]
def wM:List K:=[.str,.int .i64,.int .i64]
def vY:List K:=[.str,.str,.sl 5 tZ]
def CN:List K:=[.str,.int .i64,.int .i64,.int .i64,.int .i64,.sl 95 wM,.int .i64,.int .i64,.sl 3 lh,.sl 3 lh,.sl 166 vY]
def NW:List K:=[.int .i64,.sl 59 CN]
def MV:List K:=[.sl 5 tZ,.int .i64,.sl 3 lh,.int .i64,.int .i64,.int .i64,.int .i64,.int .i64,.sl 5 tZ]
def U8:List K:=[.str]
def EX:List K:=[.int .i64,.str]
def Ep:List K:=[.str,.str,.str,.sl 3 lh]
def Lw:List K:=[.sl 3 lh]
def HX:List K:=[.int .i64,.int .i64,.int .i64]
abbrev mj:=((List UInt8)×Int×Int×Unit)
def d253:mj:=([],0,0,())
abbrev R3:=(Int×Unit)
def d3:R3:=(0,())
abbrev R5:=(Int×Unit)
def d5:R5:=(0,())
abbrev ln:=((List UInt8)×(List UInt8)×(List R5)×Unit)
def d255:ln:=([],[],[],())
abbrev iF:=((List UInt8)×Int×Int×Int×Int×(List mj)×Int×Int×(List R3)×(List R3)×(List ln)×Unit)
def d164:iF:=([],0,0,0,0,[],0,0,[],[],[],())
abbrev tW:=(Int×(List iF)×Unit)
def d81:tW:=(0,[],())
abbrev rG:=((List R5)×Int×(List R3)×Int×Int×Int×Int×Int×(List R5)×Unit)
def d83:rG:=([],0,[],0,0,0,0,0,[],())
abbrev fA:=((List UInt8)×Int×Int×Unit)
def d95:fA:=([],0,0,())
abbrev cV:=((List UInt8)×(List UInt8)×(List R5)×Unit)
def d166:cV:=([],[],[],())
abbrev dC:=((List UInt8)×Int×Int×Int×Int×(List fA)×Int×Int×(List R3)×(List R3)×(List cV)×Unit)
def d59:dC:=([],0,0,0,0,[],0,0,[],[],[],())
abbrev fV:=(Int×(List dC)×Unit)
def d89:fV:=(0,[],())
abbrev jl:=((List R5)×Int×(List R3)×Int×Int×Int×Int×Int×(List R5)×Unit)
def d62:jl:=([],0,[],0,0,0,0,0,[],())
abbrev R9:=((List UInt8)×Unit)
def d9:R9:=([],())
abbrev ik:=(Int×(List UInt8)×Unit)
def d175:ik:=(0,[],())
abbrev Hh:=((List UInt8)×(List UInt8)×(List UInt8)×(List R3)×Unit)
def d198:Hh:=([],[],[],[],())
abbrev Gx:=((List R3)×Unit)
def d54:Gx:=([],())
abbrev CU:=(Int×Int×Int×Unit)
def d226:CU:=(0,0,0,())
def tt:List (Nat×TI):=[(2,⟨false,[.int .i64],0,8,[]⟩),
 (3,⟨false,[.int .i64],0,8,[]⟩),
 (4,⟨false,[.bool],0,1,[]⟩),
 (5,⟨false,[.int .u8],0,1,[]⟩),
 (6,⟨false,[.int .u8],0,1,[]⟩),
 (7,⟨true,[.int .i64,.int .i64,.bool,.int .u8],0,24,[(0,2),(1,3),(2,4),(3,6)]⟩),
 (8,⟨true,[.int .i64,.int .i64,.bool,.int .u8],0,24,[(0,2),(1,3),(2,4),(3,6)]⟩),
 (9,⟨false,[.str],0,16,[]⟩),
 (10,⟨false,[.str],0,16,[]⟩),
 (11,⟨false,[.str],0,16,[]⟩),
 (12,⟨false,[.int .u64],0,8,[]⟩),
 (13,⟨true,[.str,.int .u64],0,24,[(0,9),(1,12)]⟩),
 (14,⟨true,[.str,.int .u64],0,24,[(0,9),(1,12)]⟩),
 (21,⟨false,[.int .i32],0,4,[]⟩),
 (22,⟨false,[.sl 81 FP],81,24,[]⟩),
 (23,⟨false,[.sl 83 Gt],83,24,[]⟩),
 (24,⟨true,[.sl 81 FP,.int .i64,.int .i64,.sl 83 Gt],0,64,[(0,22),(1,3),(2,3),(3,23)]⟩),
 (25,⟨true,[.sl 81 FP,.int .i64,.int .i64,.sl 83 Gt],0,64,[(0,22),(1,3),(2,3),(3,23)]⟩),
 (28,⟨false,[.sl 89 NW],89,24,[]⟩),
 (29,⟨false,[.sl 62 MV],62,24,[]⟩),
 (30,⟨true,[.sl 89 NW,.int .i64,.int .i64,.sl 62 MV],0,64,[(0,28),(1,3),(2,3),(3,29)]⟩),
 (31,⟨true,[.sl 89 NW,.int .i64,.int .i64,.sl 62 MV],0,64,[(0,28),(1,3),(2,3),(3,29)]⟩),
 (39,⟨false,[.sl 5 tZ],5,24,[]⟩),
 (49,⟨false,[.sl 59 CN],59,24,[]⟩),
 (50,⟨true,[.sl 59 CN],0,24,[(0,49)]⟩),
 (51,⟨true,[.sl 59 CN],0,24,[(0,49)]⟩),
 (53,⟨false,[.sl 95 wM],95,24,[]⟩),
 (54,⟨false,[.sl 3 lh],3,24,[]⟩),
 (55,⟨true,[.int .i64,.int .i64,.sl 3 lh,.sl 3 lh],0,64,[(0,3),(1,3),(2,54),(3,54)]⟩),
 (56,⟨true,[.int .i64,.int .i64,.sl 3 lh,.sl 3 lh],0,64,[(0,3),(1,3),(2,54),(3,54)]⟩),
 (57,⟨false,[.sl 166 vY],166,24,[]⟩),
 (58,⟨true,[.str,.int .i64,.int .i64,.int .i64,.int .i64,.sl 95 wM,.int .i64,.int .i64,.sl 3 lh,.sl 3 lh,.sl 166 vY],0,160,[(0,9),(1,3),(2,3),(3,3),(4,3),(5,53),(6,56),(10,57)]⟩),
 (59,⟨true,[.str,.int .i64,.int .i64,.int .i64,.int .i64,.sl 95 wM,.int .i64,.int .i64,.sl 3 lh,.sl 3 lh,.sl 166 vY],0,160,[(0,9),(1,3),(2,3),(3,3),(4,3),(5,53),(6,56),(10,57)]⟩),
 (61,⟨true,[.sl 5 tZ,.int .i64,.sl 3 lh,.int .i64,.int .i64,.int .i64,.int .i64,.int .i64,.sl 5 tZ],0,120,[(0,39),(1,3),(2,54),(3,3),(4,3),(5,3),(6,3),(7,3),(8,39)]⟩),
 (62,⟨true,[.sl 5 tZ,.int .i64,.sl 3 lh,.int .i64,.int .i64,.int .i64,.int .i64,.int .i64,.sl 5 tZ],0,120,[(0,39),(1,3),(2,54),(3,3),(4,3),(5,3),(6,3),(7,3),(8,39)]⟩),
 (79,⟨false,[.sl 164 wi],164,24,[]⟩),
 (80,⟨true,[.int .i64,.sl 164 wi],0,32,[(0,3),(1,79)]⟩),
 (81,⟨true,[.int .i64,.sl 164 wi],0,32,[(0,3),(1,79)]⟩),
 (83,⟨true,[.sl 5 tZ,.int .i64,.sl 3 lh,.int .i64,.int .i64,.int .i64,.int .i64,.int .i64,.sl 5 tZ],0,120,[(0,39),(1,3),(2,54),(3,3),(4,3),(5,3),(6,3),(7,3),(8,39)]⟩),
 (88,⟨true,[.int .i64,.sl 59 CN],0,32,[(0,3),(1,49)]⟩),
 (89,⟨true,[.int .i64,.sl 59 CN],0,32,[(0,3),(1,49)]⟩),
 (94,⟨true,[.str,.int .i64,.int .i64],0,32,[(0,9),(1,3),(2,3)]⟩),
 (95,⟨true,[.str,.int .i64,.int .i64],0,32,[(0,9),(1,3),(2,3)]⟩),
 (112,⟨false,[.sl 9 U8],9,24,[]⟩),
 (129,⟨false,[.sl 175 EX],175,24,[]⟩),
 (130,⟨true,[.str,.sl 175 EX],0,40,[(0,9),(1,129)]⟩),
 (131,⟨true,[.str,.sl 175 EX],0,40,[(0,9),(1,129)]⟩),
 (150,⟨true,[.int .i64,.str,.str,.str,.str,.str,.int .i64,.int .i64],0,104,[(0,3),(1,9),(2,9),(3,9),(4,9),(5,9),(6,3),(7,3)]⟩),
 (151,⟨true,[.int .i64,.str,.str,.str,.str,.str,.int .i64,.int .i64],0,104,[(0,3),(1,9),(2,9),(3,9),(4,9),(5,9),(6,3),(7,3)]⟩),
 (160,⟨false,[.sl 253 BU],253,24,[]⟩),
 (161,⟨true,[.int .i64,.int .i64,.sl 3 lh,.sl 3 lh],0,64,[(0,3),(1,3),(2,54),(3,54)]⟩),
 (162,⟨false,[.sl 255 AI],255,24,[]⟩),
 (163,⟨true,[.str,.int .i64,.int .i64,.int .i64,.int .i64,.sl 253 BU,.int .i64,.int .i64,.sl 3 lh,.sl 3 lh,.sl 255 AI],0,160,[(0,9),(1,3),(2,3),(3,3),(4,3),(5,160),(6,161),(10,162)]⟩),
 (164,⟨true,[.str,.int .i64,.int .i64,.int .i64,.int .i64,.sl 253 BU,.int .i64,.int .i64,.sl 3 lh,.sl 3 lh,.sl 255 AI],0,160,[(0,9),(1,3),(2,3),(3,3),(4,3),(5,160),(6,161),(10,162)]⟩),
 (165,⟨true,[.str,.str,.sl 5 tZ],0,56,[(0,9),(1,9),(2,39)]⟩),
 (166,⟨true,[.str,.str,.sl 5 tZ],0,56,[(0,9),(1,9),(2,39)]⟩),
 (174,⟨true,[.int .i64,.str],0,24,[(0,3),(1,9)]⟩),
 (175,⟨true,[.int .i64,.str],0,24,[(0,3),(1,9)]⟩),
 (191,⟨false,[.int .u32],0,4,[]⟩),
 (194,⟨false,[.int .u64],0,8,[]⟩),
 (196,⟨false,[.sl 198 Ep],198,24,[]⟩),
 (197,⟨true,[.str,.str,.str,.sl 3 lh],0,72,[(0,9),(1,9),(2,9),(3,54)]⟩),
 (198,⟨true,[.str,.str,.str,.sl 3 lh],0,72,[(0,9),(1,9),(2,9),(3,54)]⟩),
 (212,⟨false,[.int .u64],0,8,[]⟩),
 (219,⟨false,[.sl 54 Lw],54,24,[]⟩),
 (225,⟨true,[.int .i64,.int .i64,.int .i64],0,24,[(0,3),(1,3),(2,3)]⟩),
 (226,⟨true,[.int .i64,.int .i64,.int .i64],0,24,[(0,3),(1,3),(2,3)]⟩),
 (233,⟨false,[.int .i64],0,8,[]⟩),
 (253,⟨true,[.str,.int .i64,.int .i64],0,32,[(0,9),(1,3),(2,3)]⟩),
 (255,⟨true,[.str,.str,.sl 5 tZ],0,56,[(0,9),(1,9),(2,39)]⟩),
 (261,⟨false,[.sl 226 HX],226,24,[]⟩),
 (265,⟨false,[.int .u64],0,8,[]⟩),
 (284,⟨false,[.int .i64],0,8,[]⟩),
 (306,⟨true,[.str],0,16,[(0,9)]⟩),
 (307,⟨true,[.str],0,16,[(0,9)]⟩),
 (311,⟨true,[.int .u8,.int .u8],0,2,[(0,5),(1,5)]⟩),
 (312,⟨true,[.int .u8,.int .u8],0,2,[(0,5),(1,5)]⟩),
 (321,⟨false,[.int .u8],0,1,[]⟩),
 (322,⟨false,[.int .u8],0,1,[]⟩),
 (324,⟨false,[.int .i32],0,4,[]⟩),
 (325,⟨false,[.int .i32],0,4,[]⟩)]
def E0:En:=yQ 0 tt [] [] (fun _=>none) [] fun _=>none
theorem hT:bG Tryz.prog E0:=M5 (by kernel_rfl)
theorem ed:Tryz.prog.follows .mixedOrders=true:=by kernel_rfl
theorem fl {f:Nat} {s:Su} {l:List (Nat×SS)} (hl:ri Tryz.prog l) (ρ:List SE) (los:List (Nat×Lo ρ)) (pins:List Nat) (fn:Func)
 (hlo:Vz Tryz.prog (HC fn.ntmps tt l ρ los pins) (ah fn) (ah fn))
 (h : (Tryz.prog.funcs[f]?, (fn.name == "runtime.NumGoroutine"), fn.body.isSome) = (some fn, false, true) := by kernel_rfl)
 (ht:∀ x,(Fl (HC fn.ntmps tt l ρ los pins) (ah fn) fn.results.toList s.ps s.rs s.fresh x).run=s.tQ x:=by intro x; kernel_rfl):ar Tryz.prog f s:=by
 simp only [acI] at h
 exact flq hT ed hl (fn:=fn) (by rw [h.1,h.2.1,h.2.2]) hlo ht
theorem fq {f:Nat} {s:Su} {l:List (Nat×SS)} (hl:ri Tryz.prog l) (fn:Func)
 (h : (Tryz.prog.funcs[f]?, (fn.name == "runtime.NumGoroutine"), fn.body.isSome, du (fun _ => false) (ah fn)) = (some fn, false, true, []) := by kernel_rfl)
 (ht:∀ x,(Fl (HC fn.ntmps tt l [] [] []) (ah fn) fn.results.toList s.ps s.rs s.fresh x).run=s.tQ x:=by intro x; kernel_rfl):ar Tryz.prog f s:=by
 simp only [acI] at h
 exact flq hT ed hl (fn:=fn) (by rw [h.1,h.2.1,h.2.2.1]) (lp (n:=fn.ntmps) (tt:=tt) (l:=l) (ρ:=[]) (los:=[]) (pins:=[]) [] sn h.2.2.2) ht
def np:List UInt8:=[0,1,2,2,3,3,3,3,4,4,4,4,4,4,4,4,5,5,5,5,5,5,5,5,5,5,5,5,5,5,5,5,6,6,6,6,6,6,6,6,6,6,6,6,6,6,6,6,6,6,6,6,6,6,6,6,6,6,6,6,6,6,6,6,7,7,7,7,7,7,7,7,7,7,7,7,7,7,7,7,7,7,7,7,7,7,7,7,7,7,7,7,7,7,7,7,7,7,7,7,7,7,7,7,7,7,7,7,7,7,7,7,7,7,7,7,7,7,7,7,7,7,7,7,7,7,7,7,8,8,8,8,8,8,8,8,8,8,8,8,8,8,8,8,8,8,8,8,8,8,8,8,8,8,8,8,8,8,8,8,8,8,8,8,8,8,8,8,8,8,8,8,8,8,8,8,8,8,8,8,8,8,8,8,8,8,8,8,8,8,8,8,8,8,8,8,8,8,8,8,8,8,8,8,8,8,8,8,8,8,8,8,8,8,8,8,8,8,8,8,8,8,8,8,8,8,8,8,8,8,8,8,8,8,8,8,8,8,8,8,8,8,8,8,8,8,8,8,8,8,8,8,8,8,8,8]
abbrev Y0:=Nat×SS
abbrev Y1:=Int×Unit
abbrev Y2:=Bool×Unit
abbrev Y5:=(List dC)×Unit
abbrev Y8:=(List UInt8)×Unit
abbrev WA:=Int×(List dC)×Unit
abbrev Wd:=(List UInt8)×Int×Unit
abbrev gX:=Unit×(Y1×Unit)
abbrev dS:=Unit×(Y2×Unit)
abbrev Y19:=(List R3)×Int×Bool×Unit
abbrev Te:=(List UInt8)×Int×Int×Unit
abbrev CC:=(List UInt8)×(List ik)×Unit
abbrev M9:=Unit×(((List R9)×Unit)×Unit)
abbrev OL:=Unit×(Gx×Unit)
abbrev Y24:=(((List R9)×Unit)×Unit)×Unit
abbrev Y23:=(Gx×Unit)×Unit
abbrev XV:=Unit×(((List fA)×Unit)×Unit)
abbrev Tc:=Unit×(Y5×Unit)
abbrev OT:=(Y5×Unit)×Unit
abbrev Y31:=Unit×(((List cV)×Unit)×Unit)
abbrev xJ:=Unit×(Y8×Unit)
abbrev LF:=(List fV)×Int×Int×(List jl)×Unit
abbrev Y34:=(List dC)×Int×Unit×Int×Int×Unit
abbrev OX:=Unit×(Y1×Y2×Unit)
abbrev XR:=(List cV)×(List cV)×Int×Int×Unit
abbrev XK:=Int×CC×Unit
abbrev ZK:=Unit×((Int×Int×(List R3)×(List R3)×Unit)×Unit)
abbrev X6:=Unit×(Gx×Y1×Y2×Unit)
abbrev Ty:=Unit×(Y8×Y1×Y2×Unit)
abbrev SH:=Int×(List UInt8)×(List UInt8)×(List UInt8)×(List UInt8)×(List UInt8)×Int×Int×Unit
abbrev Y63:=Unit×(dC×Unit)
abbrev ki:K:= .int .i64
abbrev Hm:K:= .sl 253 BU
abbrev q3:K:= .sl 3 lh
abbrev q5:K:= .sl 5 tZ
abbrev Gf:K:= .sl 255 AI
abbrev G2:K:= .sl 164 wi
abbrev QU:K:= .sl 81 FP
abbrev QC:K:= .sl 83 Gt
abbrev iE:K:= .sl 95 wM
abbrev dI:K:= .sl 166 vY
abbrev gk:K:= .sl 59 CN
abbrev j9:K:= .sl 89 NW
abbrev nr:K:= .sl 62 MV
abbrev ig:K:= .sl 175 EX
abbrev q9:K:= .sl 9 U8
abbrev c0:Option dS:=some ((),((false,()),()))
abbrev c1:Option (Unit×(SH×Y1×Unit)):=some ((),((0,[],[],[],[],[],0,0,()),(1,()),()))
abbrev c2:Option dS:=some ((),((true,()),()))
abbrev c3:Option gX:=some ((),(((-1),()),()))
abbrev c4:Option Ty:=some ((),(([],()),(0,()),(false,()),()))
abbrev c5:Option xJ:=some ((),(([],()),()))
abbrev c6:Option gX:=some ((),((0,()),()))
abbrev c7:Option gX:=some ((),((2,()),()))
abbrev c8:Option gX:=some ((),((1,()),()))
abbrev c9:Option OX:=some ((),((0,()),(false,()),()))
abbrev XM:Option X6:=some ((),(([],()),(0,()),(false,()),()))
abbrev XE:Option gX:=some ((),((3,()),()))
abbrev c12:Option gX:=some ((),((4,()),()))
abbrev ZP:Option gX:=some ((),((6,()),()))
abbrev Y9:Option gX:=some ((),((12,()),()))
abbrev Zh:Option (Unit×(Y1×Y1×Y2×Unit)):=some ((),((0,()),(0,()),(false,()),()))
abbrev ZB:Option (Unit×(CC×Y1×Unit)):=some ((),(([],[],()),(2,()),()))
abbrev Yj:Option (Unit×(CC×Y1×Unit)):=some ((),(([],[],()),(4,()),()))
abbrev c18:Option M9:=some ((),(([],()),()))
abbrev c19:Option gX:=some ((),((4611686018427387904,()),()))
abbrev c20:Option (Unit×(SH×Y1×Unit)):=some ((),((0,[],[],[],[],[],0,0,()),(2,()),()))
abbrev c21:Option M9:=some ((),(([([48,48],()),([51,48],()),([49,50],()),([49,52],()),([49,51],()),([50,53],()),([57,52],()),([53,49],()),([54,53],()),([54,49],()),([57,54],())],()),()))
section
open Go.Shelf Go.RowKit Go.Lib
def sρ:Ren:=⟨fun | 129=>270 | 171=>79 | 172=>271 | 205=>329 | 243=>135 | 244=>304 | 245=>305 | 246=>184 | 247=>318 | 279=>319 | 280=>320 | 281=>321 | 282=>322 | 283=>234 | 284=>235 | 285=>236 | 286=>237 | 287=>327 | 316=>328 | 317=>287 | 318=>288 | 319=>289 | 320=>290 | 321=>333 | 322=>334 | 337=>314 | 338=>315 | n=>n,fun | 0=>0 | 2=>2 | 3=>3 | 4=>4 | 5=>5 | 9=>9 | 20=>20 | 21=>21 | 37=>39 | 46=>194 | 51=>191 | 53=>212 | 75=>242 | 76=>243 | 80=>314 | 85=>285 | 127=>304 | 143=>305 | 145=>307 | 167=>284 | 168=>287 | 171=>211 | 173=>215 | 175=>297 | 210=>300 | 212=>259 | 213=>260 | 232=>295 | 233=>296 | n=>n,fun | 15=>3 | 16=>4 | 17=>0 | 18=>1 | 19=>2 | n=>n⟩
theorem xA:LaysC.n172 Tryz.prog sρ:={ mixed:=by kernel_rfl,f129:=by kernel_rfl,f171:=by kernel_rfl,f172:=by kernel_rfl,f205:=by kernel_rfl,f243:=by kernel_rfl,f244:=by kernel_rfl,f245:=by kernel_rfl,f246:=by kernel_rfl,f247:=by kernel_rfl,f279:=by kernel_rfl,f280:=by kernel_rfl,f281:=by kernel_rfl,f282:=by kernel_rfl,f283:=by kernel_rfl,f284:=by kernel_rfl,f285:=by kernel_rfl,f286:=by kernel_rfl,f287:=by kernel_rfl,f316:=by kernel_rfl,f317:=by kernel_rfl,f318:=by kernel_rfl,f319:=by kernel_rfl,f320:=by kernel_rfl,f321:=by kernel_rfl,f322:=by kernel_rfl,f337:=by kernel_rfl,f338:=by kernel_rfl,t0:=by kernel_rfl,a0:=fun _=>by kernel_rfl,z0:=fun _=>by kernel_rfl,v0:=fun _=>by kernel_rfl,t2:=by kernel_rfl,a2:=fun _=>by kernel_rfl,z2:=fun _=>by kernel_rfl,v2:=fun _=>by kernel_rfl,t3:=by kernel_rfl,a3:=fun _=>by kernel_rfl,z3:=fun _=>by kernel_rfl,v3:=fun _=>by kernel_rfl,t4:=by kernel_rfl,a4:=fun _=>by kernel_rfl,z4:=fun _=>by kernel_rfl,v4:=fun _=>by kernel_rfl,t5:=by kernel_rfl,a5:=fun _=>by kernel_rfl,z5:=fun _=>by kernel_rfl,v5:=fun _=>by kernel_rfl,t9:=by kernel_rfl,a9:=fun _=>by kernel_rfl,z9:=fun _=>by kernel_rfl,v9:=fun _=>by kernel_rfl,t20:=by kernel_rfl,a20:=fun _=>by kernel_rfl,z20:=fun _=>by kernel_rfl,v20:=fun _=>by kernel_rfl,t21:=by kernel_rfl,a21:=fun _=>by kernel_rfl,z21:=fun _=>by kernel_rfl,v21:=fun _=>by kernel_rfl,t37:=by kernel_rfl,a37:=fun _=>by kernel_rfl,z37:=fun _=>by kernel_rfl,v37:=fun _=>by kernel_rfl,t46:=by kernel_rfl,a46:=fun _=>by kernel_rfl,z46:=fun _=>by kernel_rfl,v46:=fun _=>by kernel_rfl,t51:=by kernel_rfl,a51:=fun _=>by kernel_rfl,z51:=fun _=>by kernel_rfl,v51:=fun _=>by kernel_rfl,t53:=by kernel_rfl,a53:=fun _=>by kernel_rfl,z53:=fun _=>by kernel_rfl,v53:=fun _=>by kernel_rfl,t75:=by kernel_rfl,a75:=fun _=>by kernel_rfl,z75:=fun _=>by kernel_rfl,v75:=fun _=>by kernel_rfl,t76:=by kernel_rfl,a76:=fun _=>by kernel_rfl,z76:=fun _=>by kernel_rfl,v76:=fun _=>by kernel_rfl,t85:=by kernel_rfl,a85:=fun _=>by kernel_rfl,z85:=fun _=>by kernel_rfl,v85:=fun _=>by kernel_rfl,t127:=by kernel_rfl,a127:=fun _=>by kernel_rfl,z127:=fun _=>by kernel_rfl,v127:=fun _=>by kernel_rfl,t143:=by kernel_rfl,a143:=fun _=>by kernel_rfl,z143:=fun _=>by kernel_rfl,v143:=fun _=>by kernel_rfl,t145:=by kernel_rfl,a145:=fun _=>by kernel_rfl,z145:=fun _=>by kernel_rfl,v145:=fun _=>by kernel_rfl,t167:=by kernel_rfl,a167:=fun _=>by kernel_rfl,z167:=fun _=>by kernel_rfl,v167:=fun _=>by kernel_rfl,t168:=by kernel_rfl,a168:=fun _=>by kernel_rfl,z168:=fun _=>by kernel_rfl,v168:=fun _=>by kernel_rfl,t171:=by kernel_rfl,a171:=fun _=>by kernel_rfl,z171:=fun _=>by kernel_rfl,v171:=fun _=>by kernel_rfl,t173:=by kernel_rfl,a173:=fun _=>by kernel_rfl,z173:=fun _=>by kernel_rfl,v173:=fun _=>by kernel_rfl,t175:=by kernel_rfl,a175:=fun _=>by kernel_rfl,z175:=fun _=>by kernel_rfl,v175:=fun _=>by kernel_rfl,t210:=by kernel_rfl,a210:=fun _=>by kernel_rfl,z210:=fun _=>by kernel_rfl,v210:=fun _=>by kernel_rfl,t212:=by kernel_rfl,a212:=fun _=>by kernel_rfl,z212:=fun _=>by kernel_rfl,v212:=fun _=>by kernel_rfl,t213:=by kernel_rfl,a213:=fun _=>by kernel_rfl,z213:=fun _=>by kernel_rfl,t232:=by kernel_rfl,a232:=fun _=>by kernel_rfl,z232:=fun _=>by kernel_rfl,v232:=fun _=>by kernel_rfl,t233:=by kernel_rfl,a233:=fun _=>by kernel_rfl,z233:=fun _=>by kernel_rfl,v233:=fun _=>by kernel_rfl,g15:=by kernel_rfl,g16:=by kernel_rfl,g17:=by kernel_rfl,g18:=by kernel_rfl,g19:=by kernel_rfl,t80:=by kernel_rfl,a80:=fun _=>by kernel_rfl,z80:=fun _=>by kernel_rfl,v80:=fun _=>by kernel_rfl,i0:=by kernel_rfl,i2:=by kernel_rfl,i3:=by kernel_rfl,i4:=by kernel_rfl,i5:=by kernel_rfl,i9:=by kernel_rfl,i20:=by kernel_rfl,i21:=by kernel_rfl,i37:=by kernel_rfl,i46:=by kernel_rfl,i51:=by kernel_rfl,i53:=by kernel_rfl,i75:=by kernel_rfl,i76:=by kernel_rfl,i80:=by kernel_rfl,i85:=by kernel_rfl,i127:=by kernel_rfl,i143:=by kernel_rfl,i145:=by kernel_rfl,i167:=by kernel_rfl,i168:=by kernel_rfl,i171:=by kernel_rfl,i173:=by kernel_rfl,i175:=by kernel_rfl,i210:=by kernel_rfl,i212:=by kernel_rfl,i232:=by kernel_rfl,i233:=by kernel_rfl,m15:=by kernel_rfl,m16:=by kernel_rfl,m17:=by kernel_rfl,m18:=by kernel_rfl,m19:=by kernel_rfl,c0:=by kernel_rfl,c2:=by kernel_rfl,c3:=by kernel_rfl,c4:=by kernel_rfl,c5:=by kernel_rfl,c9:=by kernel_rfl,c20:=by kernel_rfl,c21:=by kernel_rfl,c37:=by kernel_rfl,c46:=by kernel_rfl,c51:=by kernel_rfl,c53:=by kernel_rfl,c75:=by kernel_rfl,c76:=by kernel_rfl,c80:=by kernel_rfl,c85:=by kernel_rfl,c127:=by kernel_rfl,c143:=by kernel_rfl,c145:=by kernel_rfl,c167:=by kernel_rfl,c168:=by kernel_rfl,c171:=by kernel_rfl,c173:=by kernel_rfl,c175:=by kernel_rfl,c210:=by kernel_rfl,c212:=by kernel_rfl,c213:=by kernel_rfl,c232:=by kernel_rfl,c233:=by kernel_rfl }
theorem vL:LaysM.n171 Tryz.prog sρ:={ mixed:=by kernel_rfl,f129:=by kernel_rfl,f171:=by kernel_rfl,f243:=by kernel_rfl,f246:=by kernel_rfl,f283:=by kernel_rfl,f284:=by kernel_rfl,f285:=by kernel_rfl,f286:=by kernel_rfl,f317:=by kernel_rfl,f318:=by kernel_rfl,f319:=by kernel_rfl,f320:=by kernel_rfl,f337:=by kernel_rfl,f338:=by kernel_rfl,t0:=by kernel_rfl,a0:=fun _=>by kernel_rfl,z0:=fun _=>by kernel_rfl,v0:=fun _=>by kernel_rfl,t2:=by kernel_rfl,a2:=fun _=>by kernel_rfl,z2:=fun _=>by kernel_rfl,v2:=fun _=>by kernel_rfl,t3:=by kernel_rfl,a3:=fun _=>by kernel_rfl,z3:=fun _=>by kernel_rfl,v3:=fun _=>by kernel_rfl,t4:=by kernel_rfl,a4:=fun _=>by kernel_rfl,z4:=fun _=>by kernel_rfl,v4:=fun _=>by kernel_rfl,t5:=by kernel_rfl,a5:=fun _=>by kernel_rfl,z5:=fun _=>by kernel_rfl,v5:=fun _=>by kernel_rfl,t9:=by kernel_rfl,a9:=fun _=>by kernel_rfl,z9:=fun _=>by kernel_rfl,v9:=fun _=>by kernel_rfl,t20:=by kernel_rfl,a20:=fun _=>by kernel_rfl,z20:=fun _=>by kernel_rfl,v20:=fun _=>by kernel_rfl,t37:=by kernel_rfl,a37:=fun _=>by kernel_rfl,z37:=fun _=>by kernel_rfl,v37:=fun _=>by kernel_rfl,t46:=by kernel_rfl,a46:=fun _=>by kernel_rfl,z46:=fun _=>by kernel_rfl,v46:=fun _=>by kernel_rfl,t51:=by kernel_rfl,a51:=fun _=>by kernel_rfl,z51:=fun _=>by kernel_rfl,v51:=fun _=>by kernel_rfl,t53:=by kernel_rfl,a53:=fun _=>by kernel_rfl,z53:=fun _=>by kernel_rfl,v53:=fun _=>by kernel_rfl,t171:=by kernel_rfl,a171:=fun _=>by kernel_rfl,z171:=fun _=>by kernel_rfl,v171:=fun _=>by kernel_rfl,t173:=by kernel_rfl,a173:=fun _=>by kernel_rfl,z173:=fun _=>by kernel_rfl,v173:=fun _=>by kernel_rfl,t212:=by kernel_rfl,a212:=fun _=>by kernel_rfl,z212:=fun _=>by kernel_rfl,v212:=fun _=>by kernel_rfl,t213:=by kernel_rfl,a213:=fun _=>by kernel_rfl,z213:=fun _=>by kernel_rfl,t232:=by kernel_rfl,a232:=fun _=>by kernel_rfl,z232:=fun _=>by kernel_rfl,v232:=fun _=>by kernel_rfl,t233:=by kernel_rfl,a233:=fun _=>by kernel_rfl,z233:=fun _=>by kernel_rfl,v233:=fun _=>by kernel_rfl,g17:=by kernel_rfl,g18:=by kernel_rfl,g19:=by kernel_rfl,i0:=by kernel_rfl,i2:=by kernel_rfl,i3:=by kernel_rfl,i4:=by kernel_rfl,i5:=by kernel_rfl,i9:=by kernel_rfl,i20:=by kernel_rfl,i37:=by kernel_rfl,i46:=by kernel_rfl,i51:=by kernel_rfl,i53:=by kernel_rfl,i171:=by kernel_rfl,i173:=by kernel_rfl,i212:=by kernel_rfl,i232:=by kernel_rfl,i233:=by kernel_rfl,m17:=by kernel_rfl,m18:=by kernel_rfl,m19:=by kernel_rfl }
end
def ND (p0:(List UInt8)×Int×Int×Unit) (p1:Int):Option gX :=
 let u1:=(aI .i64 p1 (ae p0.1))
 cond (au u1 0) (
 c3
 ) (
 some ((),((u1,()),()))
 )
def abB:Su:=⟨[.c true [.str,ki,ki],.c false [ki]],[(false,[ki])],true,.inl fun x=>ND x.1 x.2.1.1⟩
theorem Ub:ar Tryz.prog 283 abB :=
 fq an Tryz.f283
def pM (t0:List mj) (t1 t5:Int):Rd ((List mj)×Int×Int×Unit) Y1 :=
 cond (au t5 (ae t0)) (
 cond (aZ t5 t0) (
 (ND (gt d253 t0 t5) t1).bind fun y1 =>
 cond (au y1.2.1.1 0) (
 some (.inr (.inr ((-1),())))
 ) (
 some (.inl (t0,y1.2.1.1,(aq .i64 t5 1),()))
 )
 ) none
 ) (
 some (.inr (.inl (t0,t1,t5,())))
 )
def K1:=rb (ai (ff pM))
def N3 (p0:List mj) (p1:Int):Option gX :=
 let u1:=(aI .i64 p1 (ae p0))
 cond (au u1 0) (
 c3
 ) (
 (K1 p0 u1 0).bind (Sum.elim (fun y1 =>
 some ((),((y1.2.1,()),()))
 ) (fun y1 =>
 some ((),(y1,()))
 ))
 )
def ZE:Su:=⟨[.c false [Hm],.c false [ki]],[(false,[ki])],true,.inl fun x=>N3 x.1.1 x.2.1.1⟩
theorem T4:ar Tryz.prog 219 ZE :=
 fl (ac Ub an) [.d 4 ki] [(0,⟨[.d 0 Hm,.d 1 ki,.d 5 ki],ai (ff pM)⟩)] [] Tryz.f219 (lp [0] (sc cX sn))
def Gw (p0:List R3) (p1:Int):Option gX :=
 let u1:=(aI .i64 p1 (ae p0))
 cond (au u1 0) (
 c3
 ) (
 some ((),((u1,()),()))
 )
def aau:Su:=⟨[.c false [q3],.c false [ki]],[(false,[ki])],true,.inl fun x=>Gw x.1.1 x.2.1.1⟩
theorem PD:ar Tryz.prog 113 aau :=
 fq an Tryz.f113
def L5 (p0:Int×Int×(List R3)×(List R3)×Unit) (p1:Int):Option gX :=
 (Gw p0.2.2.1 p1).bind fun y1 =>
 cond (au y1.2.1.1 0) (
 c3
 ) (
 (Gw p0.2.2.2.1 y1.2.1.1).bind fun y2 =>
 cond (au y2.2.1.1 0) (
 c3
 ) (
 some ((),(y2.2.1,()))
 )
 )
def aaa:Su:=⟨[.c true [ki,ki,q3,q3],.c false [ki]],[(false,[ki])],true,.inl fun x=>L5 x.1 x.2.1.1⟩
theorem W7:ar Tryz.prog 220 aaa :=
 fq (ac PD an) Tryz.f220
def Gb (p0:List R5) (p1:Int):Option gX :=
 let u1:=(aI .i64 p1 (ae p0))
 cond (au u1 0) (
 c3
 ) (
 some ((),((u1,()),()))
 )
def aba:Su:=⟨[.c false [q5],.c false [ki]],[(false,[ki])],true,.inl fun x=>Gb x.1.1 x.2.1.1⟩
theorem Po:ar Tryz.prog 112 aba :=
 fq an Tryz.f112
def MR (p0:(List UInt8)×(List UInt8)×(List R5)×Unit) (p1:Int):Option gX :=
 let u1:=(aI .i64 p1 (ae p0.1))
 cond (au u1 0) (
 c3
 ) (
 let u2:=(aI .i64 u1 (ae p0.2.1))
 cond (au u2 0) (
 c3
 ) (
 (Gb p0.2.2.1 u2).bind fun y1 =>
 cond (au y1.2.1.1 0) (
 c3
 ) (
 some ((),(y1.2.1,()))
 )
 )
 )
def Zv:Su:=⟨[.c true [.str,.str,q5],.c false [ki]],[(false,[ki])],true,.inl fun x=>MR x.1 x.2.1.1⟩
theorem Ws:ar Tryz.prog 284 Zv :=
 fq (ac Po an) Tryz.f284
def o8 (t0:List ln) (t1 t5:Int):Rd ((List ln)×Int×Int×Unit) Y1 :=
 cond (au t5 (ae t0)) (
 cond (aZ t5 t0) (
 (MR (gt d255 t0 t5) t1).bind fun y1 =>
 cond (au y1.2.1.1 0) (
 some (.inr (.inr ((-1),())))
 ) (
 some (.inl (t0,y1.2.1.1,(aq .i64 t5 1),()))
 )
 ) none
 ) (
 some (.inr (.inl (t0,t1,t5,())))
 )
def Lv:=rb (ai (ff o8))
def Ow (p0:List ln) (p1:Int):Option gX :=
 let u1:=(aI .i64 p1 (ae p0))
 cond (au u1 0) (
 c3
 ) (
 (Lv p0 u1 0).bind (Sum.elim (fun y1 =>
 some ((),((y1.2.1,()),()))
 ) (fun y1 =>
 some ((),(y1,()))
 ))
 )
def abY:Su:=⟨[.c false [Gf],.c false [ki]],[(false,[ki])],true,.inl fun x=>Ow x.1.1 x.2.1.1⟩
theorem UC:ar Tryz.prog 221 abY :=
 fl (ac Ws an) [.d 4 ki] [(0,⟨[.d 0 Gf,.d 1 ki,.d 5 ki],ai (ff o8)⟩)] [] Tryz.f221 (lp [0] (sc cX sn))
def LR (p0:(List UInt8)×Int×Int×Int×Int×(List mj)×Int×Int×(List R3)×(List R3)×(List ln)×Unit) (p1:Int):Option gX :=
 let u1:=(aI .i64 p1 (ae p0.1))
 cond (au u1 0) (
 c3
 ) (
 (N3 p0.2.2.2.2.2.1 u1).bind fun y1 =>
 cond (au y1.2.1.1 0) (
 c3
 ) (
 (L5 (p0.2.2.2.2.2.2.1,p0.2.2.2.2.2.2.2.1,p0.2.2.2.2.2.2.2.2.1,p0.2.2.2.2.2.2.2.2.2.1,()) y1.2.1.1).bind fun y2 =>
 cond (au y2.2.1.1 0) (
 c3
 ) (
 (Ow p0.2.2.2.2.2.2.2.2.2.2.1 y2.2.1.1).bind fun y3 =>
 cond (au y3.2.1.1 0) (
 c3
 ) (
 some ((),(y3.2.1,()))
 )
 )
 )
 )
def ZV:Su:=⟨[.c true [.str,ki,ki,ki,ki,Hm,ki,ki,q3,q3,Gf],.c false [ki]],[(false,[ki])],true,.inl fun x=>LR x.1 x.2.1.1⟩
theorem VD:ar Tryz.prog 174 ZV :=
 fq (ac T4 (ac W7 (ac UC an))) Tryz.f174
def pE (t0:List iF) (t1 t5:Int):Rd ((List iF)×Int×Int×Unit) Y1 :=
 cond (au t5 (ae t0)) (
 cond (aZ t5 t0) (
 (LR (gt d164 t0 t5) t1).bind fun y1 =>
 cond (au y1.2.1.1 0) (
 some (.inr (.inr ((-1),())))
 ) (
 some (.inl (t0,y1.2.1.1,(aq .i64 t5 1),()))
 )
 ) none
 ) (
 some (.inr (.inl (t0,t1,t5,())))
 )
def I4:=rb (ai (ff pE))
def MJ (p0:List iF) (p1:Int):Option gX :=
 let u1:=(aI .i64 p1 (ae p0))
 cond (au u1 0) (
 c3
 ) (
 (I4 p0 u1 0).bind (Sum.elim (fun y1 =>
 some ((),((y1.2.1,()),()))
 ) (fun y1 =>
 some ((),(y1,()))
 ))
 )
def abr:Su:=⟨[.c false [G2],.c false [ki]],[(false,[ki])],true,.inl fun x=>MJ x.1.1 x.2.1.1⟩
theorem V0:ar Tryz.prog 111 abr :=
 fl (ac VD an) [.d 4 ki] [(0,⟨[.d 0 G2,.d 1 ki,.d 5 ki],ai (ff pE)⟩)] [] Tryz.f111 (lp [0] (sc cX sn))
def XW (p0:Int×(List iF)×Unit) (p1:Int):Option gX :=
 (MJ p0.2.1 p1).bind fun y1 =>
 cond (au y1.2.1.1 0) (
 c3
 ) (
 some ((),(y1.2.1,()))
 )
def s55:Su:=⟨[.c true [ki,G2],.c false [ki]],[(false,[ki])],true,.inl fun x=>XW x.1 x.2.1.1⟩
theorem ab4:ar Tryz.prog 55 s55 :=
 fq (ac V0 an) Tryz.f55
def wT (t0:List tW) (t1 t5:Int):Rd ((List tW)×Int×Int×Unit) Y1 :=
 cond (au t5 (ae t0)) (
 cond (aZ t5 t0) (
 (XW (gt d81 t0 t5) t1).bind fun y1 =>
 cond (au y1.2.1.1 0) (
 some (.inr (.inr ((-1),())))
 ) (
 some (.inl (t0,y1.2.1.1,(aq .i64 t5 1),()))
 )
 ) none
 ) (
 some (.inr (.inl (t0,t1,t5,())))
 )
def O5:=rb (ai (ff wT))
def g23 (p0:List tW) (p1:Int):Option gX :=
 let u1:=(aI .i64 p1 (ae p0))
 cond (au u1 0) (
 c3
 ) (
 (O5 p0 u1 0).bind (Sum.elim (fun y1 =>
 some ((),((y1.2.1,()),()))
 ) (fun y1 =>
 some ((),(y1,()))
 ))
 )
def s23:Su:=⟨[.c false [QU],.c false [ki]],[(false,[ki])],true,.inl fun x=>g23 x.1.1 x.2.1.1⟩
theorem Yz:ar Tryz.prog 23 s23 :=
 fl (ac ab4 an) [.d 4 ki] [(0,⟨[.d 0 QU,.d 1 ki,.d 5 ki],ai (ff wT)⟩)] [] Tryz.f23 (lp [0] (sc cX sn))
def XT (p0:(List R5)×Int×(List R3)×Int×Int×Int×Int×Int×(List R5)×Unit) (p1:Int):Option gX :=
 (Gb p0.1 p1).bind fun y1 =>
 cond (au y1.2.1.1 0) (
 c3
 ) (
 (Gw p0.2.2.1 y1.2.1.1).bind fun y2 =>
 cond (au y2.2.1.1 0) (
 c3
 ) (
 (Gb p0.2.2.2.2.2.2.2.2.1 y2.2.1.1).bind fun y3 =>
 cond (au y3.2.1.1 0) (
 c3
 ) (
 some ((),(y3.2.1,()))
 )
 )
 )
def s56:Su:=⟨[.c true [q5,ki,q3,ki,ki,ki,ki,ki,q5],.c false [ki]],[(false,[ki])],true,.inl fun x=>XT x.1 x.2.1.1⟩
theorem aaQ:ar Tryz.prog 56 s56 :=
 fq (ac PD (ac Po an)) Tryz.f56
def xC (t0:List rG) (t1 t5:Int):Rd ((List rG)×Int×Int×Unit) Y1 :=
 cond (au t5 (ae t0)) (
 cond (aZ t5 t0) (
 (XT (gt d83 t0 t5) t1).bind fun y1 =>
 cond (au y1.2.1.1 0) (
 some (.inr (.inr ((-1),())))
 ) (
 some (.inl (t0,y1.2.1.1,(aq .i64 t5 1),()))
 )
 ) none
 ) (
 some (.inr (.inl (t0,t1,t5,())))
 )
def Pm:=rb (ai (ff xC))
def g24 (p0:List rG) (p1:Int):Option gX :=
 let u1:=(aI .i64 p1 (ae p0))
 cond (au u1 0) (
 c3
 ) (
 (Pm p0 u1 0).bind (Sum.elim (fun y1 =>
 some ((),((y1.2.1,()),()))
 ) (fun y1 =>
 some ((),(y1,()))
 ))
 )
def s24:Su:=⟨[.c false [QC],.c false [ki]],[(false,[ki])],true,.inl fun x=>g24 x.1.1 x.2.1.1⟩
theorem aa3:ar Tryz.prog 24 s24 :=
 fl (ac aaQ an) [.d 4 ki] [(0,⟨[.d 0 QC,.d 1 ki,.d 5 ki],ai (ff xC)⟩)] [] Tryz.f24 (lp [0] (sc cX sn))
def g7 (p0:(List tW)×Int×Int×(List rG)×Unit) (p1:Int):Option gX :=
 (g23 p0.1 p1).bind fun y1 =>
 cond (au y1.2.1.1 0) (
 c3
 ) (
 (g24 p0.2.2.2.1 y1.2.1.1).bind fun y2 =>
 cond (au y2.2.1.1 0) (
 c3
 ) (
 some ((),(y2.2.1,()))
 )
 )
def s7:Su:=⟨[.c true [QU,ki,ki,QC],.c false [ki]],[(false,[ki])],true,.inl fun x=>g7 x.1 x.2.1.1⟩
theorem ok7:ar Tryz.prog 7 s7 :=
 fq (ac Yz (ac aa3 an)) Tryz.f7
def Mp (p0:(List UInt8)×Int×Int×Unit):Option (Unit×(Te×Unit)) :=
 some ((),(p0,()))
def YJ:Su:=⟨[.c true [.str,ki,ki]],[(true,[.str,ki,ki])],true,.inl fun x=>Mp x.1⟩
theorem Xg:ar Tryz.prog 285 YJ :=
 fq an Tryz.f285
def pn (t0:List mj) (t3:List fA) (t4:Int):Rd ((List mj)×(List fA)×Int×Unit) Unit :=
 cond (au t4 (ae t0)) (
 cond (aZ t4 t0) (
 (Mp (gt d253 t0 t4)).bind fun y1 =>
 cond (aZ t4 t3) (
 let u1:=(gt d95 t3 t4)
 let u2:=(xM t3 t4 (y1.2.1.1,u1.2.1,u1.2.2.1,()))
 let u3:=(gt d95 u2 t4)
 let u4:=(xM u2 t4 (u3.1,y1.2.1.2.1,u3.2.2.1,()))
 let u5:=(gt d95 u4 t4)
 some (.inl (t0,(xM u4 t4 (u5.1,u5.2.1,y1.2.1.2.2.1,())),(aq .i64 t4 1),()))
 ) none
 ) none
 ) (
 some (.inr (.inl (t0,t3,t4,())))
 )
def HQ:=rb (ai (ff pn))
def Oa (p0:List mj):Option XV :=
 let u1:=(ae p0)
 cond (MN 32 u1) (
 (HQ p0 (uM d95 u1) 0).bind (Sum.elim (fun y1 =>
 some ((),((y1.2.1,()),()))
 ) (fun _ =>
 none
 ))
 ) none
def abQ:Su:=⟨[.c false [Hm]],[(false,[iE])],true,.inl fun x=>Oa x.1.1⟩
theorem W5:ar Tryz.prog 231 abQ :=
 fl (ac Xg an) [] [(0,⟨[.d 0 Hm,.own 3 iE,.d 4 ki],ai (ff pn)⟩)] [] Tryz.f231 (lp [0] (sc cX sn))
def pJ (t0 t3:List R3) (t4:Int):Rd ((List R3)×(List R3)×Int×Unit) Unit :=
 cond (au t4 (ae t0)) (
 cond (aZ t4 t0) (
 cond (aZ t4 t3) (
 some (.inl (t0,(xM t3 t4 (gt d3 t0 t4)),(aq .i64 t4 1),()))
 ) none
 ) none
 ) (
 some (.inr (.inl (t0,t3,t4,())))
 )
def HP:=rb (ai (ff pJ))
def Gq (p0:List R3):Option OL :=
 let u1:=(ae p0)
 cond (MN 8 u1) (
 (HP p0 (uM d3 u1) 0).bind (Sum.elim (fun y1 =>
 some ((),((y1.2.1,()),()))
 ) (fun _ =>
 none
 ))
 ) none
def Yp:Su:=⟨[.c false [q3]],[(false,[q3])],true,.inl fun x=>Gq x.1.1⟩
theorem Pg:ar Tryz.prog 132 Yp :=
 fl an [] [(0,⟨[.d 0 q3,.own 3 q3,.d 4 ki],ai (ff pJ)⟩)] [] Tryz.f132 (lp [0] (sc cX sn))
def LS (p0:Int×Int×(List R3)×(List R3)×Unit):Option ZK :=
 (Gq p0.2.2.1).bind fun y1 =>
 (Gq p0.2.2.2.1).bind fun y2 =>
 some ((),((p0.1,p0.2.1,y1.2.1.1,y2.2.1.1,()),()))
def Z9:Su:=⟨[.c true [ki,ki,q3,q3]],[(true,[ki,ki,q3,q3])],true,.inl fun x=>LS x.1⟩
theorem VK:ar Tryz.prog 232 Z9 :=
 fq (ac Pg an) Tryz.f232
def wQ (t0 t3:List R5) (t4:Int):Rd ((List R5)×(List R5)×Int×Unit) Unit :=
 cond (au t4 (ae t0)) (
 cond (aZ t4 t0) (
 cond (aZ t4 t3) (
 some (.inl (t0,(xM t3 t4 (gt d5 t0 t4)),(aq .i64 t4 1),()))
 ) none
 ) none
 ) (
 some (.inr (.inl (t0,t3,t4,())))
 )
def Ph:=rb (ai (ff wQ))
def g17 (p0:List R5):Option (Unit×(((List R5)×Unit)×Unit)) :=
 let u1:=(ae p0)
 cond (MN 1 u1) (
 (Ph p0 (uM d5 u1) 0).bind (Sum.elim (fun y1 =>
 some ((),((y1.2.1,()),()))
 ) (fun _ =>
 none
 ))
 ) none
def s17:Su:=⟨[.c false [q5]],[(false,[q5])],true,.inl fun x=>g17 x.1.1⟩
theorem Vw:ar Tryz.prog 17 s17 :=
 fl an [] [(0,⟨[.d 0 q5,.own 3 q5,.d 4 ki],ai (ff wQ)⟩)] [] Tryz.f17 (lp [0] (sc cX sn))
def LI (p0:(List UInt8)×(List UInt8)×(List R5)×Unit):Option (Unit×(ln×Unit)) :=
 (g17 p0.2.2.1).bind fun y1 =>
 some ((),((p0.1,p0.2.1,y1.2.1.1,()),()))
def ZA:Su:=⟨[.c true [.str,.str,q5]],[(true,[.str,.str,q5])],true,.inl fun x=>LI x.1⟩
theorem Vi:ar Tryz.prog 286 ZA :=
 fq (ac Vw an) Tryz.f286
def od (t0:List ln) (t3:List cV) (t4:Int):Rd ((List ln)×(List cV)×Int×Unit) Unit :=
 cond (au t4 (ae t0)) (
 cond (aZ t4 t0) (
 (LI (gt d255 t0 t4)).bind fun y1 =>
 cond (aZ t4 t3) (
 let u1:=(gt d166 t3 t4)
 let u2:=(xM t3 t4 (y1.2.1.1,u1.2.1,u1.2.2.1,()))
 let u3:=(gt d166 u2 t4)
 let u4:=(xM u2 t4 (u3.1,y1.2.1.2.1,u3.2.2.1,()))
 let u5:=(gt d166 u4 t4)
 some (.inl (t0,(xM u4 t4 (u5.1,u5.2.1,y1.2.1.2.2.1,())),(aq .i64 t4 1),()))
 ) none
 ) none
 ) (
 some (.inr (.inl (t0,t3,t4,())))
 )
def Kf:=rb (ai (ff od))
def NR (p0:List ln):Option Y31 :=
 let u1:=(ae p0)
 cond (MN 56 u1) (
 (Kf p0 (uM d166 u1) 0).bind (Sum.elim (fun y1 =>
 some ((),((y1.2.1,()),()))
 ) (fun _ =>
 none
 ))
 ) none
def YS:Su:=⟨[.c false [Gf]],[(false,[dI])],true,.inl fun x=>NR x.1.1⟩
theorem Uv:ar Tryz.prog 233 YS :=
 fl (ac Vi an) [] [(0,⟨[.d 0 Gf,.own 3 dI,.d 4 ki],ai (ff od)⟩)] [] Tryz.f233 (lp [0] (sc cX sn))
def Od (p0:(List UInt8)×Int×Int×Int×Int×(List mj)×Int×Int×(List R3)×(List R3)×(List ln)×Unit):Option Y63 :=
 (Oa p0.2.2.2.2.2.1).bind fun y1 =>
 (LS (p0.2.2.2.2.2.2.1,p0.2.2.2.2.2.2.2.1,p0.2.2.2.2.2.2.2.2.1,p0.2.2.2.2.2.2.2.2.2.1,())).bind fun y2 =>
 (NR p0.2.2.2.2.2.2.2.2.2.2.1).bind fun y3 =>
 some ((),((p0.1,p0.2.1,p0.2.2.1,p0.2.2.2.1,p0.2.2.2.2.1,y1.2.1.1,y2.2.1.1,y2.2.1.2.1,y2.2.1.2.2.1,y2.2.1.2.2.2.1,y3.2.1.1,()),()))
def aaj:Su:=⟨[.c true [.str,ki,ki,ki,ki,Hm,ki,ki,q3,q3,Gf]],[(true,[.str,ki,ki,ki,ki,iE,ki,ki,q3,q3,dI])],true,.inl fun x=>Od x.1⟩
theorem Wi:ar Tryz.prog 183 aaj :=
 fq (ac W5 (ac VK (ac Uv an))) Tryz.f183
def oW (t0:List iF) (t3:List dC) (t4:Int):Rd ((List iF)×(List dC)×Int×Unit) Unit :=
 cond (au t4 (ae t0)) (
 cond (aZ t4 t0) (
 (Od (gt d164 t0 t4)).bind fun y1 =>
 cond (aZ t4 t3) (
 some (.inl (t0,(xM t3 t4 y1.2.1),(aq .i64 t4 1),()))
 ) none
 ) none
 ) (
 some (.inr (.inl (t0,t3,t4,())))
 )
def HO:=rb (ai (ff oW))
def Mf (p0:List iF):Option Tc :=
 let u1:=(ae p0)
 cond (MN 160 u1) (
 (HO p0 (uM d59 u1) 0).bind (Sum.elim (fun y1 =>
 some ((),((y1.2.1,()),()))
 ) (fun _ =>
 none
 ))
 ) none
def abt:Su:=⟨[.c false [G2]],[(false,[gk])],true,.inl fun x=>Mf x.1.1⟩
theorem Vs:ar Tryz.prog 131 abt :=
 fl (ac Wi an) [] [(0,⟨[.d 0 G2,.own 3 gk,.d 4 ki],ai (ff oW)⟩)] [] Tryz.f131 (lp [0] (sc cX sn))
def XP (p0:Int×(List iF)×Unit):Option (Unit×(WA×Unit)) :=
 (Mf p0.2.1).bind fun y1 =>
 some ((),((p0.1,y1.2.1.1,()),()))
def s71:Su:=⟨[.c true [ki,G2]],[(true,[ki,gk])],true,.inl fun x=>XP x.1⟩
theorem Zj:ar Tryz.prog 71 s71 :=
 fq (ac Vs an) Tryz.f71
def uC (t0:List tW) (t3:List fV) (t4:Int):Rd ((List tW)×(List fV)×Int×Unit) Unit :=
 cond (au t4 (ae t0)) (
 cond (aZ t4 t0) (
 (XP (gt d81 t0 t4)).bind fun y1 =>
 cond (aZ t4 t3) (
 let u1:=(xM t3 t4 (y1.2.1.1,(gt d89 t3 t4).2.1,()))
 some (.inl (t0,(xM u1 t4 ((gt d89 u1 t4).1,y1.2.1.2.1,())),(aq .i64 t4 1),()))
 ) none
 ) none
 ) (
 some (.inr (.inl (t0,t3,t4,())))
 )
def Pe:=rb (ai (ff uC))
def Yb (p0:List tW):Option (Unit×(((List fV)×Unit)×Unit)) :=
 let u1:=(ae p0)
 cond (MN 32 u1) (
 (Pe p0 (uM d89 u1) 0).bind (Sum.elim (fun y1 =>
 some ((),((y1.2.1,()),()))
 ) (fun _ =>
 none
 ))
 ) none
def s30:Su:=⟨[.c false [QU]],[(false,[j9])],true,.inl fun x=>Yb x.1.1⟩
theorem Zk:ar Tryz.prog 30 s30 :=
 fl (ac Zj an) [] [(0,⟨[.d 0 QU,.own 3 j9,.d 4 ki],ai (ff uC)⟩)] [] Tryz.f30 (lp [0] (sc cX sn))
def XJ (p0:(List R5)×Int×(List R3)×Int×Int×Int×Int×Int×(List R5)×Unit):Option (Unit×(rG×Unit)) :=
 (g17 p0.1).bind fun y1 =>
 (Gq p0.2.2.1).bind fun y2 =>
 (g17 p0.2.2.2.2.2.2.2.2.1).bind fun y3 =>
 some ((),((y1.2.1.1,p0.2.1,y2.2.1.1,p0.2.2.2.1,p0.2.2.2.2.1,p0.2.2.2.2.2.1,p0.2.2.2.2.2.2.1,p0.2.2.2.2.2.2.2.1,y3.2.1.1,()),()))
def s72:Su:=⟨[.c true [q5,ki,q3,ki,ki,ki,ki,ki,q5]],[(true,[q5,ki,q3,ki,ki,ki,ki,ki,q5])],true,.inl fun x=>XJ x.1⟩
theorem aaG:ar Tryz.prog 72 s72 :=
 fq (ac Pg (ac Vw an)) Tryz.f72
def vE (t0:List rG) (t3:List jl) (t4:Int):Rd ((List rG)×(List jl)×Int×Unit) Unit :=
 cond (au t4 (ae t0)) (
 cond (aZ t4 t0) (
 (XJ (gt d83 t0 t4)).bind fun y1 =>
 cond (aZ t4 t3) (
 some (.inl (t0,(xM t3 t4 y1.2.1),(aq .i64 t4 1),()))
 ) none
 ) none
 ) (
 some (.inr (.inl (t0,t3,t4,())))
 )
def OZ:=rb (ai (ff vE))
def X9 (p0:List rG):Option (Unit×(((List jl)×Unit)×Unit)) :=
 let u1:=(ae p0)
 cond (MN 120 u1) (
 (OZ p0 (uM d62 u1) 0).bind (Sum.elim (fun y1 =>
 some ((),((y1.2.1,()),()))
 ) (fun _ =>
 none
 ))
 ) none
def s31:Su:=⟨[.c false [QC]],[(false,[nr])],true,.inl fun x=>X9 x.1.1⟩
theorem aaJ:ar Tryz.prog 31 s31 :=
 fl (ac aaG an) [] [(0,⟨[.d 0 QC,.own 3 nr,.d 4 ki],ai (ff vE)⟩)] [] Tryz.f31 (lp [0] (sc cX sn))
def g9 (p0:(List tW)×Int×Int×(List rG)×Unit):Option (Unit×(LF×Unit)) :=
 (Yb p0.1).bind fun y1 =>
 (X9 p0.2.2.2.1).bind fun y2 =>
 some ((),((y1.2.1.1,p0.2.1,p0.2.2.1,y2.2.1.1,()),()))
def s9:Su:=⟨[.c true [QU,ki,ki,QC]],[(true,[j9,ki,ki,nr])],true,.inl fun x=>g9 x.1⟩
theorem ok9:ar Tryz.prog 9 s9 :=
 fq (ac Zk (ac aaJ an)) Tryz.f9
def pU (p0 p1 p2:Int):Option dS :=
 some ((),(((cond (bz p1 p0) (bz p0 p2) false),()),()))
def s39:Su:=⟨[.c false [ki],.c false [ki],.c false [ki]],[(false,[.bool])],true,.inl fun x=>pU x.1.1 x.2.1.1 x.2.2.1.1⟩
theorem nz:ar Tryz.prog 39 s39 :=
 fq an Tryz.f39
def Ig (p0:Int×Int×(List R3)×(List R3)×Unit):Option ZK :=
 cond (cO 8 [] p0.2.2.1) (
 cond (cO 8 [] p0.2.2.2.1) (
 some ((),((p0.1,p0.2.1,(lT [] p0.2.2.1),(lT [] p0.2.2.2.1),()),()))
 ) none
 ) none
def YA:Su:=⟨[.c true [ki,ki,q3,q3]],[(true,[ki,ki,q3,q3])],true,.inl fun x=>Ig x.1⟩
theorem Vj:ar Tryz.prog 117 YA :=
 fq an Tryz.f117
def oh (t3 t7:List cV) (t8 t9:Int):Rd XR Unit :=
 cond (au t9 t8) (
 cond (aZ t9 t7) (
 let u1:=(gt d166 t7 t9)
 cond (cO 1 [] u1.2.2.1) (
 cond (cO 56 t3 [(u1.1,u1.2.1,(lT [] u1.2.2.1),())]) (
 some (.inl ((lT t3 [(u1.1,u1.2.1,(lT [] u1.2.2.1),())]),t7,t8,(aq .i64 t9 1),()))
 ) none
 ) none
 ) none
 ) (
 some (.inr (.inl (t3,t7,t8,t9,())))
 )
def IA:=kq (ai (cf oh))
def N8 (p0:List cV):Option Y31 :=
 (IA [] p0 (ae p0) 0).bind (Sum.elim (fun y1 =>
 some ((),((y1.1,()),()))
 ) (fun _ =>
 none
 ))
def aaA:Su:=⟨[.c false [dI]],[(false,[dI])],true,.inl fun x=>N8 x.1.1⟩
theorem Wr:ar Tryz.prog 118 aaA :=
 fl an [] [(0,⟨[.own 3 dI,.d 7 dI,.d 8 ki,.d 9 ki],ai (cf oh)⟩)] [] Tryz.f118 (lp [0] (sc cX sn))
def XS (p0:(List UInt8)×Int×Int×Int×Int×(List fA)×Int×Int×(List R3)×(List R3)×(List cV)×Unit):Option Y63 :=
 cond (cO 32 [] p0.2.2.2.2.2.1) (
 (Ig (p0.2.2.2.2.2.2.1,p0.2.2.2.2.2.2.2.1,p0.2.2.2.2.2.2.2.2.1,p0.2.2.2.2.2.2.2.2.2.1,())).bind fun y1 =>
 (N8 p0.2.2.2.2.2.2.2.2.2.2.1).bind fun y2 =>
 some ((),((p0.1,p0.2.1,p0.2.2.1,p0.2.2.2.1,p0.2.2.2.2.1,(lT [] p0.2.2.2.2.2.1),y1.2.1.1,y1.2.1.2.1,y1.2.1.2.2.1,y1.2.1.2.2.2.1,y2.2.1.1,()),()))
 ) none
def s63:Su:=⟨[.c true [.str,ki,ki,ki,ki,iE,ki,ki,q3,q3,dI]],[(true,[.str,ki,ki,ki,ki,iE,ki,ki,q3,q3,dI])],true,.inl fun x=>XS x.1⟩
theorem Sk:ar Tryz.prog 63 s63 :=
 fq (ac Vj (ac Wr an)) Tryz.f63
def vD (t3:List dC) (t8:Int) (t11:List fV) (t12 t13:Int) (t18:List dC) (t19 t20:Int) (b2:(List dC)×Unit) (b7:(List UInt8)×Int×Int×Int×Int×(List fA)×Int×Int×(List R3)×(List R3)×(List cV)×Unit):Rd ((List dC)×Int×(List fV)×Int×Int×(List dC)×Int×Int×Y5×dC×Unit) Unit :=
 cond (au 0 t8) (
 let u1:=(aI .i64 t8 1)
 cond (aZ u1 t3) (
 cond (!(SF (gt d59 t3 u1).1 b7.1)) (
 some (.inl (t3,u1,t11,t12,t13,t18,t19,t20,b2,b7,()))
 ) (
 some (.inr (.inl (t3,t8,t11,t12,t13,t18,t19,t20,b2,b7,())))
 )
 ) none
 ) (
 some (.inr (.inl (t3,t8,t11,t12,t13,t18,t19,t20,b2,b7,())))
 )
def B8:=WY (ai (BW vD))
def tE (t3:List dC) (t11:List fV) (t12 t13:Int) (t18:List dC) (t19 t20:Int) (b2:(List dC)×Unit):Rd ((List dC)×(List fV)×Int×Int×(List dC)×Int×Int×Y5×Unit) Unit :=
 cond (au t20 t19) (
 cond (aZ t20 t18) (
 (B8 t3 (ae t3) t11 t12 t13 t18 t19 t20 b2 (gt d59 t18 t20)).bind (Sum.elim (fun y1 =>
 cond (dj 0 y1.2.1 y1.1) (
 cond (Xl 160 [] y1.1 y1.2.1) (
 (XS y1.2.2.2.2.2.2.2.2.2.1).bind fun y2 =>
 let u1:=(lT [] (HD y1.1 y1.2.1))
 cond (cO 160 u1 [y2.2.1]) (
 cond (Sb y1.2.1 y1.2.1) (
 let u2:=(lT u1 [y2.2.1])
 let u3:=(ZF y1.1 y1.2.1)
 cond (cO 160 u2 u3) (
 some (.inl ((lT u2 u3),y1.2.2.1,y1.2.2.2.1,y1.2.2.2.2.1,y1.2.2.2.2.2.1,y1.2.2.2.2.2.2.1,(aq .i64 y1.2.2.2.2.2.2.2.1 1),y1.2.2.2.2.2.2.2.2.1,()))
 ) none
 ) none
 ) none
 ) none
 ) none
 ) (fun _ =>
 some (.inr (.inr ()))
 ))
 ) none
 ) (
 some (.inr (.inl (t3,t11,t12,t13,t18,t19,t20,b2,())))
 )
def EJ:=Tj (ai (yF tE))
def th (t3:List dC) (t11:List fV) (t12 t13:Int) (b2:(List dC)×Unit):Rd ((List dC)×(List fV)×Int×Int×Y5×Unit) Unit :=
 cond (au t13 t12) (
 cond (aZ t13 t11) (
 (EJ t3 t11 t12 t13 (gt d89 t11 t13).2.1 (ae (gt d89 t11 t13).2.1) 0 b2).bind (Sum.elim (fun y1 =>
 some (.inl (y1.1,y1.2.1,y1.2.2.1,(aq .i64 y1.2.2.2.1 1),y1.2.2.2.2.2.2.2.1,()))
 ) (fun _ =>
 some (.inr (.inr ()))
 ))
 ) none
 ) (
 some (.inr (.inl (t3,t11,t12,t13,b2,())))
 )
def E4:=xI (ai (eS th))
def Nr (p0:List fV):Option Tc :=
 (E4 [] p0 (ae p0) 0 ([],())).bind (Sum.elim (fun y1 =>
 some ((),((y1.1,()),()))
 ) (fun _ =>
 none
 ))
def X3:Su:=⟨[.c false [j9]],[(true,[gk])],true,.inl fun x=>Nr x.1.1⟩
def vF:List SE:=[.own 3 gk,.d 8 ki,.d 11 j9,.d 12 ki,.d 13 ki,.d 18 gk,.d 19 ki,.d 20 ki,.box 2 [(true,gk)],.box 7 [(false,.str),(false,ki),(false,ki),(false,ki),(false,ki),(false,iE),(false,ki),(false,ki),(false,q3),(false,q3),(false,dI)]]
def xo:List SE:=[.own 3 gk,.d 11 j9,.d 12 ki,.d 13 ki,.d 18 gk,.d 19 ki,.d 20 ki,.box 2 [(true,gk)]]
def vJ:List SE:=[.own 3 gk,.d 11 j9,.d 12 ki,.d 13 ki,.box 2 [(true,gk)]]
def S2:List SE:=[]
def W6:Nat->Option (Lo S2)
 | 4=>some ⟨vF,BW B8⟩
 | 2=>some ⟨xo,yF EJ⟩
 | 0=>some ⟨vJ,eS E4⟩
 | _=>none
def I8:List Y0:=[(63,iS s63)]
def B5:En:=yQ 60 tt I8 S2 W6 [] fun _=>none
def abJ:Nat->Option (St->Tr St)
 | 11=>some (xv B5 (ep (a7 11 (ah Tryz.f27)) 0).op 49 49 49 3 8 41 42 43 44 45 9)
 | 13=>some (AW B5 49 49 49 9 3 8 51 52 53 54 55)
 | _=>none
def Jm:En:=yQ 60 tt I8 S2 W6 [] (abJ)
theorem WI (x:bE vF):(cZ Jm 4 vF (aX 4 (ah Tryz.f27)) x).run=BW vD x:=by kernel_rfl
theorem Tz (x:bE xo):(cZ Jm 2 xo (aX 2 (ah Tryz.f27)) x).run=yF tE x:=by kernel_rfl
theorem To (x:bE vJ):(cZ Jm 0 vJ (aX 0 (ah Tryz.f27)) x).run=eS th x:=by kernel_rfl
theorem t27 (x:PT X3.ps):(Fl Jm (ah Tryz.f27) Tryz.f27.results.toList X3.ps X3.rs true x).run=Nr x.1.1:=by kernel_rfl
theorem E3:de Tryz.prog Jm:=cN (l:=I8) ⟨Sk,trivial⟩
theorem FN:de Tryz.prog B5:=cN (l:=I8) ⟨Sk,trivial⟩
theorem Ry:cF Tryz.prog Jm (a7 11 (ah Tryz.f27)) (xv B5 (ep (a7 11 (ah Tryz.f27)) 0).op 49 49 49 3 8 41 42 43 44 45 9) :=
 gh rfl rfl (Ju (E:=B5) (kr hT) FN (cd:=(a7 11 (ah Tryz.f27))) (rid:=11) (o1:=ep (a7 11 (ah Tryz.f27)) 0) (o2:=ep (a7 11 (ah Tryz.f27)) 1) (o3:=ep (a7 11 (ah Tryz.f27)) 2) (o4:=ep (a7 11 (ah Tryz.f27)) 3) (o5:=ep (a7 11 (ah Tryz.f27)) 4) (o6:=ep (a7 11 (ah Tryz.f27)) 5) (c:=uQ (ep (a7 11 (ah Tryz.f27)) 4)) (tys:=[])
  (by kernel_rfl) (by kernel_rfl) (by kernel_rfl) (by kernel_rfl) (by kernel_rfl) (by kernel_rfl) (by kernel_rfl) (by kernel_rfl) (by kernel_rfl) (by kernel_rfl) (by kernel_rfl) (by kernel_rfl) (by kernel_rfl) (by kernel_rfl) (by kernel_rfl) (by kernel_rfl) (by kernel_rfl) (by kernel_rfl) (by kernel_rfl) (by kernel_rfl) (by kernel_rfl))
theorem G3:de Tryz.prog B5:=cN (l:=I8) ⟨Sk,trivial⟩
theorem QF:cF Tryz.prog Jm (a7 13 (ah Tryz.f27)) (AW B5 49 49 49 9 3 8 51 52 53 54 55) :=
 gh rfl rfl (Nc (E:=B5) (kr hT) G3 (cd:=(a7 13 (ah Tryz.f27))) (rid:=13) (o1:=ep (a7 13 (ah Tryz.f27)) 0) (o2:=ep (a7 13 (ah Tryz.f27)) 1) (o3:=ep (a7 13 (ah Tryz.f27)) 2) (o4:=ep (a7 13 (ah Tryz.f27)) 3) (o5:=ep (a7 13 (ah Tryz.f27)) 4) (o6:=ep (a7 13 (ah Tryz.f27)) 5) (c:=uQ (ep (a7 13 (ah Tryz.f27)) 4)) (tys:=[])
  (by kernel_rfl) (by kernel_rfl) (by kernel_rfl) (by kernel_rfl) (by kernel_rfl) (by kernel_rfl) (by kernel_rfl) (by kernel_rfl) (by kernel_rfl) (by kernel_rfl) (by kernel_rfl) (by kernel_rfl) (by kernel_rfl) (by kernel_rfl) (by kernel_rfl) (by kernel_rfl) (by kernel_rfl) (by kernel_rfl) (by kernel_rfl) (by kernel_rfl) (by kernel_rfl) (by kernel_rfl))
theorem Tq:bS Tryz.prog Jm 4 (.loop (aX 4 (ah Tryz.f27))) ⟨vF,BW B8⟩ :=
 dZ (kr hT) E3 ed (step:=fun (x:bE vF)=>vD x.1 x.2.1 x.2.2.1 x.2.2.2.1 x.2.2.2.2.1 x.2.2.2.2.2.1 x.2.2.2.2.2.2.1 x.2.2.2.2.2.2.2.1 x.2.2.2.2.2.2.2.2.1 x.2.2.2.2.2.2.2.2.2.1) WI (aT [] (by kernel_rfl) trivial [] (by kernel_rfl) trivial)
theorem Xq:bS Tryz.prog Jm 2 (.loop (aX 2 (ah Tryz.f27))) ⟨xo,yF EJ⟩ :=
 dZ (kr hT) E3 ed (step:=fun (x:bE xo)=>tE x.1 x.2.1 x.2.2.1 x.2.2.2.1 x.2.2.2.2.1 x.2.2.2.2.2.1 x.2.2.2.2.2.2.1 x.2.2.2.2.2.2.2.1) Tz (aT [(4,.loop (aX 4 (ah Tryz.f27)))] (by kernel_rfl) ⟨lL rfl Tq,trivial⟩ [(11,a7 11 (ah Tryz.f27)),(13,a7 13 (ah Tryz.f27))] (by kernel_rfl) ⟨vh rfl Ry,vh rfl QF,trivial⟩)
theorem Uh:bS Tryz.prog Jm 0 (.loop (aX 0 (ah Tryz.f27))) ⟨vJ,eS E4⟩ :=
 dZ (kr hT) E3 ed (step:=fun (x:bE vJ)=>th x.1 x.2.1 x.2.2.1 x.2.2.2.1 x.2.2.2.2.1) To (aT [(2,.loop (aX 2 (ah Tryz.f27)))] (by kernel_rfl) ⟨lL rfl Xq,trivial⟩ [] (by kernel_rfl) trivial)
theorem UQ:ar Tryz.prog 27 X3 :=
 nC (E:=Jm) (kr hT) E3 ed (fn:=Tryz.f27) (c:=(ah Tryz.f27)) (by kernel_rfl) (by kernel_rfl) (by kernel_rfl) rfl (aT [(0,.loop (aX 0 (ah Tryz.f27)))] (by kernel_rfl) ⟨lL rfl Uh,trivial⟩ [] (by kernel_rfl) trivial) fun x y h=>⟨y.1,fun _=>rfl,(t27 x).trans h⟩
def nU (t0:List UInt8) (t3:Int):Rd Wd Y2 :=
 cond (au t3 (ae t0)) (
 cond (aZ t3 t0) (
 let u1:=(dq t0 t3)
 cond (au u1 48) (
 some (.inr (.inr (false,())))
 ) (
 cond (aZ t3 t0) (
 cond (au 57 u1) (
 some (.inr (.inr (false,())))
 ) (
 some (.inl (t0,(aq .i64 t3 1),()))
 )
 ) none
 )
 ) none
 ) (
 some (.inr (.inl (t0,t3,())))
 )
def Iy:=PO (ai (wW nU))
def qO (p0:List UInt8):Option dS :=
 (Iy p0 0).bind (Sum.elim (fun y1 =>
 some ((),(((au 0 (ae y1.1)),()),()))
 ) (fun y1 =>
 some ((),(y1,()))
 ))
def aa8:Su:=⟨[.c false [.str]],[(false,[.bool])],true,.inl fun x=>qO x.1.1⟩
theorem tT:ar Tryz.prog 222 aa8 :=
 fl an [.d 2 .bool] [(0,⟨[.d 0 .str,.d 3 ki],ai (wW nU)⟩)] [] Tryz.f222 (lp [0] (sc cX sn))
def sf (t0:List UInt8) (t3:Int) (t4:Bool) (t5:Int):Rd ((List UInt8)×Int×Bool×Int×Unit) Unit :=
 cond (bz 0 t5) (
 cond (aZ t5 t0) (
 cond t4 (
 let u1:=(aI .i64 (bw .i64 (dq t0 t5)) 48)
 let u2:=(jO .i64 2 u1)
 cond (au 9 u2) (
 let u3:=(aI .i64 t5 1)
 some (.inl (t0,(fW (aq .i64 t3 (aI .i64 u2 9)) 10),(!t4),u3,()))
 ) (
 let u3:=(aI .i64 t5 1)
 some (.inl (t0,(fW (aq .i64 t3 u2) 10),(!t4),u3,()))
 )
 ) (
 let u1:=(aI .i64 (bw .i64 (dq t0 t5)) 48)
 let u2:=(aI .i64 t5 1)
 some (.inl (t0,(fW (aq .i64 t3 u1) 10),(!t4),u2,()))
 )
 ) none
 ) (
 some (.inr (.inl (t0,t3,t4,t5,())))
 )
def J2:=kq (ai (cf sf))
def OB (p0:List UInt8):Option gX :=
 (qO p0).bind fun y1 =>
 cond (!y1.2.1.1) (
 c3
 ) (
 (J2 p0 0 true (aI .i64 (ae p0) 1)).bind (Sum.elim (fun y2 =>
 some ((),(((fW (aI .i64 10 y2.2.1) 10),()),()))
 ) (fun _ =>
 none
 ))
 )
def aaX:Su:=⟨[.c false [.str]],[(false,[ki])],true,.inl fun x=>OB x.1.1⟩
theorem Wo:ar Tryz.prog 223 aaX :=
 fl (ac tT an) [] [(0,⟨[.d 0 .str,.d 3 ki,.d 4 .bool,.d 5 ki],ai (cf sf)⟩)] [] Tryz.f223 (lp [0] (sc cX sn))
def Nf (p0:List UInt8):Option dS :=
 (qO p0).bind fun y1 =>
 let u1:=(ae p0)
 cond (cond (!y1.2.1.1) true (au u1 2)) (
 c0
 ) (
 let u2:=(aI .i64 u1 1)
 cond (dj 0 u2 p0) (
 (OB (sub p0 0 u2)).bind fun y2 =>
 cond (aZ u2 p0) (
 some ((),(((ak y2.2.1.1 (aI .i64 (bw .i64 (dq p0 u2)) 48)),()),()))
 ) none
 ) none
 )
def aa2:Su:=⟨[.c false [.str]],[(false,[.bool])],true,.inl fun x=>Nf x.1.1⟩
theorem WR:ar Tryz.prog 175 aa2 :=
 fq (ac tT (ac Wo an)) Tryz.f175
def so (p0:List UInt8):Option dS :=
 cond (bz (ae p0) 19) (
 (Nf p0).bind fun y1 =>
 some ((),(y1.2.1,()))
 ) (
 c0
 )
def Zs:Su:=⟨[.c false [.str]],[(false,[.bool])],true,.inl fun x=>so x.1.1⟩
theorem Qg:ar Tryz.prog 119 Zs :=
 fq (ac WR an) Tryz.f119
def Pq (p0:Int):Option dS :=
 some ((),(((cond (bz 0 p0) (bz p0 4611686018427387904) false),()),()))
def s62:Su:=⟨[.c false [ki]],[(false,[.bool])],true,.inl fun x=>Pq x.1.1⟩
theorem Ng:ar Tryz.prog 62 s62 :=
 fq an Tryz.f62
def pd (t0:List UInt8) (t3:Int):Rd Wd Y2 :=
 cond (au t3 (ae t0)) (
 cond (aZ t3 t0) (
 let u1:=(dq t0 t3)
 cond (au u1 48) (
 cond (aZ t3 t0) (
 cond (au u1 97) (
 some (.inr (.inr (false,())))
 ) (
 cond (aZ t3 t0) (
 cond (au 122 u1) (
 some (.inr (.inr (false,())))
 ) (
 some (.inl (t0,(aq .i64 t3 1),()))
 )
 ) none
 )
 ) none
 ) (
 cond (aZ t3 t0) (
 cond (au 57 u1) (
 cond (aZ t3 t0) (
 cond (au u1 97) (
 some (.inr (.inr (false,())))
 ) (
 cond (aZ t3 t0) (
 cond (au 122 u1) (
 some (.inr (.inr (false,())))
 ) (
 some (.inl (t0,(aq .i64 t3 1),()))
 )
 ) none
 )
 ) none
 ) (
 some (.inl (t0,(aq .i64 t3 1),()))
 )
 ) none
 )
 ) none
 ) (
 some (.inr (.inl (t0,t3,())))
 )
def Lk:=PO (ai (wW pd))
def Kr (p0:List UInt8):Option dS :=
 (Lk p0 0).bind (Sum.elim (fun y1 =>
 (pU (ae y1.1) 1 6).bind fun y2 =>
 some ((),(y2.2.1,()))
 ) (fun y1 =>
 some ((),(y1,()))
 ))
def ZH:Su:=⟨[.c false [.str]],[(false,[.bool])],true,.inl fun x=>Kr x.1.1⟩
theorem OW:ar Tryz.prog 224 ZH :=
 fl (ac nz an) [.d 2 .bool] [(0,⟨[.d 0 .str,.d 3 ki],ai (wW pd)⟩)] [] Tryz.f224 (lp [0] (sc cX sn))
def El (p0:Int):Option dS :=
 (pU p0 0 1000000000).bind fun y1 =>
 some ((),(y1.2.1,()))
def s58:Su:=⟨[.c false [ki]],[(false,[.bool])],true,.inl fun x=>El x.1.1⟩
theorem GB:ar Tryz.prog 58 s58 :=
 fq (ac nz an) Tryz.f58
def Nd (p0:(List UInt8)×Int×Int×Unit):Option dS :=
 (Kr p0.1).bind fun y1 =>
 cond y1.2.1.1 (
 (pU p0.2.1 1 9007199254740992).bind fun y2 =>
 cond y2.2.1.1 (
 (El p0.2.2.1).bind fun y3 =>
 some ((),(y3.2.1,()))
 ) (
 c0
 )
 ) (
 c0
 )
def abw:Su:=⟨[.c true [.str,ki,ki]],[(false,[.bool])],true,.inl fun x=>Nd x.1⟩
theorem Wg:ar Tryz.prog 176 abw :=
 fq (ac nz (ac OW (ac GB an))) Tryz.f176
def pH (t0 t5:List fA) (t6 t7:Int):Rd ((List fA)×(List fA)×Int×Int×Unit) Y2 :=
 cond (au t7 t6) (
 cond (aZ t7 t5) (
 let u1:=(gt d95 t5 t7)
 (Nd u1).bind fun y1 =>
 cond (!y1.2.1.1) (
 some (.inr (.inr (false,())))
 ) (
 cond (au 0 t7) (
 let u2:=(aI .i64 t7 1)
 cond (aZ u2 t0) (
 cond (!(jU (gt d95 t0 u2).1 u1.1)) (
 some (.inr (.inr (false,())))
 ) (
 some (.inl (t0,t5,t6,(aq .i64 t7 1),()))
 )
 ) none
 ) (
 some (.inl (t0,t5,t6,(aq .i64 t7 1),()))
 )
 )
 ) none
 ) (
 some (.inr (.inl (t0,t5,t6,t7,())))
 )
def Lp:=kq (ai (cf pH))
def Nn (p0:List fA):Option dS :=
 (Lp p0 p0 (ae p0) 0).bind (Sum.elim (fun y1 =>
 some ((),(((bz (ae y1.1) 4),()),()))
 ) (fun y1 =>
 some ((),(y1,()))
 ))
def abm:Su:=⟨[.c false [iE]],[(false,[.bool])],true,.inl fun x=>Nn x.1.1⟩
theorem V5:ar Tryz.prog 120 abm :=
 fl (ac Wg an) [.d 2 .bool] [(0,⟨[.d 0 iE,.d 5 iE,.d 6 ki,.d 7 ki],ai (cf pH)⟩)] [] Tryz.f120 (lp [0] (sc cX sn))
def nV (t32 t33:Int) (b1:Int×Int×(List R3)×(List R3)×Unit):Rd (Int×Int×(Int×Int×(List R3)×(List R3)×Unit)×Unit) Y2 :=
 cond (au t33 t32) (
 cond (aZ t33 b1.2.2.1) (
 (Pq (gt d3 b1.2.2.1 t33).1).bind fun y1 =>
 cond (!y1.2.1.1) (
 some (.inr (.inr (false,())))
 ) (
 cond (aZ t33 b1.2.2.2.1) (
 (Pq (gt d3 b1.2.2.2.1 t33).1).bind fun y2 =>
 cond (!y2.2.1.1) (
 some (.inr (.inr (false,())))
 ) (
 some (.inl (t32,(aq .i64 t33 1),b1,()))
 )
 ) none
 )
 ) none
 ) (
 some (.inr (.inl (t32,t33,b1,())))
 )
def KP:=rb (ai (ff nV))
def JD (p0:Int×Int×(List R3)×(List R3)×Unit):Option dS :=
 (pU p0.1 1 1000).bind fun y1 =>
 cond (!y1.2.1.1) (
 c0
 ) (
 let u1:=(ae p0.2.2.1)
 (pU u1 1 8).bind fun y2 =>
 cond (cond (!y2.2.1.1) true (!(ak (ae p0.2.2.2.1) u1))) (
 c0
 ) (
 (El p0.2.1).bind fun y3 =>
 cond (!y3.2.1.1) (
 c0
 ) (
 (KP u1 0 p0).bind (Sum.elim (fun _ =>
 c2
 ) (fun y4 =>
 some ((),(y4,()))
 ))
 )
 )
 )
def abV:Su:=⟨[.c true [ki,ki,q3,q3]],[(false,[.bool])],true,.inl fun x=>JD x.1⟩
theorem VS:ar Tryz.prog 121 abV :=
 fl (ac nz (ac Ng (ac GB an))) [.d 2 .bool] [(0,⟨[.d 32 ki,.d 33 ki,.box 1 [(false,ki),(false,ki),(false,q3),(false,q3)]],ai (ff nV)⟩)] [] Tryz.f121 (lp [0] (sc cX sn))
def MD (p0:(List UInt8)×(List UInt8)×(List R5)×Unit):Option dS :=
 (qO p0.1).bind fun y1 =>
 cond (cond y1.2.1.1 (ak (ae p0.1) 6) false) (
 (qO p0.2.1).bind fun y2 =>
 cond (cond y2.2.1.1 (ak (ae p0.2.1) 4) false) (
 (pU (ae p0.2.2.1) 1 200).bind fun y3 =>
 some ((),(y3.2.1,()))
 ) (
 c0
 )
 ) (
 c0
 )
def aa0:Su:=⟨[.c true [.str,.str,q5]],[(false,[.bool])],true,.inl fun x=>MD x.1⟩
theorem U7:ar Tryz.prog 177 aa0 :=
 fq (ac nz (ac tT an)) Tryz.f177
def nT (t0 t7:List cV) (t8 t9:Int) (t19:List cV) (t20 t21:Int) (b4:(List UInt8)×(List UInt8)×(List R5)×Unit):Rd ((List cV)×(List cV)×Int×Int×(List cV)×Int×Int×ln×Unit) Y2 :=
 cond (au t21 t20) (
 cond (aZ t21 t19) (
 let u1:=(gt d166 t19 t21)
 cond (cond (bI u1.1 b4.1) (bI u1.2.1 b4.2.1) false) (
 some (.inr (.inr (false,())))
 ) (
 some (.inl (t0,t7,t8,t9,t19,t20,(aq .i64 t21 1),b4,()))
 )
 ) none
 ) (
 some (.inr (.inl (t0,t7,t8,t9,t19,t20,t21,b4,())))
 )
def H8:=Tj (ai (yF nT))
def pI (t0 t7:List cV) (t8 t9:Int):Rd XR Y2 :=
 cond (au t9 t8) (
 cond (aZ t9 t7) (
 let u1:=(gt d166 t7 t9)
 (MD u1).bind fun y1 =>
 cond (!y1.2.1.1) (
 some (.inr (.inr (false,())))
 ) (
 cond (dj 0 t9 t0) (
 let u2:=(sub t0 0 t9)
 (H8 t0 t7 t8 t9 u2 (ae u2) 0 u1).bind (Sum.elim (fun y2 =>
 some (.inl (y2.1,y2.2.1,y2.2.2.1,(aq .i64 y2.2.2.2.1 1),()))
 ) (fun y2 =>
 some (.inr (.inr (y2.1,())))
 ))
 ) none
 )
 ) none
 ) (
 some (.inr (.inl (t0,t7,t8,t9,())))
 )
def Ld:=kq (ai (cf pI))
def OC (p0:List cV):Option dS :=
 (Ld p0 p0 (ae p0) 0).bind (Sum.elim (fun y1 =>
 some ((),(((bz (ae y1.1) 6),()),()))
 ) (fun y1 =>
 some ((),(y1,()))
 ))
def YV:Su:=⟨[.c false [dI]],[(false,[.bool])],true,.inl fun x=>OC x.1.1⟩
theorem Vy:ar Tryz.prog 122 YV :=
 fl (ac U7 an) [.d 2 .bool] [(2,⟨[.d 0 dI,.d 7 dI,.d 8 ki,.d 9 ki,.d 19 dI,.d 20 ki,.d 21 ki,.box 4 [(false,.str),(false,.str),(false,q5)]],ai (yF nT)⟩),(0,⟨[.d 0 dI,.d 7 dI,.d 8 ki,.d 9 ki],ai (cf pI)⟩)] [] Tryz.f122 (lp [0] (sc (lp [2] (sc cX sn)) sn))
def KM (p0 p1 p2:Int):Option gX :=
 cond (au p0 p1) (
 some ((),((p1,()),()))
 ) (
 cond (au p2 p0) (
 some ((),((p2,()),()))
 ) (
 some ((),((p0,()),()))
 )
 )
def aa6:Su:=⟨[.c false [ki],.c false [ki],.c false [ki]],[(false,[ki])],true,.inl fun x=>KM x.1.1 x.2.1.1 x.2.2.1.1⟩
theorem TS:ar Tryz.prog 179 aa6 :=
 fq an Tryz.f179
def Qy (p0 p1:Int):Option OX :=
 (Pq p0).bind fun y1 =>
 cond (!y1.2.1.1) (
 c9
 ) (
 (Pq p1).bind fun y2 =>
 cond (cond (!y2.2.1.1) true (au (aI .i64 4611686018427387904 p1) p0)) (
 c9
 ) (
 some ((),(((aq .i64 p0 p1),()),(true,()),()))
 )
 )
def Yo:Su:=⟨[.c false [ki],.c false [ki]],[(false,[ki]),(false,[.bool])],true,.inl fun x=>Qy x.1.1 x.2.1.1⟩
theorem UD:ar Tryz.prog 178 Yo :=
 fq (ac Ng an) Tryz.f178
def J5 (p0 p1:Int):Option gX :=
 (KM p0 0 4611686018427387904).bind fun y1 =>
 (KM p1 0 4611686018427387904).bind fun y2 =>
 (Qy y1.2.1.1 y2.2.1.1).bind fun y3 =>
 cond (!y3.2.2.1.1) (
 c19
 ) (
 some ((),(y3.2.1,()))
 )
def aa4:Su:=⟨[.c false [ki],.c false [ki]],[(false,[ki])],true,.inl fun x=>J5 x.1.1 x.2.1.1⟩
theorem P8:ar Tryz.prog 123 aa4 :=
 fq (ac TS (ac UD an)) Tryz.f123
def oP (t3:Int) (t6:List fA) (t7 t8:Int):Rd (Int×(List fA)×Int×Int×Unit) Unit :=
 cond (au t8 t7) (
 cond (aZ t8 t6) (
 (J5 t3 (gt d95 t6 t8).2.1).bind fun y1 =>
 some (.inl (y1.2.1.1,t6,t7,(aq .i64 t8 1),()))
 ) none
 ) (
 some (.inr (.inl (t3,t6,t7,t8,())))
 )
def K3:=kq (ai (cf oP))
def Jt (p0:List fA):Option gX :=
 (K3 0 p0 (ae p0) 0).bind (Sum.elim (fun y1 =>
 some ((),((y1.1,()),()))
 ) (fun _ =>
 none
 ))
def abE:Su:=⟨[.c false [iE]],[(false,[ki])],true,.inl fun x=>Jt x.1.1⟩
theorem Qc:ar Tryz.prog 124 abE :=
 fl (ac P8 an) [] [(0,⟨[.d 3 ki,.d 6 iE,.d 7 ki,.d 8 ki],ai (cf oP)⟩)] [] Tryz.f124 (lp [0] (sc cX sn))
def Tf (p0:(List UInt8)×Int×Int×Int×Int×(List fA)×Int×Int×(List R3)×(List R3)×(List cV)×Unit):Option dS :=
 (so p0.1).bind fun y1 =>
 cond (!y1.2.1.1) (
 c0
 ) (
 (pU p0.2.1 0 9007199254740992).bind fun y2 =>
 cond (!y2.2.1.1) (
 c0
 ) (
 (pU p0.2.2.2.1 0 1000).bind fun y3 =>
 cond (!y3.2.1.1) (
 c0
 ) (
 (pU p0.2.2.2.2.1 0 9007199254740992).bind fun y4 =>
 cond (!y4.2.1.1) (
 c0
 ) (
 (Pq p0.2.2.1).bind fun y5 =>
 cond (!y5.2.1.1) (
 c0
 ) (
 (Nn p0.2.2.2.2.2.1).bind fun y6 =>
 cond y6.2.1.1 (
 (JD (p0.2.2.2.2.2.2.1,p0.2.2.2.2.2.2.2.1,p0.2.2.2.2.2.2.2.2.1,p0.2.2.2.2.2.2.2.2.2.1,())).bind fun y7 =>
 cond y7.2.1.1 (
 (OC p0.2.2.2.2.2.2.2.2.2.2.1).bind fun y8 =>
 cond y8.2.1.1 (
 (Jt p0.2.2.2.2.2.1).bind fun y9 =>
 (J5 p0.2.2.1 y9.2.1.1).bind fun y10 =>
 some ((),(((bz y10.2.1.1 p0.2.1),()),()))
 ) (
 c0
 )
 ) (
 c0
 )
 ) (
 c0
 )
 )
 )
 )
 )
 )
def s64:Su:=⟨[.c true [.str,ki,ki,ki,ki,iE,ki,ki,q3,q3,dI]],[(false,[.bool])],true,.inl fun x=>Tf x.1⟩
theorem RD:ar Tryz.prog 64 s64 :=
 fq (ac nz (ac Qg (ac Ng (ac V5 (ac VS (ac Vy (ac P8 (ac Qc an)))))))) Tryz.f64
def oJ (t6:List dC) (t7 t8:Int) (b1:(List dC)×Unit):Rd ((List dC)×Int×Int×Y5×Unit) Y2 :=
 cond (au t8 t7) (
 cond (aZ t8 t6) (
 let u1:=(gt d59 t6 t8)
 (Tf u1).bind fun y1 =>
 cond (!y1.2.1.1) (
 some (.inr (.inr (false,())))
 ) (
 cond (au 0 t8) (
 let u2:=(aI .i64 t8 1)
 cond (aZ u2 b1.1) (
 cond (!(jU (gt d59 b1.1 u2).1 u1.1)) (
 some (.inr (.inr (false,())))
 ) (
 some (.inl (t6,t7,(aq .i64 t8 1),b1,()))
 )
 ) none
 ) (
 some (.inl (t6,t7,(aq .i64 t8 1),b1,()))
 )
 )
 ) none
 ) (
 some (.inr (.inl (t6,t7,t8,b1,())))
 )
def Jh:=kq (ai (cf oJ))
def JK (p0:(List dC)×Unit):Option dS :=
 (Jh p0.1 (ae p0.1) 0 p0).bind (Sum.elim (fun y1 =>
 some ((),(((bz (ae y1.2.2.2.1.1) 6),()),()))
 ) (fun y1 =>
 some ((),(y1,()))
 ))
def Z3:Su:=⟨[.c true [gk]],[(false,[.bool])],true,.inl fun x=>JK x.1⟩
theorem WK:ar Tryz.prog 100 Z3 :=
 fl (ac RD an) [.d 2 .bool] [(0,⟨[.d 6 gk,.d 7 ki,.d 8 ki,.box 1 [(false,gk)]],ai (cf oJ)⟩)] [] Tryz.f100 (lp [0] (sc cX sn))
def oZ (t0:List UInt8) (t3 t4:Int):Rd Te Unit :=
 cond (au t4 (ae t0)) (
 cond (aZ t4 t0) (
 some (.inl (t0,(zB .i64 (jO .i64 (A0 .i64 t3 (bw .i64 (dq t0 t4))) 16777619) 4294967295),(aq .i64 t4 1),()))
 ) none
 ) (
 some (.inr (.inl (t0,t3,t4,())))
 )
def Im:=rb (ai (ff oZ))
def Nz (p0:List UInt8):Option gX :=
 (Im p0 2166136261 0).bind (Sum.elim (fun y1 =>
 some ((),((y1.2.1,()),()))
 ) (fun _ =>
 none
 ))
def aaO:Su:=⟨[.c false [.str]],[(false,[ki])],true,.inl fun x=>Nz x.1.1⟩
theorem Xc:ar Tryz.prog 163 aaO :=
 fl an [] [(0,⟨[.d 0 .str,.d 3 ki,.d 4 ki],ai (ff oZ)⟩)] [] Tryz.f163 (lp [0] (sc cX sn))
def Bc (p0:List UInt8) (p1:Int):Option gX :=
 cond (au p1 1) (
 c6
 ) (
 (Nz p0).bind fun y1 =>
 cond (!(ak p1 0)) (
 some ((),(((fW y1.2.1.1 p1),()),()))
 ) none
 )
def aaY:Su:=⟨[.c false [.str],.c false [ki]],[(false,[ki])],true,.inl fun x=>Bc x.1.1 x.2.1.1⟩
theorem Pr:ar Tryz.prog 101 aaY :=
 fq (ac Xc an) Tryz.f101
def vj (t0:List fV) (t3:Int) (t11:List fV) (t12 t13:Int) (t23:List dC) (t24 t25:Int) (b4:Int×(List dC)×Unit):Rd ((List fV)×Int×(List fV)×Int×Int×(List dC)×Int×Int×WA×Unit) Y2 :=
 cond (au t25 t24) (
 cond (aZ t25 t23) (
 (Bc (gt d59 t23 t25).1 (ae t0)).bind fun y1 =>
 cond (!(ak y1.2.1.1 t3)) (
 some (.inr (.inr (false,())))
 ) (
 cond (au 0 t25) (
 let u1:=(aI .i64 t25 1)
 cond (aZ u1 b4.2.1) (
 cond (!(jU (gt d59 b4.2.1 u1).1 (gt d59 t23 t25).1)) (
 some (.inr (.inr (false,())))
 ) (
 some (.inl (t0,t3,t11,t12,t13,t23,t24,(aq .i64 t25 1),b4,()))
 )
 ) none
 ) (
 some (.inl (t0,t3,t11,t12,t13,t23,t24,(aq .i64 t25 1),b4,()))
 )
 )
 ) none
 ) (
 some (.inr (.inl (t0,t3,t11,t12,t13,t23,t24,t25,b4,())))
 )
def Py:=T6 (ai (D9 vj))
def wZ (t0 t11:List fV) (t12 t13:Int):Rd ((List fV)×(List fV)×Int×Int×Unit) Y2 :=
 cond (au t13 t12) (
 cond (aZ t13 t11) (
 let u1:=(gt d89 t11 t13)
 (pU u1.1 (-1) 11).bind fun y1 =>
 cond (!y1.2.1.1) (
 some (.inr (.inr (false,())))
 ) (
 (Py t0 t13 t11 t12 t13 u1.2.1 (ae u1.2.1) 0 u1).bind (Sum.elim (fun y2 =>
 some (.inl (y2.1,y2.2.2.1,y2.2.2.2.1,(aq .i64 y2.2.2.2.2.1 1),()))
 ) (fun y2 =>
 some (.inr (.inr (y2.1,())))
 ))
 )
 ) none
 ) (
 some (.inr (.inl (t0,t11,t12,t13,())))
 )
def VW:=kq (ai (cf wZ))
def XB (p0:List fV):Option dS :=
 let u1:=(ae p0)
 (pU u1 1 5).bind fun y1 =>
 cond (!y1.2.1.1) (
 c0
 ) (
 (VW p0 p0 u1 0).bind (Sum.elim (fun y2 =>
 (Nr y2.1).bind fun y3 =>
 (JK y3.2.1).bind fun y4 =>
 some ((),(y4.2.1,()))
 ) (fun y2 =>
 some ((),(y2,()))
 ))
 )
def s57:Su:=⟨[.c false [j9]],[(false,[.bool])],true,.inl fun x=>XB x.1.1⟩
theorem Yt:ar Tryz.prog 57 s57 :=
 fl (ac nz (ac UQ (ac WK (ac Pr an)))) [.d 2 .bool] [(2,⟨[.d 0 j9,.d 3 ki,.d 11 j9,.d 12 ki,.d 13 ki,.d 23 gk,.d 24 ki,.d 25 ki,.box 4 [(false,ki),(false,gk)]],ai (D9 vj)⟩),(0,⟨[.d 0 j9,.d 11 j9,.d 12 ki,.d 13 ki],ai (cf wZ)⟩)] [] Tryz.f57 (lp [0] (sc (lp [2] (sc cX sn)) sn))
def n9 (t1:Int) (t7:List R3) (t8 t9:Int):Rd (Int×(List R3)×Int×Int×Unit) Y2 :=
 cond (au t9 t8) (
 cond (aZ t9 t7) (
 cond (ak (gt d3 t7 t9).1 t1) (
 some (.inr (.inr (true,())))
 ) (
 some (.inl (t1,t7,t8,(aq .i64 t9 1),()))
 )
 ) none
 ) (
 some (.inr (.inl (t1,t7,t8,t9,())))
 )
def QS:=kq (ai (cf n9))
def Nk (p0:List R3) (p1:Int):Option dS :=
 (QS p1 p0 (ae p0) 0).bind (Sum.elim (fun _ =>
 c0
 ) (fun y1 =>
 some ((),(y1,()))
 ))
def ZY:Su:=⟨[.c false [q3],.c false [ki]],[(false,[.bool])],true,.inl fun x=>Nk x.1.1 x.2.1.1⟩
theorem VB:ar Tryz.prog 114 ZY :=
 fl an [.d 4 .bool] [(0,⟨[.d 1 ki,.d 7 q3,.d 8 ki,.d 9 ki],ai (cf n9)⟩)] [] Tryz.f114 (lp [0] (sc cX sn))
def uT (t1:Int) (t5:List R3) (t11:List jl) (t12 t13:Int) (t23:List R3) (t24 t25:Int):Rd (Int×(List R3)×(List jl)×Int×Int×(List R3)×Int×Int×Unit) Y2 :=
 cond (au t25 t24) (
 cond (aZ t25 t23) (
 let u1:=(gt d3 t23 t25)
 cond (ak u1.1 (-1)) (
 let u2:=(aq .i64 t25 1)
 some (.inl (t1,t5,t11,t12,t13,t23,t24,u2,()))
 ) (
 cond (bz t1 u1.1) (
 some (.inr (.inr (false,())))
 ) (
 (Nk t5 u1.1).bind fun y1 =>
 cond y1.2.1.1 (
 some (.inr (.inr (false,())))
 ) (
 cond (cO 8 t5 [u1]) (
 let u2:=(aq .i64 t25 1)
 some (.inl (t1,(lT t5 [u1]),t11,t12,t13,t23,t24,u2,()))
 ) none
 )
 )
 )
 ) none
 ) (
 some (.inr (.inl (t1,t5,t11,t12,t13,t23,t24,t25,())))
 )
def PZ:=Tj (ai (yF uT))
def xj (t1:Int) (t5:List R3) (t11:List jl) (t12 t13:Int):Rd (Int×(List R3)×(List jl)×Int×Int×Unit) Y2 :=
 cond (au t13 t12) (
 cond (aZ t13 t11) (
 let u1:=(gt d62 t11 t13)
 (PZ t1 t5 t11 t12 t13 [(u1.2.2.2.2.1,()),(u1.2.2.2.2.2.1,()),(u1.2.2.2.2.2.2.1,())] (ae [(u1.2.2.2.2.1,()),(u1.2.2.2.2.2.1,()),(u1.2.2.2.2.2.2.1,())]) 0).bind (Sum.elim (fun y1 =>
 some (.inl (y1.1,y1.2.1,y1.2.2.1,y1.2.2.2.1,(aq .i64 y1.2.2.2.2.1 1),()))
 ) (fun y1 =>
 some (.inr (.inr (y1.1,())))
 ))
 ) none
 ) (
 some (.inr (.inl (t1,t5,t11,t12,t13,())))
 )
def XA:=xI (ai (eS xj))
def XO (p0:List jl) (p1:Int):Option dS :=
 (XA p1 [] p0 (ae p0) 0).bind (Sum.elim (fun _ =>
 c2
 ) (fun y1 =>
 some ((),(y1,()))
 ))
def s59:Su:=⟨[.c false [nr],.c false [ki]],[(false,[.bool])],true,.inl fun x=>XO x.1.1 x.2.1.1⟩
theorem abo:ar Tryz.prog 59 s59 :=
 fl (ac VB an) [.d 4 .bool] [(2,⟨[.d 1 ki,.own 5 q3,.d 11 nr,.d 12 ki,.d 13 ki,.own 23 q3,.d 24 ki,.d 25 ki],ai (yF uT)⟩),(0,⟨[.d 1 ki,.own 5 q3,.d 11 nr,.d 12 ki,.d 13 ki],ai (eS xj)⟩)] [] Tryz.f59 (lp [0] (sc (lp [2] (sc cX sn)) sn))
def L6 (p0:(List R5)×Int×(List R3)×Int×Int×Int×Int×Int×(List R5)×Unit):Option dS :=
 cond (ak p0.2.1 1) (
 let u1:=(ae p0.2.2.1)
 some ((),(((cond (bz 0 p0.2.2.2.1) (au p0.2.2.2.1 u1) false),()),()))
 ) (
 cond (ak p0.2.1 2) (
 let u1:=(ae p0.2.2.1)
 some ((),(((cond (ak p0.2.2.2.1 u1) (au 0 u1) false),()),()))
 ) (
 cond (ak p0.2.1 3) (
 let u1:=(ae p0.2.2.1)
 (pU p0.2.2.2.1 1 u1).bind fun y1 =>
 some ((),(y1.2.1,()))
 ) (
 some ((),(((ak p0.2.2.2.1 0),()),()))
 )
 )
 )
def aam:Su:=⟨[.c true [q5,ki,q3,ki,ki,ki,ki,ki,q5]],[(false,[.bool])],true,.inl fun x=>L6 x.1⟩
theorem UU:ar Tryz.prog 115 aam :=
 fq (ac nz an) Tryz.f115
def pD (t0:List R5) (t1 t2:Int) (t9:List UInt8) (t10:Int):Rd ((List R5)×Int×Int×(List UInt8)×Int×Unit) Unit :=
 cond (au t10 (aq .i64 t1 (lW .i64 (aq .i64 t2 1) 2))) (
 cond (aZ t10 t0) (
 cond (aZ t10 t0) (
 let u1:=(bw .i64 (gt d5 t0 t10).1)
 let u2:=(strOf [((bw .u8 (aq .i64 48 (lW .i64 u1 16))),()),((bw .u8 (aq .i64 48 (fW u1 16))),())])
 cond (bh t9 u2) (
 some (.inl (t0,t1,t2,(dh t9 u2),(aq .i64 t10 1),()))
 ) none
 ) none
 ) none
 ) (
 some (.inr (.inl (t0,t1,t2,t9,t10,())))
 )
def JY:=xI (ai (eS pD))
def xh (p0:List R5) (p1 p2:Int):Option Ty :=
 let u1:=(ae p0)
 cond (cond (cond (cond (au p2 1) true (au 38 p2)) true (au p1 0)) true (au u1 p1)) (
 c4
 ) (
 cond (au (aI .i64 u1 p1) (lW .i64 (aq .i64 p2 1) 2)) (
 c4
 ) (
 (JY p0 p1 p2 [] p1).bind (Sum.elim (fun y1 =>
 cond (ak (fW y1.2.2.1 2) 1) (
 cond (aZ 0 y1.2.2.2.1) (
 cond (!(ak (dq y1.2.2.2.1 0) 48)) (
 c4
 ) (
 let u2:=(ae y1.2.2.2.1)
 cond (dj 1 u2 y1.2.2.2.1) (
 let u3:=(sub y1.2.2.2.1 1 u2)
 (qO u3).bind fun y2 =>
 cond (!y2.2.1.1) (
 c4
 ) (
 some ((),((u3,()),((aq .i64 y1.2.1 (lW .i64 (aq .i64 y1.2.2.1 1) 2)),()),(true,()),()))
 )
 ) none
 )
 ) none
 ) (
 (qO y1.2.2.2.1).bind fun y2 =>
 cond (!y2.2.1.1) (
 c4
 ) (
 some ((),((y1.2.2.2.1,()),((aq .i64 y1.2.1 (lW .i64 (aq .i64 y1.2.2.1 1) 2)),()),(true,()),()))
 )
 )
 ) (fun _ =>
 none
 ))
 )
 )
def ZC:Su:=⟨[.c false [q5],.c false [ki],.c false [ki]],[(false,[.str]),(false,[ki]),(false,[.bool])],true,.inl fun x=>xh x.1.1 x.2.1.1 x.2.2.1.1⟩
theorem HL:ar Tryz.prog 180 ZC :=
 fl (ac tT an) [] [(0,⟨[.d 0 q5,.d 1 ki,.d 2 ki,.d 9 .str,.d 10 ki],ai (eS pD)⟩)] [] Tryz.f180 (lp [0] (sc cX sn))
def su (t0:List R5) (t1:Int) (t7:List R3) (t8:Int):Rd ((List R5)×Int×(List R3)×Int×Unit) Unit :=
 cond (bz t8 64) (
 let u1:=(aI .i64 t8 1)
 let u2:=(aq .i64 t1 (lW .i64 u1 8))
 cond (aZ u2 t0) (
 let u3:=(aI .i64 7 (fW u1 8))
 cond (bz 0 u3) (
 cond (ak (fW (ie .i64 (bw .i64 (gt d5 t0 u2).1) u3) 2) 1) (
 cond (cO 8 t7 [(t8,())]) (
 let u4:=(aq .i64 t8 1)
 some (.inl (t0,t1,(lT t7 [(t8,())]),u4,()))
 ) none
 ) (
 let u4:=(aq .i64 t8 1)
 some (.inl (t0,t1,t7,u4,()))
 )
 ) none
 ) none
 ) (
 some (.inr (.inl (t0,t1,t7,t8,())))
 )
def HI:=kq (ai (cf su))
def Dv (p0:List R5) (p1:Int):Option X6 :=
 cond (cond (au p1 0) true (au (aI .i64 (ae p0) 8) p1)) (
 XM
 ) (
 (HI p0 p1 [] 1).bind (Sum.elim (fun y1 =>
 some ((),((y1.2.2.1,()),((aq .i64 y1.2.1 8),()),(true,()),()))
 ) (fun _ =>
 none
 ))
 )
def abx:Su:=⟨[.c false [q5],.c false [ki]],[(false,[q3]),(false,[ki]),(false,[.bool])],true,.inl fun x=>Dv x.1.1 x.2.1.1⟩
theorem V8:ar Tryz.prog 225 abx :=
 fl an [] [(0,⟨[.d 0 q5,.d 1 ki,.own 7 q3,.d 8 ki],ai (cf su)⟩)] [] Tryz.f225 (lp [0] (sc cX sn))
def FW (p0:Int):Option gX :=
 cond (ak p0 3) (
 c8
 ) (
 cond (ak p0 4) (
 c8
 ) (
 cond (ak p0 7) (
 c8
 ) (
 cond (ak p0 11) (
 c8
 ) (
 cond (ak p0 14) (
 c8
 ) (
 cond (ak p0 49) (
 c8
 ) (
 cond (ak p0 37) (
 c7
 ) (
 cond (ak p0 38) (
 c7
 ) (
 cond (ak p0 39) (
 c7
 ) (
 cond (ak p0 41) (
 c7
 ) (
 cond (ak p0 95) (
 c7
 ) (
 cond (ak p0 2) (
 XE
 ) (
 cond (ak p0 102) (
 c12
 ) (
 cond (ak p0 103) (
 c12
 ) (
 cond (ak p0 48) (
 some ((),((5,()),()))
 ) (
 cond (ak p0 54) (
 some ((),((5,()),()))
 ) (
 c6
 )
 )
 )
 )
 )
 )
 )
 )
 )
 )
 )
 )
 )
 )
 )
 )
def abD:Su:=⟨[.c false [ki]],[(false,[ki])],true,.inl fun x=>FW x.1.1⟩
theorem KF:ar Tryz.prog 226 abD :=
 fq an Tryz.f226
def pK (t0:List R5) (t6:Int) (t8:List R3) (t9:Bool) (t28:List R3) (t29 t30:Int):Rd ((List R5)×Int×(List R3)×Bool×(List R3)×Int×Int×Unit) Y19 :=
 cond (au t30 t29) (
 cond (aZ t30 t28) (
 let u1:=(gt d3 t28 t30)
 cond (ak u1.1 1) (
 let u2:=(aq .i64 t30 1)
 some (.inl (t0,t6,t8,true,t28,t29,u2,()))
 ) (
 cond (cO 8 t8 [u1]) (
 let u2:=(aq .i64 t30 1)
 some (.inl (t0,t6,(lT t8 [u1]),t9,t28,t29,u2,()))
 ) none
 )
 ) none
 ) (
 some (.inr (.inl (t0,t6,t8,t9,t28,t29,t30,())))
 )
def Ik:=XX (ai (JA pK))
def oV (t8:List R3) (t13:Int) (t56:List R3) (t57 t58:Int):Rd ((List R3)×Int×(List R3)×Int×Int×Unit) Y19 :=
 cond (au t58 t57) (
 cond (aZ t58 t56) (
 cond (cO 8 t8 [((aq .i64 (gt d3 t56 t58).1 64),())]) (
 some (.inl ((lT t8 [((aq .i64 (gt d3 t56 t58).1 64),())]),t13,t56,t57,(aq .i64 t58 1),()))
 ) none
 ) none
 ) (
 some (.inr (.inl (t8,t13,t56,t57,t58,())))
 )
def JQ:=xI (ai (eS oV))
def pk (_:Unit) (t6:Int) (t8:List R3) (t70 t71:Int):Rd (Unit×Int×(List R3)×Int×Int×Unit) Y19 :=
 cond (au t71 t70) (
 cond (aZ t71 t8) (
 (FW (gt d3 t8 t71).1).bind fun y1 =>
 cond (ak y1.2.1.1 0) (
 some (.inr (.inr ([],0,false,())))
 ) (
 some (.inl ((),t6,t8,t70,(aq .i64 t71 1),()))
 )
 ) none
 ) (
 some (.inr (.inl ((),t6,t8,t70,t71,())))
 )
def DL:=xI (ai (eS pk))
def Kd (p0:List R5):Option X6 :=
 (Dv p0 2).bind fun y1 =>
 cond (!y1.2.2.2.1.1) (
 XM
 ) (
 (Ik p0 y1.2.2.1.1 [] false y1.2.1.1 (ae y1.2.1.1) 0).bind (Sum.elim (fun y2 =>
 cond y2.2.2.2.1 (
 (Dv y2.1 y2.2.1).bind fun y3 =>
 let u1:=(ae y3.2.1.1)
 cond (cond (!y3.2.2.2.1.1) true (ak u1 0)) (
 XM
 ) (
 (JQ y2.2.2.1 y3.2.2.1.1 y3.2.1.1 u1 0).bind (Sum.elim (fun y4 =>
 (DL () y4.2.1 y4.1 (ae y4.1) 0).bind (Sum.elim (fun y5 =>
 some ((),((y5.2.2.1,()),(y5.2.1,()),(true,()),()))
 ) (fun y5 =>
 some ((),((y5.1,()),(y5.2.1,()),(y5.2.2.1,()),()))
 ))
 ) (fun y4 =>
 some ((),((y4.1,()),(y4.2.1,()),(y4.2.2.1,()),()))
 ))
 )
 ) (
 (DL () y2.2.1 y2.2.2.1 (ae y2.2.2.1) 0).bind (Sum.elim (fun y3 =>
 some ((),((y3.2.2.1,()),(y3.2.1,()),(true,()),()))
 ) (fun y3 =>
 some ((),((y3.1,()),(y3.2.1,()),(y3.2.2.1,()),()))
 ))
 )
 ) (fun y2 =>
 some ((),((y2.1,()),(y2.2.1,()),(y2.2.2.1,()),()))
 ))
 )
def Yi:Su:=⟨[.c false [q5]],[(false,[q3]),(false,[ki]),(false,[.bool])],true,.inl fun x=>Kd x.1.1⟩
theorem UA:ar Tryz.prog 181 Yi :=
 fl (ac V8 (ac KF an)) [.own 2 q3,.d 3 ki,.d 4 .bool] [(0,⟨[.d 0 q5,.d 6 ki,.own 8 q3,.d 9 .bool,.own 28 q3,.d 29 ki,.d 30 ki],ai (JA pK)⟩),(2,⟨[.own 8 q3,.d 13 ki,.own 56 q3,.d 57 ki,.d 58 ki],ai (eS oV)⟩),(4,⟨[.al 69 8,.d 6 ki,.own 8 q3,.d 70 ki,.d 71 ki],ai (eS pk)⟩)] [] Tryz.f181 (lp [0,2,4] (sc cX (sc cX (sc cX sn))))
def Ie (p0:Int):Option gX :=
 cond (ak p0 2) (
 some ((),((19,()),()))
 ) (
 cond (ak p0 3) (
 ZP
 ) (
 cond (ak p0 11) (
 ZP
 ) (
 cond (ak p0 38) (
 ZP
 ) (
 cond (ak p0 4) (
 Y9
 ) (
 cond (ak p0 37) (
 Y9
 ) (
 cond (ak p0 95) (
 Y9
 ) (
 cond (ak p0 7) (
 some ((),((10,()),()))
 ) (
 cond (ak p0 14) (
 c12
 ) (
 cond (ak p0 39) (
 c7
 ) (
 cond (ak p0 41) (
 some ((),((8,()),()))
 ) (
 cond (ak p0 49) (
 XE
 ) (
 cond (ak p0 102) (
 some ((),((20,()),()))
 ) (
 cond (ak p0 103) (
 some ((),((20,()),()))
 ) (
 cond (ak p0 48) (
 some ((),((60,()),()))
 ) (
 cond (ak p0 54) (
 some ((),((60,()),()))
 ) (
 c6
 )
 )
 )
 )
 )
 )
 )
 )
 )
 )
 )
 )
 )
 )
 )
 )
def ZZ:Su:=⟨[.c false [ki]],[(false,[ki])],true,.inl fun x=>Ie x.1.1⟩
theorem Qe:ar Tryz.prog 227 ZZ :=
 fq an Tryz.f227
def T1 (p0:Int):Option gX :=
 cond (ak p0 3) (
 c7
 ) (
 cond (ak p0 4) (
 c7
 ) (
 cond (ak p0 5) (
 XE
 ) (
 c6
 )
 )
 )
def aaT:Su:=⟨[.c false [ki]],[(false,[ki])],true,.inl fun x=>T1 x.1.1⟩
theorem Xr:ar Tryz.prog 228 aaT :=
 fq an Tryz.f228
def oM (t0:List UInt8) (t4 t5:Int):Rd Te Unit :=
 cond (au t5 (ae t0)) (
 cond (aZ t5 t0) (
 some (.inl (t0,(aI .i64 (aq .i64 (jO .i64 t4 10) (bw .i64 (dq t0 t5))) 48),(aq .i64 t5 1),()))
 ) none
 ) (
 some (.inr (.inl (t0,t4,t5,())))
 )
def JH:=rb (ai (ff oM))
def tY (p0:List UInt8):Option OX :=
 (qO p0).bind fun y1 =>
 cond (cond (!y1.2.1.1) true (au 18 (ae p0))) (
 c9
 ) (
 (JH p0 0 0).bind (Sum.elim (fun y2 =>
 some ((),((y2.2.1,()),(true,()),()))
 ) (fun _ =>
 none
 ))
 )
def ab0:Su:=⟨[.c false [.str]],[(false,[ki]),(false,[.bool])],true,.inl fun x=>tY x.1.1⟩
theorem PV:ar Tryz.prog 205 ab0 :=
 fl (ac tT an) [] [(0,⟨[.d 0 .str,.d 4 ki,.d 5 ki],ai (ff oM)⟩)] [] Tryz.f205 (lp [0] (sc cX sn))
def Ia (p0:List R5) (p1 p2:Int):Option (Unit×(Y1×Y1×Y2×Unit)) :=
 cond (cond (!(ak p2 2)) (!(ak p2 3)) false) (
 Zh
 ) (
 (xh p0 p1 p2).bind fun y1 =>
 (tY y1.2.1.1).bind fun y2 =>
 some ((),(y2.2.1,y1.2.2.1,y1.2.2.2.1,()))
 )
def abk:Su:=⟨[.c false [q5],.c false [ki],.c false [ki]],[(false,[ki]),(false,[ki]),(false,[.bool])],true,.inl fun x=>Ia x.1.1 x.2.1.1 x.2.2.1.1⟩
theorem VU:ar Tryz.prog 229 abk :=
 fq (ac HL (ac PV an)) Tryz.f229
def oU (t0:List UInt8) (t3:Int):Rd Wd Y2 :=
 cond (au t3 (ae t0)) (
 cond (aZ t3 t0) (
 let u1:=(dq t0 t3)
 cond (au u1 32) (
 some (.inr (.inr (false,())))
 ) (
 cond (aZ t3 t0) (
 cond (au 126 u1) (
 some (.inr (.inr (false,())))
 ) (
 some (.inl (t0,(aq .i64 t3 1),()))
 )
 ) none
 )
 ) none
 ) (
 some (.inr (.inl (t0,t3,())))
 )
def Kq:=PO (ai (wW oU))
def za (p0:List UInt8):Option dS :=
 (Kq p0 0).bind (Sum.elim (fun _ =>
 c2
 ) (fun y1 =>
 some ((),(y1,()))
 ))
def YW:Su:=⟨[.c false [.str]],[(false,[.bool])],true,.inl fun x=>za x.1.1⟩
theorem Qj:ar Tryz.prog 230 YW :=
 fl an [.d 2 .bool] [(0,⟨[.d 0 .str,.d 3 ki],ai (wW oU)⟩)] [] Tryz.f230 (lp [0] (sc cX sn))
def Oj (p0:List R5) (p1 p2:Int):Option Ty :=
 (FW p2).bind fun y1 =>
 (Ie p2).bind fun y2 =>
 cond (cond (ak y1.2.1.1 0) true (au p1 0)) (
 c4
 ) (
 let u1:=(T1 y1.2.1.1)
 Option.bind u1 fun y3 =>
 cond (au 0 y3.2.1.1) (
 Option.bind u1 fun y4 =>
 (Ia p0 p1 y4.2.1.1).bind fun y5 =>
 cond (!y5.2.2.2.1.1) (
 c4
 ) (
 (pU y5.2.1.1 1 y2.2.1.1).bind fun y6 =>
 cond (!y6.2.1.1) (
 c4
 ) (
 let u2:=(cond (ak y1.2.1.1 1) true (ak y1.2.1.1 3))
 cond u2 (
 (xh p0 y5.2.2.1.1 y5.2.1.1).bind fun y7 =>
 some ((),(y7.2.1,y7.2.2.1,y7.2.2.2.1,()))
 ) (
 let u3:=(ae p0)
 cond (cond (au u3 y5.2.2.1.1) true (au (aI .i64 u3 y5.2.2.1.1) y5.2.1.1)) (
 c4
 ) (
 let u4:=(aq .i64 y5.2.2.1.1 y5.2.1.1)
 let u5:=(dj y5.2.2.1.1 u4 p0)
 cond u5 (
 let u6:=(strOf (sub p0 y5.2.2.1.1 u4))
 (za u6).bind fun y7 =>
 cond (!y7.2.1.1) (
 c4
 ) (
 cond u5 (
 some ((),((u6,()),(u4,()),(true,()),()))
 ) none
 )
 ) none
 )
 )
 )
 )
 ) (
 let u2:=(cond (ak y1.2.1.1 1) true (ak y1.2.1.1 3))
 cond u2 (
 (xh p0 p1 y2.2.1.1).bind fun y4 =>
 some ((),(y4.2.1,y4.2.2.1,y4.2.2.2.1,()))
 ) (
 let u3:=(ae p0)
 cond (cond (au u3 p1) true (au (aI .i64 u3 p1) y2.2.1.1)) (
 c4
 ) (
 let u4:=(aq .i64 p1 y2.2.1.1)
 let u5:=(dj p1 u4 p0)
 cond u5 (
 let u6:=(strOf (sub p0 p1 u4))
 (za u6).bind fun y4 =>
 cond (!y4.2.1.1) (
 c4
 ) (
 cond u5 (
 some ((),((u6,()),(u4,()),(true,()),()))
 ) none
 )
 ) none
 )
 )
 )
 )
def ZD:Su:=⟨[.c false [q5],.c false [ki],.c false [ki]],[(false,[.str]),(false,[ki]),(false,[.bool])],true,.inl fun x=>Oj x.1.1 x.2.1.1 x.2.2.1.1⟩
theorem Xv:ar Tryz.prog 182 ZD :=
 fq (ac nz (ac HL (ac KF (ac Qe (ac Xr (ac VU (ac Qj an))))))) Tryz.f182
def nK (t0:List R5) (t8:Int) (t35:List R3) (t36 t37:Int) (b2 b9:(List UInt8)×(List ik)×Unit):Rd ((List R5)×Int×(List R3)×Int×Int×CC×CC×Unit) XK :=
 cond (au t37 t36) (
 cond (aZ t37 t35) (
 (Oj t0 t8 (gt d3 t35 t37).1).bind fun y1 =>
 cond (!y1.2.2.2.1.1) (
 some (.inr (.inr (3,([],[],()),())))
 ) (
 cond (cO 24 b9.2.1 [((gt d3 t35 t37).1,y1.2.1.1,())]) (
 some (.inl (t0,y1.2.2.1.1,t35,t36,(aq .i64 t37 1),b2,(b9.1,(lT b9.2.1 [((gt d3 t35 t37).1,y1.2.1.1,())]),()),()))
 ) none
 )
 ) none
 ) (
 some (.inr (.inl (t0,t8,t35,t36,t37,b2,b9,())))
 )
def JM:=XX (ai (JA nK))
def Js (p0:List R5):Option (Unit×(CC×Y1×Unit)) :=
 (xh p0 0 4).bind fun y1 =>
 cond (!y1.2.2.2.1.1) (
 some ((),(([],[],()),(1,()),()))
 ) (
 (Kd p0).bind fun y2 =>
 cond (!y2.2.2.2.1.1) (
 ZB
 ) (
 (JM p0 y2.2.2.1.1 y2.2.1.1 (ae y2.2.1.1) 0 ([],[],()) (y1.2.1.1,[],())).bind (Sum.elim (fun y3 =>
 cond (!(ak y3.2.1 (ae y3.1))) (
 Yj
 ) (
 some ((),(y3.2.2.2.2.2.2.1,(0,()),()))
 )
 ) (fun y3 =>
 some ((),(y3.2.1,(y3.1,()),()))
 ))
 )
 )
def aad:Su:=⟨[.c false [q5]],[(true,[.str,ig]),(false,[ki])],true,.inl fun x=>Js x.1.1⟩
theorem O0:ar Tryz.prog 127 aad :=
 fl (ac HL (ac UA (ac Xv an))) [.d 3 ki,.box 2 [(false,.str),(true,ig)]] [(0,⟨[.d 0 q5,.d 8 ki,.own 35 q3,.d 36 ki,.d 37 ki,.box 2 [(false,.str),(true,ig)],.box 9 [(false,.str),(true,ig)]],ai (JA nK)⟩)] [] Tryz.f127 (lp [0] (sc cX sn))
def LQ (p0:Int) (p1:List UInt8):Option dS :=
 (Ie p0).bind fun y1 =>
 (FW p0).bind fun y2 =>
 cond (ak y2.2.1.1 1) (
 let u1:=(qO p1)
 Option.bind u1 fun y3 =>
 let u2:=(ae p1)
 some ((),(((cond y3.2.1.1 (ak u2 y1.2.1.1) false),()),()))
 ) (
 cond (ak y2.2.1.1 2) (
 let u1:=(za p1)
 Option.bind u1 fun y3 =>
 let u2:=(ae p1)
 some ((),(((cond y3.2.1.1 (ak u2 y1.2.1.1) false),()),()))
 ) (
 cond (ak y2.2.1.1 3) (
 let u1:=(qO p1)
 Option.bind u1 fun y3 =>
 let u2:=(ae p1)
 some ((),(((cond y3.2.1.1 (bz u2 y1.2.1.1) false),()),()))
 ) (
 cond (ak y2.2.1.1 4) (
 let u1:=(za p1)
 Option.bind u1 fun y3 =>
 cond y3.2.1.1 (
 let u2:=(ae p1)
 let u3:=(pU u2 1 y1.2.1.1)
 Option.bind u3 fun y4 =>
 some ((),(y4.2.1,()))
 ) (
 c0
 )
 ) (
 cond (ak y2.2.1.1 5) (
 let u1:=(za p1)
 Option.bind u1 fun y3 =>
 cond y3.2.1.1 (
 let u2:=(ae p1)
 let u3:=(pU u2 1 y1.2.1.1)
 Option.bind u3 fun y4 =>
 some ((),(y4.2.1,()))
 ) (
 c0
 )
 ) (
 c0
 )
 )
 )
 )
 )
def Z8:Su:=⟨[.c false [ki],.c false [.str]],[(false,[.bool])],true,.inl fun x=>LQ x.1.1 x.2.1.1⟩
theorem TA:ar Tryz.prog 256 Z8 :=
 fq (ac nz (ac tT (ac KF (ac Qe (ac Qj an))))) Tryz.f256
def ph (t16:List ik) (t17 t18:Int) (b1:(List UInt8)×(List ik)×Unit):Rd ((List ik)×Int×Int×CC×Unit) Y2 :=
 cond (au t18 t17) (
 cond (aZ t18 t16) (
 let u1:=(gt d175 t16 t18)
 (LQ u1.1 u1.2.1).bind fun y1 =>
 cond (!y1.2.1.1) (
 some (.inr (.inr (false,())))
 ) (
 cond (au 0 t18) (
 let u2:=(aI .i64 t18 1)
 cond (aZ u2 b1.2.1) (
 cond (bz u1.1 (gt d175 b1.2.1 u2).1) (
 some (.inr (.inr (false,())))
 ) (
 some (.inl (t16,t17,(aq .i64 t18 1),b1,()))
 )
 ) none
 ) (
 some (.inl (t16,t17,(aq .i64 t18 1),b1,()))
 )
 )
 ) none
 ) (
 some (.inr (.inl (t16,t17,t18,b1,())))
 )
def Df:=kq (ai (cf ph))
def Nj (p0:(List UInt8)×(List ik)×Unit):Option dS :=
 (qO p0.1).bind fun y1 =>
 cond (cond (!y1.2.1.1) true (!(ak (ae p0.1) 4))) (
 c0
 ) (
 (Df p0.2.1 (ae p0.2.1) 0 p0).bind (Sum.elim (fun _ =>
 c2
 ) (fun y2 =>
 some ((),(y2,()))
 ))
 )
def YE:Su:=⟨[.c true [.str,ig]],[(false,[.bool])],true,.inl fun x=>Nj x.1⟩
theorem WS:ar Tryz.prog 199 YE :=
 fl (ac tT (ac TA an)) [.d 2 .bool] [(0,⟨[.d 16 ig,.d 17 ki,.d 18 ki,.box 1 [(false,.str),(false,ig)]],ai (cf ph)⟩)] [] Tryz.f199 (lp [0] (sc cX sn))
def Ri (p0:List UInt8):Option dS :=
 some ((),(((cond (cond (bI p0 [48,49,48,48]) true (bI p0 [48,50,48,48])) true (bI p0 [48,50,50,48])),()),()))
def Zl:Su:=⟨[.c false [.str]],[(false,[.bool])],true,.inl fun x=>Ri x.1.1⟩
theorem U2:ar Tryz.prog 200 Zl :=
 fq an Tryz.f200
def oI (t1:Int) (t9:List ik) (t10 t11:Int):Rd (Int×(List ik)×Int×Int×Unit) ((List UInt8)×Bool×Unit) :=
 cond (au t11 t10) (
 cond (aZ t11 t9) (
 let u1:=(gt d175 t9 t11)
 cond (ak u1.1 t1) (
 some (.inr (.inr (u1.2.1,true,())))
 ) (
 some (.inl (t1,t9,t10,(aq .i64 t11 1),()))
 )
 ) none
 ) (
 some (.inr (.inl (t1,t9,t10,t11,())))
 )
def JN:=kq (ai (cf oI))
def jH (p0:(List UInt8)×(List ik)×Unit) (p1:Int):Option (Unit×(Y8×Y2×Unit)) :=
 (JN p1 p0.2.1 (ae p0.2.1) 0).bind (Sum.elim (fun _ =>
 some ((),(([],()),(false,()),()))
 ) (fun y1 =>
 some ((),((y1.1,()),(y1.2.1,()),()))
 ))
def Yu:Su:=⟨[.c true [.str,ig],.c false [ki]],[(false,[.str]),(false,[.bool])],true,.inl fun x=>jH x.1 x.2.1.1⟩
theorem PE:ar Tryz.prog 128 Yu :=
 fl an [.d 4 .str,.d 5 .bool] [(0,⟨[.d 1 ki,.d 9 ig,.d 10 ki,.d 11 ki],ai (cf oI)⟩)] [] Tryz.f128 (lp [0] (sc cX sn))
def BE (p0:Int):Option dS :=
 (pU p0 1 8).bind fun y1 =>
 some ((),(y1.2.1,()))
def aaU:Su:=⟨[.c false [ki]],[(false,[.bool])],true,.inl fun x=>BE x.1.1⟩
theorem EY:ar Tryz.prog 259 aaU :=
 fq (ac nz an) Tryz.f259
def UL  : Option M9 :=
 some ((),(([([],()),([48,49,48,48],()),([48,49,48,48],()),([48,50,50,48],()),([48,50,50,48],()),([48,50,50,48],()),([48,50,48,48],()),([48,49,48,48],()),([48,50,48,48],())],()),()))
def aal:Su:=⟨[],[(false,[q9])],true,.inl fun x=>UL ⟩
theorem TU:ar Tryz.prog 296 aal :=
 fq an Tryz.f296
def GZ (p0:Int):Option xJ :=
 (BE p0).bind fun y1 =>
 cond (!y1.2.1.1) (
 c5
 ) (
 (UL).bind fun y2 =>
 cond (aZ p0 y2.2.1.1) (
 some ((),((gt d9 y2.2.1.1 p0),()))
 ) none
 )
def aao:Su:=⟨[.c false [ki]],[(false,[.str])],true,.inl fun x=>GZ x.1.1⟩
theorem OQ:ar Tryz.prog 257 aao :=
 fq (ac EY (ac TU an)) Tryz.f257
def V6  : Option M9 :=
 some ((),(([([],()),([48,48],()),([48,50],()),([48,49],()),([48,48],()),([50,48],()),([52,48],()),([51,49],()),([57,48],())],()),()))
def abe:Su:=⟨[],[(false,[q9])],true,.inl fun x=>V6 ⟩
theorem VM:ar Tryz.prog 297 abe :=
 fq an Tryz.f297
def RX (p0:Int):Option xJ :=
 (BE p0).bind fun y1 =>
 cond (!y1.2.1.1) (
 c5
 ) (
 (V6).bind fun y2 =>
 cond (aZ p0 y2.2.1.1) (
 some ((),((gt d9 y2.2.1.1 p0),()))
 ) none
 )
def ZW:Su:=⟨[.c false [ki]],[(false,[.str])],true,.inl fun x=>RX x.1.1⟩
theorem WM:ar Tryz.prog 258 ZW :=
 fq (ac EY (ac VM an)) Tryz.f258
def uI (t0 t1:List UInt8) (t5:Int):Rd ((List UInt8)×(List UInt8)×Int×Unit) Y1 :=
 cond (bz t5 8) (
 (GZ t5).bind fun y1 =>
 cond (bI y1.2.1.1 t0) (
 (RX t5).bind fun y2 =>
 cond (dj 0 2 t1) (
 cond (bI y2.2.1.1 (sub t1 0 2)) (
 some (.inr (.inr (t5,())))
 ) (
 some (.inl (t0,t1,(aq .i64 t5 1),()))
 )
 ) none
 ) (
 some (.inl (t0,t1,(aq .i64 t5 1),()))
 )
 ) (
 some (.inr (.inl (t0,t1,t5,())))
 )
def Iu:=rb (ai (ff uI))
def K5 (p0 p1:List UInt8):Option gX :=
 (Iu p0 p1 1).bind (Sum.elim (fun _ =>
 c6
 ) (fun y1 =>
 some ((),(y1,()))
 ))
def abP:Su:=⟨[.c false [.str],.c false [.str]],[(false,[ki])],true,.inl fun x=>K5 x.1.1 x.2.1.1⟩
theorem Wh:ar Tryz.prog 201 abP :=
 fl (ac OQ (ac WM an)) [.d 4 ki] [(0,⟨[.d 0 .str,.d 1 .str,.d 5 ki],ai (ff uI)⟩)] [] Tryz.f201 (lp [0] (sc cX sn))
def GS (p0:Int):Option dS :=
 (BE p0).bind fun y1 =>
 some ((),(((cond y1.2.1.1 (au p0 7) false),()),()))
def aaR:Su:=⟨[.c false [ki]],[(false,[.bool])],true,.inl fun x=>GS x.1.1⟩
theorem Qa:ar Tryz.prog 202 aaR :=
 fq (ac EY an) Tryz.f202
def zA (t0:List UInt8) (t3:Int):Rd Wd Unit :=
 cond (au 0 t3) (
 let u1:=(aI .i64 t3 1)
 cond (aZ u1 t0) (
 cond (ak (dq t0 u1) 32) (
 some (.inl (t0,u1,()))
 ) (
 some (.inr (.inl (t0,t3,())))
 )
 ) none
 ) (
 some (.inr (.inl (t0,t3,())))
 )
def KO:=PO (ai (wW zA))
def My (p0:List UInt8):Option xJ :=
 (KO p0 (ae p0)).bind (Sum.elim (fun y1 =>
 cond (dj 0 y1.2.1 y1.1) (
 some ((),(((sub y1.1 0 y1.2.1),()),()))
 ) none
 ) (fun _ =>
 none
 ))
def ZL:Su:=⟨[.c false [.str]],[(false,[.str])],true,.inl fun x=>My x.1.1⟩
theorem We:ar Tryz.prog 203 ZL :=
 fl an [] [(0,⟨[.d 0 .str,.d 3 ki],ai (wW zA)⟩)] [] Tryz.f203 (lp [0] (sc cX sn))
def Ci (p0:Int):Option dS :=
 (pU p0 1 4).bind fun y1 =>
 some ((),(y1.2.1,()))
def YY:Su:=⟨[.c false [ki]],[(false,[.bool])],true,.inl fun x=>Ci x.1.1⟩
theorem P0:ar Tryz.prog 204 YY :=
 fq (ac nz an) Tryz.f204
def kG (p0:Int×(List UInt8)×(List UInt8)×(List UInt8)×(List UInt8)×(List UInt8)×Int×Int×Unit):Option dS :=
 (BE p0.1).bind fun y1 =>
 cond (!y1.2.1.1) (
 c0
 ) (
 (GZ p0.1).bind fun y2 =>
 cond (!(bI p0.2.2.2.2.2.1 y2.2.1.1)) (
 c0
 ) (
 (so p0.2.1).bind fun y3 =>
 cond (!y3.2.1.1) (
 c0
 ) (
 (qO p0.2.2.2.2.1).bind fun y4 =>
 cond (cond (!y4.2.1.1) true (!(ak (ae p0.2.2.2.2.1) 6))) (
 c0
 ) (
 let u1:=(GS p0.1)
 Option.bind u1 fun y5 =>
 cond y5.2.1.1 (
 (Kr p0.2.2.2.1).bind fun y6 =>
 cond (!y6.2.1.1) (
 c0
 ) (
 Option.bind u1 fun y7 =>
 cond (cond (!y7.2.1.1) (!(bI p0.2.2.2.1 [])) false) (
 c0
 ) (
 let u2:=(Ci p0.1)
 Option.bind u2 fun y8 =>
 cond y8.2.1.1 (
 let u3:=(pU p0.2.2.2.2.2.2.1 0 999999999999)
 Option.bind u3 fun y9 =>
 cond (!y9.2.1.1) (
 c0
 ) (
 Option.bind u2 fun y10 =>
 cond (cond (!y10.2.1.1) (!(ak p0.2.2.2.2.2.2.1 0)) false) (
 c0
 ) (
 cond (ak p0.1 1) (
 let u4:=(pU p0.2.2.2.2.2.2.2.1 0 9999)
 Option.bind u4 fun y11 =>
 cond (!y11.2.1.1) (
 c0
 ) (
 let u5:=(cond (!(ak p0.1 1)) (!(ak p0.2.2.2.2.2.2.2.1 0)) false)
 cond u5 (
 c0
 ) (
 cond (ak p0.1 6) (
 let u6:=(so p0.2.2.1)
 Option.bind u6 fun y12 =>
 cond y12.2.1.1 (
 c2
 ) (
 some ((),(((cond (!(ak p0.1 6)) (bI p0.2.2.1 []) false),()),()))
 )
 ) (
 some ((),(((cond (!(ak p0.1 6)) (bI p0.2.2.1 []) false),()),()))
 )
 )
 )
 ) (
 let u4:=(cond (!(ak p0.1 1)) (!(ak p0.2.2.2.2.2.2.2.1 0)) false)
 cond u4 (
 c0
 ) (
 cond (ak p0.1 6) (
 let u5:=(so p0.2.2.1)
 Option.bind u5 fun y11 =>
 cond y11.2.1.1 (
 c2
 ) (
 some ((),(((cond (!(ak p0.1 6)) (bI p0.2.2.1 []) false),()),()))
 )
 ) (
 some ((),(((cond (!(ak p0.1 6)) (bI p0.2.2.1 []) false),()),()))
 )
 )
 )
 )
 )
 ) (
 Option.bind u2 fun y9 =>
 let u3:=(cond (!y9.2.1.1) (!(ak p0.2.2.2.2.2.2.1 0)) false)
 cond u3 (
 c0
 ) (
 cond (ak p0.1 1) (
 let u4:=(pU p0.2.2.2.2.2.2.2.1 0 9999)
 Option.bind u4 fun y10 =>
 cond (!y10.2.1.1) (
 c0
 ) (
 let u5:=(cond (!(ak p0.1 1)) (!(ak p0.2.2.2.2.2.2.2.1 0)) false)
 cond u5 (
 c0
 ) (
 cond (ak p0.1 6) (
 let u6:=(so p0.2.2.1)
 Option.bind u6 fun y11 =>
 cond y11.2.1.1 (
 c2
 ) (
 some ((),(((cond (!(ak p0.1 6)) (bI p0.2.2.1 []) false),()),()))
 )
 ) (
 some ((),(((cond (!(ak p0.1 6)) (bI p0.2.2.1 []) false),()),()))
 )
 )
 )
 ) (
 let u4:=(cond (!(ak p0.1 1)) (!(ak p0.2.2.2.2.2.2.2.1 0)) false)
 cond u4 (
 c0
 ) (
 cond (ak p0.1 6) (
 let u5:=(so p0.2.2.1)
 Option.bind u5 fun y10 =>
 cond y10.2.1.1 (
 c2
 ) (
 some ((),(((cond (!(ak p0.1 6)) (bI p0.2.2.1 []) false),()),()))
 )
 ) (
 some ((),(((cond (!(ak p0.1 6)) (bI p0.2.2.1 []) false),()),()))
 )
 )
 )
 )
 )
 )
 )
 ) (
 Option.bind u1 fun y6 =>
 cond (cond (!y6.2.1.1) (!(bI p0.2.2.2.1 [])) false) (
 c0
 ) (
 let u2:=(Ci p0.1)
 Option.bind u2 fun y7 =>
 cond y7.2.1.1 (
 let u3:=(pU p0.2.2.2.2.2.2.1 0 999999999999)
 Option.bind u3 fun y8 =>
 cond (!y8.2.1.1) (
 c0
 ) (
 Option.bind u2 fun y9 =>
 let u4:=(cond (!y9.2.1.1) (!(ak p0.2.2.2.2.2.2.1 0)) false)
 cond u4 (
 c0
 ) (
 cond (ak p0.1 1) (
 let u5:=(pU p0.2.2.2.2.2.2.2.1 0 9999)
 Option.bind u5 fun y10 =>
 cond (!y10.2.1.1) (
 c0
 ) (
 let u6:=(cond (!(ak p0.1 1)) (!(ak p0.2.2.2.2.2.2.2.1 0)) false)
 cond u6 (
 c0
 ) (
 cond (ak p0.1 6) (
 let u7:=(so p0.2.2.1)
 Option.bind u7 fun y11 =>
 cond y11.2.1.1 (
 c2
 ) (
 some ((),(((cond (!(ak p0.1 6)) (bI p0.2.2.1 []) false),()),()))
 )
 ) (
 some ((),(((cond (!(ak p0.1 6)) (bI p0.2.2.1 []) false),()),()))
 )
 )
 )
 ) (
 let u5:=(cond (!(ak p0.1 1)) (!(ak p0.2.2.2.2.2.2.2.1 0)) false)
 cond u5 (
 c0
 ) (
 cond (ak p0.1 6) (
 let u6:=(so p0.2.2.1)
 Option.bind u6 fun y10 =>
 cond y10.2.1.1 (
 c2
 ) (
 some ((),(((cond (!(ak p0.1 6)) (bI p0.2.2.1 []) false),()),()))
 )
 ) (
 some ((),(((cond (!(ak p0.1 6)) (bI p0.2.2.1 []) false),()),()))
 )
 )
 )
 )
 )
 ) (
 Option.bind u2 fun y8 =>
 cond (cond (!y8.2.1.1) (!(ak p0.2.2.2.2.2.2.1 0)) false) (
 c0
 ) (
 cond (ak p0.1 1) (
 let u3:=(pU p0.2.2.2.2.2.2.2.1 0 9999)
 Option.bind u3 fun y9 =>
 cond (!y9.2.1.1) (
 c0
 ) (
 let u4:=(cond (!(ak p0.1 1)) (!(ak p0.2.2.2.2.2.2.2.1 0)) false)
 cond u4 (
 c0
 ) (
 cond (ak p0.1 6) (
 let u5:=(so p0.2.2.1)
 Option.bind u5 fun y10 =>
 cond y10.2.1.1 (
 c2
 ) (
 some ((),(((cond (!(ak p0.1 6)) (bI p0.2.2.1 []) false),()),()))
 )
 ) (
 some ((),(((cond (!(ak p0.1 6)) (bI p0.2.2.1 []) false),()),()))
 )
 )
 )
 ) (
 let u3:=(cond (!(ak p0.1 1)) (!(ak p0.2.2.2.2.2.2.2.1 0)) false)
 cond u3 (
 c0
 ) (
 cond (ak p0.1 6) (
 let u4:=(so p0.2.2.1)
 Option.bind u4 fun y9 =>
 cond y9.2.1.1 (
 c2
 ) (
 some ((),(((cond (!(ak p0.1 6)) (bI p0.2.2.1 []) false),()),()))
 )
 ) (
 some ((),(((cond (!(ak p0.1 6)) (bI p0.2.2.1 []) false),()),()))
 )
 )
 )
 )
 )
 )
 )
 )
 )
 )
 )
def aaq:Su:=⟨[.c true [ki,.str,.str,.str,.str,.str,ki,ki]],[(false,[.bool])],true,.inl fun x=>kG x.1⟩
theorem TQ:ar Tryz.prog 206 aaq :=
 fq (ac nz (ac tT (ac Qg (ac OW (ac EY (ac OQ (ac Qa (ac P0 an)))))))) Tryz.f206
def M3 (p0:(List UInt8)×(List ik)×Unit):Option (Unit×(SH×Y1×Unit)) :=
 (Nj p0).bind fun y1 =>
 cond (!y1.2.1.1) (
 c1
 ) (
 (Ri p0.1).bind fun y2 =>
 cond (!y2.2.1.1) (
 c20
 ) (
 (jH p0 3).bind fun y3 =>
 cond (!y3.2.2.1.1) (
 c1
 ) (
 (K5 p0.1 y3.2.1.1).bind fun y4 =>
 (jH p0 2).bind fun y5 =>
 (jH p0 11).bind fun y6 =>
 (GS y4.2.1.1).bind fun y7 =>
 cond y7.2.1.1 (
 (jH p0 38).bind fun y8 =>
 (My y8.2.1.1).bind fun y9 =>
 let u1:=(Ci y4.2.1.1)
 Option.bind u1 fun y10 =>
 cond y10.2.1.1 (
 let u2:=(jH p0 4)
 Option.bind u2 fun y11 =>
 let u3:=(tY y11.2.1.1)
 Option.bind u3 fun y12 =>
 cond (ak y4.2.1.1 1) (
 let u4:=(jH p0 14)
 Option.bind u4 fun y13 =>
 (tY y13.2.1.1).bind fun y14 =>
 cond (ak y4.2.1.1 6) (
 let u5:=(jH p0 103)
 Option.bind u5 fun y15 =>
 let u6:=(cond y3.2.2.1.1 y11.2.2.1.1 false)
 cond (!(cond u6 y13.2.2.1.1 false)) (
 c1
 ) (
 (kG (y4.2.1.1,y5.2.1.1,y15.2.1.1,y9.2.1.1,y6.2.1.1,p0.1,y12.2.1.1,y14.2.1.1,())).bind fun y16 =>
 cond (!y16.2.1.1) (
 c1
 ) (
 some ((),((y4.2.1.1,y5.2.1.1,y15.2.1.1,y9.2.1.1,y6.2.1.1,p0.1,y12.2.1.1,y14.2.1.1,()),(0,()),()))
 )
 )
 ) (
 let u5:=(cond y3.2.2.1.1 y11.2.2.1.1 false)
 cond (!(cond u5 y13.2.2.1.1 false)) (
 c1
 ) (
 (kG (y4.2.1.1,y5.2.1.1,[],y9.2.1.1,y6.2.1.1,p0.1,y12.2.1.1,y14.2.1.1,())).bind fun y15 =>
 cond (!y15.2.1.1) (
 c1
 ) (
 some ((),((y4.2.1.1,y5.2.1.1,[],y9.2.1.1,y6.2.1.1,p0.1,y12.2.1.1,y14.2.1.1,()),(0,()),()))
 )
 )
 )
 ) (
 cond (ak y4.2.1.1 6) (
 let u4:=(jH p0 103)
 Option.bind u4 fun y13 =>
 let u5:=(cond y3.2.2.1.1 y11.2.2.1.1 false)
 cond (!u5) (
 c1
 ) (
 (kG (y4.2.1.1,y5.2.1.1,y13.2.1.1,y9.2.1.1,y6.2.1.1,p0.1,y12.2.1.1,0,())).bind fun y14 =>
 cond (!y14.2.1.1) (
 c1
 ) (
 some ((),((y4.2.1.1,y5.2.1.1,y13.2.1.1,y9.2.1.1,y6.2.1.1,p0.1,y12.2.1.1,0,()),(0,()),()))
 )
 )
 ) (
 let u4:=(cond y3.2.2.1.1 y11.2.2.1.1 false)
 cond (!u4) (
 c1
 ) (
 (kG (y4.2.1.1,y5.2.1.1,[],y9.2.1.1,y6.2.1.1,p0.1,y12.2.1.1,0,())).bind fun y13 =>
 cond (!y13.2.1.1) (
 c1
 ) (
 some ((),((y4.2.1.1,y5.2.1.1,[],y9.2.1.1,y6.2.1.1,p0.1,y12.2.1.1,0,()),(0,()),()))
 )
 )
 )
 )
 ) (
 cond (ak y4.2.1.1 1) (
 let u2:=(jH p0 14)
 Option.bind u2 fun y11 =>
 let u3:=(tY y11.2.1.1)
 Option.bind u3 fun y12 =>
 cond (ak y4.2.1.1 6) (
 let u4:=(jH p0 103)
 Option.bind u4 fun y13 =>
 let u5:=(cond y3.2.2.1.1 y11.2.2.1.1 false)
 cond (!u5) (
 c1
 ) (
 (kG (y4.2.1.1,y5.2.1.1,y13.2.1.1,y9.2.1.1,y6.2.1.1,p0.1,0,y12.2.1.1,())).bind fun y14 =>
 cond (!y14.2.1.1) (
 c1
 ) (
 some ((),((y4.2.1.1,y5.2.1.1,y13.2.1.1,y9.2.1.1,y6.2.1.1,p0.1,0,y12.2.1.1,()),(0,()),()))
 )
 )
 ) (
 let u4:=(cond y3.2.2.1.1 y11.2.2.1.1 false)
 cond (!u4) (
 c1
 ) (
 (kG (y4.2.1.1,y5.2.1.1,[],y9.2.1.1,y6.2.1.1,p0.1,0,y12.2.1.1,())).bind fun y13 =>
 cond (!y13.2.1.1) (
 c1
 ) (
 some ((),((y4.2.1.1,y5.2.1.1,[],y9.2.1.1,y6.2.1.1,p0.1,0,y12.2.1.1,()),(0,()),()))
 )
 )
 )
 ) (
 cond (ak y4.2.1.1 6) (
 let u2:=(jH p0 103)
 Option.bind u2 fun y11 =>
 cond (!y3.2.2.1.1) (
 c1
 ) (
 (kG (y4.2.1.1,y5.2.1.1,y11.2.1.1,y9.2.1.1,y6.2.1.1,p0.1,0,0,())).bind fun y12 =>
 cond (!y12.2.1.1) (
 c1
 ) (
 some ((),((y4.2.1.1,y5.2.1.1,y11.2.1.1,y9.2.1.1,y6.2.1.1,p0.1,0,0,()),(0,()),()))
 )
 )
 ) (
 cond (!y3.2.2.1.1) (
 c1
 ) (
 (kG (y4.2.1.1,y5.2.1.1,[],y9.2.1.1,y6.2.1.1,p0.1,0,0,())).bind fun y11 =>
 cond (!y11.2.1.1) (
 c1
 ) (
 some ((),((y4.2.1.1,y5.2.1.1,[],y9.2.1.1,y6.2.1.1,p0.1,0,0,()),(0,()),()))
 )
 )
 )
 )
 )
 ) (
 let u1:=(Ci y4.2.1.1)
 Option.bind u1 fun y8 =>
 cond y8.2.1.1 (
 let u2:=(jH p0 4)
 Option.bind u2 fun y9 =>
 let u3:=(tY y9.2.1.1)
 Option.bind u3 fun y10 =>
 cond (ak y4.2.1.1 1) (
 let u4:=(jH p0 14)
 Option.bind u4 fun y11 =>
 let u5:=(tY y11.2.1.1)
 Option.bind u5 fun y12 =>
 cond (ak y4.2.1.1 6) (
 let u6:=(jH p0 103)
 Option.bind u6 fun y13 =>
 let u7:=(cond y3.2.2.1.1 y9.2.2.1.1 false)
 cond (!(cond u7 y11.2.2.1.1 false)) (
 c1
 ) (
 (kG (y4.2.1.1,y5.2.1.1,y13.2.1.1,[],y6.2.1.1,p0.1,y10.2.1.1,y12.2.1.1,())).bind fun y14 =>
 cond (!y14.2.1.1) (
 c1
 ) (
 some ((),((y4.2.1.1,y5.2.1.1,y13.2.1.1,[],y6.2.1.1,p0.1,y10.2.1.1,y12.2.1.1,()),(0,()),()))
 )
 )
 ) (
 let u6:=(cond y3.2.2.1.1 y9.2.2.1.1 false)
 cond (!(cond u6 y11.2.2.1.1 false)) (
 c1
 ) (
 (kG (y4.2.1.1,y5.2.1.1,[],[],y6.2.1.1,p0.1,y10.2.1.1,y12.2.1.1,())).bind fun y13 =>
 cond (!y13.2.1.1) (
 c1
 ) (
 some ((),((y4.2.1.1,y5.2.1.1,[],[],y6.2.1.1,p0.1,y10.2.1.1,y12.2.1.1,()),(0,()),()))
 )
 )
 )
 ) (
 cond (ak y4.2.1.1 6) (
 let u4:=(jH p0 103)
 Option.bind u4 fun y11 =>
 let u5:=(cond y3.2.2.1.1 y9.2.2.1.1 false)
 cond (!u5) (
 c1
 ) (
 (kG (y4.2.1.1,y5.2.1.1,y11.2.1.1,[],y6.2.1.1,p0.1,y10.2.1.1,0,())).bind fun y12 =>
 cond (!y12.2.1.1) (
 c1
 ) (
 some ((),((y4.2.1.1,y5.2.1.1,y11.2.1.1,[],y6.2.1.1,p0.1,y10.2.1.1,0,()),(0,()),()))
 )
 )
 ) (
 let u4:=(cond y3.2.2.1.1 y9.2.2.1.1 false)
 cond (!u4) (
 c1
 ) (
 (kG (y4.2.1.1,y5.2.1.1,[],[],y6.2.1.1,p0.1,y10.2.1.1,0,())).bind fun y11 =>
 cond (!y11.2.1.1) (
 c1
 ) (
 some ((),((y4.2.1.1,y5.2.1.1,[],[],y6.2.1.1,p0.1,y10.2.1.1,0,()),(0,()),()))
 )
 )
 )
 )
 ) (
 cond (ak y4.2.1.1 1) (
 let u2:=(jH p0 14)
 Option.bind u2 fun y9 =>
 let u3:=(tY y9.2.1.1)
 Option.bind u3 fun y10 =>
 cond (ak y4.2.1.1 6) (
 let u4:=(jH p0 103)
 Option.bind u4 fun y11 =>
 let u5:=(cond y3.2.2.1.1 y9.2.2.1.1 false)
 cond (!u5) (
 c1
 ) (
 (kG (y4.2.1.1,y5.2.1.1,y11.2.1.1,[],y6.2.1.1,p0.1,0,y10.2.1.1,())).bind fun y12 =>
 cond (!y12.2.1.1) (
 c1
 ) (
 some ((),((y4.2.1.1,y5.2.1.1,y11.2.1.1,[],y6.2.1.1,p0.1,0,y10.2.1.1,()),(0,()),()))
 )
 )
 ) (
 let u4:=(cond y3.2.2.1.1 y9.2.2.1.1 false)
 cond (!u4) (
 c1
 ) (
 (kG (y4.2.1.1,y5.2.1.1,[],[],y6.2.1.1,p0.1,0,y10.2.1.1,())).bind fun y11 =>
 cond (!y11.2.1.1) (
 c1
 ) (
 some ((),((y4.2.1.1,y5.2.1.1,[],[],y6.2.1.1,p0.1,0,y10.2.1.1,()),(0,()),()))
 )
 )
 )
 ) (
 cond (ak y4.2.1.1 6) (
 let u2:=(jH p0 103)
 Option.bind u2 fun y9 =>
 cond (!y3.2.2.1.1) (
 c1
 ) (
 (kG (y4.2.1.1,y5.2.1.1,y9.2.1.1,[],y6.2.1.1,p0.1,0,0,())).bind fun y10 =>
 cond (!y10.2.1.1) (
 c1
 ) (
 some ((),((y4.2.1.1,y5.2.1.1,y9.2.1.1,[],y6.2.1.1,p0.1,0,0,()),(0,()),()))
 )
 )
 ) (
 cond (!y3.2.2.1.1) (
 c1
 ) (
 (kG (y4.2.1.1,y5.2.1.1,[],[],y6.2.1.1,p0.1,0,0,())).bind fun y9 =>
 cond (!y9.2.1.1) (
 c1
 ) (
 some ((),((y4.2.1.1,y5.2.1.1,[],[],y6.2.1.1,p0.1,0,0,()),(0,()),()))
 )
 )
 )
 )
 )
 )
 )
 )
 )
def Ze:Su:=⟨[.c true [.str,ig]],[(true,[ki,.str,.str,.str,.str,.str,ki,ki]),(false,[ki])],true,.inl fun x=>M3 x.1⟩
theorem Xd:ar Tryz.prog 164 Ze :=
 fq (ac PV (ac WS (ac U2 (ac PE (ac Wh (ac Qa (ac We (ac P0 (ac TQ an))))))))) Tryz.f164
def NF (p0:List R5):Option M9 :=
 (Js p0).bind fun y1 =>
 cond (!(ak y1.2.2.1.1 0)) (
 c18
 ) (
 (M3 y1.2.1).bind fun y2 =>
 cond (!(ak y2.2.2.1.1 0)) (
 c18
 ) (
 cond (cond (!(ak y2.2.1.1 6)) true (bI y2.2.1.2.2.1 y2.2.1.2.1)) (
 some ((),(([(y2.2.1.2.1,())],()),()))
 ) (
 cond (jU y2.2.1.2.2.1 y2.2.1.2.1) (
 some ((),(([(y2.2.1.2.2.1,()),(y2.2.1.2.1,())],()),()))
 ) (
 some ((),(([(y2.2.1.2.1,()),(y2.2.1.2.2.1,())],()),()))
 )
 )
 )
 )
def YO:Su:=⟨[.c false [q5]],[(false,[q9])],true,.inl fun x=>NF x.1.1⟩
theorem VV:ar Tryz.prog 103 YO :=
 fq (ac O0 (ac Xd an)) Tryz.f103
def DO (t1:Int) (t5:List R3) (t8 t9:Int) (t12:List R9) (t13 t14:Int):Rd (Int×(List R3)×Int×Int×(List R9)×Int×Int×Unit) Unit :=
 cond (au t9 (ae t5)) (
 cond (aZ t9 t5) (
 cond (au (gt d3 t5 t9).1 t8) (
 some (.inl (t1,t5,t8,(aq .i64 t9 1),t12,t13,t14,()))
 ) (
 some (.inr (.inl (t1,t5,t8,t9,t12,t13,t14,())))
 )
 ) none
 ) (
 some (.inr (.inl (t1,t5,t8,t9,t12,t13,t14,())))
 )
def sx:=XX (ai (JA DO))
def mD (t1:Int) (t5:List R3) (t12:List R9) (t13 t14:Int):Rd (Int×(List R3)×(List R9)×Int×Int×Unit) Unit :=
 cond (au t14 t13) (
 cond (aZ t14 t12) (
 (Bc (gt d9 t12 t14).1 t1).bind fun y1 =>
 (sx t1 t5 y1.2.1.1 0 t12 t13 t14).bind (Sum.elim (fun y2 =>
 let u1:=(ae y2.2.1)
 cond (au y2.2.2.2.1 u1) (
 cond (aZ y2.2.2.2.1 y2.2.1) (
 cond (ak (gt d3 y2.2.1 y2.2.2.2.1).1 y2.2.2.1) (
 let u2:=(aq .i64 y2.2.2.2.2.2.2.1 1)
 some (.inl (y2.1,y2.2.1,y2.2.2.2.2.1,y2.2.2.2.2.2.1,u2,()))
 ) (
 let u2:=(dj 0 y2.2.2.2.1 y2.2.1)
 cond u2 (
 let u3:=(HD y2.2.1 y2.2.2.2.1)
 let u4:=(cO 8 [] u3)
 cond u4 (
 let u5:=(lT [] u3)
 let u6:=(cO 8 u5 [(y2.2.2.1,())])
 cond u6 (
 let u7:=(dj y2.2.2.2.1 u1 y2.2.1)
 cond u7 (
 let u8:=(lT u5 [(y2.2.2.1,())])
 let u9:=(sub y2.2.1 y2.2.2.2.1 u1)
 let u10:=(cO 8 u8 u9)
 cond u10 (
 let u11:=(aq .i64 y2.2.2.2.2.2.2.1 1)
 some (.inl (y2.1,(lT u8 u9),y2.2.2.2.2.1,y2.2.2.2.2.2.1,u11,()))
 ) none
 ) none
 ) none
 ) none
 ) none
 )
 ) none
 ) (
 let u2:=(dj 0 y2.2.2.2.1 y2.2.1)
 cond u2 (
 let u3:=(HD y2.2.1 y2.2.2.2.1)
 let u4:=(cO 8 [] u3)
 cond u4 (
 let u5:=(lT [] u3)
 let u6:=(cO 8 u5 [(y2.2.2.1,())])
 cond u6 (
 let u7:=(dj y2.2.2.2.1 u1 y2.2.1)
 cond u7 (
 let u8:=(lT u5 [(y2.2.2.1,())])
 let u9:=(sub y2.2.1 y2.2.2.2.1 u1)
 let u10:=(cO 8 u8 u9)
 cond u10 (
 let u11:=(aq .i64 y2.2.2.2.2.2.2.1 1)
 some (.inl (y2.1,(lT u8 u9),y2.2.2.2.2.1,y2.2.2.2.2.2.1,u11,()))
 ) none
 ) none
 ) none
 ) none
 ) none
 )
 ) (fun _ =>
 some (.inr (.inr ()))
 ))
 ) none
 ) (
 some (.inr (.inl (t1,t5,t12,t13,t14,())))
 )
def Aq:=xI (ai (eS mD))
def Oq (p0:List R9) (p1:Int):Option OL :=
 (Aq p1 [] p0 (ae p0) 0).bind (Sum.elim (fun y1 =>
 some ((),((y1.2.1,()),()))
 ) (fun _ =>
 none
 ))
def Ys:Su:=⟨[.c false [q9],.c false [ki]],[(false,[q3])],true,.inl fun x=>Oq x.1.1 x.2.1.1⟩
theorem VZ:ar Tryz.prog 102 Ys :=
 fl (ac Pr an) [] [(2,⟨[.d 1 ki,.own 5 q3,.d 8 ki,.d 9 ki,.d 12 q9,.d 13 ki,.d 14 ki],ai (JA DO)⟩),(0,⟨[.d 1 ki,.own 5 q3,.d 12 q9,.d 13 ki,.d 14 ki],ai (eS mD)⟩)] [] Tryz.f102 (lp [0] (sc (lp [2] (sc cX sn)) sn))
def XU (p0:(List R5)×Int×(List R3)×Int×Int×Int×Int×Int×(List R5)×Unit) (p1:Int):Option OL :=
 (NF p0.1).bind fun y1 =>
 (Oq y1.2.1.1 p1).bind fun y2 =>
 some ((),(y2.2.1,()))
def s51:Su:=⟨[.c true [q5,ki,q3,ki,ki,ki,ki,ki,q5],.c false [ki]],[(false,[q3])],true,.inl fun x=>XU x.1 x.2.1.1⟩
theorem ab5:ar Tryz.prog 51 s51 :=
 fq (ac VV (ac VZ an)) Tryz.f51
def oG (t0 t1:List R3) (t12 t13:Int):Rd ((List R3)×(List R3)×Int×Int×Unit) Y2 :=
 cond (au t13 t12) (
 cond (aZ t13 t0) (
 cond (aZ t13 t1) (
 cond (!(ak (gt d3 t0 t13).1 (gt d3 t1 t13).1)) (
 some (.inr (.inr (false,())))
 ) (
 some (.inl (t0,t1,t12,(aq .i64 t13 1),()))
 )
 ) none
 ) none
 ) (
 some (.inr (.inl (t0,t1,t12,t13,())))
 )
def QT:=kq (ai (cf oG))
def MK (p0 p1:List R3):Option dS :=
 let u1:=(ae p0)
 cond (!(ak u1 (ae p1))) (
 c0
 ) (
 (QT p0 p1 u1 0).bind (Sum.elim (fun _ =>
 c2
 ) (fun y1 =>
 some ((),(y1,()))
 ))
 )
def ZS:Su:=⟨[.c false [q3],.c false [q3]],[(false,[.bool])],true,.inl fun x=>MK x.1.1 x.2.1.1⟩
theorem UI:ar Tryz.prog 116 ZS :=
 fl an [.d 4 .bool] [(0,⟨[.d 0 q3,.d 1 q3,.d 12 ki,.d 13 ki],ai (cf oG)⟩)] [] Tryz.f116 (lp [0] (sc cX sn))
def Yg (p0:(List R5)×Int×(List R3)×Int×Int×Int×Int×Int×(List R5)×Unit) (p1:Int):Option dS :=
 (pU p1 1 5).bind fun y1 =>
 let u1:=(ae p0.2.2.2.2.2.2.2.2.1)
 cond (cond (cond (!y1.2.1.1) true (au 300 (ae p0.1))) true (au 200 u1)) (
 c0
 ) (
 (El p0.2.2.2.2.1).bind fun y2 =>
 cond (!y2.2.1.1) (
 c0
 ) (
 (El p0.2.2.2.2.2.2.2.1).bind fun y3 =>
 cond (!y3.2.1.1) (
 c0
 ) (
 (pU p0.2.1 0 5).bind fun y4 =>
 cond (!y4.2.1.1) (
 c0
 ) (
 (L6 p0).bind fun y5 =>
 cond (!y5.2.1.1) (
 c0
 ) (
 cond (cond (ak p0.2.1 0) (au 0 (ae p0.2.2.1)) false) (
 c0
 ) (
 cond (!(ak p0.2.1 0)) (
 (XU p0 p1).bind fun y6 =>
 (MK p0.2.2.1 y6.2.1.1).bind fun y7 =>
 cond (!y7.2.1.1) (
 c0
 ) (
 cond (bz p0.2.1 2) (
 some ((),(((cond (cond (cond (ak p0.2.2.2.2.2.1 (-1)) (ak p0.2.2.2.2.2.2.1 (-1)) false) (ak p0.2.2.2.2.2.2.2.1 0) false) (ak u1 0) false),()),()))
 ) (
 let u2:=(El p0.2.2.2.2.2.1)
 Option.bind u2 fun y8 =>
 cond (cond (!y8.2.1.1) true (au p0.2.2.2.2.2.1 p0.2.2.2.2.1)) (
 c0
 ) (
 cond (ak p0.2.1 5) (
 let u3:=(El p0.2.2.2.2.2.2.1)
 Option.bind u3 fun y9 =>
 some ((),(((cond y9.2.1.1 (bz p0.2.2.2.2.2.1 p0.2.2.2.2.2.2.1) false),()),()))
 ) (
 some ((),(((ak p0.2.2.2.2.2.2.1 (-1)),()),()))
 )
 )
 )
 )
 ) (
 cond (bz p0.2.1 2) (
 some ((),(((cond (cond (cond (ak p0.2.2.2.2.2.1 (-1)) (ak p0.2.2.2.2.2.2.1 (-1)) false) (ak p0.2.2.2.2.2.2.2.1 0) false) (ak u1 0) false),()),()))
 ) (
 let u2:=(El p0.2.2.2.2.2.1)
 Option.bind u2 fun y6 =>
 cond (cond (!y6.2.1.1) true (au p0.2.2.2.2.2.1 p0.2.2.2.2.1)) (
 c0
 ) (
 cond (ak p0.2.1 5) (
 let u3:=(El p0.2.2.2.2.2.2.1)
 Option.bind u3 fun y7 =>
 some ((),(((cond y7.2.1.1 (bz p0.2.2.2.2.2.1 p0.2.2.2.2.2.2.1) false),()),()))
 ) (
 some ((),(((ak p0.2.2.2.2.2.2.1 (-1)),()),()))
 )
 )
 )
 )
 )
 )
 )
 )
 )
 )
def s60:Su:=⟨[.c true [q5,ki,q3,ki,ki,ki,ki,ki,q5],.c false [ki]],[(false,[.bool])],true,.inl fun x=>Yg x.1 x.2.1.1⟩
theorem abz:ar Tryz.prog 60 s60 :=
 fq (ac nz (ac GB (ac UU (ac ab5 (ac UI an))))) Tryz.f60
def xB (t1 t5:Int) (b2:(List R5)×Int×(List R3)×Int×Int×Int×Int×Int×(List R5)×Unit):Rd (Int×Int×rG×Unit) Y2 :=
 cond (cond (au t5 b2.2.2.2.1) (au t5 (ae b2.2.2.1)) false) (
 cond (aZ t5 b2.2.2.1) (
 cond (ak (gt d3 b2.2.2.1 t5).1 t1) (
 some (.inr (.inr (true,())))
 ) (
 some (.inl (t1,(aq .i64 t5 1),b2,()))
 )
 ) none
 ) (
 some (.inr (.inl (t1,t5,b2,())))
 )
def Vh:=rb (ai (ff xB))
def XG (p0:(List R5)×Int×(List R3)×Int×Int×Int×Int×Int×(List R5)×Unit) (p1:Int):Option dS :=
 (Vh p1 0 p0).bind (Sum.elim (fun _ =>
 c0
 ) (fun y1 =>
 some ((),(y1,()))
 ))
def s61:Su:=⟨[.c true [q5,ki,q3,ki,ki,ki,ki,ki,q5],.c false [ki]],[(false,[.bool])],true,.inl fun x=>XG x.1 x.2.1.1⟩
theorem aaZ:ar Tryz.prog 61 s61 :=
 fl an [.d 4 .bool] [(0,⟨[.d 1 ki,.d 5 ki,.box 2 [(false,q5),(false,ki),(false,q3),(false,ki),(false,ki),(false,ki),(false,ki),(false,ki),(false,q5)]],ai (ff xB)⟩)] [] Tryz.f61 (lp [0] (sc cX sn))
def wy (t40:List jl) (t41 t42:Int) (b1:(List fV)×Int×Int×(List jl)×Unit):Rd ((List jl)×Int×Int×LF×Unit) Y2 :=
 cond (au t42 t41) (
 cond (aZ t42 t40) (
 let u1:=(gt d62 t40 t42)
 (Yg u1 (ae b1.1)).bind fun y1 =>
 cond (cond (!y1.2.1.1) true (au b1.2.1 u1.2.2.2.2.2.2.2.1)) (
 some (.inr (.inr (false,())))
 ) (
 some (.inl (t40,t41,(aq .i64 t42 1),b1,()))
 )
 ) none
 ) (
 some (.inr (.inl (t40,t41,t42,b1,())))
 )
def IY:=kq (ai (cf wy))
def vn (t5:Int) (t61:List fV) (t62 t63:Int) (t75:List jl) (t76 t77:Int) (b1:(List fV)×Int×Int×(List jl)×Unit) (b6:Int×(List dC)×Unit):Rd (Int×(List fV)×Int×Int×(List jl)×Int×Int×LF×WA×Unit) Y2 :=
 cond (au t77 t76) (
 cond (aZ t77 t75) (
 (XG (gt d62 t75 t77) t5).bind fun y1 =>
 cond (!(SQ y1.2.1.1 (ak b6.1 t77))) (
 some (.inr (.inr (false,())))
 ) (
 some (.inl (t5,t61,t62,t63,t75,t76,(aq .i64 t77 1),b1,b6,()))
 )
 ) none
 ) (
 some (.inr (.inl (t5,t61,t62,t63,t75,t76,t77,b1,b6,())))
 )
def Qq:=T6 (ai (D9 vn))
def xu (t61:List fV) (t62 t63:Int) (b1:(List fV)×Int×Int×(List jl)×Unit):Rd ((List fV)×Int×Int×LF×Unit) Y2 :=
 cond (au t63 t62) (
 cond (aZ t63 t61) (
 let u1:=(ae b1.2.2.2.1)
 let u2:=(gt d89 t61 t63)
 cond (bz u1 u2.1) (
 some (.inr (.inr (false,())))
 ) (
 (Qq t63 t61 t62 t63 b1.2.2.2.1 u1 0 b1 u2).bind (Sum.elim (fun y1 =>
 some (.inl (y1.2.1,y1.2.2.1,(aq .i64 y1.2.2.2.1 1),y1.2.2.2.2.2.2.2.1,()))
 ) (fun y1 =>
 some (.inr (.inr (y1.1,())))
 ))
 )
 ) none
 ) (
 some (.inr (.inl (t61,t62,t63,b1,())))
 )
def PG:=kq (ai (cf xu))
def Ya (p0:(List fV)×Int×Int×(List jl)×Unit):Option dS :=
 (XB p0.1).bind fun y1 =>
 cond (!y1.2.1.1) (
 c0
 ) (
 (El p0.2.1).bind fun y2 =>
 cond (!y2.2.1.1) (
 c0
 ) (
 (El p0.2.2.1).bind fun y3 =>
 let u1:=(ae p0.2.2.2.1)
 cond (cond (!y3.2.1.1) true (au 12 u1)) (
 c0
 ) (
 (XO p0.2.2.2.1 p0.2.2.1).bind fun y4 =>
 cond (!y4.2.1.1) (
 c0
 ) (
 (IY p0.2.2.2.1 u1 0 p0).bind (Sum.elim (fun y5 =>
 (PG y5.2.2.2.1.1 (ae y5.2.2.2.1.1) 0 y5.2.2.2.1).bind (Sum.elim (fun _ =>
 c2
 ) (fun y6 =>
 some ((),(y6,()))
 ))
 ) (fun y5 =>
 some ((),(y5,()))
 ))
 )
 )
 )
 )
def s25:Su:=⟨[.c true [j9,ki,ki,nr]],[(false,[.bool])],true,.inl fun x=>Ya x.1⟩
theorem aav:ar Tryz.prog 25 s25 :=
 fl (ac GB (ac Yt (ac abo (ac abz (ac aaZ an))))) [.d 2 .bool] [(0,⟨[.d 40 nr,.d 41 ki,.d 42 ki,.box 1 [(false,j9),(false,ki),(false,ki),(false,nr)]],ai (cf wy)⟩),(4,⟨[.d 5 ki,.d 61 j9,.d 62 ki,.d 63 ki,.d 75 nr,.d 76 ki,.d 77 ki,.box 1 [(false,j9),(false,ki),(false,ki),(false,nr)],.box 6 [(false,ki),(false,gk)]],ai (D9 vn)⟩),(2,⟨[.d 61 j9,.d 62 ki,.d 63 ki,.box 1 [(false,j9),(false,ki),(false,ki),(false,nr)]],ai (cf xu)⟩)] [] Tryz.f25 (lp [0,2] (sc cX (sc (lp [4] (sc cX sn)) sn)))
def tU (t0:Int) (t3:List UInt8):Rd ik Unit :=
 cond (au 9 t0) (
 let u1:=(strOf [((bw .u8 (aq .i64 48 (fW t0 10))),())])
 cond (bh u1 t3) (
 some (.inl ((lW .i64 t0 10),(dh u1 t3),()))
 ) none
 ) (
 some (.inr (.inl (t0,t3,())))
 )
def P4:=PO (ai (wW tU))
def Be (p0:Int):Option xJ :=
 (Pq p0).bind fun y1 =>
 cond (!y1.2.1.1) (
 c5
 ) (
 (P4 p0 []).bind (Sum.elim (fun y2 =>
 let u1:=(strOf [((bw .u8 (aq .i64 48 y2.1)),())])
 cond (bh u1 y2.2.1) (
 some ((),(((dh u1 y2.2.1),()),()))
 ) none
 ) (fun _ =>
 none
 ))
 )
def s26:Su:=⟨[.c false [ki]],[(false,[.str])],true,.inl fun x=>Be x.1.1⟩
theorem MC:ar Tryz.prog 26 s26 :=
 fl (ac Ng an) [] [(0,⟨[.d 0 ki,.d 3 .str],ai (wW tU)⟩)] [] Tryz.f26 (lp [0] (sc cX sn))
def RI (p0:(List UInt8)×Int×Int×Unit) (p1:Int):Option dS :=
 some ((),(((au p1 p0.2.2.1),()),()))
def aaf:Su:=⟨[.c true [.str,ki,ki],.c false [ki]],[(false,[.bool])],true,.inl fun x=>RI x.1 x.2.1.1⟩
theorem Uu:ar Tryz.prog 126 aaf :=
 fq an Tryz.f126
def wB (t1:Int) (t5 t9:List fA) (t10 t11:Int):Rd (Int×(List fA)×(List fA)×Int×Int×Unit) Unit :=
 cond (au t11 t10) (
 cond (aZ t11 t9) (
 let u1:=(gt d95 t9 t11)
 (RI u1 t1).bind fun y1 =>
 cond y1.2.1.1 (
 cond (cO 32 t5 [u1]) (
 let u2:=(aq .i64 t11 1)
 some (.inl (t1,(lT t5 [u1]),t9,t10,u2,()))
 ) none
 ) (
 let u2:=(aq .i64 t11 1)
 some (.inl (t1,t5,t9,t10,u2,()))
 )
 ) none
 ) (
 some (.inr (.inl (t1,t5,t9,t10,t11,())))
 )
def O1:=xI (ai (eS wB))
def Uf (p0:List fA) (p1:Int):Option XV :=
 (O1 p1 [] p0 (ae p0) 0).bind (Sum.elim (fun y1 =>
 some ((),((y1.2.1,()),()))
 ) (fun _ =>
 none
 ))
def s66:Su:=⟨[.c false [iE],.c false [ki]],[(false,[iE])],true,.inl fun x=>Uf x.1.1 x.2.1.1⟩
theorem UJ:ar Tryz.prog 66 s66 :=
 fl (ac Uu an) [] [(0,⟨[.d 1 ki,.own 5 iE,.d 9 iE,.d 10 ki,.d 11 ki],ai (eS wB)⟩)] [] Tryz.f66 (lp [0] (sc cX sn))
def LZ (p0:List fA) (p1:Int):Option gX :=
 (Uf p0 p1).bind fun y1 =>
 (Jt y1.2.1.1).bind fun y2 =>
 some ((),(y2.2.1,()))
def aaw:Su:=⟨[.c false [iE],.c false [ki]],[(false,[ki])],true,.inl fun x=>LZ x.1.1 x.2.1.1⟩
theorem Xu:ar Tryz.prog 125 aaw :=
 fq (ac Qc (ac UJ an)) Tryz.f125
def X4 (p0:(List UInt8)×Int×Int×Int×Int×(List fA)×Int×Int×(List R3)×(List R3)×(List cV)×Unit) (p1:Int):Option gX :=
 (Tf p0).bind fun y1 =>
 cond (!y1.2.1.1) (
 c6
 ) (
 (El p1).bind fun y2 =>
 cond (!y2.2.1.1) (
 c6
 ) (
 (LZ p0.2.2.2.2.2.1 p1).bind fun y3 =>
 some ((),(((aI .i64 (aI .i64 p0.2.1 p0.2.2.1) y3.2.1.1),()),()))
 )
 )
def s65:Su:=⟨[.c true [.str,ki,ki,ki,ki,iE,ki,ki,q3,q3,dI],.c false [ki]],[(false,[ki])],true,.inl fun x=>X4 x.1 x.2.1.1⟩
theorem aay:ar Tryz.prog 65 s65 :=
 fq (ac GB (ac RD (ac Xu an))) Tryz.f65
def XY (p0:(List UInt8)×Int×Int×Unit):Option xJ :=
 cond (bh p0.1 [58]) (
 (Be p0.2.1).bind fun y1 =>
 let u1:=(dh p0.1 [58])
 cond (bh u1 y1.2.1.1) (
 let u2:=(dh u1 y1.2.1.1)
 cond (bh u2 [64]) (
 (Be p0.2.2.1).bind fun y2 =>
 let u3:=(dh u2 [64])
 cond (bh u3 y2.2.1.1) (
 some ((),(((dh u3 y2.2.1.1),()),()))
 ) none
 ) none
 ) none
 ) none
def s67:Su:=⟨[.c true [.str,ki,ki]],[(false,[.str])],true,.inl fun x=>XY x.1⟩
theorem aa9:ar Tryz.prog 67 s67 :=
 fq (ac MC an) Tryz.f67
def vG (t5:List UInt8) (t37:List fA) (t38 t39:Int):Rd ((List UInt8)×(List fA)×Int×Int×Unit) Unit :=
 cond (au t39 t38) (
 cond (aZ t39 t37) (
 cond (bh t5 [32]) (
 (XY (gt d95 t37 t39)).bind fun y1 =>
 let u1:=(dh t5 [32])
 cond (bh u1 y1.2.1.1) (
 some (.inl ((dh u1 y1.2.1.1),t37,t38,(aq .i64 t39 1),()))
 ) none
 ) none
 ) none
 ) (
 some (.inr (.inl (t5,t37,t38,t39,())))
 )
def PI:=kq (ai (cf vG))
def X8 (p0:(List UInt8)×Int×Int×Int×Int×(List fA)×Int×Int×(List R3)×(List R3)×(List cV)×Unit) (p1:Int):Option xJ :=
 (Tf p0).bind fun y1 =>
 cond (!y1.2.1.1) (
 c5
 ) (
 (El p1).bind fun y2 =>
 cond (!y2.2.1.1) (
 c5
 ) (
 cond (bh p0.1 [32]) (
 (X4 p0 p1).bind fun y3 =>
 (Be y3.2.1.1).bind fun y4 =>
 let u1:=(dh p0.1 [32])
 cond (bh u1 y4.2.1.1) (
 let u2:=(dh u1 y4.2.1.1)
 cond (bh u2 [47]) (
 (Be p0.2.1).bind fun y5 =>
 let u3:=(dh u2 [47])
 cond (bh u3 y5.2.1.1) (
 let u4:=(dh u3 y5.2.1.1)
 cond (bh u4 [32]) (
 (Be p0.2.2.1).bind fun y6 =>
 let u5:=(dh u4 [32])
 cond (bh u5 y6.2.1.1) (
 (Uf p0.2.2.2.2.2.1 p1).bind fun y7 =>
 (PI (dh u5 y6.2.1.1) y7.2.1.1 (ae y7.2.1.1) 0).bind (Sum.elim (fun y8 =>
 some ((),((y8.1,()),()))
 ) (fun _ =>
 none
 ))
 ) none
 ) none
 ) none
 ) none
 ) none
 ) none
 )
 )
def s28:Su:=⟨[.c true [.str,ki,ki,ki,ki,iE,ki,ki,q3,q3,dI],.c false [ki]],[(false,[.str])],true,.inl fun x=>X8 x.1 x.2.1.1⟩
theorem abS:ar Tryz.prog 28 s28 :=
 fl (ac GB (ac RD (ac MC (ac UJ (ac aay (ac aa9 an)))))) [] [(0,⟨[.d 5 .str,.own 37 iE,.d 38 ki,.d 39 ki],ai (cf vG)⟩)] [] Tryz.f28 (lp [0] (sc cX sn))
def XH (p0:Int):Option xJ :=
 (pU p0 0 5).bind fun y1 =>
 cond (!y1.2.1.1) (
 c5
 ) (
 cond (aZ p0 [([114,101,97,100],()),([108,111,99,107],()),([119,111,114,107],()),([102,114,101,101],()),([115,101,110,100],()),([100,111,110,101],())]) (
 some ((),((gt d9 [([114,101,97,100],()),([108,111,99,107],()),([119,111,114,107],()),([102,114,101,101],()),([115,101,110,100],()),([100,111,110,101],())] p0),()))
 ) none
 )
def s68:Su:=⟨[.c false [ki]],[(false,[.str])],true,.inl fun x=>XH x.1.1⟩
theorem abL:ar Tryz.prog 68 s68 :=
 fq (ac nz an) Tryz.f68
def I9  : Option M9 :=
 c21
def Zp:Su:=⟨[],[(false,[q9])],true,.inl fun x=>I9 ⟩
theorem Qd:ar Tryz.prog 130 Zp :=
 fq an Tryz.f130
def rm (t0:List UInt8) (t6:List R9) (t7 t8:Int):Rd ((List UInt8)×(List R9)×Int×Int×Unit) (Int×Bool×Unit) :=
 cond (au t8 t7) (
 cond (aZ t8 t6) (
 cond (bI (gt d9 t6 t8).1 t0) (
 some (.inr (.inr (t8,true,())))
 ) (
 some (.inl (t0,t6,t7,(aq .i64 t8 1),()))
 )
 ) none
 ) (
 some (.inr (.inl (t0,t6,t7,t8,())))
 )
def RP:=kq (ai (cf rm))
def Oc (p0:List UInt8):Option OX :=
 (I9).bind fun y1 =>
 (RP p0 y1.2.1.1 (ae y1.2.1.1) 0).bind (Sum.elim (fun _ =>
 c9
 ) (fun y2 =>
 some ((),((y2.1,()),(y2.2.1,()),()))
 ))
def ZI:Su:=⟨[.c false [.str]],[(false,[ki]),(false,[.bool])],true,.inl fun x=>Oc x.1.1⟩
theorem TD:ar Tryz.prog 129 ZI :=
 fl (ac Qd an) [.d 2 ki,.d 3 .bool] [(0,⟨[.d 0 .str,.own 6 q9,.d 7 ki,.d 8 ki],ai (cf rm)⟩)] [] Tryz.f129 (lp [0] (sc cX sn))
def VG (p0:List R5):Option OX :=
 (Js p0).bind fun y1 =>
 (jH y1.2.1 39).bind fun y2 =>
 cond (cond (!(ak y1.2.2.1.1 0)) true (!y2.2.2.1.1)) (
 c9
 ) (
 (Oc y2.2.1.1).bind fun y3 =>
 some ((),(y3.2.1,y3.2.2.1,()))
 )
def s69:Su:=⟨[.c false [q5]],[(false,[ki]),(false,[.bool])],true,.inl fun x=>VG x.1.1⟩
theorem Z6:ar Tryz.prog 69 s69 :=
 fq (ac O0 (ac PE (ac TD an))) Tryz.f69
def Xy (p0:Int):Option xJ :=
 (I9).bind fun y1 =>
 (pU p0 0 (aI .i64 (ae y1.2.1.1) 1)).bind fun y2 =>
 cond (!y2.2.1.1) (
 c5
 ) (
 cond (aZ p0 y1.2.1.1) (
 some ((),((gt d9 y1.2.1.1 p0),()))
 ) none
 )
def s70:Su:=⟨[.c false [ki]],[(false,[.str])],true,.inl fun x=>Xy x.1.1⟩
theorem abI:ar Tryz.prog 70 s70 :=
 fq (ac nz (ac Qd an)) Tryz.f70
def XF (p0:(List R5)×Int×(List R3)×Int×Int×Int×Int×Int×(List R5)×Unit):Option xJ :=
 (XH p0.2.1).bind fun y1 =>
 cond (ak p0.2.1 1) (
 let u1:=(bh y1.2.1.1 [32])
 cond u1 (
 let u2:=(Be p0.2.2.2.1)
 Option.bind u2 fun y2 =>
 let u3:=(dh y1.2.1.1 [32])
 let u4:=(bh u3 y2.2.1.1)
 cond u4 (
 let u5:=(dh u3 y2.2.1.1)
 let u6:=(bh u5 [47])
 cond u6 (
 let u7:=(Be (ae p0.2.2.1))
 Option.bind u7 fun y3 =>
 let u8:=(dh u5 [47])
 let u9:=(bh u8 y3.2.1.1)
 cond u9 (
 some ((),(((dh u8 y3.2.1.1),()),()))
 ) none
 ) none
 ) none
 ) none
 ) (
 cond (ak p0.2.1 2) (
 let u1:=(bh y1.2.1.1 [32])
 cond u1 (
 let u2:=(Be p0.2.2.2.1)
 Option.bind u2 fun y2 =>
 let u3:=(dh y1.2.1.1 [32])
 let u4:=(bh u3 y2.2.1.1)
 cond u4 (
 let u5:=(dh u3 y2.2.1.1)
 let u6:=(bh u5 [47])
 cond u6 (
 let u7:=(Be (ae p0.2.2.1))
 Option.bind u7 fun y3 =>
 let u8:=(dh u5 [47])
 let u9:=(bh u8 y3.2.1.1)
 cond u9 (
 some ((),(((dh u8 y3.2.1.1),()),()))
 ) none
 ) none
 ) none
 ) none
 ) (
 cond (ak p0.2.1 3) (
 let u1:=(bh y1.2.1.1 [32])
 cond u1 (
 let u2:=(Be p0.2.2.2.1)
 Option.bind u2 fun y2 =>
 let u3:=(dh y1.2.1.1 [32])
 let u4:=(bh u3 y2.2.1.1)
 cond u4 (
 let u5:=(dh u3 y2.2.1.1)
 let u6:=(bh u5 [47])
 cond u6 (
 let u7:=(Be (ae p0.2.2.1))
 Option.bind u7 fun y3 =>
 let u8:=(dh u5 [47])
 let u9:=(bh u8 y3.2.1.1)
 cond u9 (
 some ((),(((dh u8 y3.2.1.1),()),()))
 ) none
 ) none
 ) none
 ) none
 ) (
 cond (ak p0.2.1 4) (
 let u1:=(VG p0.2.2.2.2.2.2.2.2.1)
 Option.bind u1 fun y2 =>
 cond (!y2.2.2.1.1) (
 let u2:=(bh y1.2.1.1 [32,45])
 cond u2 (
 some ((),(((dh y1.2.1.1 [32,45]),()),()))
 ) none
 ) (
 let u2:=(bh y1.2.1.1 [32])
 cond u2 (
 let u3:=(Xy y2.2.1.1)
 Option.bind u3 fun y3 =>
 let u4:=(dh y1.2.1.1 [32])
 let u5:=(bh u4 y3.2.1.1)
 cond u5 (
 some ((),(((dh u4 y3.2.1.1),()),()))
 ) none
 ) none
 )
 ) (
 cond (ak p0.2.1 5) (
 let u1:=(VG p0.2.2.2.2.2.2.2.2.1)
 Option.bind u1 fun y2 =>
 cond (!y2.2.2.1.1) (
 let u2:=(bh y1.2.1.1 [32,45])
 cond u2 (
 some ((),(((dh y1.2.1.1 [32,45]),()),()))
 ) none
 ) (
 let u2:=(bh y1.2.1.1 [32])
 cond u2 (
 let u3:=(Xy y2.2.1.1)
 Option.bind u3 fun y3 =>
 let u4:=(dh y1.2.1.1 [32])
 let u5:=(bh u4 y3.2.1.1)
 cond u5 (
 some ((),(((dh u4 y3.2.1.1),()),()))
 ) none
 ) none
 )
 ) (
 some ((),(y1.2.1,()))
 )
 )
 )
 )
 )
def s29:Su:=⟨[.c true [q5,ki,q3,ki,ki,ki,ki,ki,q5]],[(false,[.str])],true,.inl fun x=>XF x.1⟩
theorem YQ:ar Tryz.prog 29 s29 :=
 fq (ac MC (ac abL (ac Z6 (ac abI an)))) Tryz.f29
def DC (t3:List UInt8) (t24:List dC) (t25 t26:Int) (b1:(List fV)×Int×Int×(List jl)×Unit):Rd ((List UInt8)×(List dC)×Int×Int×LF×Unit) Unit :=
 cond (au t26 t25) (
 cond (aZ t26 t24) (
 (X8 (gt d59 t24 t26) b1.2.1).bind fun y1 =>
 cond (bh t3 y1.2.1.1) (
 let u1:=(dh t3 y1.2.1.1)
 cond (bh u1 [10]) (
 some (.inl ((dh u1 [10]),t24,t25,(aq .i64 t26 1),b1,()))
 ) none
 ) none
 ) none
 ) (
 some (.inr (.inl (t3,t24,t25,t26,b1,())))
 )
def T7:=xI (ai (eS DC))
def C0 (t3:List UInt8) (t39:List jl) (t40 t41:Int):Rd ((List UInt8)×(List jl)×Int×Int×Unit) Unit :=
 cond (au t41 t40) (
 cond (aZ t41 t39) (
 (Be t41).bind fun y1 =>
 cond (bh t3 y1.2.1.1) (
 let u1:=(dh t3 y1.2.1.1)
 cond (bh u1 [32]) (
 (XF (gt d62 t39 t41)).bind fun y2 =>
 let u2:=(dh u1 [32])
 cond (bh u2 y2.2.1.1) (
 let u3:=(dh u2 y2.2.1.1)
 cond (bh u3 [10]) (
 some (.inl ((dh u3 [10]),t39,t40,(aq .i64 t41 1),()))
 ) none
 ) none
 ) none
 ) none
 ) none
 ) (
 some (.inr (.inl (t3,t39,t40,t41,())))
 )
def Tu:=kq (ai (cf C0))
def g8 (p0:(List fV)×Int×Int×(List jl)×Unit):Option xJ :=
 (Ya p0).bind fun y1 =>
 cond (!y1.2.1.1) (
 c5
 ) (
 (Be p0.2.1).bind fun y2 =>
 cond (bh [110,111,119,32] y2.2.1.1) (
 let u1:=(dh [110,111,119,32] y2.2.1.1)
 cond (bh u1 [32,115,116,101,112,32]) (
 (Be p0.2.2.1).bind fun y3 =>
 let u2:=(dh u1 [32,115,116,101,112,32])
 cond (bh u2 y3.2.1.1) (
 let u3:=(dh u2 y3.2.1.1)
 cond (bh u3 [10]) (
 (Nr p0.1).bind fun y4 =>
 (T7 (dh u3 [10]) y4.2.1.1 (ae y4.2.1.1) 0 p0).bind (Sum.elim (fun y5 =>
 (Tu y5.1 y5.2.2.2.2.1.2.2.2.1 (ae y5.2.2.2.2.1.2.2.2.1) 0).bind (Sum.elim (fun y6 =>
 some ((),((y6.1,()),()))
 ) (fun _ =>
 none
 ))
 ) (fun _ =>
 none
 ))
 ) none
 ) none
 ) none
 ) none
 )
def s8:Su:=⟨[.c true [j9,ki,ki,nr]],[(false,[.str])],true,.inl fun x=>g8 x.1⟩
theorem ok8:ar Tryz.prog 8 s8 :=
 fl (ac UQ (ac aav (ac MC (ac abS (ac YQ an))))) [] [(0,⟨[.d 3 .str,.own 24 gk,.d 25 ki,.d 26 ki,.box 1 [(false,j9),(false,ki),(false,ki),(false,nr)]],ai (eS DC)⟩),(2,⟨[.d 3 .str,.d 39 nr,.d 40 ki,.d 41 ki],ai (cf C0)⟩)] [] Tryz.f8 (lp [0,2] (sc cX (sc cX sn)))
def nc (p0 p1 p2:Int):Option dS :=
 some ((),(((cond (bz p1 p0) (bz p0 p2) false),()),()))
def s41:Su:=⟨[.c false [ki],.c false [ki],.c false [ki]],[(false,[.bool])],true,.inl fun x=>nc x.1.1 x.2.1.1 x.2.2.1.1⟩
theorem my:ar Tryz.prog 41 s41 :=
 fq an Tryz.f41
def D4 (p0 p1:(List UInt8)×Int×Int×Int×Int×(List fA)×Int×Int×(List R3)×(List R3)×(List cV)×Unit):Option gX :=
 cond (jU p0.1 p1.1) (
 c3
 ) (
 cond (!(SF p0.1 p1.1)) (
 c8
 ) (
 c6
 )
 )
def Sd:Su:=⟨[.c true [.str,ki,ki,ki,ki,iE,ki,ki,q3,q3,dI],.c true [.str,ki,ki,ki,ki,iE,ki,ki,q3,q3,dI]],[(false,[ki])],true,.inl fun x=>D4 x.1 x.2.1⟩
theorem Ce:ar Tryz.prog 138 Sd :=
 fq an Tryz.f138
def nM (t0:List dC) (t1 t2:Int) (_:Unit) (t8 t9:Int):Rd ((List dC)×Int×Int×Unit×Int×Int×Unit) Unit :=
 cond (au t1 t9) (
 cond (aZ t9 t0) (
 let u1:=(aI .i64 t9 1)
 cond (aZ u1 t0) (
 (D4 (gt d59 t0 t9) (gt d59 t0 u1)).bind fun y1 =>
 cond (au y1.2.1.1 0) (
 cond (aZ u1 t0) (
 cond (aZ t9 t0) (
 cond (AA t9 t0 t9) (
 cond (AA u1 t0 u1) (
 some (.inl ((HB d59 t0 t9 u1),t1,t2,(),t8,u1,()))
 ) none
 ) none
 ) none
 ) none
 ) (
 some (.inr (.inl (t0,t1,t2,(),t8,t9,())))
 )
 ) none
 ) none
 ) (
 some (.inr (.inl (t0,t1,t2,(),t8,t9,())))
 )
def zZ:=Vc (ai (FB nM))
def lE (t0:List dC) (t1 t2:Int) (_:Unit) (t8:Int):Rd ((List dC)×Int×Int×Unit×Int×Unit) Unit :=
 cond (au t8 t2) (
 (zZ t0 t1 t2 () t8 t8).bind (Sum.elim (fun y1 =>
 some (.inl (y1.1,y1.2.1,y1.2.2.1,(),(aq .i64 y1.2.2.2.2.1 1),()))
 ) (fun _ =>
 some (.inr (.inr ()))
 ))
 ) (
 some (.inr (.inl (t0,t1,t2,(),t8,())))
 )
def nJ:=xI (ai (eS lE))
def FU (p0:List dC) (p1 p2:Int):Option OT :=
 (nJ p0 p1 p2 () (aq .i64 p1 1)).bind (Sum.elim (fun y1 =>
 some (((y1.1,()),()),())
 ) (fun _ =>
 none
 ))
def N1:Su:=⟨[.io false [gk],.c false [ki],.c false [ki],.fn 138 []],[],true,.inl fun x=>FU x.1.1 x.2.1.1 x.2.2.1.1⟩
def qw:List SE:=[.own 0 gk,.d 1 ki,.d 2 ki,.fn 3 138 [],.d 8 ki,.d 9 ki]
def qk:List SE:=[.own 0 gk,.d 1 ki,.d 2 ki,.fn 3 138 [],.d 8 ki]
def J8:List SE:=[]
def PL:Nat->Option (Lo J8)
 | 2=>some ⟨qw,FB zZ⟩
 | 0=>some ⟨qk,eS nJ⟩
 | _=>none
def EH:List Y0:=[(138,iS Sd)]
def EP:En:=yQ 53 tt EH J8 PL [0] fun _=>none
def Xs:Nat->Option (St->Tr St)
 | 6=>some (swapT EP (opsOf (a7 6 (ah Tryz.f238))) [9] [(14,2),(14,3),(14,4)] 14 9 13)
 | _=>none
def BQ:En:=yQ 53 tt EH J8 PL [0] (Xs)
theorem Rn (x:bE qw):(cZ BQ 2 qw (aX 2 (ah Tryz.f238)) x).run=FB nM x:=by kernel_rfl
theorem SD (x:bE qk):(cZ BQ 0 qk (aX 0 (ah Tryz.f238)) x).run=eS lE x:=by kernel_rfl
theorem t238 (x:PT N1.ps):(Fl BQ (ah Tryz.f238) Tryz.f238.results.toList N1.ps N1.rs true x).run=FU x.1.1 x.2.1.1 x.2.2.1.1:=by kernel_rfl
theorem CR:de Tryz.prog BQ:=cN (l:=EH) ⟨Ce,trivial⟩
theorem F9:de Tryz.prog EP:=cN (l:=EH) ⟨Ce,trivial⟩
theorem QP:cF Tryz.prog BQ (a7 6 (ah Tryz.f238)) (swapT EP (opsOf (a7 6 (ah Tryz.f238))) [9] [(14,2),(14,3),(14,4)] 14 9 13) :=
 gh rfl rfl (uk (E:=EP) (kr hT) F9 ed (c:=(a7 6 (ah Tryz.f238))) (id:=6) (by kernel_rfl))
theorem Sj:bS Tryz.prog BQ 2 (.loop (aX 2 (ah Tryz.f238))) ⟨qw,FB zZ⟩ :=
 dZ (kr hT) CR ed (step:=fun (x:bE qw)=>nM x.1 x.2.1 x.2.2.1 x.2.2.2.1 x.2.2.2.2.1 x.2.2.2.2.2.1) Rn (aT [] (by kernel_rfl) trivial [(6,a7 6 (ah Tryz.f238))] (by kernel_rfl) ⟨vh rfl QP,trivial⟩)
theorem QV:bS Tryz.prog BQ 0 (.loop (aX 0 (ah Tryz.f238))) ⟨qk,eS nJ⟩ :=
 dZ (kr hT) CR ed (step:=fun (x:bE qk)=>lE x.1 x.2.1 x.2.2.1 x.2.2.2.1 x.2.2.2.2.1) SD (aT [(2,.loop (aX 2 (ah Tryz.f238)))] (by kernel_rfl) ⟨lL rfl Sj,trivial⟩ [] (by kernel_rfl) trivial)
theorem TF:ar Tryz.prog 238 N1 :=
 nC (E:=BQ) (kr hT) CR ed (fn:=Tryz.f238) (c:=(ah Tryz.f238)) (by kernel_rfl) (by kernel_rfl) (by kernel_rfl) rfl (aT [(0,.loop (aX 0 (ah Tryz.f238)))] (by kernel_rfl) ⟨lL rfl QV,trivial⟩ [] (by kernel_rfl) trivial) fun x y h=>⟨y.1,fun _=>rfl,(t238 x).trans h⟩
def pQ (t0:List dC) (t1 t2 t3 t10:Int):Rd ((List dC)×Int×Int×Int×Int×Unit) Unit :=
 cond (au t10 t3) (
 let u1:=(aq .i64 t2 t10)
 cond (aZ u1 t0) (
 let u2:=(aq .i64 t1 t10)
 cond (aZ u2 t0) (
 cond (AA u2 t0 u2) (
 cond (AA u1 t0 u1) (
 some (.inl ((HB d59 t0 u2 u1),t1,t2,t3,(aq .i64 t10 1),()))
 ) none
 ) none
 ) none
 ) none
 ) (
 some (.inr (.inl (t0,t1,t2,t3,t10,())))
 )
def xb:=xI (ai (eS pQ))
def Ar (p0:List dC) (p1 p2 p3:Int):Option OT :=
 (xb p0 p1 p2 p3 0).bind (Sum.elim (fun y1 =>
 some (((y1.1,()),()),())
 ) (fun _ =>
 none
 ))
def L3:Su:=⟨[.io false [gk],.c false [ki],.c false [ki],.c false [ki],.fn 138 []],[],true,.inl fun x=>Ar x.1.1 x.2.1.1 x.2.2.1.1 x.2.2.2.1.1⟩
def qR:List SE:=[.own 0 gk,.d 1 ki,.d 2 ki,.d 3 ki,.d 10 ki]
def I7:List SE:=[]
def Pd:Nat->Option (Lo I7)
 | 0=>some ⟨qR,eS xb⟩
 | _=>none
def FE:List Y0:=[]
def E8:En:=yQ 38 tt FE I7 Pd [0] fun _=>none
def UO:Nat->Option (St->Tr St)
 | 3=>some (swapT E8 (opsOf (a7 3 (ah Tryz.f316))) [2,10] [(20,4),(20,5),(20,6),(20,7)] 20 13 19)
 | _=>none
def GP:En:=yQ 38 tt FE I7 Pd [0] (UO)
theorem R7 (x:bE qR):(cZ GP 0 qR (aX 0 (ah Tryz.f316)) x).run=eS pQ x:=by kernel_rfl
theorem t316 (x:PT L3.ps):(Fl GP (ah Tryz.f316) Tryz.f316.results.toList L3.ps L3.rs true x).run=Ar x.1.1 x.2.1.1 x.2.2.1.1 x.2.2.2.1.1:=by kernel_rfl
theorem JG:de Tryz.prog GP:=cN (l:=FE) trivial
theorem GK:de Tryz.prog E8:=cN (l:=FE) trivial
theorem Qx:cF Tryz.prog GP (a7 3 (ah Tryz.f316)) (swapT E8 (opsOf (a7 3 (ah Tryz.f316))) [2,10] [(20,4),(20,5),(20,6),(20,7)] 20 13 19) :=
 gh rfl rfl (uk (E:=E8) (kr hT) GK ed (c:=(a7 3 (ah Tryz.f316))) (id:=3) (by kernel_rfl))
theorem Rv:bS Tryz.prog GP 0 (.loop (aX 0 (ah Tryz.f316))) ⟨qR,eS xb⟩ :=
 dZ (kr hT) JG ed (step:=fun (x:bE qR)=>pQ x.1 x.2.1 x.2.2.1 x.2.2.2.1 x.2.2.2.2.1) R7 (aT [] (by kernel_rfl) trivial [(3,a7 3 (ah Tryz.f316))] (by kernel_rfl) ⟨vh rfl Qx,trivial⟩)
theorem Ts:ar Tryz.prog 316 L3 :=
 nC (E:=GP) (kr hT) JG ed (fn:=Tryz.f316) (c:=(ah Tryz.f316)) (by kernel_rfl) (by kernel_rfl) (by kernel_rfl) rfl (aT [(0,.loop (aX 0 (ah Tryz.f316)))] (by kernel_rfl) ⟨lL rfl Rv,trivial⟩ [] (by kernel_rfl) trivial) fun x y h=>⟨y.1,fun _=>rfl,(t316 x).trans h⟩
def l5 (t0:List dC) (t2:Int) (_:Unit) (t10 t11:Int):Rd Y34 Unit :=
 cond (!(ak t10 t11)) (
 cond (au t11 t10) (
 let u1:=(aI .i64 t2 t10)
 (Ar t0 u1 t2 t11).bind fun y1 =>
 some (.inl (y1.1.1.1,t2,(),(aI .i64 t10 t11),t11,()))
 ) (
 let u1:=(aI .i64 t2 t10)
 (Ar t0 u1 (aI .i64 (aq .i64 t2 t11) t10) t10).bind fun y1 =>
 some (.inl (y1.1.1.1,t2,(),t10,(aI .i64 t11 t10),()))
 )
 ) (
 some (.inr (.inl (t0,t2,(),t10,t11,())))
 )
def Kv:=xI (ai (eS l5))
def At (p0:List dC) (p1 p2 p3:Int):Option OT :=
 (Kv p0 p2 () (aI .i64 p2 p1) (aI .i64 p3 p2)).bind (Sum.elim (fun y1 =>
 (Ar y1.1 (aI .i64 y1.2.1 y1.2.2.2.1) y1.2.1 y1.2.2.2.1).bind fun y2 =>
 some ((y2.1.1,()),())
 ) (fun _ =>
 none
 ))
def U0:Su:=⟨[.io false [gk],.c false [ki],.c false [ki],.c false [ki],.fn 138 []],[],true,.inl fun x=>At x.1.1 x.2.1.1 x.2.2.1.1 x.2.2.2.1.1⟩
theorem JF:ar Tryz.prog 291 U0 :=
 fl (ac Ts an) [] [(0,⟨[.own 0 gk,.d 2 ki,.fn 4 138 [],.d 10 ki,.d 11 ki],ai (eS l5)⟩)] [0] Tryz.f291 (lp [0] (sc cX sn))
-- REC 239
def mm (t0:List dC) (t1:Int) (_:Unit) (t10 t11:Int):Rd Y34 Unit :=
 cond (au t10 t11) (
 let u1:=(bw .i64 (ie .u64 (bw .u64 (aq .i64 t10 t11)) 1))
 cond (aZ u1 t0) (
 cond (aZ t1 t0) (
 (D4 (gt d59 t0 u1) (gt d59 t0 t1)).bind fun y1 =>
 cond (au y1.2.1.1 0) (
 some (.inl (t0,t1,(),(aq .i64 u1 1),t11,()))
 ) (
 some (.inl (t0,t1,(),t10,u1,()))
 )
 ) none
 ) none
 ) (
 some (.inr (.inl (t0,t1,(),t10,t11,())))
 )
def wE:=xI (ai (eS mm))
def o9 (t0:List dC) (t10 t13:Int):Rd ((List dC)×Int×Int×Unit) Unit :=
 cond (au t13 (aI .i64 t10 1)) (
 let u1:=(aq .i64 t13 1)
 cond (aZ u1 t0) (
 cond (aZ t13 t0) (
 cond (AA t13 t0 t13) (
 cond (AA u1 t0 u1) (
 some (.inl ((HB d59 t0 t13 u1),t10,u1,()))
 ) none
 ) none
 ) none
 ) none
 ) (
 some (.inr (.inl (t0,t10,t13,())))
 )
def vV:=rb (ai (ff o9))
def ml (t0:List dC) (t2:Int) (_:Unit) (t14 t15:Int):Rd Y34 Unit :=
 cond (au t14 t15) (
 cond (aZ t2 t0) (
 let u1:=(bw .i64 (ie .u64 (bw .u64 (aq .i64 t14 t15)) 1))
 cond (aZ u1 t0) (
 (D4 (gt d59 t0 t2) (gt d59 t0 u1)).bind fun y1 =>
 cond (!(au y1.2.1.1 0)) (
 some (.inl (t0,t2,(),(aq .i64 u1 1),t15,()))
 ) (
 some (.inl (t0,t2,(),t14,u1,()))
 )
 ) none
 ) none
 ) (
 some (.inr (.inl (t0,t2,(),t14,t15,())))
 )
def vw:=xI (ai (eS ml))
def nS (t0:List dC) (t14 t17:Int):Rd ((List dC)×Int×Int×Unit) Unit :=
 cond (au t14 t17) (
 let u1:=(aI .i64 t17 1)
 cond (aZ u1 t0) (
 cond (aZ t17 t0) (
 cond (AA t17 t0 t17) (
 cond (AA u1 t0 u1) (
 some (.inl ((HB d59 t0 t17 u1),t14,u1,()))
 ) none
 ) none
 ) none
 ) none
 ) (
 some (.inr (.inl (t0,t14,t17,())))
 )
def vo:=rb (ai (ff nS))
def mr (t0:List dC) (t1 t2 t3:Int) (_:Unit) (t18 t19 t20 t21 t22:Int):Rd ((List dC)×Int×Int×Int×Unit×Int×Int×Int×Int×Int×Unit) Unit :=
 cond (au t20 t21) (
 let u1:=(bw .i64 (ie .u64 (bw .u64 (aq .i64 t20 t21)) 1))
 let u2:=(aI .i64 t22 u1)
 cond (aZ u2 t0) (
 cond (aZ u1 t0) (
 (D4 (gt d59 t0 u2) (gt d59 t0 u1)).bind fun y1 =>
 cond (!(au y1.2.1.1 0)) (
 some (.inl (t0,t1,t2,t3,(),t18,t19,(aq .i64 u1 1),t21,t22,()))
 ) (
 some (.inl (t0,t1,t2,t3,(),t18,t19,t20,u1,t22,()))
 )
 ) none
 ) none
 ) (
 some (.inr (.inl (t0,t1,t2,t3,(),t18,t19,t20,t21,t22,())))
 )
def lr:=WY (ai (BW mr))
def eJ (n:Nat):(List dC)->Int->Int->Int->Option OT:=Nat.rec (motive:=fun _=>(List dC)->Int->Int->Int->Option OT) (fun _ _ _ _=>none) (fun _ mq=>fun p0 p1 p2 p3 =>
 cond (ak (aI .i64 p2 p1) 1) (
 (wE p0 p1 () p2 p3).bind (Sum.elim (fun y1 =>
 (vV y1.1 y1.2.2.2.1 y1.2.1).bind (Sum.elim (fun y2 =>
 some (((y2.1,()),()),())
 ) (fun _ =>
 none
 ))
 ) (fun _ =>
 none
 ))
 ) (
 cond (ak (aI .i64 p3 p2) 1) (
 (vw p0 p2 () p1 p2).bind (Sum.elim (fun y1 =>
 (vo y1.1 y1.2.2.2.1 y1.2.1).bind (Sum.elim (fun y2 =>
 some (((y2.1,()),()),())
 ) (fun _ =>
 none
 ))
 ) (fun _ =>
 none
 ))
 ) (
 let u1:=(bw .i64 (ie .u64 (bw .u64 (aq .i64 p1 p3)) 1))
 cond (au u1 p2) (
 let u2:=(aq .i64 u1 p2)
 let u3:=(aI .i64 u2 1)
 (lr p0 p1 p2 p3 () u1 u2 (aI .i64 u2 p3) u1 u3).bind (Sum.elim (fun y1 =>
 let u4:=(aI .i64 y1.2.2.2.2.2.2.1 y1.2.2.2.2.2.2.2.1)
 let u5:=(cond (au y1.2.2.2.2.2.2.2.1 y1.2.2.1) (au y1.2.2.1 u4) false)
 cond u5 (
 let u6:=(At y1.1 y1.2.2.2.2.2.2.2.1 y1.2.2.1 u4)
 Option.bind u6 fun y2 =>
 let u7:=(cond (au y1.2.1 y1.2.2.2.2.2.2.2.1) (au y1.2.2.2.2.2.2.2.1 y1.2.2.2.2.2.1) false)
 cond u7 (
 let u8:=(mq y2.1.1.1 y1.2.1 y1.2.2.2.2.2.2.2.1 y1.2.2.2.2.2.1)
 Option.bind u8 fun y3 =>
 let u9:=(cond (au y1.2.2.2.2.2.1 u4) (au u4 y1.2.2.2.1) false)
 cond u9 (
 let u10:=(mq y3.1.1.1 y1.2.2.2.2.2.1 u4 y1.2.2.2.1)
 Option.bind u10 fun y4 =>
 some ((y4.1.1,()),())
 ) (
 some ((y3.1.1,()),())
 )
 ) (
 let u8:=(cond (au y1.2.2.2.2.2.1 u4) (au u4 y1.2.2.2.1) false)
 cond u8 (
 let u9:=(mq y2.1.1.1 y1.2.2.2.2.2.1 u4 y1.2.2.2.1)
 Option.bind u9 fun y3 =>
 some ((y3.1.1,()),())
 ) (
 some ((y2.1.1,()),())
 )
 )
 ) (
 let u6:=(cond (au y1.2.1 y1.2.2.2.2.2.2.2.1) (au y1.2.2.2.2.2.2.2.1 y1.2.2.2.2.2.1) false)
 cond u6 (
 let u7:=(mq y1.1 y1.2.1 y1.2.2.2.2.2.2.2.1 y1.2.2.2.2.2.1)
 Option.bind u7 fun y2 =>
 let u8:=(cond (au y1.2.2.2.2.2.1 u4) (au u4 y1.2.2.2.1) false)
 cond u8 (
 let u9:=(mq y2.1.1.1 y1.2.2.2.2.2.1 u4 y1.2.2.2.1)
 Option.bind u9 fun y3 =>
 some ((y3.1.1,()),())
 ) (
 some ((y2.1.1,()),())
 )
 ) (
 let u7:=(cond (au y1.2.2.2.2.2.1 u4) (au u4 y1.2.2.2.1) false)
 cond u7 (
 let u8:=(mq y1.1 y1.2.2.2.2.2.1 u4 y1.2.2.2.1)
 Option.bind u8 fun y2 =>
 some ((y2.1.1,()),())
 ) (
 some (((y1.1,()),()),())
 )
 )
 )
 ) (fun _ =>
 none
 ))
 ) (
 let u2:=(aq .i64 u1 p2)
 let u3:=(aI .i64 u2 1)
 (lr p0 p1 p2 p3 () u1 u2 p1 p2 u3).bind (Sum.elim (fun y1 =>
 let u4:=(aI .i64 y1.2.2.2.2.2.2.1 y1.2.2.2.2.2.2.2.1)
 let u5:=(cond (au y1.2.2.2.2.2.2.2.1 y1.2.2.1) (au y1.2.2.1 u4) false)
 cond u5 (
 let u6:=(At y1.1 y1.2.2.2.2.2.2.2.1 y1.2.2.1 u4)
 Option.bind u6 fun y2 =>
 let u7:=(cond (au y1.2.1 y1.2.2.2.2.2.2.2.1) (au y1.2.2.2.2.2.2.2.1 y1.2.2.2.2.2.1) false)
 cond u7 (
 let u8:=(mq y2.1.1.1 y1.2.1 y1.2.2.2.2.2.2.2.1 y1.2.2.2.2.2.1)
 Option.bind u8 fun y3 =>
 let u9:=(cond (au y1.2.2.2.2.2.1 u4) (au u4 y1.2.2.2.1) false)
 cond u9 (
 let u10:=(mq y3.1.1.1 y1.2.2.2.2.2.1 u4 y1.2.2.2.1)
 Option.bind u10 fun y4 =>
 some ((y4.1.1,()),())
 ) (
 some ((y3.1.1,()),())
 )
 ) (
 let u8:=(cond (au y1.2.2.2.2.2.1 u4) (au u4 y1.2.2.2.1) false)
 cond u8 (
 let u9:=(mq y2.1.1.1 y1.2.2.2.2.2.1 u4 y1.2.2.2.1)
 Option.bind u9 fun y3 =>
 some ((y3.1.1,()),())
 ) (
 some ((y2.1.1,()),())
 )
 )
 ) (
 let u6:=(cond (au y1.2.1 y1.2.2.2.2.2.2.2.1) (au y1.2.2.2.2.2.2.2.1 y1.2.2.2.2.2.1) false)
 cond u6 (
 let u7:=(mq y1.1 y1.2.1 y1.2.2.2.2.2.2.2.1 y1.2.2.2.2.2.1)
 Option.bind u7 fun y2 =>
 let u8:=(cond (au y1.2.2.2.2.2.1 u4) (au u4 y1.2.2.2.1) false)
 cond u8 (
 let u9:=(mq y2.1.1.1 y1.2.2.2.2.2.1 u4 y1.2.2.2.1)
 Option.bind u9 fun y3 =>
 some ((y3.1.1,()),())
 ) (
 some ((y2.1.1,()),())
 )
 ) (
 let u7:=(cond (au y1.2.2.2.2.2.1 u4) (au u4 y1.2.2.2.1) false)
 cond u7 (
 let u8:=(mq y1.1 y1.2.2.2.2.2.1 u4 y1.2.2.2.1)
 Option.bind u8 fun y2 =>
 some ((y2.1.1,()),())
 ) (
 some (((y1.1,()),()),())
 )
 )
 )
 ) (fun _ =>
 none
 ))
 )
 )
 )) n
theorem nY (n:Nat) (p0:(List dC)) (p1:Int) (p2:Int) (p3:Int):eJ (n + 1) p0 p1 p2 p3 =
 cond (ak (aI .i64 p2 p1) 1) (
  (wE p0 p1 () p2 p3).bind (Sum.elim (fun y1 =>
    (vV y1.1 y1.2.2.2.1 y1.2.1).bind (Sum.elim (fun y2 =>
      some (((y2.1,()),()),())
    ) (fun y2 =>
     none
    ))
  ) (fun y1 =>
   none
  ))
 ) (
  cond (ak (aI .i64 p3 p2) 1) (
   (vw p0 p2 () p1 p2).bind (Sum.elim (fun y1 =>
     (vo y1.1 y1.2.2.2.1 y1.2.1).bind (Sum.elim (fun y2 =>
       some (((y2.1,()),()),())
     ) (fun y2 =>
      none
     ))
   ) (fun y1 =>
    none
   ))
  ) (
   let u1:=(bw .i64 (ie .u64 (bw .u64 (aq .i64 p1 p3)) 1))
   cond (au u1 p2) (
    let u2:=(aq .i64 u1 p2)
    let u3:=(aI .i64 u2 1)
    (lr p0 p1 p2 p3 () u1 u2 (aI .i64 u2 p3) u1 u3).bind (Sum.elim (fun y1 =>
      let u4:=(aI .i64 y1.2.2.2.2.2.2.1 y1.2.2.2.2.2.2.2.1)
      let u5:=(cond (au y1.2.2.2.2.2.2.2.1 y1.2.2.1) (au y1.2.2.1 u4) false)
      cond u5 (
       let u6:=(At y1.1 y1.2.2.2.2.2.2.2.1 y1.2.2.1 u4)
       Option.bind u6 fun y2 =>
       let u7:=(cond (au y1.2.1 y1.2.2.2.2.2.2.2.1) (au y1.2.2.2.2.2.2.2.1 y1.2.2.2.2.2.1) false)
       cond u7 (
        let u8:=(eJ n y2.1.1.1 y1.2.1 y1.2.2.2.2.2.2.2.1 y1.2.2.2.2.2.1)
        Option.bind u8 fun y3 =>
        let u9:=(cond (au y1.2.2.2.2.2.1 u4) (au u4 y1.2.2.2.1) false)
        cond u9 (
         let u10:=(eJ n y3.1.1.1 y1.2.2.2.2.2.1 u4 y1.2.2.2.1)
         Option.bind u10 fun y4 =>
         some ((y4.1.1,()),())
        ) (
         some ((y3.1.1,()),())
        )
       ) (
        let u8:=(cond (au y1.2.2.2.2.2.1 u4) (au u4 y1.2.2.2.1) false)
        cond u8 (
         let u9:=(eJ n y2.1.1.1 y1.2.2.2.2.2.1 u4 y1.2.2.2.1)
         Option.bind u9 fun y3 =>
         some ((y3.1.1,()),())
        ) (
         some ((y2.1.1,()),())
        )
       )
      ) (
       let u6:=(cond (au y1.2.1 y1.2.2.2.2.2.2.2.1) (au y1.2.2.2.2.2.2.2.1 y1.2.2.2.2.2.1) false)
       cond u6 (
        let u7:=(eJ n y1.1 y1.2.1 y1.2.2.2.2.2.2.2.1 y1.2.2.2.2.2.1)
        Option.bind u7 fun y2 =>
        let u8:=(cond (au y1.2.2.2.2.2.1 u4) (au u4 y1.2.2.2.1) false)
        cond u8 (
         let u9:=(eJ n y2.1.1.1 y1.2.2.2.2.2.1 u4 y1.2.2.2.1)
         Option.bind u9 fun y3 =>
         some ((y3.1.1,()),())
        ) (
         some ((y2.1.1,()),())
        )
       ) (
        let u7:=(cond (au y1.2.2.2.2.2.1 u4) (au u4 y1.2.2.2.1) false)
        cond u7 (
         let u8:=(eJ n y1.1 y1.2.2.2.2.2.1 u4 y1.2.2.2.1)
         Option.bind u8 fun y2 =>
         some ((y2.1.1,()),())
        ) (
         some (((y1.1,()),()),())
        )
       )
      )
    ) (fun y1 =>
     none
    ))
   ) (
    let u2:=(aq .i64 u1 p2)
    let u3:=(aI .i64 u2 1)
    (lr p0 p1 p2 p3 () u1 u2 p1 p2 u3).bind (Sum.elim (fun y1 =>
      let u4:=(aI .i64 y1.2.2.2.2.2.2.1 y1.2.2.2.2.2.2.2.1)
      let u5:=(cond (au y1.2.2.2.2.2.2.2.1 y1.2.2.1) (au y1.2.2.1 u4) false)
      cond u5 (
       let u6:=(At y1.1 y1.2.2.2.2.2.2.2.1 y1.2.2.1 u4)
       Option.bind u6 fun y2 =>
       let u7:=(cond (au y1.2.1 y1.2.2.2.2.2.2.2.1) (au y1.2.2.2.2.2.2.2.1 y1.2.2.2.2.2.1) false)
       cond u7 (
        let u8:=(eJ n y2.1.1.1 y1.2.1 y1.2.2.2.2.2.2.2.1 y1.2.2.2.2.2.1)
        Option.bind u8 fun y3 =>
        let u9:=(cond (au y1.2.2.2.2.2.1 u4) (au u4 y1.2.2.2.1) false)
        cond u9 (
         let u10:=(eJ n y3.1.1.1 y1.2.2.2.2.2.1 u4 y1.2.2.2.1)
         Option.bind u10 fun y4 =>
         some ((y4.1.1,()),())
        ) (
         some ((y3.1.1,()),())
        )
       ) (
        let u8:=(cond (au y1.2.2.2.2.2.1 u4) (au u4 y1.2.2.2.1) false)
        cond u8 (
         let u9:=(eJ n y2.1.1.1 y1.2.2.2.2.2.1 u4 y1.2.2.2.1)
         Option.bind u9 fun y3 =>
         some ((y3.1.1,()),())
        ) (
         some ((y2.1.1,()),())
        )
       )
      ) (
       let u6:=(cond (au y1.2.1 y1.2.2.2.2.2.2.2.1) (au y1.2.2.2.2.2.2.2.1 y1.2.2.2.2.2.1) false)
       cond u6 (
        let u7:=(eJ n y1.1 y1.2.1 y1.2.2.2.2.2.2.2.1 y1.2.2.2.2.2.1)
        Option.bind u7 fun y2 =>
        let u8:=(cond (au y1.2.2.2.2.2.1 u4) (au u4 y1.2.2.2.1) false)
        cond u8 (
         let u9:=(eJ n y2.1.1.1 y1.2.2.2.2.2.1 u4 y1.2.2.2.1)
         Option.bind u9 fun y3 =>
         some ((y3.1.1,()),())
        ) (
         some ((y2.1.1,()),())
        )
       ) (
        let u7:=(cond (au y1.2.2.2.2.2.1 u4) (au u4 y1.2.2.2.1) false)
        cond u7 (
         let u8:=(eJ n y1.1 y1.2.2.2.2.2.1 u4 y1.2.2.2.1)
         Option.bind u8 fun y2 =>
         some ((y2.1.1,()),())
        ) (
         some (((y1.1,()),()),())
        )
       )
      )
    ) (fun y1 =>
     none
    ))
   )
  )
 ):=rfl
def mq (p0:List dC) (p1 p2 p3:Int):Option OT:=CL fun n=>eJ n p0 p1 p2 p3
def jG (n:Nat):Su:=⟨[.io false [gk],.c false [ki],.c false [ki],.c false [ki],.fn 138 []],[],true,.inl fun x=>eJ n x.1.1 x.2.1.1 x.2.2.1.1 x.2.2.2.1.1⟩
def I6:Su:=⟨[.io false [gk],.c false [ki],.c false [ki],.c false [ki],.fn 138 []],[],true,.inl fun x=>mq x.1.1 x.2.1.1 x.2.2.1.1 x.2.2.2.1.1⟩
def qP:List SE:=[.own 0 gk,.d 1 ki,.fn 4 138 [],.d 10 ki,.d 11 ki]
def qh:List SE:=[.own 0 gk,.d 10 ki,.d 13 ki]
def qQ:List SE:=[.own 0 gk,.d 2 ki,.fn 4 138 [],.d 14 ki,.d 15 ki]
def qA:List SE:=[.own 0 gk,.d 14 ki,.d 17 ki]
def pW:List SE:=[.own 0 gk,.d 1 ki,.d 2 ki,.d 3 ki,.fn 4 138 [],.d 18 ki,.d 19 ki,.d 20 ki,.d 21 ki,.d 22 ki]
def JB:List SE:=[]
def P3:Nat->Option (Lo JB)
 | 0=>some ⟨qP,eS wE⟩
 | 2=>some ⟨qh,ff vV⟩
 | 4=>some ⟨qQ,eS vw⟩
 | 6=>some ⟨qA,ff vo⟩
 | 8=>some ⟨pW,BW lr⟩
 | _=>none
def Bv (n:Nat):List Y0:=[(138,iS Sd),(239,iS (jG n)),(291,iS U0)]
def tR (n:Nat):En:=yQ 220 tt (Bv n) JB P3 [0] fun _=>none
def VY (n:Nat):Nat->Option (St->Tr St)
 | 11=>some (swapT (tR n) (opsOf (a7 11 (ah Tryz.f239))) [13] [(14,2),(14,3),(14,4)] 14 9 13)
 | 23=>some (swapT (tR n) (opsOf (a7 23 (ah Tryz.f239))) [17] [(14,2),(14,3),(14,4)] 14 9 13)
 | _=>none
def oK (n:Nat):En:=yQ 220 tt (Bv n) JB P3 [0] ((VY n))
theorem QB (n:Nat) (x:bE qP):(cZ (oK n) 0 qP (aX 0 (ah Tryz.f239)) x).run=eS mm x:=by kernel_rfl
theorem SO (n:Nat) (x:bE qh):(cZ (oK n) 2 qh (aX 2 (ah Tryz.f239)) x).run=ff o9 x:=by kernel_rfl
theorem S9 (n:Nat) (x:bE qQ):(cZ (oK n) 4 qQ (aX 4 (ah Tryz.f239)) x).run=eS ml x:=by kernel_rfl
theorem Q1 (n:Nat) (x:bE qA):(cZ (oK n) 6 qA (aX 6 (ah Tryz.f239)) x).run=ff nS x:=by kernel_rfl
theorem RQ (n:Nat) (x:bE pW):(cZ (oK n) 8 pW (aX 8 (ah Tryz.f239)) x).run=BW mr x:=by kernel_rfl
theorem t239 (n:Nat) (x:PT (jG (n + 1)).ps):(Fl (oK n) (ah Tryz.f239) Tryz.f239.results.toList (jG (n + 1)).ps (jG (n + 1)).rs true x).run=eJ (n + 1) x.1.1 x.2.1.1 x.2.2.1.1 x.2.2.2.1.1:=by kernel_rfl
theorem rQ (n:Nat) (hn:ar Tryz.prog 239 (jG n)):de Tryz.prog (oK n):=cN (l:=(Bv n)) ⟨Ce,hn,JF,trivial⟩
theorem Dh (n:Nat) (hn:ar Tryz.prog 239 (jG n)):de Tryz.prog (tR n):=cN (l:=(Bv n)) ⟨Ce,hn,JF,trivial⟩
theorem Oh (n:Nat) (hn:ar Tryz.prog 239 (jG n)):cF Tryz.prog (oK n) (a7 11 (ah Tryz.f239)) (swapT (tR n) (opsOf (a7 11 (ah Tryz.f239))) [13] [(14,2),(14,3),(14,4)] 14 9 13) :=
 gh rfl rfl (uk (E:=(tR n)) (kr hT) (Dh n hn) ed (c:=(a7 11 (ah Tryz.f239))) (id:=11) (by kernel_rfl))
theorem DN (n:Nat) (hn:ar Tryz.prog 239 (jG n)):de Tryz.prog (tR n):=cN (l:=(Bv n)) ⟨Ce,hn,JF,trivial⟩
theorem M4 (n:Nat) (hn:ar Tryz.prog 239 (jG n)):cF Tryz.prog (oK n) (a7 23 (ah Tryz.f239)) (swapT (tR n) (opsOf (a7 23 (ah Tryz.f239))) [17] [(14,2),(14,3),(14,4)] 14 9 13) :=
 gh rfl rfl (uk (E:=(tR n)) (kr hT) (DN n hn) ed (c:=(a7 23 (ah Tryz.f239))) (id:=23) (by kernel_rfl))
theorem QQ (n:Nat) (hn:ar Tryz.prog 239 (jG n)):bS Tryz.prog (oK n) 0 (.loop (aX 0 (ah Tryz.f239))) ⟨qP,eS wE⟩ :=
 dZ (kr hT) (rQ n hn) ed (step:=fun (x:bE qP)=>mm x.1 x.2.1 x.2.2.1 x.2.2.2.1 x.2.2.2.2.1) (QB n) (aT [] (by kernel_rfl) trivial [] (by kernel_rfl) trivial)
theorem RS (n:Nat) (hn:ar Tryz.prog 239 (jG n)):bS Tryz.prog (oK n) 2 (.loop (aX 2 (ah Tryz.f239))) ⟨qh,ff vV⟩ :=
 dZ (kr hT) (rQ n hn) ed (step:=fun (x:bE qh)=>o9 x.1 x.2.1 x.2.2.1) (SO n) (aT [] (by kernel_rfl) trivial [(11,a7 11 (ah Tryz.f239))] (by kernel_rfl) ⟨vh rfl (Oh n hn),trivial⟩)
theorem Q9 (n:Nat) (hn:ar Tryz.prog 239 (jG n)):bS Tryz.prog (oK n) 4 (.loop (aX 4 (ah Tryz.f239))) ⟨qQ,eS vw⟩ :=
 dZ (kr hT) (rQ n hn) ed (step:=fun (x:bE qQ)=>ml x.1 x.2.1 x.2.2.1 x.2.2.2.1 x.2.2.2.2.1) (S9 n) (aT [] (by kernel_rfl) trivial [] (by kernel_rfl) trivial)
theorem RT (n:Nat) (hn:ar Tryz.prog 239 (jG n)):bS Tryz.prog (oK n) 6 (.loop (aX 6 (ah Tryz.f239))) ⟨qA,ff vo⟩ :=
 dZ (kr hT) (rQ n hn) ed (step:=fun (x:bE qA)=>nS x.1 x.2.1 x.2.2.1) (Q1 n) (aT [] (by kernel_rfl) trivial [(23,a7 23 (ah Tryz.f239))] (by kernel_rfl) ⟨vh rfl (M4 n hn),trivial⟩)
theorem RU (n:Nat) (hn:ar Tryz.prog 239 (jG n)):bS Tryz.prog (oK n) 8 (.loop (aX 8 (ah Tryz.f239))) ⟨pW,BW lr⟩ :=
 dZ (kr hT) (rQ n hn) ed (step:=fun (x:bE pW)=>mr x.1 x.2.1 x.2.2.1 x.2.2.2.1 x.2.2.2.2.1 x.2.2.2.2.2.1 x.2.2.2.2.2.2.1 x.2.2.2.2.2.2.2.1 x.2.2.2.2.2.2.2.2.1 x.2.2.2.2.2.2.2.2.2.1) (RQ n) (aT [] (by kernel_rfl) trivial [] (by kernel_rfl) trivial)
theorem Ki:∀ n,ar Tryz.prog 239 (jG n)
 | 0=>ar.zero fun _=>rfl
 | n + 1=>have hn:=Ki n
 nC (E:=(oK n)) (kr hT) (rQ n hn) ed (fn:=Tryz.f239) (c:=(ah Tryz.f239)) (by kernel_rfl) (by kernel_rfl) (by kernel_rfl) rfl (aT [(0,.loop (aX 0 (ah Tryz.f239))),(2,.loop (aX 2 (ah Tryz.f239))),(4,.loop (aX 4 (ah Tryz.f239))),(6,.loop (aX 6 (ah Tryz.f239))),(8,.loop (aX 8 (ah Tryz.f239)))] (by kernel_rfl) ⟨lL rfl (QQ n hn),lL rfl (RS n hn),lL rfl (Q9 n hn),lL rfl (RT n hn),lL rfl (RU n hn),trivial⟩ [] (by kernel_rfl) trivial) fun x y h=>⟨y.1,fun _=>rfl,((t239 n) x).trans h⟩
theorem WJ:ar Tryz.prog 239 I6:=ar.fix (ps:=I6.ps) (rs:=I6.rs) (fr:=I6.fresh) (G:=fun n (x:PT I6.ps)=>eJ n x.1.1 x.2.1.1 x.2.2.1.1 x.2.2.2.1.1) Ki
def rC (t0:List dC) (t1:Int) (_:Unit) (t6 t7 t8:Int):Rd ((List dC)×Int×Unit×Int×Int×Int×Unit) Unit :=
 cond (bz t8 t1) (
 (FU t0 t7 t8).bind fun y1 =>
 some (.inl (y1.1.1.1,t1,(),t6,t8,(aq .i64 t8 t6),()))
 ) (
 some (.inr (.inl (t0,t1,(),t6,t7,t8,())))
 )
def Eb:=Vc (ai (FB rC))
def rK (t0:List dC) (t1:Int) (_:Unit) (t6 t7 t8:Int):Rd ((List dC)×Int×Unit×Int×Int×Int×Unit) Unit :=
 cond (bz t8 t1) (
 (mq t0 t7 (aq .i64 t7 t6) t8).bind fun y1 =>
 some (.inl (y1.1.1.1,t1,(),t6,t8,(aq .i64 t8 (jO .i64 2 t6)),()))
 ) (
 some (.inr (.inl (t0,t1,(),t6,t7,t8,())))
 )
def As:=Vc (ai (FB rK))
def sj (t0:List dC) (t1:Int) (_:Unit) (t6:Int):Rd ((List dC)×Int×Unit×Int×Unit) Unit :=
 cond (au t6 t1) (
 (As t0 t1 () t6 0 (jO .i64 2 t6)).bind (Sum.elim (fun y1 =>
 let u1:=(aq .i64 y1.2.2.2.2.1 y1.2.2.2.1)
 cond (au u1 y1.2.1) (
 (mq y1.1 y1.2.2.2.2.1 u1 y1.2.1).bind fun y2 =>
 let u2:=(jO .i64 y1.2.2.2.1 2)
 some (.inl (y2.1.1.1,y1.2.1,(),u2,()))
 ) (
 let u2:=(jO .i64 y1.2.2.2.1 2)
 some (.inl (y1.1,y1.2.1,(),u2,()))
 )
 ) (fun _ =>
 some (.inr (.inr ()))
 ))
 ) (
 some (.inr (.inl (t0,t1,(),t6,())))
 )
def Ef:=kq (ai (cf sj))
def Rc (p0:List dC) (p1:Int):Option OT :=
 (Eb p0 p1 () 20 0 20).bind (Sum.elim (fun y1 =>
 (FU y1.1 y1.2.2.2.2.1 y1.2.1).bind fun y2 =>
 (Ef y2.1.1.1 y1.2.1 () y1.2.2.2.1).bind (Sum.elim (fun y3 =>
 some (((y3.1,()),()),())
 ) (fun _ =>
 none
 ))
 ) (fun _ =>
 none
 ))
def abl:Su:=⟨[.io false [gk],.c false [ki],.fn 138 []],[],true,.inl fun x=>Rc x.1.1 x.2.1.1⟩
theorem UM:ar Tryz.prog 186 abl :=
 fl (ac TF (ac WJ an)) [] [(0,⟨[.own 0 gk,.d 1 ki,.fn 2 138 [],.d 6 ki,.d 7 ki,.d 8 ki],ai (FB rC)⟩),(4,⟨[.own 0 gk,.d 1 ki,.fn 2 138 [],.d 6 ki,.d 7 ki,.d 8 ki],ai (FB rK)⟩),(2,⟨[.own 0 gk,.d 1 ki,.fn 2 138 [],.d 6 ki],ai (cf sj)⟩)] [0] Tryz.f186 (lp [0,2] (sc cX (sc (lp [4] (sc cX sn)) sn)))
def NO (p0:List dC):Option OT :=
 (Rc p0 (ae p0)).bind fun y1 =>
 some ((y1.1.1,()),())
def Zn:Su:=⟨[.io false [gk],.fn 138 []],[],true,.inl fun x=>NO x.1.1⟩
theorem VE:ar Tryz.prog 137 Zn :=
 fl (ac UM an) [] [] [0] Tryz.f137 cX
def Ee (p0:List fA):Option (Unit×((List fA)×Unit)×Unit):=cond (cO 32 ([]:List fA) p0) (some ((),((p0,()),()))) none
def G6:Su:=⟨[.c false [iE]],[(false,[iE])],true,.inl fun x=>Ee x.1.1⟩
def Qt:En:=yQ 8 tt [] [] (fun _=>none) [] fun _=>none
def O7 (x:PT G6.ps):St:=⟨[(2,.v .nil),(0,.v (.d iE x.1.1))],[]⟩
theorem t147 (x:PT G6.ps) (b:Bool):((cC Qt (.seq (da (dL (da (ah Tryz.f147)))) (da (da (ah Tryz.f147)))) (((O7 x).az 3 (.v (.d iE x.1.1),none)).az 4 (.v (.d .bool b),none))).bind (Cz Qt Tryz.f147.results.toList G6.ps G6.rs G6.fresh)).run =
 cond b (some ((),(([],()),()))) (Ee x.1.1):=by kernel_rfl
theorem O3:ar Tryz.prog 147 G6 :=
 D6 (E:=Qt) (kr hT) (cN (l:=[]) trivial) ed (fn:=Tryz.f147) (c0:=dL (ah Tryz.f147)) (cc:=da (dL (da (ah Tryz.f147)))) (c3:=da (da (ah Tryz.f147))) (id:=Jp (dL (dL (da (ah Tryz.f147)))))
  (o1:=ep (dL (dL (da (ah Tryz.f147)))) 0) (o2:=ep (dL (dL (da (ah Tryz.f147)))) 1) (by kernel_rfl) (by kernel_rfl) (by kernel_rfl) rfl
  (bt (fun _=>rfl) _ (by kernel_rfl)) (bt (fun _=>rfl) _ (by kernel_rfl)) (bt (fun _=>rfl) _ (by kernel_rfl)) (t0:=0) (t3:=3) (t4:=4) (ty:=53) (ty':=53) (e:=95) (e':=95) (by':=24) (fl:=[]) (ks:=wM) (by kernel_rfl) (by kernel_rfl) (by kernel_rfl) (by kernel_rfl) (by kernel_rfl) (by kernel_rfl) (by kernel_rfl) (by kernel_rfl) (by kernel_rfl)
  O7 (fun x=>x.1.1) (fun x=>by kernel_rfl) (fun x=>by kernel_rfl) fun x y hy b hb=>by
   refine ⟨y.1,fun _=>rfl,?_⟩
   rw [t147]
   have hy:Ee x.1.1=some y:=hy
   cases b with
   | false=>exact hy
   | true =>
     have he:x.1.1=([]:List fA):=hb rfl
     rw [he] at hy
     exact hy
def Gp (p0:List R3):Option (Unit×Gx×Unit):=cond (cO 8 ([]:List R3) p0) (some ((),((p0,()),()))) none
def GN:Su:=⟨[.c false [q3]],[(false,[q3])],true,.inl fun x=>Gp x.1.1⟩
def S8:En:=yQ 8 tt [] [] (fun _=>none) [] fun _=>none
def Ql (x:PT GN.ps):St:=⟨[(2,.v .nil),(0,.v (.d q3 x.1.1))],[]⟩
theorem t157 (x:PT GN.ps) (b:Bool):((cC S8 (.seq (da (dL (da (ah Tryz.f157)))) (da (da (ah Tryz.f157)))) (((Ql x).az 3 (.v (.d q3 x.1.1),none)).az 4 (.v (.d .bool b),none))).bind (Cz S8 Tryz.f157.results.toList GN.ps GN.rs GN.fresh)).run =
 cond b (some ((),(([],()),()))) (Gp x.1.1):=by kernel_rfl
theorem Up:ar Tryz.prog 157 GN :=
 D6 (E:=S8) (kr hT) (cN (l:=[]) trivial) ed (fn:=Tryz.f157) (c0:=dL (ah Tryz.f157)) (cc:=da (dL (da (ah Tryz.f157)))) (c3:=da (da (ah Tryz.f157))) (id:=Jp (dL (dL (da (ah Tryz.f157)))))
  (o1:=ep (dL (dL (da (ah Tryz.f157)))) 0) (o2:=ep (dL (dL (da (ah Tryz.f157)))) 1) (by kernel_rfl) (by kernel_rfl) (by kernel_rfl) rfl
  (bt (fun _=>rfl) _ (by kernel_rfl)) (bt (fun _=>rfl) _ (by kernel_rfl)) (bt (fun _=>rfl) _ (by kernel_rfl)) (t0:=0) (t3:=3) (t4:=4) (ty:=54) (ty':=54) (e:=3) (e':=3) (by':=24) (fl:=[]) (ks:=lh) (by kernel_rfl) (by kernel_rfl) (by kernel_rfl) (by kernel_rfl) (by kernel_rfl) (by kernel_rfl) (by kernel_rfl) (by kernel_rfl) (by kernel_rfl)
  Ql (fun x=>x.1.1) (fun x=>by kernel_rfl) (fun x=>by kernel_rfl) fun x y hy b hb=>by
   refine ⟨y.1,fun _=>rfl,?_⟩
   rw [t157]
   have hy:Gp x.1.1=some y:=hy
   cases b with
   | false=>exact hy
   | true =>
     have he:x.1.1=([]:List R3):=hb rfl
     rw [he] at hy
     exact hy
def K6 (p0:Int×Int×(List R3)×(List R3)×Unit):Option ZK :=
 (Gp p0.2.2.1).bind fun y1 =>
 (Gp p0.2.2.2.1).bind fun y2 =>
 some ((),((p0.1,p0.2.1,y1.2.1.1,y2.2.1.1,()),()))
def YM:Su:=⟨[.c true [ki,ki,q3,q3]],[(true,[ki,ki,q3,q3])],true,.inl fun x=>K6 x.1⟩
theorem Xw:ar Tryz.prog 167 YM :=
 fq (ac Up an) Tryz.f167
def TH (p0:List R5):Option (Unit×((List R5)×Unit)×Unit):=cond (cO 1 ([]:List R5) p0) (some ((),((p0,()),()))) none
def Ti:Su:=⟨[.c false [q5]],[(false,[q5])],true,.inl fun x=>TH x.1.1⟩
def E99:En:=yQ 8 tt [] [] (fun _=>none) [] fun _=>none
def WL (x:PT Ti.ps):St:=⟨[(2,.v .nil),(0,.v (.d q5 x.1.1))],[]⟩
theorem t99 (x:PT Ti.ps) (b:Bool):((cC E99 (.seq (da (dL (da (ah Tryz.f99)))) (da (da (ah Tryz.f99)))) (((WL x).az 3 (.v (.d q5 x.1.1),none)).az 4 (.v (.d .bool b),none))).bind (Cz E99 Tryz.f99.results.toList Ti.ps Ti.rs Ti.fresh)).run =
 cond b (some ((),(([],()),()))) (TH x.1.1):=by kernel_rfl
theorem YF:ar Tryz.prog 99 Ti :=
 D6 (E:=E99) (kr hT) (cN (l:=[]) trivial) ed (fn:=Tryz.f99) (c0:=dL (ah Tryz.f99)) (cc:=da (dL (da (ah Tryz.f99)))) (c3:=da (da (ah Tryz.f99))) (id:=Jp (dL (dL (da (ah Tryz.f99)))))
  (o1:=ep (dL (dL (da (ah Tryz.f99)))) 0) (o2:=ep (dL (dL (da (ah Tryz.f99)))) 1) (by kernel_rfl) (by kernel_rfl) (by kernel_rfl) rfl
  (bt (fun _=>rfl) _ (by kernel_rfl)) (bt (fun _=>rfl) _ (by kernel_rfl)) (bt (fun _=>rfl) _ (by kernel_rfl)) (t0:=0) (t3:=3) (t4:=4) (ty:=39) (ty':=39) (e:=5) (e':=5) (by':=24) (fl:=[]) (ks:=tZ) (by kernel_rfl) (by kernel_rfl) (by kernel_rfl) (by kernel_rfl) (by kernel_rfl) (by kernel_rfl) (by kernel_rfl) (by kernel_rfl) (by kernel_rfl)
  WL (fun x=>x.1.1) (fun x=>by kernel_rfl) (fun x=>by kernel_rfl) fun x y hy b hb=>by
   refine ⟨y.1,fun _=>rfl,?_⟩
   rw [t99]
   have hy:TH x.1.1=some y:=hy
   cases b with
   | false=>exact hy
   | true =>
     have he:x.1.1=([]:List R5):=hb rfl
     rw [he] at hy
     exact hy
def oQ (t3 t7:List cV) (t8 t9:Int):Rd XR Unit :=
 cond (au t9 t8) (
 cond (aZ t9 t7) (
 let u1:=(gt d166 t7 t9)
 (TH u1.2.2.1).bind fun y1 =>
 cond (cO 56 t3 [(u1.1,u1.2.1,y1.2.1.1,())]) (
 some (.inl ((lT t3 [(u1.1,u1.2.1,y1.2.1.1,())]),t7,t8,(aq .i64 t9 1),()))
 ) none
 ) none
 ) (
 some (.inr (.inl (t3,t7,t8,t9,())))
 )
def Jn:=kq (ai (cf oQ))
def NX (p0:List cV):Option Y31 :=
 (Jn [] p0 (ae p0) 0).bind (Sum.elim (fun y1 =>
 some ((),((y1.1,()),()))
 ) (fun _ =>
 none
 ))
def aac:Su:=⟨[.c false [dI]],[(false,[dI])],true,.inl fun x=>NX x.1.1⟩
theorem Vv:ar Tryz.prog 168 aac :=
 fl (ac YF an) [] [(0,⟨[.own 3 dI,.d 7 dI,.d 8 ki,.d 9 ki],ai (cf oQ)⟩)] [] Tryz.f168 (lp [0] (sc cX sn))
def L7 (p0:(List UInt8)×Int×Int×Int×Int×(List fA)×Int×Int×(List R3)×(List R3)×(List cV)×Unit):Option Y63 :=
 (Ee p0.2.2.2.2.2.1).bind fun y1 =>
 (K6 (p0.2.2.2.2.2.2.1,p0.2.2.2.2.2.2.2.1,p0.2.2.2.2.2.2.2.2.1,p0.2.2.2.2.2.2.2.2.2.1,())).bind fun y2 =>
 (NX p0.2.2.2.2.2.2.2.2.2.2.1).bind fun y3 =>
 some ((),((p0.1,p0.2.1,p0.2.2.1,p0.2.2.2.1,p0.2.2.2.2.1,y1.2.1.1,y2.2.1.1,y2.2.1.2.1,y2.2.1.2.2.1,y2.2.1.2.2.2.1,y3.2.1.1,()),()))
def abU:Su:=⟨[.c true [.str,ki,ki,ki,ki,iE,ki,ki,q3,q3,dI]],[(true,[.str,ki,ki,ki,ki,iE,ki,ki,q3,q3,dI])],true,.inl fun x=>L7 x.1⟩
theorem Ua:ar Tryz.prog 108 abU :=
 fq (ac O3 (ac Xw (ac Vv an))) Tryz.f108
def o7 (_:Unit) (t10:List dC) (t11 t12:Int) (b4 b5:(List dC)×Unit):Rd (Unit×(List dC)×Int×Int×Y5×Y5×Unit) Unit :=
 cond (au t12 t11) (
 cond (aZ t12 t10) (
 (L7 (gt d59 t10 t12)).bind fun y1 =>
 cond (cO 160 b5.1 [y1.2.1]) (
 some (.inl ((),t10,t11,(aq .i64 t12 1),b4,((lT b5.1 [y1.2.1]),()),()))
 ) none
 ) none
 ) (
 some (.inr (.inl ((),t10,t11,t12,b4,b5,())))
 )
def IH:=Vc (ai (FB o7))
def RW (p0:(List dC)×Unit):Option Tc :=
 (IH () p0.1 (ae p0.1) 0 ([],()) ([],())).bind (Sum.elim (fun y1 =>
 some ((),(y1.2.2.2.2.2.1,()))
 ) (fun _ =>
 none
 ))
def YN:Su:=⟨[.c true [gk],.fn 108 []],[(true,[gk])],true,.inl fun x=>RW x.1⟩
theorem U3:ar Tryz.prog 185 YN :=
 fl (ac Ua an) [] [(0,⟨[.fn 1 108 [],.d 10 gk,.d 11 ki,.d 12 ki,.box 4 [(true,gk)],.box 5 [(true,gk)]],ai (FB o7)⟩)] [] Tryz.f185 (lp [0] (sc cX sn))
def ML (p0:(List dC)×Unit):Option Tc :=
 (RW p0).bind fun y1 =>
 some ((),(y1.2.1,()))
def abX:Su:=⟨[.c true [gk]],[(true,[gk])],true,.inl fun x=>ML x.1⟩
theorem VI:ar Tryz.prog 136 abX :=
 fq (ac U3 an) Tryz.f136
def wR (t7:List fV) (t8 t9:Int) (b2 b3:(List dC)×Unit):Rd ((List fV)×Int×Int×Y5×Y5×Unit) Unit :=
 cond (au t9 t8) (
 cond (aZ t9 t7) (
 (ML ((gt d89 t7 t9).2.1,())).bind fun y1 =>
 cond (cO 160 b3.1 y1.2.1.1) (
 some (.inl (t7,t8,(aq .i64 t9 1),b2,((lT b3.1 y1.2.1.1),()),()))
 ) none
 ) none
 ) (
 some (.inr (.inl (t7,t8,t9,b2,b3,())))
 )
def Qh:=xI (ai (eS wR))
def OP (p0:List fV):Option Tc :=
 (Qh p0 (ae p0) 0 ([],()) ([],())).bind (Sum.elim (fun y1 =>
 (NO y1.2.2.2.2.1.1).bind fun y2 =>
 some ((),(y2.1.1,()))
 ) (fun _ =>
 none
 ))
def s80:Su:=⟨[.c false [j9]],[(true,[gk])],true,.inl fun x=>OP x.1.1⟩
theorem Uc:ar Tryz.prog 80 s80 :=
 fl (ac VE (ac VI an)) [] [(0,⟨[.d 7 j9,.d 8 ki,.d 9 ki,.box 2 [(true,gk)],.box 3 [(true,gk)]],ai (eS wR)⟩)] [] Tryz.f80 (lp [0] (sc cX sn))
def pL (t0:List UInt8) (t5 t6:Int):Rd Te Y2 :=
 cond (au t6 t5) (
 cond (aZ t6 t0) (
 let u1:=(dq t0 t6)
 cond (au u1 48) (
 some (.inr (.inr (false,())))
 ) (
 cond (aZ t6 t0) (
 cond (au 57 u1) (
 some (.inr (.inr (false,())))
 ) (
 some (.inl (t0,t5,(aq .i64 t6 1),()))
 )
 ) none
 )
 ) none
 ) (
 some (.inr (.inl (t0,t5,t6,())))
 )
def Io:=rb (ai (ff pL))
def tX (p0:List UInt8):Option dS :=
 (Io p0 (ae p0) 0).bind (Sum.elim (fun y1 =>
 some ((),(((!(bI y1.1 [])),()),()))
 ) (fun y1 =>
 some ((),(y1,()))
 ))
def Yr:Su:=⟨[.c false [.str]],[(false,[.bool])],true,.inl fun x=>tX x.1.1⟩
theorem yr:ar Tryz.prog 240 Yr :=
 fl an [.d 2 .bool] [(0,⟨[.d 0 .str,.d 5 ki,.d 6 ki],ai (ff pL)⟩)] [] Tryz.f240 (lp [0] (sc cX sn))
def sC (t0:List UInt8) (t3:Int) (t4:Bool) (t5:Int):Rd ((List UInt8)×Int×Bool×Int×Unit) Unit :=
 cond (bz 0 t5) (
 cond (aZ t5 t0) (
 cond t4 (
 let u1:=(bw .i64 (aI .u8 (dq t0 t5) 48))
 let u2:=(jO .i64 u1 2)
 cond (au 9 u2) (
 let u3:=(aI .i64 t5 1)
 some (.inl (t0,(aq .i64 t3 (aI .i64 u2 9)),(!t4),u3,()))
 ) (
 let u3:=(aI .i64 t5 1)
 some (.inl (t0,(aq .i64 t3 u2),(!t4),u3,()))
 )
 ) (
 let u1:=(bw .i64 (aI .u8 (dq t0 t5) 48))
 let u2:=(aI .i64 t5 1)
 some (.inl (t0,(aq .i64 t3 u1),(!t4),u2,()))
 )
 ) none
 ) (
 some (.inr (.inl (t0,t3,t4,t5,())))
 )
def H9:=kq (ai (cf sC))
def Ma (p0:List UInt8):Option gX :=
 (tX p0).bind fun y1 =>
 cond (!y1.2.1.1) (
 c3
 ) (
 (H9 p0 0 true (aI .i64 (ae p0) 1)).bind (Sum.elim (fun y2 =>
 some ((),(((fW (aI .i64 10 (fW y2.2.1 10)) 10),()),()))
 ) (fun _ =>
 none
 ))
 )
def abF:Su:=⟨[.c false [.str]],[(false,[ki])],true,.inl fun x=>Ma x.1.1⟩
theorem Ug:ar Tryz.prog 241 abF :=
 fl (ac yr an) [] [(0,⟨[.d 0 .str,.d 3 ki,.d 4 .bool,.d 5 ki],ai (cf sC)⟩)] [] Tryz.f241 (lp [0] (sc cX sn))
def NJ (p0:List UInt8):Option dS :=
 let u1:=(aI .i64 (ae p0) 1)
 cond (bz 1 u1) (
 (tX p0).bind fun y1 =>
 cond y1.2.1.1 (
 cond (dj 0 u1 p0) (
 (Ma (sub p0 0 u1)).bind fun y2 =>
 cond (aZ u1 p0) (
 some ((),(((ak y2.2.1.1 (bw .i64 (aI .u8 (dq p0 u1) 48))),()),()))
 ) none
 ) none
 ) (
 c0
 )
 ) (
 c0
 )
def YZ:Su:=⟨[.c false [.str]],[(false,[.bool])],true,.inl fun x=>NJ x.1.1⟩
theorem VQ:ar Tryz.prog 187 YZ :=
 fq (ac yr (ac Ug an)) Tryz.f187
def rZ (p0:List UInt8):Option dS :=
 cond (bz (ae p0) 19) (
 (NJ p0).bind fun y1 =>
 some ((),(y1.2.1,()))
 ) (
 c0
 )
def aae:Su:=⟨[.c false [.str]],[(false,[.bool])],true,.inl fun x=>rZ x.1.1⟩
theorem PM:ar Tryz.prog 139 aae :=
 fq (ac VQ an) Tryz.f139
def UY (p0:Int):Option dS :=
 (nc p0 0 4611686018427387904).bind fun y1 =>
 some ((),(y1.2.1,()))
def s78:Su:=⟨[.c false [ki]],[(false,[.bool])],true,.inl fun x=>UY x.1.1⟩
theorem Sv:ar Tryz.prog 78 s78 :=
 fq (ac my an) Tryz.f78
def nL (t0:List UInt8) (t5 t6:Int):Rd Te Y2 :=
 cond (au t6 t5) (
 cond (aZ t6 t0) (
 let u1:=(dq t0 t6)
 cond (au u1 48) (
 cond (aZ t6 t0) (
 cond (au u1 97) (
 some (.inr (.inr (false,())))
 ) (
 cond (aZ t6 t0) (
 cond (au 122 u1) (
 some (.inr (.inr (false,())))
 ) (
 some (.inl (t0,t5,(aq .i64 t6 1),()))
 )
 ) none
 )
 ) none
 ) (
 cond (aZ t6 t0) (
 cond (au 57 u1) (
 cond (aZ t6 t0) (
 cond (au u1 97) (
 some (.inr (.inr (false,())))
 ) (
 cond (aZ t6 t0) (
 cond (au 122 u1) (
 some (.inr (.inr (false,())))
 ) (
 some (.inl (t0,t5,(aq .i64 t6 1),()))
 )
 ) none
 )
 ) none
 ) (
 some (.inl (t0,t5,(aq .i64 t6 1),()))
 )
 ) none
 )
 ) none
 ) (
 some (.inr (.inl (t0,t5,t6,())))
 )
def Jo:=rb (ai (ff nL))
def Kn (p0:List UInt8):Option dS :=
 (Jo p0 (ae p0) 0).bind (Sum.elim (fun y1 =>
 (nc (ae y1.1) 1 6).bind fun y2 =>
 some ((),(y2.2.1,()))
 ) (fun y1 =>
 some ((),(y1,()))
 ))
def abZ:Su:=⟨[.c false [.str]],[(false,[.bool])],true,.inl fun x=>Kn x.1.1⟩
theorem Qn:ar Tryz.prog 242 abZ :=
 fl (ac my an) [.d 2 .bool] [(0,⟨[.d 0 .str,.d 5 ki,.d 6 ki],ai (ff nL)⟩)] [] Tryz.f242 (lp [0] (sc cX sn))
def tg (p0:Int):Option dS :=
 (nc p0 0 1000000000).bind fun y1 =>
 some ((),(y1.2.1,()))
def s74:Su:=⟨[.c false [ki]],[(false,[.bool])],true,.inl fun x=>tg x.1.1⟩
theorem GX:ar Tryz.prog 74 s74 :=
 fq (ac my an) Tryz.f74
def Ns (p0:(List UInt8)×Int×Int×Unit):Option dS :=
 (Kn p0.1).bind fun y1 =>
 cond y1.2.1.1 (
 (nc p0.2.1 1 9007199254740992).bind fun y2 =>
 cond y2.2.1.1 (
 (tg p0.2.2.1).bind fun y3 =>
 some ((),(y3.2.1,()))
 ) (
 c0
 )
 ) (
 c0
 )
def Zu:Su:=⟨[.c true [.str,ki,ki]],[(false,[.bool])],true,.inl fun x=>Ns x.1⟩
theorem Wb:ar Tryz.prog 188 Zu :=
 fq (ac my (ac Qn (ac GX an))) Tryz.f188
def oF (t0 t5:List fA) (t6 t7:Int):Rd ((List fA)×(List fA)×Int×Int×Unit) Y2 :=
 cond (au t7 t6) (
 cond (aZ t7 t5) (
 let u1:=(gt d95 t5 t7)
 (Ns u1).bind fun y1 =>
 cond (!y1.2.1.1) (
 some (.inr (.inr (false,())))
 ) (
 cond (au 0 t7) (
 let u2:=(aI .i64 t7 1)
 cond (aZ u2 t0) (
 cond (SF u1.1 (gt d95 t0 u2).1) (
 some (.inr (.inr (false,())))
 ) (
 some (.inl (t0,t5,t6,(aq .i64 t7 1),()))
 )
 ) none
 ) (
 some (.inl (t0,t5,t6,(aq .i64 t7 1),()))
 )
 )
 ) none
 ) (
 some (.inr (.inl (t0,t5,t6,t7,())))
 )
def JV:=kq (ai (cf oF))
def ME (p0:List fA):Option dS :=
 (JV p0 p0 (ae p0) 0).bind (Sum.elim (fun y1 =>
 some ((),(((bz (ae y1.1) 4),()),()))
 ) (fun y1 =>
 some ((),(y1,()))
 ))
def aaF:Su:=⟨[.c false [iE]],[(false,[.bool])],true,.inl fun x=>ME x.1.1⟩
theorem Vr:ar Tryz.prog 140 aaF :=
 fl (ac Wb an) [.d 2 .bool] [(0,⟨[.d 0 iE,.d 5 iE,.d 6 ki,.d 7 ki],ai (cf oF)⟩)] [] Tryz.f140 (lp [0] (sc cX sn))
def OD (p1:Int):Option OL :=
 cond (au p1 0) (
 none
 ) (
 let u1:=(aI .i64 p1 (aI .i64 0 0))
 cond (au 0 u1) (
 cond (Ue 0 0) (
 cond (Yn 8 u1) (
 let u2:=(uM d3 u1)
 cond (dj 0 0 u2) (
 some ((),(((HD u2 0),()),()))
 ) none
 ) none
 ) none
 ) (
 some ((),(([],()),()))
 )
 )
def ZX:Su:=⟨[.nil,.c false [ki]],[(false,[q3])],true,.inl fun x=>OD x.1.1⟩
theorem Wv:ar Tryz.prog 243 ZX :=
 fq an Tryz.f243
def sh (t0:List Gx) (t3:Int) (t9:List Gx) (t10 t11:Int):Rd ((List Gx)×Int×(List Gx)×Int×Int×Unit) Unit :=
 cond (au t11 t10) (
 cond (aZ t11 t9) (
 let u1:=(aq .i64 t3 (ae (gt d54 t9 t11).1))
 cond (au u1 0) (
 none
 ) (
 some (.inl (t0,u1,t9,t10,(aq .i64 t11 1),()))
 )
 ) none
 ) (
 some (.inr (.inl (t0,t3,t9,t10,t11,())))
 )
def Dw:=xI (ai (eS sh))
def rq (t6:List R3) (t25:List Gx) (t26 t27:Int):Rd ((List R3)×(List Gx)×Int×Int×Unit) Unit :=
 cond (au t27 t26) (
 cond (aZ t27 t25) (
 cond (cO 8 t6 (gt d54 t25 t27).1) (
 some (.inl ((lT t6 (gt d54 t25 t27).1),t25,t26,(aq .i64 t27 1),()))
 ) none
 ) none
 ) (
 some (.inr (.inl (t6,t25,t26,t27,())))
 )
def DE:=kq (ai (cf rq))
def N6 (p0:List Gx):Option OL :=
 (Dw p0 0 p0 (ae p0) 0).bind (Sum.elim (fun y1 =>
 (OD y1.2.1).bind fun y2 =>
 (DE y2.2.1.1 y1.1 (ae y1.1) 0).bind (Sum.elim (fun y3 =>
 some ((),((y3.1,()),()))
 ) (fun _ =>
 none
 ))
 ) (fun _ =>
 none
 ))
def Z4:Su:=⟨[.c false [.sl 54 Lw]],[(false,[q3])],true,.inl fun x=>N6 x.1.1⟩
theorem VO:ar Tryz.prog 189 Z4 :=
 fl (ac Wv an) [] [(0,⟨[.d 0 (.sl 54 Lw),.d 3 ki,.d 9 (.sl 54 Lw),.d 10 ki,.d 11 ki],ai (eS sh)⟩),(2,⟨[.own 6 q3,.d 25 (.sl 54 Lw),.d 26 ki,.d 27 ki],ai (cf rq)⟩)] [] Tryz.f189 (lp [0,2] (sc cX (sc cX sn)))
def oq (t3:Int) (t14:List R3) (t15 t16:Int) (b1:Int×Int×(List R3)×(List R3)×Unit):Rd (Int×(List R3)×Int×Int×(Int×Int×(List R3)×(List R3)×Unit)×Unit) Y2 :=
 cond (au t16 t15) (
 cond (aZ t16 t14) (
 (UY (gt d3 t14 t16).1).bind fun y1 =>
 cond (!y1.2.1.1) (
 some (.inr (.inr (false,())))
 ) (
 some (.inl (t3,t14,t15,(aq .i64 t16 1),b1,()))
 )
 ) none
 ) (
 some (.inr (.inl (t3,t14,t15,t16,b1,())))
 )
def Jw:=xI (ai (eS oq))
def K7 (p0:Int×Int×(List R3)×(List R3)×Unit):Option dS :=
 (N6 [(p0.2.2.1,()),(p0.2.2.2.1,())]).bind fun y1 =>
 (Jw (ae p0.2.2.1) y1.2.1.1 (ae y1.2.1.1) 0 p0).bind (Sum.elim (fun y2 =>
 (nc y2.2.2.2.2.1.1 1 1000).bind fun y3 =>
 cond y3.2.1.1 (
 (nc y2.1 1 8).bind fun y4 =>
 cond (cond y4.2.1.1 (ak (ae y2.2.2.2.2.1.2.2.2.1) y2.1) false) (
 (tg y2.2.2.2.2.1.2.1).bind fun y5 =>
 some ((),(y5.2.1,()))
 ) (
 c0
 )
 ) (
 c0
 )
 ) (fun y2 =>
 some ((),(y2,()))
 ))
def ZJ:Su:=⟨[.c true [ki,ki,q3,q3]],[(false,[.bool])],true,.inl fun x=>K7 x.1⟩
theorem WN:ar Tryz.prog 141 ZJ :=
 fl (ac my (ac Sv (ac GX (ac VO an)))) [.d 2 .bool] [(0,⟨[.d 3 ki,.own 14 q3,.d 15 ki,.d 16 ki,.box 1 [(false,ki),(false,ki),(false,q3),(false,q3)]],ai (eS oq)⟩)] [] Tryz.f141 (lp [0] (sc cX sn))
def wx (p0:List UInt8) (p1:Int):Option dS :=
 (tX p0).bind fun y1 =>
 some ((),(((cond y1.2.1.1 (ak (ae p0) p1) false),()),()))
def ZR:Su:=⟨[.c false [.str],.c false [ki]],[(false,[.bool])],true,.inl fun x=>wx x.1.1 x.2.1.1⟩
theorem It:ar Tryz.prog 244 ZR :=
 fq (ac yr an) Tryz.f244
def Mi (p0:(List UInt8)×(List UInt8)×(List R5)×Unit):Option dS :=
 (wx p0.1 6).bind fun y1 =>
 cond y1.2.1.1 (
 (wx p0.2.1 4).bind fun y2 =>
 cond y2.2.1.1 (
 (nc (ae p0.2.2.1) 1 200).bind fun y3 =>
 some ((),(y3.2.1,()))
 ) (
 c0
 )
 ) (
 c0
 )
def abd:Su:=⟨[.c true [.str,.str,q5]],[(false,[.bool])],true,.inl fun x=>Mi x.1⟩
theorem TW:ar Tryz.prog 190 abd :=
 fq (ac my (ac It an)) Tryz.f190
def SN (p0:(List UInt8)×(List UInt8)×(List R5)×Unit) (p1 p2:(List UInt8)×Unit):Option dS :=
 some ((),(((cond (bI p0.1 p1.1) (bI p0.2.1 p2.1) false),()),()))
def aab:Su:=⟨[.c true [.str,.str,q5],.pt [.str],.pt [.str]],[(false,[.bool])],true,.inl fun x=>SN x.1 x.2.1 x.2.2.1⟩
theorem UX:ar Tryz.prog 246 aab :=
 fq an Tryz.f246
def oE (t0:List cV) (f1:Y8×Y8×Unit) (t7 t8:Int):Rd ((List cV)×(Y8×Y8×Unit)×Int×Int×Unit) Y1 :=
 cond (au t8 t7) (
 cond (aZ t8 t0) (
 (SN (gt d166 t0 t8) f1.1 f1.2.1).bind fun y1 =>
 cond y1.2.1.1 (
 some (.inr (.inr (t8,())))
 ) (
 some (.inl (t0,f1,t7,(aq .i64 t8 1),()))
 )
 ) none
 ) (
 some (.inr (.inl (t0,f1,t7,t8,())))
 )
def J0:=kq (ai (cf oE))
def Si (p0:List cV) (c1_0 c1_1:(List UInt8)×Unit):Option gX :=
 (J0 p0 (c1_0,c1_1,()) (ae p0) 0).bind (Sum.elim (fun _ =>
 c3
 ) (fun y1 =>
 some ((),(y1,()))
 ))
def ab1:Su:=⟨[.c false [dI],.fn 246 [.p [.str],.p [.str]]],[(false,[ki])],true,.inl fun x=>Si x.1.1 x.2.1.1 x.2.1.2.1⟩
theorem UF:ar Tryz.prog 245 ab1 :=
 fl (ac UX an) [.d 4 ki] [(0,⟨[.d 0 dI,.fn 1 246 [.p [.str],.p [.str]],.d 7 ki,.d 8 ki],ai (cf oE)⟩)] [] Tryz.f245 (lp [0] (sc cX sn))
def NC (p0:List cV) (p1 p2:List UInt8):Option gX :=
 (Si p0 (p1,()) (p2,())).bind fun y1 =>
 some ((),(y1.2.1,()))
def aaD:Su:=⟨[.c false [dI],.c false [.str],.c false [.str]],[(false,[ki])],true,.inl fun x=>NC x.1.1 x.2.1.1 x.2.2.1.1⟩
theorem VA:ar Tryz.prog 191 aaD :=
 fq (ac UF an) Tryz.f191
def pg (t0 t5:List cV) (t6 t7:Int):Rd XR Y2 :=
 cond (au t7 t6) (
 cond (aZ t7 t5) (
 let u1:=(gt d166 t5 t7)
 (Mi u1).bind fun y1 =>
 cond (!y1.2.1.1) (
 some (.inr (.inr (false,())))
 ) (
 (NC t0 u1.1 u1.2.1).bind fun y2 =>
 cond (!(ak y2.2.1.1 t7)) (
 some (.inr (.inr (false,())))
 ) (
 some (.inl (t0,t5,t6,(aq .i64 t7 1),()))
 )
 )
 ) none
 ) (
 some (.inr (.inl (t0,t5,t6,t7,())))
 )
def La:=kq (ai (cf pg))
def LH (p0:List cV):Option dS :=
 (La p0 p0 (ae p0) 0).bind (Sum.elim (fun y1 =>
 some ((),(((bz (ae y1.1) 6),()),()))
 ) (fun y1 =>
 some ((),(y1,()))
 ))
def YR:Su:=⟨[.c false [dI]],[(false,[.bool])],true,.inl fun x=>LH x.1.1⟩
theorem WH:ar Tryz.prog 142 YR :=
 fl (ac TW (ac VA an)) [.d 2 .bool] [(0,⟨[.d 0 dI,.d 5 dI,.d 6 ki,.d 7 ki],ai (cf pg)⟩)] [] Tryz.f142 (lp [0] (sc cX sn))
def J1 (p0 p1:Int):Option gX :=
 let u1:=(B3 0 (Gm p1 4611686018427387904))
 let u2:=(B3 0 (Gm p0 4611686018427387904))
 cond (au (aI .i64 4611686018427387904 u1) u2) (
 c19
 ) (
 some ((),(((aq .i64 u2 u1),()),()))
 )
def Zr:Su:=⟨[.c false [ki],.c false [ki]],[(false,[ki])],true,.inl fun x=>J1 x.1.1 x.2.1.1⟩
theorem OO:ar Tryz.prog 143 Zr :=
 fq an Tryz.f143
def pS (t3:Int) (t6:List fA) (t7 t8:Int):Rd (Int×(List fA)×Int×Int×Unit) Unit :=
 cond (au t8 t7) (
 cond (aZ t8 t6) (
 (J1 t3 (gt d95 t6 t8).2.1).bind fun y1 =>
 some (.inl (y1.2.1.1,t6,t7,(aq .i64 t8 1),()))
 ) none
 ) (
 some (.inr (.inl (t3,t6,t7,t8,())))
 )
def KH:=kq (ai (cf pS))
def K8 (p0:List fA):Option gX :=
 (KH 0 p0 (ae p0) 0).bind (Sum.elim (fun y1 =>
 some ((),((y1.1,()),()))
 ) (fun _ =>
 none
 ))
def aan:Su:=⟨[.c false [iE]],[(false,[ki])],true,.inl fun x=>K8 x.1.1⟩
theorem PS:ar Tryz.prog 144 aan :=
 fl (ac OO an) [] [(0,⟨[.d 3 ki,.d 6 iE,.d 7 ki,.d 8 ki],ai (cf pS)⟩)] [] Tryz.f144 (lp [0] (sc cX sn))
def Td (p0:(List UInt8)×Int×Int×Int×Int×(List fA)×Int×Int×(List R3)×(List R3)×(List cV)×Unit):Option dS :=
 (rZ p0.1).bind fun y1 =>
 cond y1.2.1.1 (
 (nc p0.2.1 0 9007199254740992).bind fun y2 =>
 cond y2.2.1.1 (
 (nc p0.2.2.2.1 0 1000).bind fun y3 =>
 cond y3.2.1.1 (
 (nc p0.2.2.2.2.1 0 9007199254740992).bind fun y4 =>
 cond y4.2.1.1 (
 (UY p0.2.2.1).bind fun y5 =>
 cond y5.2.1.1 (
 (ME p0.2.2.2.2.2.1).bind fun y6 =>
 cond y6.2.1.1 (
 (K7 (p0.2.2.2.2.2.2.1,p0.2.2.2.2.2.2.2.1,p0.2.2.2.2.2.2.2.2.1,p0.2.2.2.2.2.2.2.2.2.1,())).bind fun y7 =>
 cond y7.2.1.1 (
 (LH p0.2.2.2.2.2.2.2.2.2.2.1).bind fun y8 =>
 cond y8.2.1.1 (
 (K8 p0.2.2.2.2.2.1).bind fun y9 =>
 (J1 p0.2.2.1 y9.2.1.1).bind fun y10 =>
 some ((),(((bz y10.2.1.1 p0.2.1),()),()))
 ) (
 c0
 )
 ) (
 c0
 )
 ) (
 c0
 )
 ) (
 c0
 )
 ) (
 c0
 )
 ) (
 c0
 )
 ) (
 c0
 )
 ) (
 c0
 )
def s81:Su:=⟨[.c true [.str,ki,ki,ki,ki,iE,ki,ki,q3,q3,dI]],[(false,[.bool])],true,.inl fun x=>Td x.1⟩
theorem Rk:ar Tryz.prog 81 s81 :=
 fq (ac my (ac PM (ac Sv (ac Vr (ac WN (ac WH (ac OO (ac PS an)))))))) Tryz.f81
def pz (t6:List dC) (t7 t8:Int) (b1:(List dC)×Unit):Rd ((List dC)×Int×Int×Y5×Unit) Y2 :=
 cond (au t8 t7) (
 cond (aZ t8 t6) (
 let u1:=(gt d59 t6 t8)
 (Td u1).bind fun y1 =>
 cond (!y1.2.1.1) (
 some (.inr (.inr (false,())))
 ) (
 cond (au 0 t8) (
 let u2:=(aI .i64 t8 1)
 cond (aZ u2 b1.1) (
 cond (SF u1.1 (gt d59 b1.1 u2).1) (
 some (.inr (.inr (false,())))
 ) (
 some (.inl (t6,t7,(aq .i64 t8 1),b1,()))
 )
 ) none
 ) (
 some (.inl (t6,t7,(aq .i64 t8 1),b1,()))
 )
 )
 ) none
 ) (
 some (.inr (.inl (t6,t7,t8,b1,())))
 )
def Jj:=kq (ai (cf pz))
def Jg (p0:(List dC)×Unit):Option dS :=
 (Jj p0.1 (ae p0.1) 0 p0).bind (Sum.elim (fun y1 =>
 some ((),(((bz (ae y1.2.2.2.1.1) 6),()),()))
 ) (fun y1 =>
 some ((),(y1,()))
 ))
def Zx:Su:=⟨[.c true [gk]],[(false,[.bool])],true,.inl fun x=>Jg x.1⟩
theorem VF:ar Tryz.prog 106 Zx :=
 fl (ac Rk an) [.d 2 .bool] [(0,⟨[.d 6 gk,.d 7 ki,.d 8 ki,.box 1 [(false,gk)]],ai (cf pz)⟩)] [] Tryz.f106 (lp [0] (sc cX sn))
def oA (t0:List UInt8) (t3 t6 t7:Int):Rd ((List UInt8)×Int×Int×Int×Unit) Unit :=
 cond (au t7 t6) (
 cond (aZ t7 t0) (
 some (.inl (t0,(jO .u32 (A0 .u32 t3 (bw .u32 (dq t0 t7))) 16777619),t6,(aq .i64 t7 1),()))
 ) none
 ) (
 some (.inr (.inl (t0,t3,t6,t7,())))
 )
def JZ:=kq (ai (cf oA))
def Nx (p0:List UInt8):Option gX :=
 (JZ p0 2166136261 (ae p0) 0).bind (Sum.elim (fun y1 =>
 some ((),(((bw .i64 y1.2.1),()),()))
 ) (fun _ =>
 none
 ))
def Yx:Su:=⟨[.c false [.str]],[(false,[ki])],true,.inl fun x=>Nx x.1.1⟩
theorem WT:ar Tryz.prog 166 Yx :=
 fl an [] [(0,⟨[.d 0 .str,.d 3 (.int .u32),.d 6 ki,.d 7 ki],ai (cf oA)⟩)] [] Tryz.f166 (lp [0] (sc cX sn))
def Ic (p0:List UInt8) (p1:Int):Option gX :=
 cond (au p1 1) (
 c6
 ) (
 (Nx p0).bind fun y1 =>
 cond (!(ak p1 0)) (
 some ((),(((fW y1.2.1.1 p1),()),()))
 ) none
 )
def abv:Su:=⟨[.c false [.str],.c false [ki]],[(false,[ki])],true,.inl fun x=>Ic x.1.1 x.2.1.1⟩
theorem OU:ar Tryz.prog 107 abv :=
 fq (ac WT an) Tryz.f107
def wq (t0:List fV) (t3:Int) (t7:List fV) (t8 t9:Int) (t19:List dC) (t20 t21:Int) (b4:Int×(List dC)×Unit):Rd ((List fV)×Int×(List fV)×Int×Int×(List dC)×Int×Int×WA×Unit) Y2 :=
 cond (au t21 t20) (
 cond (aZ t21 t19) (
 (Ic (gt d59 t19 t21).1 (ae t0)).bind fun y1 =>
 cond (!(ak y1.2.1.1 t3)) (
 some (.inr (.inr (false,())))
 ) (
 cond (au 0 t21) (
 let u1:=(aI .i64 t21 1)
 cond (aZ u1 b4.2.1) (
 cond (SF (gt d59 t19 t21).1 (gt d59 b4.2.1 u1).1) (
 some (.inr (.inr (false,())))
 ) (
 some (.inl (t0,t3,t7,t8,t9,t19,t20,(aq .i64 t21 1),b4,()))
 )
 ) none
 ) (
 some (.inl (t0,t3,t7,t8,t9,t19,t20,(aq .i64 t21 1),b4,()))
 )
 )
 ) none
 ) (
 some (.inr (.inl (t0,t3,t7,t8,t9,t19,t20,t21,b4,())))
 )
def OY:=T6 (ai (D9 wq))
def vI (t0 t7:List fV) (t8 t9:Int):Rd ((List fV)×(List fV)×Int×Int×Unit) Y2 :=
 cond (au t9 t8) (
 cond (aZ t9 t7) (
 let u1:=(gt d89 t7 t9)
 (nc u1.1 (-1) 11).bind fun y1 =>
 cond (!y1.2.1.1) (
 some (.inr (.inr (false,())))
 ) (
 (OY t0 t9 t7 t8 t9 u1.2.1 (ae u1.2.1) 0 u1).bind (Sum.elim (fun y2 =>
 some (.inl (y2.1,y2.2.2.1,y2.2.2.2.1,(aq .i64 y2.2.2.2.2.1 1),()))
 ) (fun y2 =>
 some (.inr (.inr (y2.1,())))
 ))
 )
 ) none
 ) (
 some (.inr (.inl (t0,t7,t8,t9,())))
 )
def Ui:=kq (ai (cf vI))
def Yf (p0:List fV):Option dS :=
 (Ui p0 p0 (ae p0) 0).bind (Sum.elim (fun y1 =>
 (nc (ae y1.1) 1 5).bind fun y2 =>
 cond y2.2.1.1 (
 (OP y1.1).bind fun y3 =>
 (Jg y3.2.1).bind fun y4 =>
 some ((),(y4.2.1,()))
 ) (
 c0
 )
 ) (fun y1 =>
 some ((),(y1,()))
 ))
def s73:Su:=⟨[.c false [j9]],[(false,[.bool])],true,.inl fun x=>Yf x.1.1⟩
theorem aaE:ar Tryz.prog 73 s73 :=
 fl (ac my (ac Uc (ac VF (ac OU an)))) [.d 2 .bool] [(2,⟨[.d 0 j9,.d 3 ki,.d 7 j9,.d 8 ki,.d 9 ki,.d 19 gk,.d 20 ki,.d 21 ki,.box 4 [(false,ki),(false,gk)]],ai (D9 wq)⟩),(0,⟨[.d 0 j9,.d 7 j9,.d 8 ki,.d 9 ki],ai (cf vI)⟩)] [] Tryz.f73 (lp [0] (sc (lp [2] (sc cX sn)) sn))
def PB (p0:Int):Option xJ :=
 (nc p0 0 5).bind fun y1 =>
 cond (!y1.2.1.1) (
 c5
 ) (
 cond (aZ p0 [([114,101,97,100],()),([108,111,99,107],()),([119,111,114,107],()),([102,114,101,101],()),([115,101,110,100],()),([100,111,110,101],())]) (
 some ((),((gt d9 [([114,101,97,100],()),([108,111,99,107],()),([119,111,114,107],()),([102,114,101,101],()),([115,101,110,100],()),([100,111,110,101],())] p0),()))
 ) none
 )
def s85:Su:=⟨[.c false [ki]],[(false,[.str])],true,.inl fun x=>PB x.1.1⟩
theorem Vk:ar Tryz.prog 85 s85 :=
 fq (ac my an) Tryz.f85
def zh (p0:List R5) (p1 p2:Int):Option (Unit×(((List R5)×Unit)×Y2×Unit)) :=
 let u1:=(ae p0)
 (nc p1 0 u1).bind fun y1 =>
 cond (cond (cond (!y1.2.1.1) true (au p2 0)) true (au (aI .i64 u1 p1) p2)) (
 some ((),(([],()),(false,()),()))
 ) (
 let u2:=(aq .i64 p1 p2)
 cond (dj p1 u2 p0) (
 some ((),(((sub p0 p1 u2),()),(true,()),()))
 ) none
 )
def abf:Su:=⟨[.c false [q5],.c false [ki],.c false [ki]],[(false,[q5]),(false,[.bool])],false,.inl fun x=>zh x.1.1 x.2.1.1 x.2.2.1.1⟩
theorem I0:ar Tryz.prog 247 abf :=
 fq (ac my an) Tryz.f247
def nW (t1 t2:Int) (t9:List R5) (t10:Bool) (t11 t27:List R5) (t28 t29:Int):Rd (Int×Int×(List R5)×Bool×(List R5)×(List R5)×Int×Int×Unit) Unit :=
 cond (au t29 t28) (
 cond (aZ t29 t27) (
 cond (cO 1 t11 [((aq .u8 48 (ie .u8 (gt d5 t27 t29).1 4)),()),((aq .u8 48 (zB .u8 (gt d5 t27 t29).1 15)),())]) (
 some (.inl (t1,t2,t9,t10,(lT t11 [((aq .u8 48 (ie .u8 (gt d5 t27 t29).1 4)),()),((aq .u8 48 (zB .u8 (gt d5 t27 t29).1 15)),())]),t27,t28,(aq .i64 t29 1),()))
 ) none
 ) none
 ) (
 some (.inr (.inl (t1,t2,t9,t10,t11,t27,t28,t29,())))
 )
def IK:=Tj (ai (yF nW))
def zw (p0:List R5) (p1 p2:Int):Option Ty :=
 (nc p2 1 38).bind fun y1 =>
 cond (!y1.2.1.1) (
 c4
 ) (
 (zh p0 p1 (lW .i64 (aq .i64 p2 1) 2)).bind fun y2 =>
 (IK p1 p2 y2.2.1.1 y2.2.2.1.1 [] y2.2.1.1 (ae y2.2.1.1) 0).bind (Sum.elim (fun y3 =>
 cond (!y3.2.2.2.1) (
 c4
 ) (
 (tX (strOf y3.2.2.2.2.1)).bind fun y4 =>
 cond (!y4.2.1.1) (
 c4
 ) (
 cond (ak (fW y3.2.1 2) 1) (
 cond (aZ 0 y3.2.2.2.2.1) (
 cond (!(ak (gt d5 y3.2.2.2.2.1 0).1 48)) (
 c4
 ) (
 let u1:=(ae y3.2.2.2.2.1)
 let u2:=(aI .i64 u1 y3.2.1)
 let u3:=(dj u2 u1 y3.2.2.2.2.1)
 cond u3 (
 some ((),(((strOf (sub y3.2.2.2.2.1 u2 u1)),()),((aq .i64 y3.1 (ae y3.2.2.1)),()),(true,()),()))
 ) none
 )
 ) none
 ) (
 let u1:=(ae y3.2.2.2.2.1)
 let u2:=(aI .i64 u1 y3.2.1)
 let u3:=(dj u2 u1 y3.2.2.2.2.1)
 cond u3 (
 some ((),(((strOf (sub y3.2.2.2.2.1 u2 u1)),()),((aq .i64 y3.1 (ae y3.2.2.1)),()),(true,()),()))
 ) none
 )
 )
 )
 ) (fun _ =>
 none
 ))
 )
def aah:Su:=⟨[.c false [q5],.c false [ki],.c false [ki]],[(false,[.str]),(false,[ki]),(false,[.bool])],true,.inl fun x=>zw x.1.1 x.2.1.1 x.2.2.1.1⟩
theorem IT:ar Tryz.prog 193 aah :=
 fl (ac my (ac yr (ac I0 an))) [] [(0,⟨[.d 1 ki,.d 2 ki,.d 9 q5,.d 10 .bool,.own 11 q5,.d 27 q5,.d 28 ki,.d 29 ki],ai (yF nW)⟩)] [] Tryz.f193 (lp [0] (sc cX sn))
def sk (t1:Int) (t7:List R5) (t9:List R3) (t10:Int):Rd (Int×(List R5)×(List R3)×Int×Unit) Unit :=
 cond (bz t10 64) (
 let u1:=(aI .i64 t10 1)
 let u2:=(lW .i64 u1 8)
 cond (aZ u2 t7) (
 let u3:=(fW u1 8)
 cond (bz 0 u3) (
 cond (!(ak (zB .u8 (gt d5 t7 u2).1 (ie .u8 128 u3)) 0)) (
 cond (cO 8 t9 [(t10,())]) (
 let u4:=(aq .i64 t10 1)
 some (.inl (t1,t7,(lT t9 [(t10,())]),u4,()))
 ) none
 ) (
 let u4:=(aq .i64 t10 1)
 some (.inl (t1,t7,t9,u4,()))
 )
 ) none
 ) none
 ) (
 some (.inr (.inl (t1,t7,t9,t10,())))
 )
def Kc:=kq (ai (cf sk))
def Bg (p0:List R5) (p1:Int):Option X6 :=
 (zh p0 p1 8).bind fun y1 =>
 cond (!y1.2.2.1.1) (
 XM
 ) (
 (Kc p1 y1.2.1.1 [] 1).bind (Sum.elim (fun y2 =>
 some ((),((y2.2.2.1,()),((aq .i64 y2.1 8),()),(true,()),()))
 ) (fun _ =>
 none
 ))
 )
def Yy:Su:=⟨[.c false [q5],.c false [ki]],[(false,[q3]),(false,[ki]),(false,[.bool])],true,.inl fun x=>Bg x.1.1 x.2.1.1⟩
theorem UW:ar Tryz.prog 194 Yy :=
 fl (ac I0 an) [] [(0,⟨[.d 1 ki,.d 7 q5,.own 9 q3,.d 10 ki],ai (cf sk)⟩)] [] Tryz.f194 (lp [0] (sc cX sn))
def UN  : Option (Unit×(((List CU)×Unit)×Unit)) :=
 some ((),(([(2,3,19,()),(3,1,6,()),(4,1,12,()),(7,1,10,()),(11,1,6,()),(14,1,4,()),(37,2,12,()),(38,2,6,()),(39,2,2,()),(41,2,8,()),(48,5,60,()),(49,1,3,()),(54,5,60,()),(95,2,12,()),(102,4,20,()),(103,4,20,())],()),()))
def aak:Su:=⟨[],[(false,[.sl 226 HX])],true,.inl fun x=>UN ⟩
theorem Wz:ar Tryz.prog 292 aak :=
 fq an Tryz.f292
def rY (t0:Int) (t5:List CU) (t6 t7:Int) (b2:Int×Int×Int×Unit):Rd (Int×(List CU)×Int×Int×CU×Unit) (CU×Unit) :=
 cond (au t7 t6) (
 cond (aZ t7 t5) (
 let u1:=(gt d226 t5 t7)
 cond (ak u1.1 t0) (
 some (.inr (.inr (u1,())))
 ) (
 some (.inl (t0,t5,t6,(aq .i64 t7 1),b2,()))
 )
 ) none
 ) (
 some (.inr (.inl (t0,t5,t6,t7,b2,())))
 )
def Kw:=xI (ai (eS rY))
def Hf (p0:Int):Option (Unit×(CU×Unit)) :=
 (UN).bind fun y1 =>
 (Kw p0 y1.2.1.1 (ae y1.2.1.1) 0 (0,0,0,())).bind (Sum.elim (fun _ =>
 some ((),((0,0,0,()),()))
 ) (fun y2 =>
 some ((),(y2.1,()))
 ))
def abC:Su:=⟨[.c false [ki]],[(true,[ki,ki,ki])],true,.inl fun x=>Hf x.1.1⟩
theorem IN:ar Tryz.prog 248 abC :=
 fl (ac Wz an) [.box 2 [(false,ki),(false,ki),(false,ki)]] [(0,⟨[.d 0 ki,.own 5 (.sl 226 HX),.d 6 ki,.d 7 ki,.box 2 [(false,ki),(false,ki),(false,ki)]],ai (eS rY)⟩)] [] Tryz.f248 (lp [0] (sc cX sn))
def DY (p0:Int):Option gX :=
 (Hf p0).bind fun y1 =>
 some ((),((y1.2.1.2.1,()),()))
def abb:Su:=⟨[.c false [ki]],[(false,[ki])],true,.inl fun x=>DY x.1.1⟩
theorem KT:ar Tryz.prog 195 abb :=
 fq (ac IN an) Tryz.f195
def NH (p0:Int):Option gX :=
 (Hf p0).bind fun y1 =>
 some ((),((y1.2.1.2.2.1,()),()))
def ZO:Su:=⟨[.c false [ki]],[(false,[ki])],true,.inl fun x=>NH x.1.1⟩
theorem WU:ar Tryz.prog 249 ZO :=
 fq (ac IN an) Tryz.f249
def LO (p0:Int):Option gX :=
 (DY p0).bind fun y1 =>
 cond (ak y1.2.1.1 5) (
 XE
 ) (
 c7
 )
def Za:Su:=⟨[.c false [ki]],[(false,[ki])],true,.inl fun x=>LO x.1.1⟩
theorem Tp:ar Tryz.prog 251 Za :=
 fq (ac KT an) Tryz.f251
section
open Go.RowKit Go.Lib
theorem Zw:E6 Tryz.prog 215 240 271:=by
 intro s b v w R R2 hd ha
 have e1:Enters Tryz.prog 240:=enters_of (fn:=Tryz.f240) (c:=ah Tryz.f240) (by kernel_rfl) (by kernel_rfl) (by kernel_rfl)
 have e2:Enters Tryz.prog 271:=enters_of (fn:=Tryz.f271) (c:=ah Tryz.f271) (by kernel_rfl) (by kernel_rfl) (by kernel_rfl)
 have hsz:s.size < 9223372036854775808∨9223372036854775808<=s.size:=acn _ _
 cases b with
 | false =>
   go_enter Tryz.func215,Tryz.ntmps215
   go_wp2_with (go_at_call 240; refine hd.mono ?_; rintro e W1 ⟨rfl,hW⟩)
   go_ret2
   exact .inr ⟨by simp,rfl,hW⟩
 | true =>
   by_cases hs:s.size<=18
   . have hb:=ha rfl hs
     have h1:¬ (18:Int) < (s.size:Int):=by omega
     go_enter Tryz.func215,Tryz.ntmps215
     go_wp2_with (first
      | (go_at_call 240; refine hd.mono ?_; rintro e W1 ⟨rfl,hW⟩)
      | (go_at_call 271; refine (hb _ hW).mono ?_; rintro e W2 ⟨rfl,hW2⟩))
     go_ret2
     exact .inl ⟨by trivial,hs,rfl,hW2⟩
   . have h1:(18:Int) < (s.size:Int):=by omega
     go_enter Tryz.func215,Tryz.ntmps215
     go_wp2_with (go_at_call 240; refine hd.mono ?_; rintro e W1 ⟨rfl,hW⟩)
     go_ret2
     exact .inr ⟨by simp [hs],rfl,hW⟩
end
def D1 (p0:List UInt8):Option OX:=ua tX p0
def aaH:Su:=⟨[.c false [.str]],[(false,[ki]),(false,[.bool])],true,.inl fun x=>D1 x.1.1⟩
theorem P1:ar Tryz.prog 215 aaH:=Gn xA (gd:=tX) yr (fnd:=Tryz.f240) (cd:=ah Tryz.f240) (by kernel_rfl) (by kernel_rfl) (by kernel_rfl) rfl Zw (fn:=Tryz.f215) (c:=ah Tryz.f215) (by kernel_rfl) (by kernel_rfl) (by kernel_rfl)
def Gk (p0:List R5) (p1 p2:Int):Option (Unit×(Y1×Y1×Y2×Unit)) :=
 (nc p2 2 3).bind fun y1 =>
 cond (!y1.2.1.1) (
 Zh
 ) (
 (zw p0 p1 p2).bind fun y2 =>
 cond (!y2.2.2.2.1.1) (
 Zh
 ) (
 (D1 y2.2.1.1).bind fun y3 =>
 some ((),(y3.2.1,y2.2.2.1,(true,()),()))
 )
 )
def Zy:Su:=⟨[.c false [q5],.c false [ki],.c false [ki]],[(false,[ki]),(false,[ki]),(false,[.bool])],true,.inl fun x=>Gk x.1.1 x.2.1.1 x.2.2.1.1⟩
theorem TT:ar Tryz.prog 250 Zy :=
 fq (ac my (ac IT (ac P1 an))) Tryz.f250
def pj (t0:List UInt8) (t5 t6:Int):Rd Te Y2 :=
 cond (au t6 t5) (
 cond (aZ t6 t0) (
 let u1:=(dq t0 t6)
 cond (au u1 32) (
 some (.inr (.inr (false,())))
 ) (
 cond (aZ t6 t0) (
 cond (au 126 u1) (
 some (.inr (.inr (false,())))
 ) (
 some (.inl (t0,t5,(aq .i64 t6 1),()))
 )
 ) none
 )
 ) none
 ) (
 some (.inr (.inl (t0,t5,t6,())))
 )
def KA:=rb (ai (ff pj))
def Ga (p0:List UInt8):Option dS :=
 (KA p0 (ae p0) 0).bind (Sum.elim (fun _ =>
 c2
 ) (fun y1 =>
 some ((),(y1,()))
 ))
def Ym:Su:=⟨[.c false [.str]],[(false,[.bool])],true,.inl fun x=>Ga x.1.1⟩
theorem TJ:ar Tryz.prog 293 Ym :=
 fl an [.d 2 .bool] [(0,⟨[.d 0 .str,.d 5 ki,.d 6 ki],ai (ff pj)⟩)] [] Tryz.f293 (lp [0] (sc cX sn))
def xU (p0:Int) (p1:List UInt8):Option dS :=
 (Hf p0).bind fun y1 =>
 cond (ak y1.2.1.2.1 1) (
 let u1:=(tX p1)
 Option.bind u1 fun y2 =>
 let u2:=(ae p1)
 some ((),(((cond y2.2.1.1 (ak u2 y1.2.1.2.2.1) false),()),()))
 ) (
 cond (ak y1.2.1.2.1 2) (
 let u1:=(Ga p1)
 Option.bind u1 fun y2 =>
 let u2:=(ae p1)
 some ((),(((cond y2.2.1.1 (ak u2 y1.2.1.2.2.1) false),()),()))
 ) (
 cond (ak y1.2.1.2.1 3) (
 let u1:=(tX p1)
 Option.bind u1 fun y2 =>
 cond y2.2.1.1 (
 let u2:=(ae p1)
 let u3:=(nc u2 1 y1.2.1.2.2.1)
 Option.bind u3 fun y3 =>
 some ((),(y3.2.1,()))
 ) (
 c0
 )
 ) (
 cond (ak y1.2.1.2.1 4) (
 let u1:=(Ga p1)
 Option.bind u1 fun y2 =>
 cond y2.2.1.1 (
 let u2:=(ae p1)
 let u3:=(nc u2 1 y1.2.1.2.2.1)
 Option.bind u3 fun y3 =>
 some ((),(y3.2.1,()))
 ) (
 c0
 )
 ) (
 cond (ak y1.2.1.2.1 5) (
 let u1:=(Ga p1)
 Option.bind u1 fun y2 =>
 cond y2.2.1.1 (
 let u2:=(ae p1)
 let u3:=(nc u2 1 y1.2.1.2.2.1)
 Option.bind u3 fun y3 =>
 some ((),(y3.2.1,()))
 ) (
 c0
 )
 ) (
 c0
 )
 )
 )
 )
 )
def abO:Su:=⟨[.c false [ki],.c false [.str]],[(false,[.bool])],true,.inl fun x=>xU x.1.1 x.2.1.1⟩
theorem OM:ar Tryz.prog 252 abO :=
 fq (ac my (ac yr (ac IN (ac TJ an)))) Tryz.f252
def JJ (p0:List R5) (p1 p2:Int):Option Ty :=
 (NH p2).bind fun y1 =>
 (DY p2).bind fun y2 =>
 cond (cond (cond (ak y2.2.1.1 3) true (ak y2.2.1.1 4)) true (ak y2.2.1.1 5)) (
 (LO p2).bind fun y3 =>
 (Gk p0 p1 y3.2.1.1).bind fun y4 =>
 cond (!y4.2.2.2.1.1) (
 c4
 ) (
 let u1:=(cond (ak y2.2.1.1 1) true (ak y2.2.1.1 3))
 cond u1 (
 (zw p0 y4.2.2.1.1 y4.2.1.1).bind fun y5 =>
 cond (!y5.2.2.2.1.1) (
 c4
 ) (
 (xU p2 y5.2.1.1).bind fun y6 =>
 cond (!y6.2.1.1) (
 c4
 ) (
 some ((),(y5.2.1,y5.2.2.1,(true,()),()))
 )
 )
 ) (
 (zh p0 y4.2.2.1.1 y4.2.1.1).bind fun y5 =>
 cond (!y5.2.2.1.1) (
 c4
 ) (
 let u2:=(strOf y5.2.1.1)
 (xU p2 u2).bind fun y6 =>
 cond (!y6.2.1.1) (
 c4
 ) (
 some ((),((u2,()),((aq .i64 y4.2.2.1.1 y4.2.1.1),()),(true,()),()))
 )
 )
 )
 )
 ) (
 let u1:=(cond (ak y2.2.1.1 1) true (ak y2.2.1.1 3))
 cond u1 (
 (zw p0 p1 y1.2.1.1).bind fun y3 =>
 cond (!y3.2.2.2.1.1) (
 c4
 ) (
 (xU p2 y3.2.1.1).bind fun y4 =>
 cond (!y4.2.1.1) (
 c4
 ) (
 some ((),(y3.2.1,y3.2.2.1,(true,()),()))
 )
 )
 ) (
 (zh p0 p1 y1.2.1.1).bind fun y3 =>
 cond (!y3.2.2.1.1) (
 c4
 ) (
 let u2:=(strOf y3.2.1.1)
 (xU p2 u2).bind fun y4 =>
 cond (!y4.2.1.1) (
 c4
 ) (
 some ((),((u2,()),((aq .i64 p1 y1.2.1.1),()),(true,()),()))
 )
 )
 )
 )
def aaK:Su:=⟨[.c false [q5],.c false [ki],.c false [ki]],[(false,[.str]),(false,[ki]),(false,[.bool])],true,.inl fun x=>JJ x.1.1 x.2.1.1 x.2.2.1.1⟩
theorem Vl:ar Tryz.prog 196 aaK :=
 fq (ac I0 (ac IT (ac KT (ac WU (ac Tp (ac TT (ac OM an))))))) Tryz.f196
def nQ (t0:List R5) (t4:List UInt8) (t5:Int) (t8:List R3) (t9:Bool) (t41:List R3) (t42 t43:Int) (b2:(List UInt8)×(List ik)×Unit):Rd ((List R5)×(List UInt8)×Int×(List R3)×Bool×(List R3)×Int×Int×CC×Unit) XK :=
 cond (au t43 t42) (
 cond (aZ t43 t41) (
 let u1:=(gt d3 t41 t43)
 cond (ak u1.1 1) (
 let u2:=(aq .i64 t43 1)
 some (.inl (t0,t4,t5,t8,true,t41,t42,u2,b2,()))
 ) (
 (DY u1.1).bind fun y1 =>
 cond (ak y1.2.1.1 0) (
 some (.inr (.inr (2,([],[],()),())))
 ) (
 cond (cO 8 t8 [u1]) (
 let u2:=(aq .i64 t43 1)
 some (.inl (t0,t4,t5,(lT t8 [u1]),t9,t41,t42,u2,b2,()))
 ) none
 )
 )
 ) none
 ) (
 some (.inr (.inl (t0,t4,t5,t8,t9,t41,t42,t43,b2,())))
 )
def JE:=T6 (ai (D9 nQ))
def ob (t0:List R5) (t4:List UInt8) (t5:Int) (t8 t76:List R3) (t77 t78:Int) (b2:(List UInt8)×(List ik)×Unit):Rd ((List R5)×(List UInt8)×Int×(List R3)×(List R3)×Int×Int×CC×Unit) XK :=
 cond (au t78 t77) (
 cond (aZ t78 t76) (
 let u1:=(aq .i64 (gt d3 t76 t78).1 64)
 (DY u1).bind fun y1 =>
 cond (ak y1.2.1.1 0) (
 some (.inr (.inr (2,([],[],()),())))
 ) (
 cond (cO 8 t8 [(u1,())]) (
 some (.inl (t0,t4,t5,(lT t8 [(u1,())]),t76,t77,(aq .i64 t78 1),b2,()))
 ) none
 )
 ) none
 ) (
 some (.inr (.inl (t0,t4,t5,t8,t76,t77,t78,b2,())))
 )
def Lq:=Tj (ai (yF ob))
def pq (t0:List R5) (t5:Int) (t95:List R3) (t96 t97:Int) (b2 b15:(List UInt8)×(List ik)×Unit):Rd ((List R5)×Int×(List R3)×Int×Int×CC×CC×Unit) XK :=
 cond (au t97 t96) (
 cond (aZ t97 t95) (
 (JJ t0 t5 (gt d3 t95 t97).1).bind fun y1 =>
 cond (!y1.2.2.2.1.1) (
 some (.inr (.inr (3,([],[],()),())))
 ) (
 cond (cO 24 b15.2.1 [((gt d3 t95 t97).1,y1.2.1.1,())]) (
 some (.inl (t0,y1.2.2.1.1,t95,t96,(aq .i64 t97 1),b2,(b15.1,(lT b15.2.1 [((gt d3 t95 t97).1,y1.2.1.1,())]),()),()))
 ) none
 )
 ) none
 ) (
 some (.inr (.inl (t0,t5,t95,t96,t97,b2,b15,())))
 )
def zz:=XX (ai (JA pq))
def Iz (p0:List R5):Option (Unit×(CC×Y1×Unit)) :=
 (zw p0 0 4).bind fun y1 =>
 cond (!y1.2.2.2.1.1) (
 some ((),(([],[],()),(1,()),()))
 ) (
 (Bg p0 y1.2.2.1.1).bind fun y2 =>
 cond (!y2.2.2.2.1.1) (
 ZB
 ) (
 (JE p0 y1.2.1.1 y2.2.2.1.1 [] false y2.2.1.1 (ae y2.2.1.1) 0 ([],[],())).bind (Sum.elim (fun y3 =>
 cond y3.2.2.2.2.1 (
 (Bg y3.1 y3.2.2.1).bind fun y4 =>
 let u1:=(ae y4.2.1.1)
 cond (cond (!y4.2.2.2.1.1) true (ak u1 0)) (
 ZB
 ) (
 (Lq y3.1 y3.2.1 y4.2.2.1.1 y3.2.2.2.1 y4.2.1.1 u1 0 y3.2.2.2.2.2.2.2.2.1).bind (Sum.elim (fun y5 =>
 (zz y5.1 y5.2.2.1 y5.2.2.2.1 (ae y5.2.2.2.1) 0 y5.2.2.2.2.2.2.2.1 (y5.2.1,[],())).bind (Sum.elim (fun y6 =>
 cond (!(ak y6.2.1 (ae y6.1))) (
 Yj
 ) (
 some ((),(y6.2.2.2.2.2.2.1,(0,()),()))
 )
 ) (fun y6 =>
 some ((),(y6.2.1,(y6.1,()),()))
 ))
 ) (fun y5 =>
 some ((),(y5.2.1,(y5.1,()),()))
 ))
 )
 ) (
 (zz y3.1 y3.2.2.1 y3.2.2.2.1 (ae y3.2.2.2.1) 0 y3.2.2.2.2.2.2.2.2.1 (y3.2.1,[],())).bind (Sum.elim (fun y4 =>
 cond (!(ak y4.2.1 (ae y4.1))) (
 Yj
 ) (
 some ((),(y4.2.2.2.2.2.2.1,(0,()),()))
 )
 ) (fun y4 =>
 some ((),(y4.2.1,(y4.1,()),()))
 ))
 )
 ) (fun y3 =>
 some ((),(y3.2.1,(y3.1,()),()))
 ))
 )
 )
def abi:Su:=⟨[.c false [q5]],[(true,[.str,ig]),(false,[ki])],true,.inl fun x=>Iz x.1.1⟩
theorem Pj:ar Tryz.prog 150 abi :=
 fl (ac IT (ac UW (ac KT (ac Vl an)))) [.d 3 ki,.box 2 [(false,.str),(true,ig)]] [(0,⟨[.d 0 q5,.d 4 .str,.d 5 ki,.own 8 q3,.d 9 .bool,.own 41 q3,.d 42 ki,.d 43 ki,.box 2 [(false,.str),(true,ig)]],ai (D9 nQ)⟩),(3,⟨[.d 0 q5,.d 4 .str,.d 5 ki,.own 8 q3,.own 76 q3,.d 77 ki,.d 78 ki,.box 2 [(false,.str),(true,ig)]],ai (yF ob)⟩),(5,⟨[.d 0 q5,.d 5 ki,.own 95 q3,.d 96 ki,.d 97 ki,.box 2 [(false,.str),(true,ig)],.box 15 [(false,.str),(true,ig)]],ai (JA pq)⟩)] [] Tryz.f150 (lp [0,3,5] (sc cX (sc cX (sc cX sn))))
end
end Go.Av
