/- Part of a proof that the law FnExactDeskOk answers true for every input: the printed functions of this program and their plain laws. No conditions beyond the statement. -/
import Derived.Test.YtpgkhfcgbjangaaGreatDoorFw4
import Derived.Test.YtpgkhfcgbjangaaGreatDoorFw3
import Derived.WalkKit
import Derived.Lib.Walk
import Derived.Lib.SliceRun
import Derived.Shelf.Spec.SlicesInsert
import Derived.Test.YtpgkhfcgbjangaaGreatDoorProg
set_option maxRecDepth 100000
namespace Go.Av
open Go.Proofs
set_option maxHeartbeats 4000000
noncomputable section
def js:List K:=[.str,.int .i64,.int .i64]
def aK:List K:=[.int .i64]
def fx:List K:=[.int .u8]
def iF:List K:=[.str,.str,.sl 5 fx]
def fF:List K:=[.str,.int .i64,.int .i64,.int .i64,.int .i64,.sl 204 js,.int .i64,.int .i64,.sl 3 aK,.sl 3 aK,.sl 206 iF]
def lQ:List K:=[.int .i64,.sl 124 fF]
def gJ:List K:=[.sl 5 fx,.int .i64,.sl 3 aK,.int .i64,.int .i64,.int .i64,.int .i64,.int .i64,.sl 5 fx]
def dF:List K:=[.str,.int .i64,.int .i64]
def cW:List K:=[.str,.str,.sl 5 fx]
def bl:List K:=[.str,.int .i64,.int .i64,.int .i64,.int .i64,.sl 157 dF,.int .i64,.int .i64,.sl 3 aK,.sl 3 aK,.sl 160 cW]
def cR:List K:=[.int .i64,.sl 92 bl]
def eG:List K:=[.sl 5 fx,.int .i64,.sl 3 aK,.int .i64,.int .i64,.int .i64,.int .i64,.int .i64,.sl 5 fx]
def wN:List K:=[.str]
def dq:List K:=[.int .i64,.str]
def xb:List K:=[.str,.str,.str,.sl 3 aK]
def gq:List K:=[.sl 3 aK]
def Ef:List K:=[.int .i64,.int .i64,.int .i64]
abbrev lZ:=((List UInt8)×Int×Int×Unit)
def d204:lZ:=([],0,0,())
abbrev R3:=(Int×Unit)
def d3:R3:=(0,())
abbrev R5:=(Int×Unit)
def d5:R5:=(0,())
abbrev lF:=((List UInt8)×(List UInt8)×(List R5)×Unit)
def d206:lF:=([],[],[],())
abbrev eD:=((List UInt8)×Int×Int×Int×Int×(List lZ)×Int×Int×(List R3)×(List R3)×(List lF)×Unit)
def d124:eD:=([],0,0,0,0,[],0,0,[],[],[],())
abbrev nk:=(Int×(List eD)×Unit)
def d84:nk:=(0,[],())
abbrev lX:=((List R5)×Int×(List R3)×Int×Int×Int×Int×Int×(List R5)×Unit)
def d86:lX:=([],0,[],0,0,0,0,0,[],())
abbrev di:=((List UInt8)×Int×Int×Unit)
def d157:di:=([],0,0,())
abbrev dh:=((List UInt8)×(List UInt8)×(List R5)×Unit)
def d160:dh:=([],[],[],())
abbrev de:=((List UInt8)×Int×Int×Int×Int×(List di)×Int×Int×(List R3)×(List R3)×(List dh)×Unit)
def d92:de:=([],0,0,0,0,[],0,0,[],[],[],())
abbrev gb:=(Int×(List de)×Unit)
def d67:gb:=(0,[],())
abbrev j9:=((List R5)×Int×(List R3)×Int×Int×Int×Int×Int×(List R5)×Unit)
def d64:j9:=([],0,[],0,0,0,0,0,[],())
abbrev R9:=((List UInt8)×Unit)
def d9:R9:=([],())
abbrev iv:=(Int×(List UInt8)×Unit)
def d178:iv:=(0,[],())
abbrev E2:=((List UInt8)×(List UInt8)×(List UInt8)×(List R3)×Unit)
def d198:E2:=([],[],[],[],())
abbrev Et:=((List R3)×Unit)
def d53:Et:=([],())
abbrev Cq:=(Int×Int×Int×Unit)
def d232:Cq:=(0,0,0,())
def tt:List (Nat×TI):=[(2,⟨false,[.int .i64],0,8,[]⟩),
 (3,⟨false,[.int .i64],0,8,[]⟩),
 (4,⟨false,[.bool],0,1,[]⟩),
 (5,⟨false,[.int .u8],0,1,[]⟩),
 (6,⟨false,[.int .u8],0,1,[]⟩),
 (7,⟨true,[.int .i64,.int .i64,.bool,.int .u8],0,24,[(0,2),(1,3),(2,4),(3,6)]⟩),
 (8,⟨true,[.int .i64,.int .i64,.bool,.int .u8],0,24,[(0,2),(1,3),(2,4),(3,6)]⟩),
 (9,⟨false,[.str],0,16,[]⟩),
 (10,⟨false,[.str],0,16,[]⟩),
 (11,⟨false,[.str],0,16,[]⟩),
 (12,⟨false,[.int .u64],0,8,[]⟩),
 (13,⟨true,[.str,.int .u64],0,24,[(0,9),(1,12)]⟩),
 (14,⟨true,[.str,.int .u64],0,24,[(0,9),(1,12)]⟩),
 (21,⟨false,[.int .i32],0,4,[]⟩),
 (22,⟨false,[.sl 84 lQ],84,24,[]⟩),
 (23,⟨false,[.sl 86 gJ],86,24,[]⟩),
 (24,⟨true,[.sl 84 lQ,.int .i64,.int .i64,.sl 86 gJ],0,64,[(0,22),(1,3),(2,3),(3,23)]⟩),
 (25,⟨true,[.sl 84 lQ,.int .i64,.int .i64,.sl 86 gJ],0,64,[(0,22),(1,3),(2,3),(3,23)]⟩),
 (28,⟨false,[.sl 67 cR],67,24,[]⟩),
 (29,⟨false,[.sl 64 eG],64,24,[]⟩),
 (30,⟨true,[.sl 67 cR,.int .i64,.int .i64,.sl 64 eG],0,64,[(0,28),(1,3),(2,3),(3,29)]⟩),
 (31,⟨true,[.sl 67 cR,.int .i64,.int .i64,.sl 64 eG],0,64,[(0,28),(1,3),(2,3),(3,29)]⟩),
 (37,⟨false,[.sl 124 fF],124,24,[]⟩),
 (38,⟨true,[.sl 124 fF],0,24,[(0,37)]⟩),
 (39,⟨true,[.sl 124 fF],0,24,[(0,37)]⟩),
 (40,⟨true,[.sl 124 fF,.int .i64,.sl 84 lQ,.int .i64,.int .i64,.sl 86 gJ],0,96,[(0,39),(1,3),(2,25)]⟩),
 (41,⟨true,[.sl 124 fF,.int .i64,.sl 84 lQ,.int .i64,.int .i64,.sl 86 gJ],0,96,[(0,39),(1,3),(2,25)]⟩),
 (44,⟨false,[.sl 92 bl],92,24,[]⟩),
 (45,⟨true,[.sl 92 bl],0,24,[(0,44)]⟩),
 (46,⟨true,[.sl 92 bl],0,24,[(0,44)]⟩),
 (47,⟨true,[.sl 92 bl,.int .i64,.sl 67 cR,.int .i64,.int .i64,.sl 64 eG],0,96,[(0,46),(1,3),(2,31)]⟩),
 (48,⟨true,[.sl 92 bl,.int .i64,.sl 67 cR,.int .i64,.int .i64,.sl 64 eG],0,96,[(0,46),(1,3),(2,31)]⟩),
 (53,⟨false,[.sl 3 aK],3,24,[]⟩),
 (62,⟨false,[.sl 5 fx],5,24,[]⟩),
 (63,⟨true,[.sl 5 fx,.int .i64,.sl 3 aK,.int .i64,.int .i64,.int .i64,.int .i64,.int .i64,.sl 5 fx],0,120,[(0,62),(1,3),(2,53),(3,3),(4,3),(5,3),(6,3),(7,3),(8,62)]⟩),
 (64,⟨true,[.sl 5 fx,.int .i64,.sl 3 aK,.int .i64,.int .i64,.int .i64,.int .i64,.int .i64,.sl 5 fx],0,120,[(0,62),(1,3),(2,53),(3,3),(4,3),(5,3),(6,3),(7,3),(8,62)]⟩),
 (66,⟨true,[.int .i64,.sl 92 bl],0,32,[(0,3),(1,44)]⟩),
 (67,⟨true,[.int .i64,.sl 92 bl],0,32,[(0,3),(1,44)]⟩),
 (83,⟨true,[.int .i64,.sl 124 fF],0,32,[(0,3),(1,37)]⟩),
 (84,⟨true,[.int .i64,.sl 124 fF],0,32,[(0,3),(1,37)]⟩),
 (86,⟨true,[.sl 5 fx,.int .i64,.sl 3 aK,.int .i64,.int .i64,.int .i64,.int .i64,.int .i64,.sl 5 fx],0,120,[(0,62),(1,3),(2,53),(3,3),(4,3),(5,3),(6,3),(7,3),(8,62)]⟩),
 (87,⟨false,[.sl 157 dF],157,24,[]⟩),
 (88,⟨true,[.int .i64,.int .i64,.sl 3 aK,.sl 3 aK],0,64,[(0,3),(1,3),(2,53),(3,53)]⟩),
 (89,⟨true,[.int .i64,.int .i64,.sl 3 aK,.sl 3 aK],0,64,[(0,3),(1,3),(2,53),(3,53)]⟩),
 (90,⟨false,[.sl 160 cW],160,24,[]⟩),
 (91,⟨true,[.str,.int .i64,.int .i64,.int .i64,.int .i64,.sl 157 dF,.int .i64,.int .i64,.sl 3 aK,.sl 3 aK,.sl 160 cW],0,160,[(0,9),(1,3),(2,3),(3,3),(4,3),(5,87),(6,89),(10,90)]⟩),
 (92,⟨true,[.str,.int .i64,.int .i64,.int .i64,.int .i64,.sl 157 dF,.int .i64,.int .i64,.sl 3 aK,.sl 3 aK,.sl 160 cW],0,160,[(0,9),(1,3),(2,3),(3,3),(4,3),(5,87),(6,89),(10,90)]⟩),
 (111,⟨false,[.sl 9 wN],9,24,[]⟩),
 (120,⟨false,[.sl 204 js],204,24,[]⟩),
 (121,⟨true,[.int .i64,.int .i64,.sl 3 aK,.sl 3 aK],0,64,[(0,3),(1,3),(2,53),(3,53)]⟩),
 (122,⟨false,[.sl 206 iF],206,24,[]⟩),
 (123,⟨true,[.str,.int .i64,.int .i64,.int .i64,.int .i64,.sl 204 js,.int .i64,.int .i64,.sl 3 aK,.sl 3 aK,.sl 206 iF],0,160,[(0,9),(1,3),(2,3),(3,3),(4,3),(5,120),(6,121),(10,122)]⟩),
 (124,⟨true,[.str,.int .i64,.int .i64,.int .i64,.int .i64,.sl 204 js,.int .i64,.int .i64,.sl 3 aK,.sl 3 aK,.sl 206 iF],0,160,[(0,9),(1,3),(2,3),(3,3),(4,3),(5,120),(6,121),(10,122)]⟩),
 (137,⟨false,[.sl 178 dq],178,24,[]⟩),
 (138,⟨true,[.str,.sl 178 dq],0,40,[(0,9),(1,137)]⟩),
 (139,⟨true,[.str,.sl 178 dq],0,40,[(0,9),(1,137)]⟩),
 (142,⟨true,[.int .i64,.str,.str,.str,.str,.str,.int .i64,.int .i64],0,104,[(0,3),(1,9),(2,9),(3,9),(4,9),(5,9),(6,3),(7,3)]⟩),
 (143,⟨true,[.int .i64,.str,.str,.str,.str,.str,.int .i64,.int .i64],0,104,[(0,3),(1,9),(2,9),(3,9),(4,9),(5,9),(6,3),(7,3)]⟩),
 (146,⟨false,[.int .u32],0,4,[]⟩),
 (156,⟨true,[.str,.int .i64,.int .i64],0,32,[(0,9),(1,3),(2,3)]⟩),
 (157,⟨true,[.str,.int .i64,.int .i64],0,32,[(0,9),(1,3),(2,3)]⟩),
 (159,⟨true,[.str,.str,.sl 5 fx],0,56,[(0,9),(1,9),(2,62)]⟩),
 (160,⟨true,[.str,.str,.sl 5 fx],0,56,[(0,9),(1,9),(2,62)]⟩),
 (177,⟨true,[.int .i64,.str],0,24,[(0,3),(1,9)]⟩),
 (178,⟨true,[.int .i64,.str],0,24,[(0,3),(1,9)]⟩),
 (192,⟨false,[.int .u64],0,8,[]⟩),
 (196,⟨false,[.sl 198 xb],198,24,[]⟩),
 (197,⟨true,[.str,.str,.str,.sl 3 aK],0,72,[(0,9),(1,9),(2,9),(3,53)]⟩),
 (198,⟨true,[.str,.str,.str,.sl 3 aK],0,72,[(0,9),(1,9),(2,9),(3,53)]⟩),
 (204,⟨true,[.str,.int .i64,.int .i64],0,32,[(0,9),(1,3),(2,3)]⟩),
 (206,⟨true,[.str,.str,.sl 5 fx],0,56,[(0,9),(1,9),(2,62)]⟩),
 (209,⟨false,[.sl 53 gq],53,24,[]⟩),
 (219,⟨false,[.int .i64],0,8,[]⟩),
 (228,⟨false,[.int .u64],0,8,[]⟩),
 (231,⟨true,[.int .i64,.int .i64,.int .i64],0,24,[(0,3),(1,3),(2,3)]⟩),
 (232,⟨true,[.int .i64,.int .i64,.int .i64],0,24,[(0,3),(1,3),(2,3)]⟩),
 (246,⟨false,[.int .u64],0,8,[]⟩),
 (252,⟨false,[.sl 232 Ef],232,24,[]⟩),
 (267,⟨false,[.int .i64],0,8,[]⟩),
 (287,⟨true,[.str],0,16,[(0,9)]⟩),
 (288,⟨true,[.str],0,16,[(0,9)]⟩),
 (293,⟨true,[.int .u8,.int .u8],0,2,[(0,5),(1,5)]⟩),
 (294,⟨true,[.int .u8,.int .u8],0,2,[(0,5),(1,5)]⟩),
 (312,⟨false,[.int .u8],0,1,[]⟩),
 (313,⟨false,[.int .u8],0,1,[]⟩),
 (315,⟨false,[.int .i32],0,4,[]⟩),
 (316,⟨false,[.int .i32],0,4,[]⟩)]
def E0:En:=⟨0,tt,fun _=>[],[],fun _=>none,[],fun _=>none⟩
theorem hT:bF Tryz.prog E0:=LR (by kernel_rfl)
theorem eF:Tryz.prog.follows .mixedOrders=true:=by kernel_rfl
theorem fl {f:Nat} {s:Su} {l:List (Nat×Su)} (hl:qh Tryz.prog l) (ρ:List SE) (los:List (Nat×Lo ρ)) (pins:List Nat) (fn:Func)
 (hlo:Q0 Tryz.prog (F4 fn.ntmps tt l ρ los pins) (ah fn) (ah fn))
 (h : (Tryz.prog.funcs[f]?, (fn.name == "runtime.NumGoroutine"), fn.body.isSome) = (some fn, false, true) := by kernel_rfl)
 (ht:∀ x,(Fh (F4 fn.ntmps tt l ρ los pins) (ah fn) fn.results.toList s.ps s.rs s.fresh x).run=s.sq x:=by intro x; kernel_rfl):ar Tryz.prog f s:=by
 simp only [Prod.mk.injEq] at h
 exact Yn hT eF hl (fn:=fn) (by rw [h.1,h.2.1,h.2.2]) hlo ht
theorem fq {f:Nat} {s:Su} {l:List (Nat×Su)} (hl:qh Tryz.prog l) (fn:Func)
 (h : (Tryz.prog.funcs[f]?, (fn.name == "runtime.NumGoroutine"), fn.body.isSome, dw (fun _ => false) (ah fn)) = (some fn, false, true, []) := by kernel_rfl)
 (ht:∀ x,(Fh (F4 fn.ntmps tt l [] [] []) (ah fn) fn.results.toList s.ps s.rs s.fresh x).run=s.sq x:=by intro x; kernel_rfl):ar Tryz.prog f s:=by
 simp only [Prod.mk.injEq] at h
 exact Yn hT eF hl (fn:=fn) (by rw [h.1,h.2.1,h.2.2.1]) (lp (n:=fn.ntmps) (tt:=tt) (l:=l) (ρ:=[]) (los:=[]) (pins:=[]) [] sn h.2.2.2) ht
def nd:List UInt8:=[0,1,2,2,3,3,3,3,4,4,4,4,4,4,4,4,5,5,5,5,5,5,5,5,5,5,5,5,5,5,5,5,6,6,6,6,6,6,6,6,6,6,6,6,6,6,6,6,6,6,6,6,6,6,6,6,6,6,6,6,6,6,6,6,7,7,7,7,7,7,7,7,7,7,7,7,7,7,7,7,7,7,7,7,7,7,7,7,7,7,7,7,7,7,7,7,7,7,7,7,7,7,7,7,7,7,7,7,7,7,7,7,7,7,7,7,7,7,7,7,7,7,7,7,7,7,7,7,8,8,8,8,8,8,8,8,8,8,8,8,8,8,8,8,8,8,8,8,8,8,8,8,8,8,8,8,8,8,8,8,8,8,8,8,8,8,8,8,8,8,8,8,8,8,8,8,8,8,8,8,8,8,8,8,8,8,8,8,8,8,8,8,8,8,8,8,8,8,8,8,8,8,8,8,8,8,8,8,8,8,8,8,8,8,8,8,8,8,8,8,8,8,8,8,8,8,8,8,8,8,8,8,8,8,8,8,8,8,8,8,8,8,8,8,8,8,8,8,8,8,8,8,8,8,8,8]
abbrev Y0:=Int×Unit
abbrev Y1:=Bool×Unit
abbrev Y4:=(List de)×Unit
abbrev Y6:=(List UInt8)×Unit
abbrev Y8:=Int×(List de)×Unit
abbrev RJ:=(List UInt8)×Int×Unit
abbrev ke:=Unit×(Y0×Unit)
abbrev dS:=Unit×(Y1×Unit)
abbrev VU:=(List R3)×Int×Bool×Unit
abbrev Qf:=(List UInt8)×Int×Int×Unit
abbrev C6:=(List UInt8)×(List iv)×Unit
abbrev TG:=Unit×(((List R9)×Unit)×Unit)
abbrev Ni:=Unit×(Et×Unit)
abbrev Vr:=(((List R9)×Unit)×Unit)×Unit
abbrev Yi:=(Et×Unit)×Unit
abbrev Qr:=Unit×(Y4×Unit)
abbrev Mh:=(Y4×Unit)×Unit
abbrev Xs:=Unit×(((List dh)×Unit)×Unit)
abbrev P2:=Unit×(Y6×Unit)
abbrev Vk:=(List de)×Int×Unit×Int×Int×Unit
abbrev MO:=(List gb)×Int×Int×(List j9)×Unit
abbrev V8:=Unit×(Y0×Y1×Unit)
abbrev UC:=(List dh)×(List dh)×Int×Int×Unit
abbrev U0:=Int×C6×Unit
abbrev Xx:=Unit×((Int×Int×(List R3)×(List R3)×Unit)×Unit)
abbrev WW:=Unit×(Et×Y0×Y1×Unit)
abbrev Uq:=Unit×(Y6×Y0×Y1×Unit)
abbrev T8:=Int×(List UInt8)×(List UInt8)×(List UInt8)×(List UInt8)×(List UInt8)×Int×Int×Unit
abbrev WV:=Unit×(de×Unit)
section
open Go.Shelf Go.RowKit Go.Lib
def sρ:Ren:=⟨fun | 129=>222 | 171=>275 | 172=>229 | 205=>274 | 243=>281 | 244=>252 | 245=>253 | 246=>287 | 247=>263 | 279=>264 | 280=>265 | 281=>266 | 282=>267 | 283=>289 | 284=>290 | 285=>291 | 286=>292 | 287=>272 | 316=>273 | 317=>294 | 318=>295 | 319=>296 | 320=>297 | 321=>279 | 322=>280 | 337=>298 | 338=>299 | n=>n,fun | 0=>0 | 2=>2 | 3=>3 | 4=>4 | 5=>5 | 9=>9 | 20=>20 | 21=>21 | 37=>62 | 46=>192 | 51=>146 | 53=>228 | 75=>235 | 76=>236 | 80=>305 | 85=>268 | 127=>285 | 143=>286 | 145=>288 | 167=>267 | 168=>270 | 171=>296 | 173=>298 | 175=>278 | 210=>281 | 212=>301 | 213=>302 | 232=>303 | 233=>304 | n=>n,fun | 15=>0 | 16=>1 | 17=>5 | 18=>6 | 19=>7 | n=>n⟩
theorem vS:LaysC.n172 Tryz.prog sρ:={ mixed:=by kernel_rfl,f129:=by kernel_rfl,f171:=by kernel_rfl,f172:=by kernel_rfl,f205:=by kernel_rfl,f243:=by kernel_rfl,f244:=by kernel_rfl,f245:=by kernel_rfl,f246:=by kernel_rfl,f247:=by kernel_rfl,f279:=by kernel_rfl,f280:=by kernel_rfl,f281:=by kernel_rfl,f282:=by kernel_rfl,f283:=by kernel_rfl,f284:=by kernel_rfl,f285:=by kernel_rfl,f286:=by kernel_rfl,f287:=by kernel_rfl,f316:=by kernel_rfl,f317:=by kernel_rfl,f318:=by kernel_rfl,f319:=by kernel_rfl,f320:=by kernel_rfl,f321:=by kernel_rfl,f322:=by kernel_rfl,f337:=by kernel_rfl,f338:=by kernel_rfl,t0:=by kernel_rfl,a0:=fun _=>by kernel_rfl,z0:=fun _=>by kernel_rfl,v0:=fun _=>by kernel_rfl,t2:=by kernel_rfl,a2:=fun _=>by kernel_rfl,z2:=fun _=>by kernel_rfl,v2:=fun _=>by kernel_rfl,t3:=by kernel_rfl,a3:=fun _=>by kernel_rfl,z3:=fun _=>by kernel_rfl,v3:=fun _=>by kernel_rfl,t4:=by kernel_rfl,a4:=fun _=>by kernel_rfl,z4:=fun _=>by kernel_rfl,v4:=fun _=>by kernel_rfl,t5:=by kernel_rfl,a5:=fun _=>by kernel_rfl,z5:=fun _=>by kernel_rfl,v5:=fun _=>by kernel_rfl,t9:=by kernel_rfl,a9:=fun _=>by kernel_rfl,z9:=fun _=>by kernel_rfl,v9:=fun _=>by kernel_rfl,t20:=by kernel_rfl,a20:=fun _=>by kernel_rfl,z20:=fun _=>by kernel_rfl,v20:=fun _=>by kernel_rfl,t21:=by kernel_rfl,a21:=fun _=>by kernel_rfl,z21:=fun _=>by kernel_rfl,v21:=fun _=>by kernel_rfl,t37:=by kernel_rfl,a37:=fun _=>by kernel_rfl,z37:=fun _=>by kernel_rfl,v37:=fun _=>by kernel_rfl,t46:=by kernel_rfl,a46:=fun _=>by kernel_rfl,z46:=fun _=>by kernel_rfl,v46:=fun _=>by kernel_rfl,t51:=by kernel_rfl,a51:=fun _=>by kernel_rfl,z51:=fun _=>by kernel_rfl,v51:=fun _=>by kernel_rfl,t53:=by kernel_rfl,a53:=fun _=>by kernel_rfl,z53:=fun _=>by kernel_rfl,v53:=fun _=>by kernel_rfl,t75:=by kernel_rfl,a75:=fun _=>by kernel_rfl,z75:=fun _=>by kernel_rfl,v75:=fun _=>by kernel_rfl,t76:=by kernel_rfl,a76:=fun _=>by kernel_rfl,z76:=fun _=>by kernel_rfl,v76:=fun _=>by kernel_rfl,t85:=by kernel_rfl,a85:=fun _=>by kernel_rfl,z85:=fun _=>by kernel_rfl,v85:=fun _=>by kernel_rfl,t127:=by kernel_rfl,a127:=fun _=>by kernel_rfl,z127:=fun _=>by kernel_rfl,v127:=fun _=>by kernel_rfl,t143:=by kernel_rfl,a143:=fun _=>by kernel_rfl,z143:=fun _=>by kernel_rfl,v143:=fun _=>by kernel_rfl,t145:=by kernel_rfl,a145:=fun _=>by kernel_rfl,z145:=fun _=>by kernel_rfl,v145:=fun _=>by kernel_rfl,t167:=by kernel_rfl,a167:=fun _=>by kernel_rfl,z167:=fun _=>by kernel_rfl,v167:=fun _=>by kernel_rfl,t168:=by kernel_rfl,a168:=fun _=>by kernel_rfl,z168:=fun _=>by kernel_rfl,v168:=fun _=>by kernel_rfl,t171:=by kernel_rfl,a171:=fun _=>by kernel_rfl,z171:=fun _=>by kernel_rfl,v171:=fun _=>by kernel_rfl,t173:=by kernel_rfl,a173:=fun _=>by kernel_rfl,z173:=fun _=>by kernel_rfl,v173:=fun _=>by kernel_rfl,t175:=by kernel_rfl,a175:=fun _=>by kernel_rfl,z175:=fun _=>by kernel_rfl,v175:=fun _=>by kernel_rfl,t210:=by kernel_rfl,a210:=fun _=>by kernel_rfl,z210:=fun _=>by kernel_rfl,v210:=fun _=>by kernel_rfl,t212:=by kernel_rfl,a212:=fun _=>by kernel_rfl,z212:=fun _=>by kernel_rfl,v212:=fun _=>by kernel_rfl,t213:=by kernel_rfl,a213:=fun _=>by kernel_rfl,z213:=fun _=>by kernel_rfl,t232:=by kernel_rfl,a232:=fun _=>by kernel_rfl,z232:=fun _=>by kernel_rfl,v232:=fun _=>by kernel_rfl,t233:=by kernel_rfl,a233:=fun _=>by kernel_rfl,z233:=fun _=>by kernel_rfl,v233:=fun _=>by kernel_rfl,g15:=by kernel_rfl,g16:=by kernel_rfl,g17:=by kernel_rfl,g18:=by kernel_rfl,g19:=by kernel_rfl,t80:=by kernel_rfl,a80:=fun _=>by kernel_rfl,z80:=fun _=>by kernel_rfl,v80:=fun _=>by kernel_rfl,i0:=by kernel_rfl,i2:=by kernel_rfl,i3:=by kernel_rfl,i4:=by kernel_rfl,i5:=by kernel_rfl,i9:=by kernel_rfl,i20:=by kernel_rfl,i21:=by kernel_rfl,i37:=by kernel_rfl,i46:=by kernel_rfl,i51:=by kernel_rfl,i53:=by kernel_rfl,i75:=by kernel_rfl,i76:=by kernel_rfl,i80:=by kernel_rfl,i85:=by kernel_rfl,i127:=by kernel_rfl,i143:=by kernel_rfl,i145:=by kernel_rfl,i167:=by kernel_rfl,i168:=by kernel_rfl,i171:=by kernel_rfl,i173:=by kernel_rfl,i175:=by kernel_rfl,i210:=by kernel_rfl,i212:=by kernel_rfl,i232:=by kernel_rfl,i233:=by kernel_rfl,m15:=by kernel_rfl,m16:=by kernel_rfl,m17:=by kernel_rfl,m18:=by kernel_rfl,m19:=by kernel_rfl,c0:=by kernel_rfl,c2:=by kernel_rfl,c3:=by kernel_rfl,c4:=by kernel_rfl,c5:=by kernel_rfl,c9:=by kernel_rfl,c20:=by kernel_rfl,c21:=by kernel_rfl,c37:=by kernel_rfl,c46:=by kernel_rfl,c51:=by kernel_rfl,c53:=by kernel_rfl,c75:=by kernel_rfl,c76:=by kernel_rfl,c80:=by kernel_rfl,c85:=by kernel_rfl,c127:=by kernel_rfl,c143:=by kernel_rfl,c145:=by kernel_rfl,c167:=by kernel_rfl,c168:=by kernel_rfl,c171:=by kernel_rfl,c173:=by kernel_rfl,c175:=by kernel_rfl,c210:=by kernel_rfl,c212:=by kernel_rfl,c213:=by kernel_rfl,c232:=by kernel_rfl,c233:=by kernel_rfl }
end
def KP (p0:(List UInt8)×Int×Int×Unit) (p1:Int):Option ke :=
 let u1:=(aI .i64 p1 (ae p0.1))
 cond (au u1 0) (
 some ((),(((-1),()),()))
 ) (
 some ((),((u1,()),()))
 )
def V1:Su:=⟨[.c true js,.c false aK],[(false,aK)],true,.inl fun x=>KP x.1 x.2.1.1⟩
theorem QB:ar Tryz.prog 183 V1 :=
 fq an Tryz.f183
def nw (t0:List lZ) (t1 t5:Int):Rd ((List lZ)×Int×Int×Unit) Y0 :=
 cond (au t5 (ae t0)) (
 cond (a7 t5 t0) (
 (KP (gt d204 t0 t5) t1).bind fun y1 =>
 cond (au y1.2.1.1 0) (
 some (.inr (.inr ((-1),())))
 ) (
 some (.inl (t0,y1.2.1.1,(aq .i64 t5 1),()))
 )
 ) none
 ) (
 some (.inr (.inl (t0,t1,t5,())))
 )
def HN:=qu (ai (fb nw))
def J3 (p0:List lZ) (p1:Int):Option ke :=
 let u1:=(aI .i64 p1 (ae p0))
 cond (au u1 0) (
 some ((),(((-1),()),()))
 ) (
 (HN p0 u1 0).bind (Sum.elim (fun y1 =>
 some ((),((y1.2.1,()),()))
 ) (fun y1 =>
 some ((),(y1,()))
 ))
 )
def WA:Su:=⟨[.c false [.sl 204 js],.c false aK],[(false,aK)],true,.inl fun x=>J3 x.1.1 x.2.1.1⟩
theorem Sk:ar Tryz.prog 130 WA :=
 fl (ac QB an) [.d 4 (.int .i64)] [(0,⟨[.d 0 (.sl 204 js),.d 1 (.int .i64),.d 5 (.int .i64)],ai (fb nw)⟩)] [] Tryz.f130 (lp [0] (sc dk sn))
def Qk (p0:List R3) (p1:Int):Option ke :=
 let u1:=(aI .i64 p1 (ae p0))
 cond (au u1 0) (
 some ((),(((-1),()),()))
 ) (
 some ((),((u1,()),()))
 )
def Yw:Su:=⟨[.c false gq,.c false aK],[(false,aK)],true,.inl fun x=>Qk x.1.1 x.2.1.1⟩
theorem SU:ar Tryz.prog 83 Yw :=
 fq an Tryz.f83
def Ly (p0:Int×Int×(List R3)×(List R3)×Unit) (p1:Int):Option ke :=
 (Qk p0.2.2.1 p1).bind fun y1 =>
 cond (au y1.2.1.1 0) (
 some ((),(((-1),()),()))
 ) (
 (Qk p0.2.2.2.1 y1.2.1.1).bind fun y2 =>
 cond (au y2.2.1.1 0) (
 some ((),(((-1),()),()))
 ) (
 some ((),(y2.2.1,()))
 )
 )
def XY:Su:=⟨[.c true [.int .i64,.int .i64,.sl 3 aK,.sl 3 aK],.c false aK],[(false,aK)],true,.inl fun x=>Ly x.1 x.2.1.1⟩
theorem R7:ar Tryz.prog 131 XY :=
 fq (ac SU an) Tryz.f131
def Ql (p0:List R5) (p1:Int):Option ke :=
 let u1:=(aI .i64 p1 (ae p0))
 cond (au u1 0) (
 some ((),(((-1),()),()))
 ) (
 some ((),((u1,()),()))
 )
def YX:Su:=⟨[.c false [.sl 5 fx],.c false aK],[(false,aK)],true,.inl fun x=>Ql x.1.1 x.2.1.1⟩
theorem TS:ar Tryz.prog 82 YX :=
 fq an Tryz.f82
def L4 (p0:(List UInt8)×(List UInt8)×(List R5)×Unit) (p1:Int):Option ke :=
 let u1:=(aI .i64 p1 (ae p0.1))
 cond (au u1 0) (
 some ((),(((-1),()),()))
 ) (
 let u2:=(aI .i64 u1 (ae p0.2.1))
 cond (au u2 0) (
 some ((),(((-1),()),()))
 ) (
 (Ql p0.2.2.1 u2).bind fun y1 =>
 cond (au y1.2.1.1 0) (
 some ((),(((-1),()),()))
 ) (
 some ((),(y1.2.1,()))
 )
 )
 )
def Xz:Su:=⟨[.c true iF,.c false aK],[(false,aK)],true,.inl fun x=>L4 x.1 x.2.1.1⟩
theorem Th:ar Tryz.prog 184 Xz :=
 fq (ac TS an) Tryz.f184
def oU (t0:List lF) (t1 t5:Int):Rd ((List lF)×Int×Int×Unit) Y0 :=
 cond (au t5 (ae t0)) (
 cond (a7 t5 t0) (
 (L4 (gt d206 t0 t5) t1).bind fun y1 =>
 cond (au y1.2.1.1 0) (
 some (.inr (.inr ((-1),())))
 ) (
 some (.inl (t0,y1.2.1.1,(aq .i64 t5 1),()))
 )
 ) none
 ) (
 some (.inr (.inl (t0,t1,t5,())))
 )
def GK:=qu (ai (fb oU))
def Kt (p0:List lF) (p1:Int):Option ke :=
 let u1:=(aI .i64 p1 (ae p0))
 cond (au u1 0) (
 some ((),(((-1),()),()))
 ) (
 (GK p0 u1 0).bind (Sum.elim (fun y1 =>
 some ((),((y1.2.1,()),()))
 ) (fun y1 =>
 some ((),(y1,()))
 ))
 )
def Xi:Su:=⟨[.c false [.sl 206 iF],.c false aK],[(false,aK)],true,.inl fun x=>Kt x.1.1 x.2.1.1⟩
theorem S8:ar Tryz.prog 132 Xi :=
 fl (ac Th an) [.d 4 (.int .i64)] [(0,⟨[.d 0 (.sl 206 iF),.d 1 (.int .i64),.d 5 (.int .i64)],ai (fb oU)⟩)] [] Tryz.f132 (lp [0] (sc dk sn))
def Ur (p0:(List UInt8)×Int×Int×Int×Int×(List lZ)×Int×Int×(List R3)×(List R3)×(List lF)×Unit) (p1:Int):Option ke :=
 let u1:=(aI .i64 p1 (ae p0.1))
 cond (au u1 0) (
 some ((),(((-1),()),()))
 ) (
 (J3 p0.2.2.2.2.2.1 u1).bind fun y1 =>
 cond (au y1.2.1.1 0) (
 some ((),(((-1),()),()))
 ) (
 (Ly (p0.2.2.2.2.2.2.1,p0.2.2.2.2.2.2.2.1,p0.2.2.2.2.2.2.2.2.1,p0.2.2.2.2.2.2.2.2.2.1,()) y1.2.1.1).bind fun y2 =>
 cond (au y2.2.1.1 0) (
 some ((),(((-1),()),()))
 ) (
 (Kt p0.2.2.2.2.2.2.2.2.2.2.1 y2.2.1.1).bind fun y3 =>
 cond (au y3.2.1.1 0) (
 some ((),(((-1),()),()))
 ) (
 some ((),(y3.2.1,()))
 )
 )
 )
 )
def YW:Su:=⟨[.c true fF,.c false aK],[(false,aK)],true,.inl fun x=>Ur x.1 x.2.1.1⟩
theorem VP:ar Tryz.prog 97 YW :=
 fq (ac Sk (ac R7 (ac S8 an))) Tryz.f97
def vE (t0:List eD) (t1 t5:Int):Rd ((List eD)×Int×Int×Unit) Y0 :=
 cond (au t5 (ae t0)) (
 cond (a7 t5 t0) (
 (Ur (gt d124 t0 t5) t1).bind fun y1 =>
 cond (au y1.2.1.1 0) (
 some (.inr (.inr ((-1),())))
 ) (
 some (.inl (t0,y1.2.1.1,(aq .i64 t5 1),()))
 )
 ) none
 ) (
 some (.inr (.inl (t0,t1,t5,())))
 )
def Nl:=qu (ai (fb vE))
def Rh (p0:List eD) (p1:Int):Option ke :=
 let u1:=(aI .i64 p1 (ae p0))
 cond (au u1 0) (
 some ((),(((-1),()),()))
 ) (
 (Nl p0 u1 0).bind (Sum.elim (fun y1 =>
 some ((),((y1.2.1,()),()))
 ) (fun y1 =>
 some ((),(y1,()))
 ))
 )
def YV:Su:=⟨[.c false [.sl 124 fF],.c false aK],[(false,aK)],true,.inl fun x=>Rh x.1.1 x.2.1.1⟩
theorem SQ:ar Tryz.prog 75 YV :=
 fl (ac VP an) [.d 4 (.int .i64)] [(0,⟨[.d 0 (.sl 124 fF),.d 1 (.int .i64),.d 5 (.int .i64)],ai (fb vE)⟩)] [] Tryz.f75 (lp [0] (sc dk sn))
def U3 (p0:(List eD)×Unit) (p1:Int):Option ke :=
 (Rh p0.1 p1).bind fun y1 =>
 cond (au y1.2.1.1 0) (
 some ((),(((-1),()),()))
 ) (
 some ((),(y1.2.1,()))
 )
def Ys:Su:=⟨[.c true [.sl 124 fF],.c false aK],[(false,aK)],true,.inl fun x=>U3 x.1 x.2.1.1⟩
theorem Vl:ar Tryz.prog 48 Ys :=
 fq (ac SQ an) Tryz.f48
def Ux (p0:Int×(List eD)×Unit) (p1:Int):Option ke :=
 (Rh p0.2.1 p1).bind fun y1 =>
 cond (au y1.2.1.1 0) (
 some ((),(((-1),()),()))
 ) (
 some ((),(y1.2.1,()))
 )
def YJ:Su:=⟨[.c true lQ,.c false aK],[(false,aK)],true,.inl fun x=>Ux x.1 x.2.1.1⟩
theorem WC:ar Tryz.prog 57 YJ :=
 fq (ac SQ an) Tryz.f57
def tX (t0:List nk) (t1 t5:Int):Rd ((List nk)×Int×Int×Unit) Y0 :=
 cond (au t5 (ae t0)) (
 cond (a7 t5 t0) (
 (Ux (gt d84 t0 t5) t1).bind fun y1 =>
 cond (au y1.2.1.1 0) (
 some (.inr (.inr ((-1),())))
 ) (
 some (.inl (t0,y1.2.1.1,(aq .i64 t5 1),()))
 )
 ) none
 ) (
 some (.inr (.inl (t0,t1,t5,())))
 )
def Ns:=qu (ai (fb tX))
def Ut (p0:List nk) (p1:Int):Option ke :=
 let u1:=(aI .i64 p1 (ae p0))
 cond (au u1 0) (
 some ((),(((-1),()),()))
 ) (
 (Ns p0 u1 0).bind (Sum.elim (fun y1 =>
 some ((),((y1.2.1,()),()))
 ) (fun y1 =>
 some ((),(y1,()))
 ))
 )
def Y5:Su:=⟨[.c false [.sl 84 lQ],.c false aK],[(false,aK)],true,.inl fun x=>Ut x.1.1 x.2.1.1⟩
theorem U6:ar Tryz.prog 28 Y5 :=
 fl (ac WC an) [.d 4 (.int .i64)] [(0,⟨[.d 0 (.sl 84 lQ),.d 1 (.int .i64),.d 5 (.int .i64)],ai (fb tX)⟩)] [] Tryz.f28 (lp [0] (sc dk sn))
def U4 (p0:(List R5)×Int×(List R3)×Int×Int×Int×Int×Int×(List R5)×Unit) (p1:Int):Option ke :=
 (Ql p0.1 p1).bind fun y1 =>
 cond (au y1.2.1.1 0) (
 some ((),(((-1),()),()))
 ) (
 (Qk p0.2.2.1 y1.2.1.1).bind fun y2 =>
 cond (au y2.2.1.1 0) (
 some ((),(((-1),()),()))
 ) (
 (Ql p0.2.2.2.2.2.2.2.2.1 y2.2.1.1).bind fun y3 =>
 cond (au y3.2.1.1 0) (
 some ((),(((-1),()),()))
 ) (
 some ((),(y3.2.1,()))
 )
 )
 )
def ZF:Su:=⟨[.c true gJ,.c false aK],[(false,aK)],true,.inl fun x=>U4 x.1 x.2.1.1⟩
theorem Wl:ar Tryz.prog 58 ZF :=
 fq (ac SU (ac TS an)) Tryz.f58
def tW (t0:List lX) (t1 t5:Int):Rd ((List lX)×Int×Int×Unit) Y0 :=
 cond (au t5 (ae t0)) (
 cond (a7 t5 t0) (
 (U4 (gt d86 t0 t5) t1).bind fun y1 =>
 cond (au y1.2.1.1 0) (
 some (.inr (.inr ((-1),())))
 ) (
 some (.inl (t0,y1.2.1.1,(aq .i64 t5 1),()))
 )
 ) none
 ) (
 some (.inr (.inl (t0,t1,t5,())))
 )
def Ms:=qu (ai (fb tW))
def Up (p0:List lX) (p1:Int):Option ke :=
 let u1:=(aI .i64 p1 (ae p0))
 cond (au u1 0) (
 some ((),(((-1),()),()))
 ) (
 (Ms p0 u1 0).bind (Sum.elim (fun y1 =>
 some ((),((y1.2.1,()),()))
 ) (fun y1 =>
 some ((),(y1,()))
 ))
 )
def Zr:Su:=⟨[.c false [.sl 86 gJ],.c false aK],[(false,aK)],true,.inl fun x=>Up x.1.1 x.2.1.1⟩
theorem WQ:ar Tryz.prog 29 Zr :=
 fl (ac Wl an) [.d 4 (.int .i64)] [(0,⟨[.d 0 (.sl 86 gJ),.d 1 (.int .i64),.d 5 (.int .i64)],ai (fb tW)⟩)] [] Tryz.f29 (lp [0] (sc dk sn))
def g8 (p0:(List nk)×Int×Int×(List lX)×Unit) (p1:Int):Option ke :=
 (Ut p0.1 p1).bind fun y1 =>
 cond (au y1.2.1.1 0) (
 some ((),(((-1),()),()))
 ) (
 (Up p0.2.2.2.1 y1.2.1.1).bind fun y2 =>
 cond (au y2.2.1.1 0) (
 some ((),(((-1),()),()))
 ) (
 some ((),(y2.2.1,()))
 )
 )
def s8:Su:=⟨[.c true [.sl 84 lQ,.int .i64,.int .i64,.sl 86 gJ],.c false aK],[(false,aK)],true,.inl fun x=>g8 x.1 x.2.1.1⟩
theorem Zp:ar Tryz.prog 8 s8 :=
 fq (ac U6 (ac WQ an)) Tryz.f8
def g15 (p0:(List eD)×Int×(List nk)×Int×Int×(List lX)×Unit) (p1:Int):Option ke :=
 (U3 (p0.1,()) p1).bind fun y1 =>
 cond (au y1.2.1.1 0) (
 some ((),(((-1),()),()))
 ) (
 (g8 (p0.2.2.1,p0.2.2.2.1,p0.2.2.2.2.1,p0.2.2.2.2.2.1,()) y1.2.1.1).bind fun y2 =>
 cond (au y2.2.1.1 0) (
 some ((),(((-1),()),()))
 ) (
 some ((),(y2.2.1,()))
 )
 )
def YG:Su:=⟨[.c true [.sl 124 fF,.int .i64,.sl 84 lQ,.int .i64,.int .i64,.sl 86 gJ],.c false aK],[(false,aK)],true,.inl fun x=>g15 x.1 x.2.1.1⟩
theorem WJ:ar Tryz.prog 15 YG :=
 fq (ac Vl (ac Zp an)) Tryz.f15
def JU (p0:(List UInt8)×Int×Int×Unit):Option (Unit×(Qf×Unit)) :=
 some ((),(p0,()))
def Xr:Su:=⟨[.c true js],[(true,js)],true,.inl fun x=>JU x.1⟩
theorem TB:ar Tryz.prog 188 Xr :=
 fq an Tryz.f188
def oK (t0:List lZ) (t3:List di) (t4:Int):Rd ((List lZ)×(List di)×Int×Unit) Unit :=
 cond (au t4 (ae t0)) (
 cond (a7 t4 t0) (
 (JU (gt d204 t0 t4)).bind fun y1 =>
 cond (a7 t4 t3) (
 let u1:=(gt d157 t3 t4)
 let u2:=(zC t3 t4 (y1.2.1.1,u1.2.1,u1.2.2.1,()))
 let u3:=(gt d157 u2 t4)
 let u4:=(zC u2 t4 (u3.1,y1.2.1.2.1,u3.2.2.1,()))
 let u5:=(gt d157 u4 t4)
 some (.inl (t0,(zC u4 t4 (u5.1,u5.2.1,y1.2.1.2.2.1,())),(aq .i64 t4 1),()))
 ) none
 ) none
 ) (
 some (.inr (.inl (t0,t3,t4,())))
 )
def IK:=qu (ai (fb oK))
def Lx (p0:List lZ):Option (Unit×(((List di)×Unit)×Unit)) :=
 let u1:=(ae p0)
 cond (Lk 32 u1) (
 (IK p0 (uj d157 u1) 0).bind (Sum.elim (fun y1 =>
 some ((),((y1.2.1,()),()))
 ) (fun y1 =>
 none
 ))
 ) none
def X9:Su:=⟨[.c false [.sl 204 js]],[(false,[.sl 157 dF])],true,.inl fun x=>Lx x.1.1⟩
theorem TF:ar Tryz.prog 138 X9 :=
 fl (ac TB an) [] [(0,⟨[.d 0 (.sl 204 js),.own 3 (.sl 157 dF),.d 4 (.int .i64)],ai (fb oK)⟩)] [] Tryz.f138 (lp [0] (sc dk sn))
def wx (t0 t3:List R3) (t4:Int):Rd ((List R3)×(List R3)×Int×Unit) Unit :=
 cond (au t4 (ae t0)) (
 cond (a7 t4 t0) (
 cond (a7 t4 t3) (
 some (.inl (t0,(zC t3 t4 (gt d3 t0 t4)),(aq .i64 t4 1),()))
 ) none
 ) none
 ) (
 some (.inr (.inl (t0,t3,t4,())))
 )
def Me:=qu (ai (fb wx))
def Qj (p0:List R3):Option Ni :=
 let u1:=(ae p0)
 cond (Lk 8 u1) (
 (Me p0 (uj d3 u1) 0).bind (Sum.elim (fun y1 =>
 some ((),((y1.2.1,()),()))
 ) (fun y1 =>
 none
 ))
 ) none
def Yy:Su:=⟨[.c false gq],[(false,gq)],true,.inl fun x=>Qj x.1.1⟩
theorem Rv:ar Tryz.prog 89 Yy :=
 fl an [] [(0,⟨[.d 0 (.sl 3 aK),.own 3 (.sl 3 aK),.d 4 (.int .i64)],ai (fb wx)⟩)] [] Tryz.f89 (lp [0] (sc dk sn))
def Kx (p0:Int×Int×(List R3)×(List R3)×Unit):Option Xx :=
 (Qj p0.2.2.1).bind fun y1 =>
 (Qj p0.2.2.2.1).bind fun y2 =>
 some ((),((p0.1,p0.2.1,y1.2.1.1,y2.2.1.1,()),()))
def VQ:Su:=⟨[.c true [.int .i64,.int .i64,.sl 3 aK,.sl 3 aK]],[(true,[.int .i64,.int .i64,.sl 3 aK,.sl 3 aK])],true,.inl fun x=>Kx x.1⟩
theorem Rl:ar Tryz.prog 139 VQ :=
 fq (ac Rv an) Tryz.f139
def uU (t0 t3:List R5) (t4:Int):Rd ((List R5)×(List R5)×Int×Unit) Unit :=
 cond (au t4 (ae t0)) (
 cond (a7 t4 t0) (
 cond (a7 t4 t3) (
 some (.inl (t0,(zC t3 t4 (gt d5 t0 t4)),(aq .i64 t4 1),()))
 ) none
 ) none
 ) (
 some (.inr (.inl (t0,t3,t4,())))
 )
def Mm:=qu (ai (fb uU))
def Qo (p0:List R5):Option (Unit×(((List R5)×Unit)×Unit)) :=
 let u1:=(ae p0)
 cond (Lk 1 u1) (
 (Mm p0 (uj d5 u1) 0).bind (Sum.elim (fun y1 =>
 some ((),((y1.2.1,()),()))
 ) (fun y1 =>
 none
 ))
 ) none
def ZJ:Su:=⟨[.c false [.sl 5 fx]],[(false,[.sl 5 fx])],true,.inl fun x=>Qo x.1.1⟩
theorem SW:ar Tryz.prog 88 ZJ :=
 fl an [] [(0,⟨[.d 0 (.sl 5 fx),.own 3 (.sl 5 fx),.d 4 (.int .i64)],ai (fb uU)⟩)] [] Tryz.f88 (lp [0] (sc dk sn))
def Lj (p0:(List UInt8)×(List UInt8)×(List R5)×Unit):Option (Unit×(lF×Unit)) :=
 (Qo p0.2.2.1).bind fun y1 =>
 some ((),((p0.1,p0.2.1,y1.2.1.1,()),()))
def VZ:Su:=⟨[.c true iF],[(true,iF)],true,.inl fun x=>Lj x.1⟩
theorem Rp:ar Tryz.prog 189 VZ :=
 fq (ac SW an) Tryz.f189
def nT (t0:List lF) (t3:List dh) (t4:Int):Rd ((List lF)×(List dh)×Int×Unit) Unit :=
 cond (au t4 (ae t0)) (
 cond (a7 t4 t0) (
 (Lj (gt d206 t0 t4)).bind fun y1 =>
 cond (a7 t4 t3) (
 let u1:=(gt d160 t3 t4)
 let u2:=(zC t3 t4 (y1.2.1.1,u1.2.1,u1.2.2.1,()))
 let u3:=(gt d160 u2 t4)
 let u4:=(zC u2 t4 (u3.1,y1.2.1.2.1,u3.2.2.1,()))
 let u5:=(gt d160 u4 t4)
 some (.inl (t0,(zC u4 t4 (u5.1,u5.2.1,y1.2.1.2.2.1,())),(aq .i64 t4 1),()))
 ) none
 ) none
 ) (
 some (.inr (.inl (t0,t3,t4,())))
 )
def Ix:=qu (ai (fb nT))
def J1 (p0:List lF):Option Xs :=
 let u1:=(ae p0)
 cond (Lk 56 u1) (
 (Ix p0 (uj d160 u1) 0).bind (Sum.elim (fun y1 =>
 some ((),((y1.2.1,()),()))
 ) (fun y1 =>
 none
 ))
 ) none
def W8:Su:=⟨[.c false [.sl 206 iF]],[(false,[.sl 160 cW])],true,.inl fun x=>J1 x.1.1⟩
theorem Sa:ar Tryz.prog 140 W8 :=
 fl (ac Rp an) [] [(0,⟨[.d 0 (.sl 206 iF),.own 3 (.sl 160 cW),.d 4 (.int .i64)],ai (fb nT)⟩)] [] Tryz.f140 (lp [0] (sc dk sn))
def KI (p0:(List UInt8)×Int×Int×Int×Int×(List lZ)×Int×Int×(List R3)×(List R3)×(List lF)×Unit):Option WV :=
 (Lx p0.2.2.2.2.2.1).bind fun y1 =>
 (Kx (p0.2.2.2.2.2.2.1,p0.2.2.2.2.2.2.2.1,p0.2.2.2.2.2.2.2.2.1,p0.2.2.2.2.2.2.2.2.2.1,())).bind fun y2 =>
 (J1 p0.2.2.2.2.2.2.2.2.2.2.1).bind fun y3 =>
 some ((),((p0.1,p0.2.1,p0.2.2.1,p0.2.2.2.1,p0.2.2.2.2.1,y1.2.1.1,y2.2.1.1,y2.2.1.2.1,y2.2.1.2.2.1,y2.2.1.2.2.2.1,y3.2.1.1,()),()))
def Ya:Su:=⟨[.c true fF],[(true,bl)],true,.inl fun x=>KI x.1⟩
theorem RL:ar Tryz.prog 105 Ya :=
 fq (ac TF (ac Rl (ac Sa an))) Tryz.f105
def wm (t0:List eD) (t3:List de) (t4:Int):Rd ((List eD)×(List de)×Int×Unit) Unit :=
 cond (au t4 (ae t0)) (
 cond (a7 t4 t0) (
 (KI (gt d124 t0 t4)).bind fun y1 =>
 cond (a7 t4 t3) (
 some (.inl (t0,(zC t3 t4 y1.2.1),(aq .i64 t4 1),()))
 ) none
 ) none
 ) (
 some (.inr (.inl (t0,t3,t4,())))
 )
def MC:=qu (ai (fb wm))
def Tj (p0:List eD):Option Qr :=
 let u1:=(ae p0)
 cond (Lk 160 u1) (
 (MC p0 (uj d92 u1) 0).bind (Sum.elim (fun y1 =>
 some ((),((y1.2.1,()),()))
 ) (fun y1 =>
 none
 ))
 ) none
def Yt:Su:=⟨[.c false [.sl 124 fF]],[(false,[.sl 92 bl])],true,.inl fun x=>Tj x.1.1⟩
theorem SB:ar Tryz.prog 77 Yt :=
 fl (ac RL an) [] [(0,⟨[.d 0 (.sl 124 fF),.own 3 (.sl 92 bl),.d 4 (.int .i64)],ai (fb wm)⟩)] [] Tryz.f77 (lp [0] (sc dk sn))
def UL (p0:(List eD)×Unit):Option Qr :=
 (Tj p0.1).bind fun y1 =>
 some ((),(y1.2.1,()))
def ZB:Su:=⟨[.c true [.sl 124 fF]],[(true,[.sl 92 bl])],true,.inl fun x=>UL x.1⟩
theorem Xw:ar Tryz.prog 50 ZB :=
 fq (ac SB an) Tryz.f50
def UQ (p0:Int×(List eD)×Unit):Option (Unit×(Y8×Unit)) :=
 (Tj p0.2.1).bind fun y1 =>
 some ((),((p0.1,y1.2.1.1,()),()))
def YB:Su:=⟨[.c true lQ],[(true,cR)],true,.inl fun x=>UQ x.1⟩
theorem Xh:ar Tryz.prog 65 YB :=
 fq (ac SB an) Tryz.f65
def uv (t0:List nk) (t3:List gb) (t4:Int):Rd ((List nk)×(List gb)×Int×Unit) Unit :=
 cond (au t4 (ae t0)) (
 cond (a7 t4 t0) (
 (UQ (gt d84 t0 t4)).bind fun y1 =>
 cond (a7 t4 t3) (
 let u1:=(zC t3 t4 (y1.2.1.1,(gt d67 t3 t4).2.1,()))
 some (.inl (t0,(zC u1 t4 ((gt d67 u1 t4).1,y1.2.1.2.1,())),(aq .i64 t4 1),()))
 ) none
 ) none
 ) (
 some (.inr (.inl (t0,t3,t4,())))
 )
def MT:=qu (ai (fb uv))
def UO (p0:List nk):Option (Unit×(((List gb)×Unit)×Unit)) :=
 let u1:=(ae p0)
 cond (Lk 32 u1) (
 (MT p0 (uj d67 u1) 0).bind (Sum.elim (fun y1 =>
 some ((),((y1.2.1,()),()))
 ) (fun y1 =>
 none
 ))
 ) none
def Y3:Su:=⟨[.c false [.sl 84 lQ]],[(false,[.sl 67 cR])],true,.inl fun x=>UO x.1.1⟩
theorem XP:ar Tryz.prog 35 Y3 :=
 fl (ac Xh an) [] [(0,⟨[.d 0 (.sl 84 lQ),.own 3 (.sl 67 cR),.d 4 (.int .i64)],ai (fb uv)⟩)] [] Tryz.f35 (lp [0] (sc dk sn))
def UH (p0:(List R5)×Int×(List R3)×Int×Int×Int×Int×Int×(List R5)×Unit):Option (Unit×(lX×Unit)) :=
 (Qo p0.1).bind fun y1 =>
 (Qj p0.2.2.1).bind fun y2 =>
 (Qo p0.2.2.2.2.2.2.2.2.1).bind fun y3 =>
 some ((),((y1.2.1.1,p0.2.1,y2.2.1.1,p0.2.2.2.1,p0.2.2.2.2.1,p0.2.2.2.2.2.1,p0.2.2.2.2.2.2.1,p0.2.2.2.2.2.2.2.1,y3.2.1.1,()),()))
def ZL:Su:=⟨[.c true gJ],[(true,gJ)],true,.inl fun x=>UH x.1⟩
theorem VA:ar Tryz.prog 66 ZL :=
 fq (ac Rv (ac SW an)) Tryz.f66
def uX (t0:List lX) (t3:List j9) (t4:Int):Rd ((List lX)×(List j9)×Int×Unit) Unit :=
 cond (au t4 (ae t0)) (
 cond (a7 t4 t0) (
 (UH (gt d86 t0 t4)).bind fun y1 =>
 cond (a7 t4 t3) (
 some (.inl (t0,(zC t3 t4 y1.2.1),(aq .i64 t4 1),()))
 ) none
 ) none
 ) (
 some (.inr (.inl (t0,t3,t4,())))
 )
def NG:=qu (ai (fb uX))
def UR (p0:List lX):Option (Unit×(((List j9)×Unit)×Unit)) :=
 let u1:=(ae p0)
 cond (Lk 120 u1) (
 (NG p0 (uj d64 u1) 0).bind (Sum.elim (fun y1 =>
 some ((),((y1.2.1,()),()))
 ) (fun y1 =>
 none
 ))
 ) none
def YD:Su:=⟨[.c false [.sl 86 gJ]],[(false,[.sl 64 eG])],true,.inl fun x=>UR x.1.1⟩
theorem XB:ar Tryz.prog 36 YD :=
 fl (ac VA an) [] [(0,⟨[.d 0 (.sl 86 gJ),.own 3 (.sl 64 eG),.d 4 (.int .i64)],ai (fb uX)⟩)] [] Tryz.f36 (lp [0] (sc dk sn))
def g10 (p0:(List nk)×Int×Int×(List lX)×Unit):Option (Unit×(MO×Unit)) :=
 (UO p0.1).bind fun y1 =>
 (UR p0.2.2.2.1).bind fun y2 =>
 some ((),((y1.2.1.1,p0.2.1,p0.2.2.1,y2.2.1.1,()),()))
def Zv:Su:=⟨[.c true [.sl 84 lQ,.int .i64,.int .i64,.sl 86 gJ]],[(true,[.sl 67 cR,.int .i64,.int .i64,.sl 64 eG])],true,.inl fun x=>g10 x.1⟩
theorem WH:ar Tryz.prog 10 Zv :=
 fq (ac XP (ac XB an)) Tryz.f10
def g17 (p0:(List eD)×Int×(List nk)×Int×Int×(List lX)×Unit):Option (Unit×(((List de)×Int×(List gb)×Int×Int×(List j9)×Unit)×Unit)) :=
 (UL (p0.1,())).bind fun y1 =>
 (g10 (p0.2.2.1,p0.2.2.2.1,p0.2.2.2.2.1,p0.2.2.2.2.2.1,())).bind fun y2 =>
 some ((),((y1.2.1.1,p0.2.1,y2.2.1.1,y2.2.1.2.1,y2.2.1.2.2.1,y2.2.1.2.2.2.1,()),()))
def YP:Su:=⟨[.c true [.sl 124 fF,.int .i64,.sl 84 lQ,.int .i64,.int .i64,.sl 86 gJ]],[(true,[.sl 92 bl,.int .i64,.sl 67 cR,.int .i64,.int .i64,.sl 64 eG])],true,.inl fun x=>g17 x.1⟩
theorem Vb:ar Tryz.prog 17 YP :=
 fq (ac Xw (ac WH an)) Tryz.f17
def ow (t0:List UInt8) (t3:Int):Rd RJ Y1 :=
 cond (au t3 (ae t0)) (
 cond (a7 t3 t0) (
 let u1:=(dm t0 t3)
 cond (au u1 48) (
 some (.inr (.inr (false,())))
 ) (
 cond (a7 t3 t0) (
 cond (au 57 u1) (
 some (.inr (.inr (false,())))
 ) (
 some (.inl (t0,(aq .i64 t3 1),()))
 )
 ) none
 )
 ) none
 ) (
 some (.inr (.inl (t0,t3,())))
 )
def Ia:=Qc (ai (wR ow))
def pH (p0:List UInt8):Option dS :=
 (Ia p0 0).bind (Sum.elim (fun y1 =>
 some ((),(((au 0 (ae y1.1)),()),()))
 ) (fun y1 =>
 some ((),(y1,()))
 ))
def XN:Su:=⟨[.c false [.str]],[(false,[.bool])],true,.inl fun x=>pH x.1.1⟩
theorem si:ar Tryz.prog 185 XN :=
 fl an [.d 2 (.bool)] [(0,⟨[.d 0 (.str),.d 3 (.int .i64)],ai (wR ow)⟩)] [] Tryz.f185 (lp [0] (sc dk sn))
def qZ (t0:List UInt8) (t3:Int) (t4:Bool) (t5:Int):Rd ((List UInt8)×Int×Bool×Int×Unit) Unit :=
 cond (bC 0 t5) (
 cond (a7 t5 t0) (
 cond t4 (
 let u1:=(aI .i64 (bN .i64 (dm t0 t5)) 48)
 let u2:=(jH .i64 2 u1)
 cond (au 9 u2) (
 let u3:=(aI .i64 t5 1)
 some (.inl (t0,(gI (aq .i64 t3 (aI .i64 u2 9)) 10),(!t4),u3,()))
 ) (
 let u3:=(aI .i64 t5 1)
 some (.inl (t0,(gI (aq .i64 t3 u2) 10),(!t4),u3,()))
 )
 ) (
 let u1:=(aI .i64 (bN .i64 (dm t0 t5)) 48)
 let u2:=(aI .i64 t5 1)
 some (.inl (t0,(gI (aq .i64 t3 u1) 10),(!t4),u2,()))
 )
 ) none
 ) (
 some (.inr (.inl (t0,t3,t4,t5,())))
 )
def I7:=mU (ai (cU qZ))
def KD (p0:List UInt8):Option ke :=
 (pH p0).bind fun y1 =>
 cond (!y1.2.1.1) (
 some ((),(((-1),()),()))
 ) (
 (I7 p0 0 true (aI .i64 (ae p0) 1)).bind (Sum.elim (fun y2 =>
 some ((),(((gI (aI .i64 10 y2.2.1) 10),()),()))
 ) (fun y2 =>
 none
 ))
 )
def Yl:Su:=⟨[.c false [.str]],[(false,aK)],true,.inl fun x=>KD x.1.1⟩
theorem RS:ar Tryz.prog 186 Yl :=
 fl (ac si an) [] [(0,⟨[.d 0 (.str),.d 3 (.int .i64),.d 4 (.bool),.d 5 (.int .i64)],ai (cU qZ)⟩)] [] Tryz.f186 (lp [0] (sc dk sn))
def LK (p0:List UInt8):Option dS :=
 (pH p0).bind fun y1 =>
 let u1:=(ae p0)
 cond (cond (!y1.2.1.1) true (au u1 2)) (
 some ((),((false,()),()))
 ) (
 let u2:=(aI .i64 u1 1)
 cond (dH 0 u2 p0) (
 (KD (sub p0 0 u2)).bind fun y2 =>
 cond (a7 u2 p0) (
 some ((),(((ak y2.2.1.1 (aI .i64 (bN .i64 (dm p0 u2)) 48)),()),()))
 ) none
 ) none
 )
def WL:Su:=⟨[.c false [.str]],[(false,[.bool])],true,.inl fun x=>LK x.1.1⟩
theorem Rj:ar Tryz.prog 133 WL :=
 fq (ac si (ac RS an)) Tryz.f133
def Fu (p0:List UInt8):Option dS :=
 cond (bC (ae p0) 19) (
 (LK p0).bind fun y1 =>
 some ((),(y1.2.1,()))
 ) (
 some ((),((false,()),()))
 )
def Yx:Su:=⟨[.c false [.str]],[(false,[.bool])],true,.inl fun x=>Fu x.1.1⟩
theorem T2:ar Tryz.prog 98 Yx :=
 fq (ac Rj an) Tryz.f98
def qG (p0 p1 p2:Int):Option dS :=
 some ((),(((cond (bC p1 p0) (bC p0 p2) false),()),()))
def ZG:Su:=⟨[.c false aK,.c false aK,.c false aK],[(false,[.bool])],true,.inl fun x=>qG x.1.1 x.2.1.1 x.2.2.1.1⟩
theorem qk:ar Tryz.prog 44 ZG :=
 fq an Tryz.f44
def Pn (p0:Int):Option dS :=
 some ((),(((cond (bC 0 p0) (bC p0 4611686018427387904) false),()),()))
def YI:Su:=⟨[.c false aK],[(false,[.bool])],true,.inl fun x=>Pn x.1.1⟩
theorem OD:ar Tryz.prog 99 YI :=
 fq an Tryz.f99
def nC (t0:List UInt8) (t3:Int):Rd RJ Y1 :=
 cond (au t3 (ae t0)) (
 cond (a7 t3 t0) (
 let u1:=(dm t0 t3)
 cond (au u1 48) (
 cond (a7 t3 t0) (
 cond (au u1 97) (
 some (.inr (.inr (false,())))
 ) (
 cond (a7 t3 t0) (
 cond (au 122 u1) (
 some (.inr (.inr (false,())))
 ) (
 some (.inl (t0,(aq .i64 t3 1),()))
 )
 ) none
 )
 ) none
 ) (
 cond (a7 t3 t0) (
 cond (au 57 u1) (
 cond (a7 t3 t0) (
 cond (au u1 97) (
 some (.inr (.inr (false,())))
 ) (
 cond (a7 t3 t0) (
 cond (au 122 u1) (
 some (.inr (.inr (false,())))
 ) (
 some (.inl (t0,(aq .i64 t3 1),()))
 )
 ) none
 )
 ) none
 ) (
 some (.inl (t0,(aq .i64 t3 1),()))
 )
 ) none
 )
 ) none
 ) (
 some (.inr (.inl (t0,t3,())))
 )
def IN:=Qc (ai (wR nC))
def IB (p0:List UInt8):Option dS :=
 (IN p0 0).bind (Sum.elim (fun y1 =>
 (qG (ae y1.1) 1 6).bind fun y2 =>
 some ((),(y2.2.1,()))
 ) (fun y1 =>
 some ((),(y1,()))
 ))
def Wu:Su:=⟨[.c false [.str]],[(false,[.bool])],true,.inl fun x=>IB x.1.1⟩
theorem MS:ar Tryz.prog 187 Wu :=
 fl (ac qk an) [.d 2 (.bool)] [(0,⟨[.d 0 (.str),.d 3 (.int .i64)],ai (wR nC)⟩)] [] Tryz.f187 (lp [0] (sc dk sn))
def F3 (p0:Int):Option dS :=
 (qG p0 0 1000000000).bind fun y1 =>
 some ((),(y1.2.1,()))
def Ze:Su:=⟨[.c false aK],[(false,[.bool])],true,.inl fun x=>F3 x.1.1⟩
theorem Lr:ar Tryz.prog 31 Ze :=
 fq (ac qk an) Tryz.f31
def L8 (p0:(List UInt8)×Int×Int×Unit):Option dS :=
 (IB p0.1).bind fun y1 =>
 cond y1.2.1.1 (
 (qG p0.2.1 1 9007199254740992).bind fun y2 =>
 cond y2.2.1.1 (
 (F3 p0.2.2.1).bind fun y3 =>
 some ((),(y3.2.1,()))
 ) (
 some ((),((false,()),()))
 )
 ) (
 some ((),((false,()),()))
 )
def XM:Su:=⟨[.c true js],[(false,[.bool])],true,.inl fun x=>L8 x.1⟩
theorem SJ:ar Tryz.prog 134 XM :=
 fq (ac qk (ac MS (ac Lr an))) Tryz.f134
def oI (t0 t5:List di) (t6 t7:Int):Rd ((List di)×(List di)×Int×Int×Unit) Y1 :=
 cond (au t7 t6) (
 cond (a7 t7 t5) (
 let u1:=(gt d157 t5 t7)
 (L8 u1).bind fun y1 =>
 cond (!y1.2.1.1) (
 some (.inr (.inr (false,())))
 ) (
 cond (au 0 t7) (
 let u2:=(aI .i64 t7 1)
 cond (a7 u2 t0) (
 cond (!(jT (gt d157 t0 u2).1 u1.1)) (
 some (.inr (.inr (false,())))
 ) (
 some (.inl (t0,t5,t6,(aq .i64 t7 1),()))
 )
 ) none
 ) (
 some (.inl (t0,t5,t6,(aq .i64 t7 1),()))
 )
 )
 ) none
 ) (
 some (.inr (.inl (t0,t5,t6,t7,())))
 )
def H7:=mU (ai (cU oI))
def Lt (p0:List di):Option dS :=
 (H7 p0 p0 (ae p0) 0).bind (Sum.elim (fun y1 =>
 some ((),(((bC (ae y1.1) 4),()),()))
 ) (fun y1 =>
 some ((),(y1,()))
 ))
def WX:Su:=⟨[.c false [.sl 157 dF]],[(false,[.bool])],true,.inl fun x=>Lt x.1.1⟩
theorem RI:ar Tryz.prog 100 WX :=
 fl (ac SJ an) [.d 2 (.bool)] [(0,⟨[.d 0 (.sl 157 dF),.d 5 (.sl 157 dF),.d 6 (.int .i64),.d 7 (.int .i64)],ai (cU oI)⟩)] [] Tryz.f100 (lp [0] (sc dk sn))
def nR (t32 t33:Int) (b1:Int×Int×(List R3)×(List R3)×Unit):Rd (Int×Int×(Int×Int×(List R3)×(List R3)×Unit)×Unit) Y1 :=
 cond (au t33 t32) (
 cond (a7 t33 b1.2.2.1) (
 (Pn (gt d3 b1.2.2.1 t33).1).bind fun y1 =>
 cond (!y1.2.1.1) (
 some (.inr (.inr (false,())))
 ) (
 cond (a7 t33 b1.2.2.2.1) (
 (Pn (gt d3 b1.2.2.2.1 t33).1).bind fun y2 =>
 cond (!y2.2.1.1) (
 some (.inr (.inr (false,())))
 ) (
 some (.inl (t32,(aq .i64 t33 1),b1,()))
 )
 ) none
 )
 ) none
 ) (
 some (.inr (.inl (t32,t33,b1,())))
 )
def Hj:=qu (ai (fb nR))
def JA (p0:Int×Int×(List R3)×(List R3)×Unit):Option dS :=
 (qG p0.1 1 1000).bind fun y1 =>
 cond (!y1.2.1.1) (
 some ((),((false,()),()))
 ) (
 let u1:=(ae p0.2.2.1)
 (qG u1 1 8).bind fun y2 =>
 cond (cond (!y2.2.1.1) true (!(ak (ae p0.2.2.2.1) u1))) (
 some ((),((false,()),()))
 ) (
 (F3 p0.2.1).bind fun y3 =>
 cond (!y3.2.1.1) (
 some ((),((false,()),()))
 ) (
 (Hj u1 0 p0).bind (Sum.elim (fun y4 =>
 some ((),((true,()),()))
 ) (fun y4 =>
 some ((),(y4,()))
 ))
 )
 )
 )
def V4:Su:=⟨[.c true [.int .i64,.int .i64,.sl 3 aK,.sl 3 aK]],[(false,[.bool])],true,.inl fun x=>JA x.1⟩
theorem TN:ar Tryz.prog 101 V4 :=
 fl (ac qk (ac OD (ac Lr an))) [.d 2 (.bool)] [(0,⟨[.d 32 (.int .i64),.d 33 (.int .i64),.box 1 [(false,.int .i64),(false,.int .i64),(false,.sl 3 aK),(false,.sl 3 aK)]],ai (fb nR)⟩)] [] Tryz.f101 (lp [0] (sc dk sn))
def J8 (p0:(List UInt8)×(List UInt8)×(List R5)×Unit):Option dS :=
 (pH p0.1).bind fun y1 =>
 cond (cond y1.2.1.1 (ak (ae p0.1) 6) false) (
 (pH p0.2.1).bind fun y2 =>
 cond (cond y2.2.1.1 (ak (ae p0.2.1) 4) false) (
 (qG (ae p0.2.2.1) 1 200).bind fun y3 =>
 some ((),(y3.2.1,()))
 ) (
 some ((),((false,()),()))
 )
 ) (
 some ((),((false,()),()))
 )
def VW:Su:=⟨[.c true iF],[(false,[.bool])],true,.inl fun x=>J8 x.1⟩
theorem Q5:ar Tryz.prog 135 VW :=
 fq (ac si (ac qk an)) Tryz.f135
def nH (t0 t7:List dh) (t8 t9:Int) (t19:List dh) (t20 t21:Int) (b4:(List UInt8)×(List UInt8)×(List R5)×Unit):Rd ((List dh)×(List dh)×Int×Int×(List dh)×Int×Int×lF×Unit) Y1 :=
 cond (au t21 t20) (
 cond (a7 t21 t19) (
 let u1:=(gt d160 t19 t21)
 cond (cond (bY u1.1 b4.1) (bY u1.2.1 b4.2.1) false) (
 some (.inr (.inr (false,())))
 ) (
 some (.inl (t0,t7,t8,t9,t19,t20,(aq .i64 t21 1),b4,()))
 )
 ) none
 ) (
 some (.inr (.inl (t0,t7,t8,t9,t19,t20,t21,b4,())))
 )
def GY:=Qq (ai (xd nH))
def oM (t0 t7:List dh) (t8 t9:Int):Rd UC Y1 :=
 cond (au t9 t8) (
 cond (a7 t9 t7) (
 let u1:=(gt d160 t7 t9)
 (J8 u1).bind fun y1 =>
 cond (!y1.2.1.1) (
 some (.inr (.inr (false,())))
 ) (
 cond (dH 0 t9 t0) (
 let u2:=(sub t0 0 t9)
 (GY t0 t7 t8 t9 u2 (ae u2) 0 u1).bind (Sum.elim (fun y2 =>
 some (.inl (y2.1,y2.2.1,y2.2.2.1,(aq .i64 y2.2.2.2.1 1),()))
 ) (fun y2 =>
 some (.inr (.inr (y2.1,())))
 ))
 ) none
 )
 ) none
 ) (
 some (.inr (.inl (t0,t7,t8,t9,())))
 )
def GX:=mU (ai (cU oM))
def Lh (p0:List dh):Option dS :=
 (GX p0 p0 (ae p0) 0).bind (Sum.elim (fun y1 =>
 some ((),(((bC (ae y1.1) 6),()),()))
 ) (fun y1 =>
 some ((),(y1,()))
 ))
def XK:Su:=⟨[.c false [.sl 160 cW]],[(false,[.bool])],true,.inl fun x=>Lh x.1.1⟩
theorem Sq:ar Tryz.prog 102 XK :=
 fl (ac Q5 an) [.d 2 (.bool)] [(2,⟨[.d 0 (.sl 160 cW),.d 7 (.sl 160 cW),.d 8 (.int .i64),.d 9 (.int .i64),.d 19 (.sl 160 cW),.d 20 (.int .i64),.d 21 (.int .i64),.box 4 [(false,.str),(false,.str),(false,.sl 5 fx)]],ai (xd nH)⟩),(0,⟨[.d 0 (.sl 160 cW),.d 7 (.sl 160 cW),.d 8 (.int .i64),.d 9 (.int .i64)],ai (cU oM)⟩)] [] Tryz.f102 (lp [0] (sc (lp [2] (sc dk sn)) sn))
def I4 (p0 p1 p2:Int):Option ke :=
 cond (au p0 p1) (
 some ((),((p1,()),()))
 ) (
 cond (au p2 p0) (
 some ((),((p2,()),()))
 ) (
 some ((),((p0,()),()))
 )
 )
def XE:Su:=⟨[.c false aK,.c false aK,.c false aK],[(false,aK)],true,.inl fun x=>I4 x.1.1 x.2.1.1 x.2.2.1.1⟩
theorem SP:ar Tryz.prog 137 XE :=
 fq an Tryz.f137
def Qb (p0 p1:Int):Option V8 :=
 (Pn p0).bind fun y1 =>
 cond (!y1.2.1.1) (
 some ((),((0,()),(false,()),()))
 ) (
 (Pn p1).bind fun y2 =>
 cond (cond (!y2.2.1.1) true (au (aI .i64 4611686018427387904 p1) p0)) (
 some ((),((0,()),(false,()),()))
 ) (
 some ((),(((aq .i64 p0 p1),()),(true,()),()))
 )
 )
def VN:Su:=⟨[.c false aK,.c false aK],[(false,aK),(false,[.bool])],true,.inl fun x=>Qb x.1.1 x.2.1.1⟩
theorem Qt:ar Tryz.prog 136 VN :=
 fq (ac OD an) Tryz.f136
def Jf (p0 p1:Int):Option ke :=
 (I4 p0 0 4611686018427387904).bind fun y1 =>
 (I4 p1 0 4611686018427387904).bind fun y2 =>
 (Qb y1.2.1.1 y2.2.1.1).bind fun y3 =>
 cond (!y3.2.2.1.1) (
 some ((),((4611686018427387904,()),()))
 ) (
 some ((),(y3.2.1,()))
 )
def XF:Su:=⟨[.c false aK,.c false aK],[(false,aK)],true,.inl fun x=>Jf x.1.1 x.2.1.1⟩
theorem MZ:ar Tryz.prog 103 XF :=
 fq (ac SP (ac Qt an)) Tryz.f103
def oR (t3:Int) (t6:List di) (t7 t8:Int):Rd (Int×(List di)×Int×Int×Unit) Unit :=
 cond (au t8 t7) (
 cond (a7 t8 t6) (
 (Jf t3 (gt d157 t6 t8).2.1).bind fun y1 =>
 some (.inl (y1.2.1.1,t6,t7,(aq .i64 t8 1),()))
 ) none
 ) (
 some (.inr (.inl (t3,t6,t7,t8,())))
 )
def Il:=mU (ai (cU oR))
def LZ (p0:List di):Option ke :=
 (Il 0 p0 (ae p0) 0).bind (Sum.elim (fun y1 =>
 some ((),((y1.1,()),()))
 ) (fun y1 =>
 none
 ))
def Xv:Su:=⟨[.c false [.sl 157 dF]],[(false,aK)],true,.inl fun x=>LZ x.1.1⟩
theorem TR:ar Tryz.prog 104 Xv :=
 fl (ac MZ an) [] [(0,⟨[.d 3 (.int .i64),.d 6 (.sl 157 dF),.d 7 (.int .i64),.d 8 (.int .i64)],ai (cU oR)⟩)] [] Tryz.f104 (lp [0] (sc dk sn))
def Uz (p0:(List UInt8)×Int×Int×Int×Int×(List di)×Int×Int×(List R3)×(List R3)×(List dh)×Unit):Option dS :=
 (Fu p0.1).bind fun y1 =>
 cond (!y1.2.1.1) (
 some ((),((false,()),()))
 ) (
 (qG p0.2.1 0 9007199254740992).bind fun y2 =>
 cond (!y2.2.1.1) (
 some ((),((false,()),()))
 ) (
 (qG p0.2.2.2.1 0 1000).bind fun y3 =>
 cond (!y3.2.1.1) (
 some ((),((false,()),()))
 ) (
 (qG p0.2.2.2.2.1 0 9007199254740992).bind fun y4 =>
 cond (!y4.2.1.1) (
 some ((),((false,()),()))
 ) (
 (Pn p0.2.2.1).bind fun y5 =>
 cond (!y5.2.1.1) (
 some ((),((false,()),()))
 ) (
 (Lt p0.2.2.2.2.2.1).bind fun y6 =>
 cond y6.2.1.1 (
 (JA (p0.2.2.2.2.2.2.1,p0.2.2.2.2.2.2.2.1,p0.2.2.2.2.2.2.2.2.1,p0.2.2.2.2.2.2.2.2.2.1,())).bind fun y7 =>
 cond y7.2.1.1 (
 (Lh p0.2.2.2.2.2.2.2.2.2.2.1).bind fun y8 =>
 cond y8.2.1.1 (
 (LZ p0.2.2.2.2.2.1).bind fun y9 =>
 (Jf p0.2.2.1 y9.2.1.1).bind fun y10 =>
 some ((),(((bC y10.2.1.1 p0.2.1),()),()))
 ) (
 some ((),((false,()),()))
 )
 ) (
 some ((),((false,()),()))
 )
 ) (
 some ((),((false,()),()))
 )
 )
 )
 )
 )
 )
def YH:Su:=⟨[.c true bl],[(false,[.bool])],true,.inl fun x=>Uz x.1⟩
theorem Vw:ar Tryz.prog 76 YH :=
 fq (ac T2 (ac qk (ac OD (ac RI (ac TN (ac Sq (ac MZ (ac TR an)))))))) Tryz.f76
def uE (t6:List de) (t7 t8:Int) (b1:(List de)×Unit):Rd ((List de)×Int×Int×Y4×Unit) Y1 :=
 cond (au t8 t7) (
 cond (a7 t8 t6) (
 let u1:=(gt d92 t6 t8)
 (Uz u1).bind fun y1 =>
 cond (!y1.2.1.1) (
 some (.inr (.inr (false,())))
 ) (
 cond (au 0 t8) (
 let u2:=(aI .i64 t8 1)
 cond (a7 u2 b1.1) (
 cond (!(jT (gt d92 b1.1 u2).1 u1.1)) (
 some (.inr (.inr (false,())))
 ) (
 some (.inl (t6,t7,(aq .i64 t8 1),b1,()))
 )
 ) none
 ) (
 some (.inl (t6,t7,(aq .i64 t8 1),b1,()))
 )
 )
 ) none
 ) (
 some (.inr (.inl (t6,t7,t8,b1,())))
 )
def Nn:=mU (ai (cU uE))
def Qi (p0:(List de)×Unit):Option dS :=
 (Nn p0.1 (ae p0.1) 0 p0).bind (Sum.elim (fun y1 =>
 some ((),(((bC (ae y1.2.2.2.1.1) 6),()),()))
 ) (fun y1 =>
 some ((),(y1,()))
 ))
def Zi:Su:=⟨[.c true [.sl 92 bl]],[(false,[.bool])],true,.inl fun x=>Qi x.1⟩
theorem S5:ar Tryz.prog 49 Zi :=
 fl (ac Vw an) [.d 2 (.bool)] [(0,⟨[.d 6 (.sl 92 bl),.d 7 (.int .i64),.d 8 (.int .i64),.box 1 [(false,.sl 92 bl)]],ai (cU uE)⟩)] [] Tryz.f49 (lp [0] (sc dk sn))
def HK (p0:Int×Int×(List R3)×(List R3)×Unit):Option Xx :=
 cond (cS 8 [] p0.2.2.1) (
 cond (cS 8 [] p0.2.2.2.1) (
 some ((),((p0.1,p0.2.1,(lO [] p0.2.2.1),(lO [] p0.2.2.2.1),()),()))
 ) none
 ) none
def WT:Su:=⟨[.c true [.int .i64,.int .i64,.sl 3 aK,.sl 3 aK]],[(true,[.int .i64,.int .i64,.sl 3 aK,.sl 3 aK])],true,.inl fun x=>HK x.1⟩
theorem RA:ar Tryz.prog 117 WT :=
 fq an Tryz.f117
def oP (t3 t7:List dh) (t8 t9:Int):Rd UC Unit :=
 cond (au t9 t8) (
 cond (a7 t9 t7) (
 let u1:=(gt d160 t7 t9)
 cond (cS 1 [] u1.2.2.1) (
 cond (cS 56 t3 [(u1.1,u1.2.1,(lO [] u1.2.2.1),())]) (
 some (.inl ((lO t3 [(u1.1,u1.2.1,(lO [] u1.2.2.1),())]),t7,t8,(aq .i64 t9 1),()))
 ) none
 ) none
 ) none
 ) (
 some (.inr (.inl (t3,t7,t8,t9,())))
 )
def GF:=mU (ai (cU oP))
def Ko (p0:List dh):Option Xs :=
 (GF [] p0 (ae p0) 0).bind (Sum.elim (fun y1 =>
 some ((),((y1.1,()),()))
 ) (fun y1 =>
 none
 ))
def XW:Su:=⟨[.c false [.sl 160 cW]],[(false,[.sl 160 cW])],true,.inl fun x=>Ko x.1.1⟩
theorem Qs:ar Tryz.prog 118 XW :=
 fl an [] [(0,⟨[.own 3 (.sl 160 cW),.d 7 (.sl 160 cW),.d 8 (.int .i64),.d 9 (.int .i64)],ai (cU oP)⟩)] [] Tryz.f118 (lp [0] (sc dk sn))
def US (p0:(List UInt8)×Int×Int×Int×Int×(List di)×Int×Int×(List R3)×(List R3)×(List dh)×Unit):Option WV :=
 cond (cS 32 [] p0.2.2.2.2.2.1) (
 (HK (p0.2.2.2.2.2.2.1,p0.2.2.2.2.2.2.2.1,p0.2.2.2.2.2.2.2.2.1,p0.2.2.2.2.2.2.2.2.2.1,())).bind fun y1 =>
 (Ko p0.2.2.2.2.2.2.2.2.2.2.1).bind fun y2 =>
 some ((),((p0.1,p0.2.1,p0.2.2.1,p0.2.2.2.1,p0.2.2.2.2.1,(lO [] p0.2.2.2.2.2.1),y1.2.1.1,y1.2.1.2.1,y1.2.1.2.2.1,y1.2.1.2.2.2.1,y2.2.1.1,()),()))
 ) none
def Ym:Su:=⟨[.c true bl],[(true,bl)],true,.inl fun x=>US x.1⟩
theorem NZ:ar Tryz.prog 85 Ym :=
 fq (ac RA (ac Qs an)) Tryz.f85
def wb (t3:List de) (t8:Int) (t11:List gb) (t12 t13:Int) (t18:List de) (t19 t20:Int) (b2:(List de)×Unit) (b7:(List UInt8)×Int×Int×Int×Int×(List di)×Int×Int×(List R3)×(List R3)×(List dh)×Unit):Rd ((List de)×Int×(List gb)×Int×Int×(List de)×Int×Int×Y4×de×Unit) Unit :=
 cond (au 0 t8) (
 let u1:=(aI .i64 t8 1)
 cond (a7 u1 t3) (
 cond (!(NK (gt d92 t3 u1).1 b7.1)) (
 some (.inl (t3,u1,t11,t12,t13,t18,t19,t20,b2,b7,()))
 ) (
 some (.inr (.inl (t3,t8,t11,t12,t13,t18,t19,t20,b2,b7,())))
 )
 ) none
 ) (
 some (.inr (.inl (t3,t8,t11,t12,t13,t18,t19,t20,b2,b7,())))
 )
def zZ:=Sg (ai (AL wb))
def sG (t3:List de) (t11:List gb) (t12 t13:Int) (t18:List de) (t19 t20:Int) (b2:(List de)×Unit):Rd ((List de)×(List gb)×Int×Int×(List de)×Int×Int×Y4×Unit) Unit :=
 cond (au t20 t19) (
 cond (a7 t20 t18) (
 (zZ t3 (ae t3) t11 t12 t13 t18 t19 t20 b2 (gt d92 t18 t20)).bind (Sum.elim (fun y1 =>
 cond (dH 0 y1.2.1 y1.1) (
 cond (Rg 160 [] y1.1 y1.2.1) (
 (US y1.2.2.2.2.2.2.2.2.2.1).bind fun y2 =>
 let u1:=(lO [] (NJ y1.1 y1.2.1))
 cond (cS 160 u1 [y2.2.1]) (
 cond (OF y1.2.1 y1.2.1) (
 let u2:=(lO u1 [y2.2.1])
 let u3:=(Xg y1.1 y1.2.1)
 cond (cS 160 u2 u3) (
 some (.inl ((lO u2 u3),y1.2.2.1,y1.2.2.2.1,y1.2.2.2.2.1,y1.2.2.2.2.2.1,y1.2.2.2.2.2.2.1,(aq .i64 y1.2.2.2.2.2.2.2.1 1),y1.2.2.2.2.2.2.2.2.1,()))
 ) none
 ) none
 ) none
 ) none
 ) none
 ) (fun y1 =>
 some (.inr (.inr ()))
 ))
 ) none
 ) (
 some (.inr (.inl (t3,t11,t12,t13,t18,t19,t20,b2,())))
 )
def C1:=Qq (ai (xd sG))
def rK (t3:List de) (t11:List gb) (t12 t13:Int) (b2:(List de)×Unit):Rd ((List de)×(List gb)×Int×Int×Y4×Unit) Unit :=
 cond (au t13 t12) (
 cond (a7 t13 t11) (
 (C1 t3 t11 t12 t13 (gt d67 t11 t13).2.1 (ae (gt d67 t11 t13).2.1) 0 b2).bind (Sum.elim (fun y1 =>
 some (.inl (y1.1,y1.2.1,y1.2.2.1,(aq .i64 y1.2.2.2.1 1),y1.2.2.2.2.2.2.2.1,()))
 ) (fun y1 =>
 some (.inr (.inr ()))
 ))
 ) none
 ) (
 some (.inr (.inl (t3,t11,t12,t13,b2,())))
 )
def D6:=zz (ai (gj rK))
def Nc (p0:List gb):Option Qr :=
 (D6 [] p0 (ae p0) 0 ([],())).bind (Sum.elim (fun y1 =>
 some ((),((y1.1,()),()))
 ) (fun y1 =>
 none
 ))
def Um:Su:=⟨[.c false [.sl 67 cR]],[(true,[.sl 92 bl])],true,.inl fun x=>Nc x.1.1⟩
def vY:List SE:=[.own 3 (.sl 92 bl),.d 8 (.int .i64),.d 11 (.sl 67 cR),.d 12 (.int .i64),.d 13 (.int .i64),.d 18 (.sl 92 bl),.d 19 (.int .i64),.d 20 (.int .i64),.box 2 [(true,.sl 92 bl)],.box 7 [(false,.str),(false,.int .i64),(false,.int .i64),(false,.int .i64),(false,.int .i64),(false,.sl 157 dF),(false,.int .i64),(false,.int .i64),(false,.sl 3 aK),(false,.sl 3 aK),(false,.sl 160 cW)]]
def wA:List SE:=[.own 3 (.sl 92 bl),.d 11 (.sl 67 cR),.d 12 (.int .i64),.d 13 (.int .i64),.d 18 (.sl 92 bl),.d 19 (.int .i64),.d 20 (.int .i64),.box 2 [(true,.sl 92 bl)]]
def ux:List SE:=[.own 3 (.sl 92 bl),.d 11 (.sl 67 cR),.d 12 (.int .i64),.d 13 (.int .i64),.box 2 [(true,.sl 92 bl)]]
def N6:List SE:=[]
def R4:Nat->Option (Lo N6)
 | 4=>some ⟨vY,AL zZ⟩
 | 2=>some ⟨wA,xd C1⟩
 | 0=>some ⟨ux,gj D6⟩
 | _=>none
def Hk:List (Nat×Su):=[(85,Ym)]
def zF:En:=⟨60,tt,iL Hk,N6,R4,[],fun _=>none⟩
def WO:Nat->Option (St->Tr St)
 | 11=>some (wq zF (fC (bb 11 (ah Tryz.f60)) 0).op 44 44 44 3 8 41 42 43 44 45 9)
 | 13=>some (A4 zF 44 44 44 9 3 8 51 52 53 54 55)
 | _=>none
def HS:En:=⟨60,tt,iL Hk,N6,R4,[],WO⟩
theorem T0 (x:bG vY):(cY HS 4 vY (aZ 4 (ah Tryz.f60)) x).run=AL wb x:=by kernel_rfl
theorem SM (x:bG wA):(cY HS 2 wA (aZ 2 (ah Tryz.f60)) x).run=xd sG x:=by kernel_rfl
theorem QC (x:bG ux):(cY HS 0 ux (aZ 0 (ah Tryz.f60)) x).run=gj rK x:=by kernel_rfl
theorem t60 (x:PT Um.ps):(Fh HS (ah Tryz.f60) Tryz.f60.results.toList Um.ps Um.rs true x).run=Nc x.1.1:=by kernel_rfl
theorem Dp:db Tryz.prog HS:=cM (l:=Hk) ⟨NZ,trivial⟩
theorem Fm:db Tryz.prog zF:=cM (l:=Hk) ⟨NZ,trivial⟩
theorem OP:cG Tryz.prog HS (bb 11 (ah Tryz.f60)) (wq zF (fC (bb 11 (ah Tryz.f60)) 0).op 44 44 44 3 8 41 42 43 44 45 9) :=
 fY rfl rfl (G7 (E:=zF) (kX hT) Fm (cd:=(bb 11 (ah Tryz.f60))) (rid:=11) (o1:=fC (bb 11 (ah Tryz.f60)) 0) (o2:=fC (bb 11 (ah Tryz.f60)) 1) (o3:=fC (bb 11 (ah Tryz.f60)) 2) (o4:=fC (bb 11 (ah Tryz.f60)) 3) (o5:=fC (bb 11 (ah Tryz.f60)) 4) (o6:=fC (bb 11 (ah Tryz.f60)) 5) (c:=yi (fC (bb 11 (ah Tryz.f60)) 4)) (tys:=[])
  (by kernel_rfl) (by kernel_rfl) (by kernel_rfl) (by kernel_rfl) (by kernel_rfl) (by kernel_rfl) (by kernel_rfl) (by kernel_rfl) (by kernel_rfl) (by kernel_rfl) (by kernel_rfl) (by kernel_rfl) (by kernel_rfl) (by kernel_rfl) (by kernel_rfl) (by kernel_rfl) (by kernel_rfl) (by kernel_rfl) (by kernel_rfl) (by kernel_rfl) (by kernel_rfl))
theorem Fl:db Tryz.prog zF:=cM (l:=Hk) ⟨NZ,trivial⟩
theorem NO:cG Tryz.prog HS (bb 13 (ah Tryz.f60)) (A4 zF 44 44 44 9 3 8 51 52 53 54 55) :=
 fY rfl rfl (Km (E:=zF) (kX hT) Fl (cd:=(bb 13 (ah Tryz.f60))) (rid:=13) (o1:=fC (bb 13 (ah Tryz.f60)) 0) (o2:=fC (bb 13 (ah Tryz.f60)) 1) (o3:=fC (bb 13 (ah Tryz.f60)) 2) (o4:=fC (bb 13 (ah Tryz.f60)) 3) (o5:=fC (bb 13 (ah Tryz.f60)) 4) (o6:=fC (bb 13 (ah Tryz.f60)) 5) (c:=yi (fC (bb 13 (ah Tryz.f60)) 4)) (tys:=[])
  (by kernel_rfl) (by kernel_rfl) (by kernel_rfl) (by kernel_rfl) (by kernel_rfl) (by kernel_rfl) (by kernel_rfl) (by kernel_rfl) (by kernel_rfl) (by kernel_rfl) (by kernel_rfl) (by kernel_rfl) (by kernel_rfl) (by kernel_rfl) (by kernel_rfl) (by kernel_rfl) (by kernel_rfl) (by kernel_rfl) (by kernel_rfl) (by kernel_rfl) (by kernel_rfl) (by kernel_rfl))
theorem RB:bV Tryz.prog HS 4 (.loop (aZ 4 (ah Tryz.f60))) ⟨vY,AL zZ⟩ :=
 eg (kX hT) Dp eF (step:=fun (x:bG vY)=>wb x.1 x.2.1 x.2.2.1 x.2.2.2.1 x.2.2.2.2.1 x.2.2.2.2.2.1 x.2.2.2.2.2.2.1 x.2.2.2.2.2.2.2.1 x.2.2.2.2.2.2.2.2.1 x.2.2.2.2.2.2.2.2.2.1) T0 (aV [] (by kernel_rfl) trivial [] (by kernel_rfl) trivial)
theorem Ua:bV Tryz.prog HS 2 (.loop (aZ 2 (ah Tryz.f60))) ⟨wA,xd C1⟩ :=
 eg (kX hT) Dp eF (step:=fun (x:bG wA)=>sG x.1 x.2.1 x.2.2.1 x.2.2.2.1 x.2.2.2.2.1 x.2.2.2.2.2.1 x.2.2.2.2.2.2.1 x.2.2.2.2.2.2.2.1) SM (aV [(4,.loop (aZ 4 (ah Tryz.f60)))] (by kernel_rfl) ⟨lM rfl RB,trivial⟩ [(11,bb 11 (ah Tryz.f60)),(13,bb 13 (ah Tryz.f60))] (by kernel_rfl) ⟨wO rfl OP,wO rfl NO,trivial⟩)
theorem Sh:bV Tryz.prog HS 0 (.loop (aZ 0 (ah Tryz.f60))) ⟨ux,gj D6⟩ :=
 eg (kX hT) Dp eF (step:=fun (x:bG ux)=>rK x.1 x.2.1 x.2.2.1 x.2.2.2.1 x.2.2.2.2.1) QC (aV [(2,.loop (aZ 2 (ah Tryz.f60)))] (by kernel_rfl) ⟨lM rfl Ua,trivial⟩ [] (by kernel_rfl) trivial)
theorem WN:ar Tryz.prog 60 Um :=
 qt (E:=HS) (kX hT) Dp eF (fn:=Tryz.f60) (c:=(ah Tryz.f60)) (by kernel_rfl) (by kernel_rfl) (by kernel_rfl) rfl (aV [(0,.loop (aZ 0 (ah Tryz.f60)))] (by kernel_rfl) ⟨lM rfl Sh,trivial⟩ [] (by kernel_rfl) trivial) fun x y h=>⟨y.1,fun _=>rfl,(t60 x).trans h⟩
def wa (t0:List UInt8) (t3 t4:Int):Rd Qf Unit :=
 cond (au t4 (ae t0)) (
 cond (a7 t4 t0) (
 some (.inl (t0,(yU .i64 (jH .i64 (Bl .i64 t3 (bN .i64 (dm t0 t4))) 16777619) 4294967295),(aq .i64 t4 1),()))
 ) none
 ) (
 some (.inr (.inl (t0,t3,t4,())))
 )
def Nq:=qu (ai (fb wa))
def UZ (p0:List UInt8):Option ke :=
 (Nq p0 2166136261 0).bind (Sum.elim (fun y1 =>
 some ((),((y1.2.1,()),()))
 ) (fun y1 =>
 none
 ))
def Y7:Su:=⟨[.c false [.str]],[(false,aK)],true,.inl fun x=>UZ x.1.1⟩
theorem V6:ar Tryz.prog 84 Y7 :=
 fl an [] [(0,⟨[.d 0 (.str),.d 3 (.int .i64),.d 4 (.int .i64)],ai (fb wa)⟩)] [] Tryz.f84 (lp [0] (sc dk sn))
def Mj (p0:List UInt8) (p1:Int):Option ke :=
 cond (au p1 1) (
 some ((),((0,()),()))
 ) (
 (UZ p0).bind fun y1 =>
 cond (!(ak p1 0)) (
 some ((),(((gI y1.2.1.1 p1),()),()))
 ) none
 )
def Zs:Su:=⟨[.c false [.str],.c false aK],[(false,aK)],true,.inl fun x=>Mj x.1.1 x.2.1.1⟩
theorem Tg:ar Tryz.prog 59 Zs :=
 fq (ac V6 an) Tryz.f59
def uZ (t0:List gb) (t3:Int) (t11:List gb) (t12 t13:Int) (t23:List de) (t24 t25:Int) (b4:Int×(List de)×Unit):Rd ((List gb)×Int×(List gb)×Int×Int×(List de)×Int×Int×Y8×Unit) Y1 :=
 cond (au t25 t24) (
 cond (a7 t25 t23) (
 (Mj (gt d92 t23 t25).1 (ae t0)).bind fun y1 =>
 cond (!(ak y1.2.1.1 t3)) (
 some (.inr (.inr (false,())))
 ) (
 cond (au 0 t25) (
 let u1:=(aI .i64 t25 1)
 cond (a7 u1 b4.2.1) (
 cond (!(jT (gt d92 b4.2.1 u1).1 (gt d92 t23 t25).1)) (
 some (.inr (.inr (false,())))
 ) (
 some (.inl (t0,t3,t11,t12,t13,t23,t24,(aq .i64 t25 1),b4,()))
 )
 ) none
 ) (
 some (.inl (t0,t3,t11,t12,t13,t23,t24,(aq .i64 t25 1),b4,()))
 )
 )
 ) none
 ) (
 some (.inr (.inl (t0,t3,t11,t12,t13,t23,t24,t25,b4,())))
 )
def NI:=TZ (ai (B9 uZ))
def vi (t0 t11:List gb) (t12 t13:Int):Rd ((List gb)×(List gb)×Int×Int×Unit) Y1 :=
 cond (au t13 t12) (
 cond (a7 t13 t11) (
 let u1:=(gt d67 t11 t13)
 (qG u1.1 (-1) 11).bind fun y1 =>
 cond (!y1.2.1.1) (
 some (.inr (.inr (false,())))
 ) (
 (NI t0 t13 t11 t12 t13 u1.2.1 (ae u1.2.1) 0 u1).bind (Sum.elim (fun y2 =>
 some (.inl (y2.1,y2.2.2.1,y2.2.2.2.1,(aq .i64 y2.2.2.2.2.1 1),()))
 ) (fun y2 =>
 some (.inr (.inr (y2.1,())))
 ))
 )
 ) none
 ) (
 some (.inr (.inl (t0,t11,t12,t13,())))
 )
def Ta:=mU (ai (cU vi))
def UF (p0:List gb):Option dS :=
 let u1:=(ae p0)
 (qG u1 1 5).bind fun y1 =>
 cond (!y1.2.1.1) (
 some ((),((false,()),()))
 ) (
 (Ta p0 p0 u1 0).bind (Sum.elim (fun y2 =>
 (Nc y2.1).bind fun y3 =>
 (Qi y3.2.1).bind fun y4 =>
 some ((),(y4.2.1,()))
 ) (fun y2 =>
 some ((),(y2,()))
 ))
 )
def Yz:Su:=⟨[.c false [.sl 67 cR]],[(false,[.bool])],true,.inl fun x=>UF x.1.1⟩
theorem VI:ar Tryz.prog 30 Yz :=
 fl (ac qk (ac S5 (ac WN (ac Tg an)))) [.d 2 (.bool)] [(2,⟨[.d 0 (.sl 67 cR),.d 3 (.int .i64),.d 11 (.sl 67 cR),.d 12 (.int .i64),.d 13 (.int .i64),.d 23 (.sl 92 bl),.d 24 (.int .i64),.d 25 (.int .i64),.box 4 [(false,.int .i64),(false,.sl 92 bl)]],ai (B9 uZ)⟩),(0,⟨[.d 0 (.sl 67 cR),.d 11 (.sl 67 cR),.d 12 (.int .i64),.d 13 (.int .i64)],ai (cU vi)⟩)] [] Tryz.f30 (lp [0] (sc (lp [2] (sc dk sn)) sn))
def tG (t1:Int) (t7:List R3) (t8 t9:Int):Rd (Int×(List R3)×Int×Int×Unit) Y1 :=
 cond (au t9 t8) (
 cond (a7 t9 t7) (
 cond (ak (gt d3 t7 t9).1 t1) (
 some (.inr (.inr (true,())))
 ) (
 some (.inl (t1,t7,t8,(aq .i64 t9 1),()))
 )
 ) none
 ) (
 some (.inr (.inl (t1,t7,t8,t9,())))
 )
def SV:=mU (ai (cU tG))
def Uw (p0:List R3) (p1:Int):Option dS :=
 (SV p1 p0 (ae p0) 0).bind (Sum.elim (fun y1 =>
 some ((),((false,()),()))
 ) (fun y1 =>
 some ((),(y1,()))
 ))
def ZA:Su:=⟨[.c false gq,.c false aK],[(false,[.bool])],true,.inl fun x=>Uw x.1.1 x.2.1.1⟩
theorem Xo:ar Tryz.prog 61 ZA :=
 fl an [.d 4 (.bool)] [(0,⟨[.d 1 (.int .i64),.d 7 (.sl 3 aK),.d 8 (.int .i64),.d 9 (.int .i64)],ai (cU tG)⟩)] [] Tryz.f61 (lp [0] (sc dk sn))
def uf (t1:Int) (t5:List R3) (t11:List j9) (t12 t13:Int) (t23:List R3) (t24 t25:Int):Rd (Int×(List R3)×(List j9)×Int×Int×(List R3)×Int×Int×Unit) Y1 :=
 cond (au t25 t24) (
 cond (a7 t25 t23) (
 let u1:=(gt d3 t23 t25)
 cond (ak u1.1 (-1)) (
 let u2:=(aq .i64 t25 1)
 some (.inl (t1,t5,t11,t12,t13,t23,t24,u2,()))
 ) (
 cond (bC t1 u1.1) (
 some (.inr (.inr (false,())))
 ) (
 (Uw t5 u1.1).bind fun y1 =>
 cond y1.2.1.1 (
 some (.inr (.inr (false,())))
 ) (
 cond (cS 8 t5 [u1]) (
 let u2:=(aq .i64 t25 1)
 some (.inl (t1,(lO t5 [u1]),t11,t12,t13,t23,t24,u2,()))
 ) none
 )
 )
 )
 ) none
 ) (
 some (.inr (.inl (t1,t5,t11,t12,t13,t23,t24,t25,())))
 )
def Ma:=Qq (ai (xd uf))
def uy (t1:Int) (t5:List R3) (t11:List j9) (t12 t13:Int):Rd (Int×(List R3)×(List j9)×Int×Int×Unit) Y1 :=
 cond (au t13 t12) (
 cond (a7 t13 t11) (
 let u1:=(gt d64 t11 t13)
 (Ma t1 t5 t11 t12 t13 [(u1.2.2.2.2.1,()),(u1.2.2.2.2.2.1,()),(u1.2.2.2.2.2.2.1,())] (ae [(u1.2.2.2.2.1,()),(u1.2.2.2.2.2.1,()),(u1.2.2.2.2.2.2.1,())]) 0).bind (Sum.elim (fun y1 =>
 some (.inl (y1.1,y1.2.1,y1.2.2.1,y1.2.2.2.1,(aq .i64 y1.2.2.2.2.1 1),()))
 ) (fun y1 =>
 some (.inr (.inr (y1.1,())))
 ))
 ) none
 ) (
 some (.inr (.inl (t1,t5,t11,t12,t13,())))
 )
def Sv:=zz (ai (gj uy))
def UN (p0:List j9) (p1:Int):Option dS :=
 (Sv p1 [] p0 (ae p0) 0).bind (Sum.elim (fun y1 =>
 some ((),((true,()),()))
 ) (fun y1 =>
 some ((),(y1,()))
 ))
def YC:Su:=⟨[.c false [.sl 64 eG],.c false aK],[(false,[.bool])],true,.inl fun x=>UN x.1.1 x.2.1.1⟩
theorem Xp:ar Tryz.prog 32 YC :=
 fl (ac Xo an) [.d 4 (.bool)] [(2,⟨[.d 1 (.int .i64),.own 5 (.sl 3 aK),.d 11 (.sl 64 eG),.d 12 (.int .i64),.d 13 (.int .i64),.own 23 (.sl 3 aK),.d 24 (.int .i64),.d 25 (.int .i64)],ai (xd uf)⟩),(0,⟨[.d 1 (.int .i64),.own 5 (.sl 3 aK),.d 11 (.sl 64 eG),.d 12 (.int .i64),.d 13 (.int .i64)],ai (gj uy)⟩)] [] Tryz.f32 (lp [0] (sc (lp [2] (sc dk sn)) sn))
def UI (p0:(List R5)×Int×(List R3)×Int×Int×Int×Int×Int×(List R5)×Unit):Option dS :=
 cond (ak p0.2.1 1) (
 let u1:=(ae p0.2.2.1)
 some ((),(((cond (bC 0 p0.2.2.2.1) (au p0.2.2.2.1 u1) false),()),()))
 ) (
 cond (ak p0.2.1 2) (
 let u1:=(ae p0.2.2.1)
 some ((),(((cond (ak p0.2.2.2.1 u1) (au 0 u1) false),()),()))
 ) (
 cond (ak p0.2.1 3) (
 let u1:=(ae p0.2.2.1)
 (qG p0.2.2.2.1 1 u1).bind fun y1 =>
 some ((),(y1.2.1,()))
 ) (
 some ((),(((ak p0.2.2.2.1 0),()),()))
 )
 )
 )
def YO:Su:=⟨[.c true gJ],[(false,[.bool])],true,.inl fun x=>UI x.1⟩
theorem Vg:ar Tryz.prog 62 YO :=
 fq (ac qk an) Tryz.f62
def nG (t0:List R5) (t1 t2:Int) (t9:List UInt8) (t10:Int):Rd ((List R5)×Int×Int×(List UInt8)×Int×Unit) Unit :=
 cond (au t10 (aq .i64 t1 (nE .i64 (aq .i64 t2 1) 2))) (
 cond (a7 t10 t0) (
 cond (a7 t10 t0) (
 let u1:=(bN .i64 (gt d5 t0 t10).1)
 let u2:=(strOf [((bN .u8 (aq .i64 48 (nE .i64 u1 16))),()),((bN .u8 (aq .i64 48 (gI u1 16))),())])
 cond (SR t9 u2) (
 some (.inl (t0,t1,t2,(YU t9 u2),(aq .i64 t10 1),()))
 ) none
 ) none
 ) none
 ) (
 some (.inr (.inl (t0,t1,t2,t9,t10,())))
 )
def HD:=zz (ai (gj nG))
def tD (p0:List R5) (p1 p2:Int):Option Uq :=
 let u1:=(ae p0)
 cond (cond (cond (cond (au p2 1) true (au 38 p2)) true (au p1 0)) true (au u1 p1)) (
 some ((),(([],()),(0,()),(false,()),()))
 ) (
 cond (au (aI .i64 u1 p1) (nE .i64 (aq .i64 p2 1) 2)) (
 some ((),(([],()),(0,()),(false,()),()))
 ) (
 (HD p0 p1 p2 [] p1).bind (Sum.elim (fun y1 =>
 cond (ak (gI y1.2.2.1 2) 1) (
 cond (a7 0 y1.2.2.2.1) (
 cond (!(ak (dm y1.2.2.2.1 0) 48)) (
 some ((),(([],()),(0,()),(false,()),()))
 ) (
 let u2:=(ae y1.2.2.2.1)
 cond (dH 1 u2 y1.2.2.2.1) (
 let u3:=(sub y1.2.2.2.1 1 u2)
 (pH u3).bind fun y2 =>
 cond (!y2.2.1.1) (
 some ((),(([],()),(0,()),(false,()),()))
 ) (
 some ((),((u3,()),((aq .i64 y1.2.1 (nE .i64 (aq .i64 y1.2.2.1 1) 2)),()),(true,()),()))
 )
 ) none
 )
 ) none
 ) (
 (pH y1.2.2.2.1).bind fun y2 =>
 cond (!y2.2.1.1) (
 some ((),(([],()),(0,()),(false,()),()))
 ) (
 some ((),((y1.2.2.2.1,()),((aq .i64 y1.2.1 (nE .i64 (aq .i64 y1.2.2.1 1) 2)),()),(true,()),()))
 )
 )
 ) (fun y1 =>
 none
 ))
 )
 )
def X6:Su:=⟨[.c false [.sl 5 fx],.c false aK,.c false aK],[(false,[.str]),(false,aK),(false,[.bool])],true,.inl fun x=>tD x.1.1 x.2.1.1 x.2.2.1.1⟩
theorem IV:ar Tryz.prog 149 X6 :=
 fl (ac si an) [] [(0,⟨[.d 0 (.sl 5 fx),.d 1 (.int .i64),.d 2 (.int .i64),.d 9 (.str),.d 10 (.int .i64)],ai (gj nG)⟩)] [] Tryz.f149 (lp [0] (sc dk sn))
def qH (t0:List R5) (t1:Int) (t7:List R3) (t8:Int):Rd ((List R5)×Int×(List R3)×Int×Unit) Unit :=
 cond (bC t8 64) (
 let u1:=(aI .i64 t8 1)
 let u2:=(aq .i64 t1 (nE .i64 u1 8))
 cond (a7 u2 t0) (
 let u3:=(aI .i64 7 (gI u1 8))
 cond (bC 0 u3) (
 cond (ak (gI (il .i64 (bN .i64 (gt d5 t0 u2).1) u3) 2) 1) (
 cond (cS 8 t7 [(t8,())]) (
 let u4:=(aq .i64 t8 1)
 some (.inl (t0,t1,(lO t7 [(t8,())]),u4,()))
 ) none
 ) (
 let u4:=(aq .i64 t8 1)
 some (.inl (t0,t1,t7,u4,()))
 )
 ) none
 ) none
 ) (
 some (.inr (.inl (t0,t1,t7,t8,())))
 )
def Jv:=mU (ai (cU qH))
def CF (p0:List R5) (p1:Int):Option WW :=
 cond (cond (au p1 0) true (au (aI .i64 (ae p0) 8) p1)) (
 some ((),(([],()),(0,()),(false,()),()))
 ) (
 (Jv p0 p1 [] 1).bind (Sum.elim (fun y1 =>
 some ((),((y1.2.2.1,()),((aq .i64 y1.2.1 8),()),(true,()),()))
 ) (fun y1 =>
 none
 ))
 )
def XL:Su:=⟨[.c false [.sl 5 fx],.c false aK],[(false,gq),(false,aK),(false,[.bool])],true,.inl fun x=>CF x.1.1 x.2.1.1⟩
theorem TP:ar Tryz.prog 199 XL :=
 fl an [] [(0,⟨[.d 0 (.sl 5 fx),.d 1 (.int .i64),.own 7 (.sl 3 aK),.d 8 (.int .i64)],ai (cU qH)⟩)] [] Tryz.f199 (lp [0] (sc dk sn))
def Er (p0:Int):Option ke :=
 cond (ak p0 3) (
 some ((),((1,()),()))
 ) (
 cond (ak p0 4) (
 some ((),((1,()),()))
 ) (
 cond (ak p0 7) (
 some ((),((1,()),()))
 ) (
 cond (ak p0 11) (
 some ((),((1,()),()))
 ) (
 cond (ak p0 14) (
 some ((),((1,()),()))
 ) (
 cond (ak p0 49) (
 some ((),((1,()),()))
 ) (
 cond (ak p0 37) (
 some ((),((2,()),()))
 ) (
 cond (ak p0 38) (
 some ((),((2,()),()))
 ) (
 cond (ak p0 39) (
 some ((),((2,()),()))
 ) (
 cond (ak p0 41) (
 some ((),((2,()),()))
 ) (
 cond (ak p0 95) (
 some ((),((2,()),()))
 ) (
 cond (ak p0 2) (
 some ((),((3,()),()))
 ) (
 cond (ak p0 102) (
 some ((),((4,()),()))
 ) (
 cond (ak p0 103) (
 some ((),((4,()),()))
 ) (
 cond (ak p0 48) (
 some ((),((5,()),()))
 ) (
 cond (ak p0 54) (
 some ((),((5,()),()))
 ) (
 some ((),((0,()),()))
 )
 )
 )
 )
 )
 )
 )
 )
 )
 )
 )
 )
 )
 )
 )
 )
def XV:Su:=⟨[.c false aK],[(false,aK)],true,.inl fun x=>Er x.1.1⟩
theorem He:ar Tryz.prog 200 XV :=
 fq an Tryz.f200
def nY (t0:List R5) (t6:Int) (t8:List R3) (t9:Bool) (t28:List R3) (t29 t30:Int):Rd ((List R5)×Int×(List R3)×Bool×(List R3)×Int×Int×Unit) VU :=
 cond (au t30 t29) (
 cond (a7 t30 t28) (
 let u1:=(gt d3 t28 t30)
 cond (ak u1.1 1) (
 let u2:=(aq .i64 t30 1)
 some (.inl (t0,t6,t8,true,t28,t29,u2,()))
 ) (
 cond (cS 8 t8 [u1]) (
 let u2:=(aq .i64 t30 1)
 some (.inl (t0,t6,(lO t8 [u1]),t9,t28,t29,u2,()))
 ) none
 )
 ) none
 ) (
 some (.inr (.inl (t0,t6,t8,t9,t28,t29,t30,())))
 )
def GC:=UX (ai (G9 nY))
def oz (t8:List R3) (t13:Int) (t56:List R3) (t57 t58:Int):Rd ((List R3)×Int×(List R3)×Int×Int×Unit) VU :=
 cond (au t58 t57) (
 cond (a7 t58 t56) (
 cond (cS 8 t8 [((aq .i64 (gt d3 t56 t58).1 64),())]) (
 some (.inl ((lO t8 [((aq .i64 (gt d3 t56 t58).1 64),())]),t13,t56,t57,(aq .i64 t58 1),()))
 ) none
 ) none
 ) (
 some (.inr (.inl (t8,t13,t56,t57,t58,())))
 )
def HX:=zz (ai (gj oz))
def oW (t69:Unit) (t6:Int) (t8:List R3) (t70 t71:Int):Rd (Unit×Int×(List R3)×Int×Int×Unit) VU :=
 cond (au t71 t70) (
 cond (a7 t71 t8) (
 (Er (gt d3 t8 t71).1).bind fun y1 =>
 cond (ak y1.2.1.1 0) (
 some (.inr (.inr ([],0,false,())))
 ) (
 some (.inl ((),t6,t8,t70,(aq .i64 t71 1),()))
 )
 ) none
 ) (
 some (.inr (.inl ((),t6,t8,t70,t71,())))
 )
def Cf:=zz (ai (gj oW))
def G3 (p0:List R5):Option WW :=
 (CF p0 2).bind fun y1 =>
 cond (!y1.2.2.2.1.1) (
 some ((),(([],()),(0,()),(false,()),()))
 ) (
 (GC p0 y1.2.2.1.1 [] false y1.2.1.1 (ae y1.2.1.1) 0).bind (Sum.elim (fun y2 =>
 cond y2.2.2.2.1 (
 (CF y2.1 y2.2.1).bind fun y3 =>
 let u1:=(ae y3.2.1.1)
 cond (cond (!y3.2.2.2.1.1) true (ak u1 0)) (
 some ((),(([],()),(0,()),(false,()),()))
 ) (
 (HX y2.2.2.1 y3.2.2.1.1 y3.2.1.1 u1 0).bind (Sum.elim (fun y4 =>
 (Cf () y4.2.1 y4.1 (ae y4.1) 0).bind (Sum.elim (fun y5 =>
 some ((),((y5.2.2.1,()),(y5.2.1,()),(true,()),()))
 ) (fun y5 =>
 some ((),((y5.1,()),(y5.2.1,()),(y5.2.2.1,()),()))
 ))
 ) (fun y4 =>
 some ((),((y4.1,()),(y4.2.1,()),(y4.2.2.1,()),()))
 ))
 )
 ) (
 (Cf () y2.2.1 y2.2.2.1 (ae y2.2.2.1) 0).bind (Sum.elim (fun y3 =>
 some ((),((y3.2.2.1,()),(y3.2.1,()),(true,()),()))
 ) (fun y3 =>
 some ((),((y3.1,()),(y3.2.1,()),(y3.2.2.1,()),()))
 ))
 )
 ) (fun y2 =>
 some ((),((y2.1,()),(y2.2.1,()),(y2.2.2.1,()),()))
 ))
 )
def VK:Su:=⟨[.c false [.sl 5 fx]],[(false,gq),(false,aK),(false,[.bool])],true,.inl fun x=>G3 x.1.1⟩
theorem RE:ar Tryz.prog 150 VK :=
 fl (ac TP (ac He an)) [.own 2 (.sl 3 aK),.d 3 (.int .i64),.d 4 (.bool)] [(0,⟨[.d 0 (.sl 5 fx),.d 6 (.int .i64),.own 8 (.sl 3 aK),.d 9 (.bool),.own 28 (.sl 3 aK),.d 29 (.int .i64),.d 30 (.int .i64)],ai (G9 nY)⟩),(2,⟨[.own 8 (.sl 3 aK),.d 13 (.int .i64),.own 56 (.sl 3 aK),.d 57 (.int .i64),.d 58 (.int .i64)],ai (gj oz)⟩),(4,⟨[.al 69 8,.d 6 (.int .i64),.own 8 (.sl 3 aK),.d 70 (.int .i64),.d 71 (.int .i64)],ai (gj oW)⟩)] [] Tryz.f150 (lp [0,2,4] (sc dk (sc dk (sc dk sn))))
def GM (p0:Int):Option ke :=
 cond (ak p0 2) (
 some ((),((19,()),()))
 ) (
 cond (ak p0 3) (
 some ((),((6,()),()))
 ) (
 cond (ak p0 11) (
 some ((),((6,()),()))
 ) (
 cond (ak p0 38) (
 some ((),((6,()),()))
 ) (
 cond (ak p0 4) (
 some ((),((12,()),()))
 ) (
 cond (ak p0 37) (
 some ((),((12,()),()))
 ) (
 cond (ak p0 95) (
 some ((),((12,()),()))
 ) (
 cond (ak p0 7) (
 some ((),((10,()),()))
 ) (
 cond (ak p0 14) (
 some ((),((4,()),()))
 ) (
 cond (ak p0 39) (
 some ((),((2,()),()))
 ) (
 cond (ak p0 41) (
 some ((),((8,()),()))
 ) (
 cond (ak p0 49) (
 some ((),((3,()),()))
 ) (
 cond (ak p0 102) (
 some ((),((20,()),()))
 ) (
 cond (ak p0 103) (
 some ((),((20,()),()))
 ) (
 cond (ak p0 48) (
 some ((),((60,()),()))
 ) (
 cond (ak p0 54) (
 some ((),((60,()),()))
 ) (
 some ((),((0,()),()))
 )
 )
 )
 )
 )
 )
 )
 )
 )
 )
 )
 )
 )
 )
 )
 )
def Vn:Su:=⟨[.c false aK],[(false,aK)],true,.inl fun x=>GM x.1.1⟩
theorem M4:ar Tryz.prog 201 Vn :=
 fq an Tryz.f201
def RN (p0:Int):Option ke :=
 cond (ak p0 3) (
 some ((),((2,()),()))
 ) (
 cond (ak p0 4) (
 some ((),((2,()),()))
 ) (
 cond (ak p0 5) (
 some ((),((3,()),()))
 ) (
 some ((),((0,()),()))
 )
 )
 )
def V7:Su:=⟨[.c false aK],[(false,aK)],true,.inl fun x=>RN x.1.1⟩
theorem QI:ar Tryz.prog 202 V7 :=
 fq an Tryz.f202
def oH (t0:List UInt8) (t4 t5:Int):Rd Qf Unit :=
 cond (au t5 (ae t0)) (
 cond (a7 t5 t0) (
 some (.inl (t0,(aI .i64 (aq .i64 (jH .i64 t4 10) (bN .i64 (dm t0 t5))) 48),(aq .i64 t5 1),()))
 ) none
 ) (
 some (.inr (.inl (t0,t4,t5,())))
 )
def H5:=qu (ai (fb oH))
def sI (p0:List UInt8):Option V8 :=
 (pH p0).bind fun y1 =>
 cond (cond (!y1.2.1.1) true (au 18 (ae p0))) (
 some ((),((0,()),(false,()),()))
 ) (
 (H5 p0 0 0).bind (Sum.elim (fun y2 =>
 some ((),((y2.2.1,()),(true,()),()))
 ) (fun y2 =>
 none
 ))
 )
def XH:Su:=⟨[.c false [.str]],[(false,aK),(false,[.bool])],true,.inl fun x=>sI x.1.1⟩
theorem L9:ar Tryz.prog 159 XH :=
 fl (ac si an) [] [(0,⟨[.d 0 (.str),.d 4 (.int .i64),.d 5 (.int .i64)],ai (fb oH)⟩)] [] Tryz.f159 (lp [0] (sc dk sn))
def Iv (p0:List R5) (p1 p2:Int):Option (Unit×(Y0×Y0×Y1×Unit)) :=
 cond (cond (!(ak p2 2)) (!(ak p2 3)) false) (
 some ((),((0,()),(0,()),(false,()),()))
 ) (
 (tD p0 p1 p2).bind fun y1 =>
 (sI y1.2.1.1).bind fun y2 =>
 some ((),(y2.2.1,y1.2.2.1,y1.2.2.2.1,()))
 )
def V0:Su:=⟨[.c false [.sl 5 fx],.c false aK,.c false aK],[(false,aK),(false,aK),(false,[.bool])],true,.inl fun x=>Iv x.1.1 x.2.1.1 x.2.2.1.1⟩
theorem Tz:ar Tryz.prog 203 V0 :=
 fq (ac IV (ac L9 an)) Tryz.f203
def pk (t0:List UInt8) (t3:Int):Rd RJ Y1 :=
 cond (au t3 (ae t0)) (
 cond (a7 t3 t0) (
 let u1:=(dm t0 t3)
 cond (au u1 32) (
 some (.inr (.inr (false,())))
 ) (
 cond (a7 t3 t0) (
 cond (au 126 u1) (
 some (.inr (.inr (false,())))
 ) (
 some (.inl (t0,(aq .i64 t3 1),()))
 )
 ) none
 )
 ) none
 ) (
 some (.inr (.inl (t0,t3,())))
 )
def H3:=Qc (ai (wR pk))
def yM (p0:List UInt8):Option dS :=
 (H3 p0 0).bind (Sum.elim (fun y1 =>
 some ((),((true,()),()))
 ) (fun y1 =>
 some ((),(y1,()))
 ))
def Vd:Su:=⟨[.c false [.str]],[(false,[.bool])],true,.inl fun x=>yM x.1.1⟩
theorem Mu:ar Tryz.prog 204 Vd :=
 fl an [.d 2 (.bool)] [(0,⟨[.d 0 (.str),.d 3 (.int .i64)],ai (wR pk)⟩)] [] Tryz.f204 (lp [0] (sc dk sn))
def JP (p0:List R5) (p1 p2:Int):Option Uq :=
 (Er p2).bind fun y1 =>
 (GM p2).bind fun y2 =>
 cond (cond (ak y1.2.1.1 0) true (au p1 0)) (
 some ((),(([],()),(0,()),(false,()),()))
 ) (
 let u1:=(RN y1.2.1.1)
 Option.bind u1 fun y3 =>
 cond (au 0 y3.2.1.1) (
 Option.bind u1 fun y4 =>
 (Iv p0 p1 y4.2.1.1).bind fun y5 =>
 cond (!y5.2.2.2.1.1) (
 some ((),(([],()),(0,()),(false,()),()))
 ) (
 (qG y5.2.1.1 1 y2.2.1.1).bind fun y6 =>
 cond (!y6.2.1.1) (
 some ((),(([],()),(0,()),(false,()),()))
 ) (
 let u2:=(cond (ak y1.2.1.1 1) true (ak y1.2.1.1 3))
 cond u2 (
 (tD p0 y5.2.2.1.1 y5.2.1.1).bind fun y7 =>
 some ((),(y7.2.1,y7.2.2.1,y7.2.2.2.1,()))
 ) (
 let u3:=(ae p0)
 cond (cond (au u3 y5.2.2.1.1) true (au (aI .i64 u3 y5.2.2.1.1) y5.2.1.1)) (
 some ((),(([],()),(0,()),(false,()),()))
 ) (
 let u4:=(aq .i64 y5.2.2.1.1 y5.2.1.1)
 let u5:=(dH y5.2.2.1.1 u4 p0)
 cond u5 (
 let u6:=(strOf (sub p0 y5.2.2.1.1 u4))
 (yM u6).bind fun y7 =>
 cond (!y7.2.1.1) (
 some ((),(([],()),(0,()),(false,()),()))
 ) (
 cond u5 (
 some ((),((u6,()),(u4,()),(true,()),()))
 ) none
 )
 ) none
 )
 )
 )
 )
 ) (
 let u2:=(cond (ak y1.2.1.1 1) true (ak y1.2.1.1 3))
 cond u2 (
 (tD p0 p1 y2.2.1.1).bind fun y4 =>
 some ((),(y4.2.1,y4.2.2.1,y4.2.2.2.1,()))
 ) (
 let u3:=(ae p0)
 cond (cond (au u3 p1) true (au (aI .i64 u3 p1) y2.2.1.1)) (
 some ((),(([],()),(0,()),(false,()),()))
 ) (
 let u4:=(aq .i64 p1 y2.2.1.1)
 let u5:=(dH p1 u4 p0)
 cond u5 (
 let u6:=(strOf (sub p0 p1 u4))
 (yM u6).bind fun y4 =>
 cond (!y4.2.1.1) (
 some ((),(([],()),(0,()),(false,()),()))
 ) (
 cond u5 (
 some ((),((u6,()),(u4,()),(true,()),()))
 ) none
 )
 ) none
 )
 )
 )
 )
def VM:Su:=⟨[.c false [.sl 5 fx],.c false aK,.c false aK],[(false,[.str]),(false,aK),(false,[.bool])],true,.inl fun x=>JP x.1.1 x.2.1.1 x.2.2.1.1⟩
theorem QK:ar Tryz.prog 151 VM :=
 fq (ac qk (ac IV (ac He (ac M4 (ac QI (ac Tz (ac Mu an))))))) Tryz.f151
def oD (t0:List R5) (t8:Int) (t35:List R3) (t36 t37:Int) (b2 b9:(List UInt8)×(List iv)×Unit):Rd ((List R5)×Int×(List R3)×Int×Int×C6×C6×Unit) U0 :=
 cond (au t37 t36) (
 cond (a7 t37 t35) (
 (JP t0 t8 (gt d3 t35 t37).1).bind fun y1 =>
 cond (!y1.2.2.2.1.1) (
 some (.inr (.inr (3,([],[],()),())))
 ) (
 cond (cS 24 b9.2.1 [((gt d3 t35 t37).1,y1.2.1.1,())]) (
 some (.inl (t0,y1.2.2.1.1,t35,t36,(aq .i64 t37 1),b2,(b9.1,(lO b9.2.1 [((gt d3 t35 t37).1,y1.2.1.1,())]),()),()))
 ) none
 )
 ) none
 ) (
 some (.inr (.inl (t0,t8,t35,t36,t37,b2,b9,())))
 )
def IS:=UX (ai (G9 oD))
def LL (p0:List R5):Option (Unit×(C6×Y0×Unit)) :=
 (tD p0 0 4).bind fun y1 =>
 cond (!y1.2.2.2.1.1) (
 some ((),(([],[],()),(1,()),()))
 ) (
 (G3 p0).bind fun y2 =>
 cond (!y2.2.2.2.1.1) (
 some ((),(([],[],()),(2,()),()))
 ) (
 (IS p0 y2.2.2.1.1 y2.2.1.1 (ae y2.2.1.1) 0 ([],[],()) (y1.2.1.1,[],())).bind (Sum.elim (fun y3 =>
 cond (!(ak y3.2.1 (ae y3.1))) (
 some ((),(([],[],()),(4,()),()))
 ) (
 some ((),(y3.2.2.2.2.2.2.1,(0,()),()))
 )
 ) (fun y3 =>
 some ((),(y3.2.1,(y3.1,()),()))
 ))
 )
 )
def WG:Su:=⟨[.c false [.sl 5 fx]],[(true,[.str,.sl 178 dq]),(false,aK)],true,.inl fun x=>LL x.1.1⟩
theorem Si:ar Tryz.prog 119 WG :=
 fl (ac IV (ac RE (ac QK an))) [.d 3 (.int .i64),.box 2 [(false,.str),(true,.sl 178 dq)]] [(0,⟨[.d 0 (.sl 5 fx),.d 8 (.int .i64),.own 35 (.sl 3 aK),.d 36 (.int .i64),.d 37 (.int .i64),.box 2 [(false,.str),(true,.sl 178 dq)],.box 9 [(false,.str),(true,.sl 178 dq)]],ai (G9 oD)⟩)] [] Tryz.f119 (lp [0] (sc dk sn))
def LW (p0:Int) (p1:List UInt8):Option dS :=
 (GM p0).bind fun y1 =>
 (Er p0).bind fun y2 =>
 cond (ak y2.2.1.1 1) (
 let u1:=(pH p1)
 Option.bind u1 fun y3 =>
 let u2:=(ae p1)
 some ((),(((cond y3.2.1.1 (ak u2 y1.2.1.1) false),()),()))
 ) (
 cond (ak y2.2.1.1 2) (
 let u1:=(yM p1)
 Option.bind u1 fun y3 =>
 let u2:=(ae p1)
 some ((),(((cond y3.2.1.1 (ak u2 y1.2.1.1) false),()),()))
 ) (
 cond (ak y2.2.1.1 3) (
 let u1:=(pH p1)
 Option.bind u1 fun y3 =>
 let u2:=(ae p1)
 some ((),(((cond y3.2.1.1 (bC u2 y1.2.1.1) false),()),()))
 ) (
 cond (ak y2.2.1.1 4) (
 let u1:=(yM p1)
 Option.bind u1 fun y3 =>
 cond y3.2.1.1 (
 let u2:=(ae p1)
 let u3:=(qG u2 1 y1.2.1.1)
 Option.bind u3 fun y4 =>
 some ((),(y4.2.1,()))
 ) (
 some ((),((false,()),()))
 )
 ) (
 cond (ak y2.2.1.1 5) (
 let u1:=(yM p1)
 Option.bind u1 fun y3 =>
 cond y3.2.1.1 (
 let u2:=(ae p1)
 let u3:=(qG u2 1 y1.2.1.1)
 Option.bind u3 fun y4 =>
 some ((),(y4.2.1,()))
 ) (
 some ((),((false,()),()))
 )
 ) (
 some ((),((false,()),()))
 )
 )
 )
 )
 )
def Xc:Su:=⟨[.c false aK,.c false [.str]],[(false,[.bool])],true,.inl fun x=>LW x.1.1 x.2.1.1⟩
theorem QY:ar Tryz.prog 205 Xc :=
 fq (ac si (ac qk (ac He (ac M4 (ac Mu an))))) Tryz.f205
def oe (t16:List iv) (t17 t18:Int) (b1:(List UInt8)×(List iv)×Unit):Rd ((List iv)×Int×Int×C6×Unit) Y1 :=
 cond (au t18 t17) (
 cond (a7 t18 t16) (
 let u1:=(gt d178 t16 t18)
 (LW u1.1 u1.2.1).bind fun y1 =>
 cond (!y1.2.1.1) (
 some (.inr (.inr (false,())))
 ) (
 cond (au 0 t18) (
 let u2:=(aI .i64 t18 1)
 cond (a7 u2 b1.2.1) (
 cond (bC u1.1 (gt d178 b1.2.1 u2).1) (
 some (.inr (.inr (false,())))
 ) (
 some (.inl (t16,t17,(aq .i64 t18 1),b1,()))
 )
 ) none
 ) (
 some (.inl (t16,t17,(aq .i64 t18 1),b1,()))
 )
 )
 ) none
 ) (
 some (.inr (.inl (t16,t17,t18,b1,())))
 )
def BV:=mU (ai (cU oe))
def LG (p0:(List UInt8)×(List iv)×Unit):Option dS :=
 (pH p0.1).bind fun y1 =>
 cond (cond (!y1.2.1.1) true (!(ak (ae p0.1) 4))) (
 some ((),((false,()),()))
 ) (
 (BV p0.2.1 (ae p0.2.1) 0 p0).bind (Sum.elim (fun y2 =>
 some ((),((true,()),()))
 ) (fun y2 =>
 some ((),(y2,()))
 ))
 )
def VT:Su:=⟨[.c true [.str,.sl 178 dq]],[(false,[.bool])],true,.inl fun x=>LG x.1⟩
theorem Ri:ar Tryz.prog 152 VT :=
 fl (ac si (ac QY an)) [.d 2 (.bool)] [(0,⟨[.d 16 (.sl 178 dq),.d 17 (.int .i64),.d 18 (.int .i64),.box 1 [(false,.str),(false,.sl 178 dq)]],ai (cU oe)⟩)] [] Tryz.f152 (lp [0] (sc dk sn))
def O5 (p0:List UInt8):Option dS :=
 some ((),(((cond (cond (bY p0 [48,49,48,48]) true (bY p0 [48,50,48,48])) true (bY p0 [48,50,50,48])),()),()))
def VL:Su:=⟨[.c false [.str]],[(false,[.bool])],true,.inl fun x=>O5 x.1.1⟩
theorem SF:ar Tryz.prog 153 VL :=
 fq an Tryz.f153
def oC (t1:Int) (t9:List iv) (t10 t11:Int):Rd (Int×(List iv)×Int×Int×Unit) ((List UInt8)×Bool×Unit) :=
 cond (au t11 t10) (
 cond (a7 t11 t9) (
 let u1:=(gt d178 t9 t11)
 cond (ak u1.1 t1) (
 some (.inr (.inr (u1.2.1,true,())))
 ) (
 some (.inl (t1,t9,t10,(aq .i64 t11 1),()))
 )
 ) none
 ) (
 some (.inr (.inl (t1,t9,t10,t11,())))
 )
def I3:=mU (ai (cU oC))
def jL (p0:(List UInt8)×(List iv)×Unit) (p1:Int):Option (Unit×(Y6×Y1×Unit)) :=
 (I3 p1 p0.2.1 (ae p0.2.1) 0).bind (Sum.elim (fun y1 =>
 some ((),(([],()),(false,()),()))
 ) (fun y1 =>
 some ((),((y1.1,()),(y1.2.1,()),()))
 ))
def Yg:Su:=⟨[.c true [.str,.sl 178 dq],.c false aK],[(false,[.str]),(false,[.bool])],true,.inl fun x=>jL x.1 x.2.1.1⟩
theorem TJ:ar Tryz.prog 154 Yg :=
 fl an [.d 4 (.str),.d 5 (.bool)] [(0,⟨[.d 1 (.int .i64),.d 9 (.sl 178 dq),.d 10 (.int .i64),.d 11 (.int .i64)],ai (cU oC)⟩)] [] Tryz.f154 (lp [0] (sc dk sn))
def Bv (p0:Int):Option dS :=
 (qG p0 1 8).bind fun y1 =>
 some ((),(y1.2.1,()))
def V9:Su:=⟨[.c false aK],[(false,[.bool])],true,.inl fun x=>Bv x.1.1⟩
theorem DH:ar Tryz.prog 208 V9 :=
 fq (ac qk an) Tryz.f208
def RX  : Option TG :=
 some ((),(([([],()),([48,49,48,48],()),([48,49,48,48],()),([48,50,50,48],()),([48,50,50,48],()),([48,50,50,48],()),([48,50,48,48],()),([48,49,48,48],()),([48,50,48,48],())],()),()))
def WB:Su:=⟨[],[(false,[.sl 9 wN])],true,.inl fun x=>RX ⟩
theorem Ts:ar Tryz.prog 241 WB :=
 fq an Tryz.f241
def FZ (p0:Int):Option P2 :=
 (Bv p0).bind fun y1 =>
 cond (!y1.2.1.1) (
 some ((),(([],()),()))
 ) (
 (RX).bind fun y2 =>
 cond (a7 p0 y2.2.1.1) (
 some ((),((gt d9 y2.2.1.1 p0),()))
 ) none
 )
def WU:Su:=⟨[.c false aK],[(false,[.str])],true,.inl fun x=>FZ x.1.1⟩
theorem MU:ar Tryz.prog 206 WU :=
 fq (ac DH (ac Ts an)) Tryz.f206
def Ud  : Option TG :=
 some ((),(([([],()),([48,48],()),([48,50],()),([48,49],()),([48,48],()),([50,48],()),([52,48],()),([51,49],()),([57,48],())],()),()))
def Wx:Su:=⟨[],[(false,[.sl 9 wN])],true,.inl fun x=>Ud ⟩
theorem T9:ar Tryz.prog 242 Wx :=
 fq an Tryz.f242
def P1 (p0:Int):Option P2 :=
 (Bv p0).bind fun y1 =>
 cond (!y1.2.1.1) (
 some ((),(([],()),()))
 ) (
 (Ud).bind fun y2 =>
 cond (a7 p0 y2.2.1.1) (
 some ((),((gt d9 y2.2.1.1 p0),()))
 ) none
 )
def Wr:Su:=⟨[.c false aK],[(false,[.str])],true,.inl fun x=>P1 x.1.1⟩
theorem SK:ar Tryz.prog 207 Wr :=
 fq (ac DH (ac T9 an)) Tryz.f207
def uc (t0 t1:List UInt8) (t5:Int):Rd ((List UInt8)×(List UInt8)×Int×Unit) Y0 :=
 cond (bC t5 8) (
 (FZ t5).bind fun y1 =>
 cond (bY y1.2.1.1 t0) (
 (P1 t5).bind fun y2 =>
 cond (dH 0 2 t1) (
 cond (bY y2.2.1.1 (sub t1 0 2)) (
 some (.inr (.inr (t5,())))
 ) (
 some (.inl (t0,t1,(aq .i64 t5 1),()))
 )
 ) none
 ) (
 some (.inl (t0,t1,(aq .i64 t5 1),()))
 )
 ) (
 some (.inr (.inl (t0,t1,t5,())))
 )
def Ha:=qu (ai (fb uc))
def Hd (p0 p1:List UInt8):Option ke :=
 (Ha p0 p1 1).bind (Sum.elim (fun y1 =>
 some ((),((0,()),()))
 ) (fun y1 =>
 some ((),(y1,()))
 ))
def Wv:Su:=⟨[.c false [.str],.c false [.str]],[(false,aK)],true,.inl fun x=>Hd x.1.1 x.2.1.1⟩
theorem Se:ar Tryz.prog 155 Wv :=
 fl (ac MU (ac SK an)) [.d 4 (.int .i64)] [(0,⟨[.d 0 (.str),.d 1 (.str),.d 5 (.int .i64)],ai (fb uc)⟩)] [] Tryz.f155 (lp [0] (sc dk sn))
def Ff (p0:Int):Option dS :=
 (Bv p0).bind fun y1 =>
 some ((),(((cond y1.2.1.1 (au p0 7) false),()),()))
def Vc:Su:=⟨[.c false aK],[(false,[.bool])],true,.inl fun x=>Ff x.1.1⟩
theorem M8:ar Tryz.prog 156 Vc :=
 fq (ac DH an) Tryz.f156
def yl (t0:List UInt8) (t3:Int):Rd RJ Unit :=
 cond (au 0 t3) (
 let u1:=(aI .i64 t3 1)
 cond (a7 u1 t0) (
 cond (ak (dm t0 u1) 32) (
 some (.inl (t0,u1,()))
 ) (
 some (.inr (.inl (t0,t3,())))
 )
 ) none
 ) (
 some (.inr (.inl (t0,t3,())))
 )
def GH:=Qc (ai (wR yl))
def Kb (p0:List UInt8):Option P2 :=
 (GH p0 (ae p0)).bind (Sum.elim (fun y1 =>
 cond (dH 0 y1.2.1 y1.1) (
 some ((),(((sub y1.1 0 y1.2.1),()),()))
 ) none
 ) (fun y1 =>
 none
 ))
def Vu:Su:=⟨[.c false [.str]],[(false,[.str])],true,.inl fun x=>Kb x.1.1⟩
theorem SY:ar Tryz.prog 157 Vu :=
 fl an [] [(0,⟨[.d 0 (.str),.d 3 (.int .i64)],ai (wR yl)⟩)] [] Tryz.f157 (lp [0] (sc dk sn))
def AD (p0:Int):Option dS :=
 (qG p0 1 4).bind fun y1 =>
 some ((),(y1.2.1,()))
def VS:Su:=⟨[.c false aK],[(false,[.bool])],true,.inl fun x=>AD x.1.1⟩
theorem Nd:ar Tryz.prog 158 VS :=
 fq (ac qk an) Tryz.f158
def kF (p0:Int×(List UInt8)×(List UInt8)×(List UInt8)×(List UInt8)×(List UInt8)×Int×Int×Unit):Option dS :=
 (Bv p0.1).bind fun y1 =>
 cond (!y1.2.1.1) (
 some ((),((false,()),()))
 ) (
 (FZ p0.1).bind fun y2 =>
 cond (!(bY p0.2.2.2.2.2.1 y2.2.1.1)) (
 some ((),((false,()),()))
 ) (
 (Fu p0.2.1).bind fun y3 =>
 cond (!y3.2.1.1) (
 some ((),((false,()),()))
 ) (
 (pH p0.2.2.2.2.1).bind fun y4 =>
 cond (cond (!y4.2.1.1) true (!(ak (ae p0.2.2.2.2.1) 6))) (
 some ((),((false,()),()))
 ) (
 let u1:=(Ff p0.1)
 Option.bind u1 fun y5 =>
 cond y5.2.1.1 (
 (IB p0.2.2.2.1).bind fun y6 =>
 cond (!y6.2.1.1) (
 some ((),((false,()),()))
 ) (
 Option.bind u1 fun y7 =>
 cond (cond (!y7.2.1.1) (!(bY p0.2.2.2.1 [])) false) (
 some ((),((false,()),()))
 ) (
 let u2:=(AD p0.1)
 Option.bind u2 fun y8 =>
 cond y8.2.1.1 (
 let u3:=(qG p0.2.2.2.2.2.2.1 0 999999999999)
 Option.bind u3 fun y9 =>
 cond (!y9.2.1.1) (
 some ((),((false,()),()))
 ) (
 Option.bind u2 fun y10 =>
 cond (cond (!y10.2.1.1) (!(ak p0.2.2.2.2.2.2.1 0)) false) (
 some ((),((false,()),()))
 ) (
 cond (ak p0.1 1) (
 let u4:=(qG p0.2.2.2.2.2.2.2.1 0 9999)
 Option.bind u4 fun y11 =>
 cond (!y11.2.1.1) (
 some ((),((false,()),()))
 ) (
 let u5:=(cond (!(ak p0.1 1)) (!(ak p0.2.2.2.2.2.2.2.1 0)) false)
 cond u5 (
 some ((),((false,()),()))
 ) (
 cond (ak p0.1 6) (
 let u6:=(Fu p0.2.2.1)
 Option.bind u6 fun y12 =>
 cond y12.2.1.1 (
 some ((),((true,()),()))
 ) (
 some ((),(((cond (!(ak p0.1 6)) (bY p0.2.2.1 []) false),()),()))
 )
 ) (
 some ((),(((cond (!(ak p0.1 6)) (bY p0.2.2.1 []) false),()),()))
 )
 )
 )
 ) (
 let u4:=(cond (!(ak p0.1 1)) (!(ak p0.2.2.2.2.2.2.2.1 0)) false)
 cond u4 (
 some ((),((false,()),()))
 ) (
 cond (ak p0.1 6) (
 let u5:=(Fu p0.2.2.1)
 Option.bind u5 fun y11 =>
 cond y11.2.1.1 (
 some ((),((true,()),()))
 ) (
 some ((),(((cond (!(ak p0.1 6)) (bY p0.2.2.1 []) false),()),()))
 )
 ) (
 some ((),(((cond (!(ak p0.1 6)) (bY p0.2.2.1 []) false),()),()))
 )
 )
 )
 )
 )
 ) (
 Option.bind u2 fun y9 =>
 let u3:=(cond (!y9.2.1.1) (!(ak p0.2.2.2.2.2.2.1 0)) false)
 cond u3 (
 some ((),((false,()),()))
 ) (
 cond (ak p0.1 1) (
 let u4:=(qG p0.2.2.2.2.2.2.2.1 0 9999)
 Option.bind u4 fun y10 =>
 cond (!y10.2.1.1) (
 some ((),((false,()),()))
 ) (
 let u5:=(cond (!(ak p0.1 1)) (!(ak p0.2.2.2.2.2.2.2.1 0)) false)
 cond u5 (
 some ((),((false,()),()))
 ) (
 cond (ak p0.1 6) (
 let u6:=(Fu p0.2.2.1)
 Option.bind u6 fun y11 =>
 cond y11.2.1.1 (
 some ((),((true,()),()))
 ) (
 some ((),(((cond (!(ak p0.1 6)) (bY p0.2.2.1 []) false),()),()))
 )
 ) (
 some ((),(((cond (!(ak p0.1 6)) (bY p0.2.2.1 []) false),()),()))
 )
 )
 )
 ) (
 let u4:=(cond (!(ak p0.1 1)) (!(ak p0.2.2.2.2.2.2.2.1 0)) false)
 cond u4 (
 some ((),((false,()),()))
 ) (
 cond (ak p0.1 6) (
 let u5:=(Fu p0.2.2.1)
 Option.bind u5 fun y10 =>
 cond y10.2.1.1 (
 some ((),((true,()),()))
 ) (
 some ((),(((cond (!(ak p0.1 6)) (bY p0.2.2.1 []) false),()),()))
 )
 ) (
 some ((),(((cond (!(ak p0.1 6)) (bY p0.2.2.1 []) false),()),()))
 )
 )
 )
 )
 )
 )
 )
 ) (
 Option.bind u1 fun y6 =>
 cond (cond (!y6.2.1.1) (!(bY p0.2.2.2.1 [])) false) (
 some ((),((false,()),()))
 ) (
 let u2:=(AD p0.1)
 Option.bind u2 fun y7 =>
 cond y7.2.1.1 (
 let u3:=(qG p0.2.2.2.2.2.2.1 0 999999999999)
 Option.bind u3 fun y8 =>
 cond (!y8.2.1.1) (
 some ((),((false,()),()))
 ) (
 Option.bind u2 fun y9 =>
 let u4:=(cond (!y9.2.1.1) (!(ak p0.2.2.2.2.2.2.1 0)) false)
 cond u4 (
 some ((),((false,()),()))
 ) (
 cond (ak p0.1 1) (
 let u5:=(qG p0.2.2.2.2.2.2.2.1 0 9999)
 Option.bind u5 fun y10 =>
 cond (!y10.2.1.1) (
 some ((),((false,()),()))
 ) (
 let u6:=(cond (!(ak p0.1 1)) (!(ak p0.2.2.2.2.2.2.2.1 0)) false)
 cond u6 (
 some ((),((false,()),()))
 ) (
 cond (ak p0.1 6) (
 let u7:=(Fu p0.2.2.1)
 Option.bind u7 fun y11 =>
 cond y11.2.1.1 (
 some ((),((true,()),()))
 ) (
 some ((),(((cond (!(ak p0.1 6)) (bY p0.2.2.1 []) false),()),()))
 )
 ) (
 some ((),(((cond (!(ak p0.1 6)) (bY p0.2.2.1 []) false),()),()))
 )
 )
 )
 ) (
 let u5:=(cond (!(ak p0.1 1)) (!(ak p0.2.2.2.2.2.2.2.1 0)) false)
 cond u5 (
 some ((),((false,()),()))
 ) (
 cond (ak p0.1 6) (
 let u6:=(Fu p0.2.2.1)
 Option.bind u6 fun y10 =>
 cond y10.2.1.1 (
 some ((),((true,()),()))
 ) (
 some ((),(((cond (!(ak p0.1 6)) (bY p0.2.2.1 []) false),()),()))
 )
 ) (
 some ((),(((cond (!(ak p0.1 6)) (bY p0.2.2.1 []) false),()),()))
 )
 )
 )
 )
 )
 ) (
 Option.bind u2 fun y8 =>
 cond (cond (!y8.2.1.1) (!(ak p0.2.2.2.2.2.2.1 0)) false) (
 some ((),((false,()),()))
 ) (
 cond (ak p0.1 1) (
 let u3:=(qG p0.2.2.2.2.2.2.2.1 0 9999)
 Option.bind u3 fun y9 =>
 cond (!y9.2.1.1) (
 some ((),((false,()),()))
 ) (
 let u4:=(cond (!(ak p0.1 1)) (!(ak p0.2.2.2.2.2.2.2.1 0)) false)
 cond u4 (
 some ((),((false,()),()))
 ) (
 cond (ak p0.1 6) (
 let u5:=(Fu p0.2.2.1)
 Option.bind u5 fun y10 =>
 cond y10.2.1.1 (
 some ((),((true,()),()))
 ) (
 some ((),(((cond (!(ak p0.1 6)) (bY p0.2.2.1 []) false),()),()))
 )
 ) (
 some ((),(((cond (!(ak p0.1 6)) (bY p0.2.2.1 []) false),()),()))
 )
 )
 )
 ) (
 let u3:=(cond (!(ak p0.1 1)) (!(ak p0.2.2.2.2.2.2.2.1 0)) false)
 cond u3 (
 some ((),((false,()),()))
 ) (
 cond (ak p0.1 6) (
 let u4:=(Fu p0.2.2.1)
 Option.bind u4 fun y9 =>
 cond y9.2.1.1 (
 some ((),((true,()),()))
 ) (
 some ((),(((cond (!(ak p0.1 6)) (bY p0.2.2.1 []) false),()),()))
 )
 ) (
 some ((),(((cond (!(ak p0.1 6)) (bY p0.2.2.1 []) false),()),()))
 )
 )
 )
 )
 )
 )
 )
 )
 )
 )
 )
def Vj:Su:=⟨[.c true [.int .i64,.str,.str,.str,.str,.str,.int .i64,.int .i64]],[(false,[.bool])],true,.inl fun x=>kF x.1⟩
theorem S1:ar Tryz.prog 160 Vj :=
 fq (ac si (ac T2 (ac qk (ac MS (ac DH (ac MU (ac M8 (ac Nd an)))))))) Tryz.f160
def Li (p0:(List UInt8)×(List iv)×Unit):Option (Unit×(T8×Y0×Unit)) :=
 (LG p0).bind fun y1 =>
 cond (!y1.2.1.1) (
 some ((),((0,[],[],[],[],[],0,0,()),(1,()),()))
 ) (
 (O5 p0.1).bind fun y2 =>
 cond (!y2.2.1.1) (
 some ((),((0,[],[],[],[],[],0,0,()),(2,()),()))
 ) (
 (jL p0 3).bind fun y3 =>
 cond (!y3.2.2.1.1) (
 some ((),((0,[],[],[],[],[],0,0,()),(1,()),()))
 ) (
 (Hd p0.1 y3.2.1.1).bind fun y4 =>
 (jL p0 2).bind fun y5 =>
 (jL p0 11).bind fun y6 =>
 (Ff y4.2.1.1).bind fun y7 =>
 cond y7.2.1.1 (
 (jL p0 38).bind fun y8 =>
 (Kb y8.2.1.1).bind fun y9 =>
 let u1:=(AD y4.2.1.1)
 Option.bind u1 fun y10 =>
 cond y10.2.1.1 (
 let u2:=(jL p0 4)
 Option.bind u2 fun y11 =>
 let u3:=(sI y11.2.1.1)
 Option.bind u3 fun y12 =>
 cond (ak y4.2.1.1 1) (
 let u4:=(jL p0 14)
 Option.bind u4 fun y13 =>
 (sI y13.2.1.1).bind fun y14 =>
 cond (ak y4.2.1.1 6) (
 let u5:=(jL p0 103)
 Option.bind u5 fun y15 =>
 let u6:=(cond y3.2.2.1.1 y11.2.2.1.1 false)
 cond (!(cond u6 y13.2.2.1.1 false)) (
 some ((),((0,[],[],[],[],[],0,0,()),(1,()),()))
 ) (
 (kF (y4.2.1.1,y5.2.1.1,y15.2.1.1,y9.2.1.1,y6.2.1.1,p0.1,y12.2.1.1,y14.2.1.1,())).bind fun y16 =>
 cond (!y16.2.1.1) (
 some ((),((0,[],[],[],[],[],0,0,()),(1,()),()))
 ) (
 some ((),((y4.2.1.1,y5.2.1.1,y15.2.1.1,y9.2.1.1,y6.2.1.1,p0.1,y12.2.1.1,y14.2.1.1,()),(0,()),()))
 )
 )
 ) (
 let u5:=(cond y3.2.2.1.1 y11.2.2.1.1 false)
 cond (!(cond u5 y13.2.2.1.1 false)) (
 some ((),((0,[],[],[],[],[],0,0,()),(1,()),()))
 ) (
 (kF (y4.2.1.1,y5.2.1.1,[],y9.2.1.1,y6.2.1.1,p0.1,y12.2.1.1,y14.2.1.1,())).bind fun y15 =>
 cond (!y15.2.1.1) (
 some ((),((0,[],[],[],[],[],0,0,()),(1,()),()))
 ) (
 some ((),((y4.2.1.1,y5.2.1.1,[],y9.2.1.1,y6.2.1.1,p0.1,y12.2.1.1,y14.2.1.1,()),(0,()),()))
 )
 )
 )
 ) (
 cond (ak y4.2.1.1 6) (
 let u4:=(jL p0 103)
 Option.bind u4 fun y13 =>
 let u5:=(cond y3.2.2.1.1 y11.2.2.1.1 false)
 cond (!u5) (
 some ((),((0,[],[],[],[],[],0,0,()),(1,()),()))
 ) (
 (kF (y4.2.1.1,y5.2.1.1,y13.2.1.1,y9.2.1.1,y6.2.1.1,p0.1,y12.2.1.1,0,())).bind fun y14 =>
 cond (!y14.2.1.1) (
 some ((),((0,[],[],[],[],[],0,0,()),(1,()),()))
 ) (
 some ((),((y4.2.1.1,y5.2.1.1,y13.2.1.1,y9.2.1.1,y6.2.1.1,p0.1,y12.2.1.1,0,()),(0,()),()))
 )
 )
 ) (
 let u4:=(cond y3.2.2.1.1 y11.2.2.1.1 false)
 cond (!u4) (
 some ((),((0,[],[],[],[],[],0,0,()),(1,()),()))
 ) (
 (kF (y4.2.1.1,y5.2.1.1,[],y9.2.1.1,y6.2.1.1,p0.1,y12.2.1.1,0,())).bind fun y13 =>
 cond (!y13.2.1.1) (
 some ((),((0,[],[],[],[],[],0,0,()),(1,()),()))
 ) (
 some ((),((y4.2.1.1,y5.2.1.1,[],y9.2.1.1,y6.2.1.1,p0.1,y12.2.1.1,0,()),(0,()),()))
 )
 )
 )
 )
 ) (
 cond (ak y4.2.1.1 1) (
 let u2:=(jL p0 14)
 Option.bind u2 fun y11 =>
 let u3:=(sI y11.2.1.1)
 Option.bind u3 fun y12 =>
 cond (ak y4.2.1.1 6) (
 let u4:=(jL p0 103)
 Option.bind u4 fun y13 =>
 let u5:=(cond y3.2.2.1.1 y11.2.2.1.1 false)
 cond (!u5) (
 some ((),((0,[],[],[],[],[],0,0,()),(1,()),()))
 ) (
 (kF (y4.2.1.1,y5.2.1.1,y13.2.1.1,y9.2.1.1,y6.2.1.1,p0.1,0,y12.2.1.1,())).bind fun y14 =>
 cond (!y14.2.1.1) (
 some ((),((0,[],[],[],[],[],0,0,()),(1,()),()))
 ) (
 some ((),((y4.2.1.1,y5.2.1.1,y13.2.1.1,y9.2.1.1,y6.2.1.1,p0.1,0,y12.2.1.1,()),(0,()),()))
 )
 )
 ) (
 let u4:=(cond y3.2.2.1.1 y11.2.2.1.1 false)
 cond (!u4) (
 some ((),((0,[],[],[],[],[],0,0,()),(1,()),()))
 ) (
 (kF (y4.2.1.1,y5.2.1.1,[],y9.2.1.1,y6.2.1.1,p0.1,0,y12.2.1.1,())).bind fun y13 =>
 cond (!y13.2.1.1) (
 some ((),((0,[],[],[],[],[],0,0,()),(1,()),()))
 ) (
 some ((),((y4.2.1.1,y5.2.1.1,[],y9.2.1.1,y6.2.1.1,p0.1,0,y12.2.1.1,()),(0,()),()))
 )
 )
 )
 ) (
 cond (ak y4.2.1.1 6) (
 let u2:=(jL p0 103)
 Option.bind u2 fun y11 =>
 cond (!y3.2.2.1.1) (
 some ((),((0,[],[],[],[],[],0,0,()),(1,()),()))
 ) (
 (kF (y4.2.1.1,y5.2.1.1,y11.2.1.1,y9.2.1.1,y6.2.1.1,p0.1,0,0,())).bind fun y12 =>
 cond (!y12.2.1.1) (
 some ((),((0,[],[],[],[],[],0,0,()),(1,()),()))
 ) (
 some ((),((y4.2.1.1,y5.2.1.1,y11.2.1.1,y9.2.1.1,y6.2.1.1,p0.1,0,0,()),(0,()),()))
 )
 )
 ) (
 cond (!y3.2.2.1.1) (
 some ((),((0,[],[],[],[],[],0,0,()),(1,()),()))
 ) (
 (kF (y4.2.1.1,y5.2.1.1,[],y9.2.1.1,y6.2.1.1,p0.1,0,0,())).bind fun y11 =>
 cond (!y11.2.1.1) (
 some ((),((0,[],[],[],[],[],0,0,()),(1,()),()))
 ) (
 some ((),((y4.2.1.1,y5.2.1.1,[],y9.2.1.1,y6.2.1.1,p0.1,0,0,()),(0,()),()))
 )
 )
 )
 )
 )
 ) (
 let u1:=(AD y4.2.1.1)
 Option.bind u1 fun y8 =>
 cond y8.2.1.1 (
 let u2:=(jL p0 4)
 Option.bind u2 fun y9 =>
 let u3:=(sI y9.2.1.1)
 Option.bind u3 fun y10 =>
 cond (ak y4.2.1.1 1) (
 let u4:=(jL p0 14)
 Option.bind u4 fun y11 =>
 let u5:=(sI y11.2.1.1)
 Option.bind u5 fun y12 =>
 cond (ak y4.2.1.1 6) (
 let u6:=(jL p0 103)
 Option.bind u6 fun y13 =>
 let u7:=(cond y3.2.2.1.1 y9.2.2.1.1 false)
 cond (!(cond u7 y11.2.2.1.1 false)) (
 some ((),((0,[],[],[],[],[],0,0,()),(1,()),()))
 ) (
 (kF (y4.2.1.1,y5.2.1.1,y13.2.1.1,[],y6.2.1.1,p0.1,y10.2.1.1,y12.2.1.1,())).bind fun y14 =>
 cond (!y14.2.1.1) (
 some ((),((0,[],[],[],[],[],0,0,()),(1,()),()))
 ) (
 some ((),((y4.2.1.1,y5.2.1.1,y13.2.1.1,[],y6.2.1.1,p0.1,y10.2.1.1,y12.2.1.1,()),(0,()),()))
 )
 )
 ) (
 let u6:=(cond y3.2.2.1.1 y9.2.2.1.1 false)
 cond (!(cond u6 y11.2.2.1.1 false)) (
 some ((),((0,[],[],[],[],[],0,0,()),(1,()),()))
 ) (
 (kF (y4.2.1.1,y5.2.1.1,[],[],y6.2.1.1,p0.1,y10.2.1.1,y12.2.1.1,())).bind fun y13 =>
 cond (!y13.2.1.1) (
 some ((),((0,[],[],[],[],[],0,0,()),(1,()),()))
 ) (
 some ((),((y4.2.1.1,y5.2.1.1,[],[],y6.2.1.1,p0.1,y10.2.1.1,y12.2.1.1,()),(0,()),()))
 )
 )
 )
 ) (
 cond (ak y4.2.1.1 6) (
 let u4:=(jL p0 103)
 Option.bind u4 fun y11 =>
 let u5:=(cond y3.2.2.1.1 y9.2.2.1.1 false)
 cond (!u5) (
 some ((),((0,[],[],[],[],[],0,0,()),(1,()),()))
 ) (
 (kF (y4.2.1.1,y5.2.1.1,y11.2.1.1,[],y6.2.1.1,p0.1,y10.2.1.1,0,())).bind fun y12 =>
 cond (!y12.2.1.1) (
 some ((),((0,[],[],[],[],[],0,0,()),(1,()),()))
 ) (
 some ((),((y4.2.1.1,y5.2.1.1,y11.2.1.1,[],y6.2.1.1,p0.1,y10.2.1.1,0,()),(0,()),()))
 )
 )
 ) (
 let u4:=(cond y3.2.2.1.1 y9.2.2.1.1 false)
 cond (!u4) (
 some ((),((0,[],[],[],[],[],0,0,()),(1,()),()))
 ) (
 (kF (y4.2.1.1,y5.2.1.1,[],[],y6.2.1.1,p0.1,y10.2.1.1,0,())).bind fun y11 =>
 cond (!y11.2.1.1) (
 some ((),((0,[],[],[],[],[],0,0,()),(1,()),()))
 ) (
 some ((),((y4.2.1.1,y5.2.1.1,[],[],y6.2.1.1,p0.1,y10.2.1.1,0,()),(0,()),()))
 )
 )
 )
 )
 ) (
 cond (ak y4.2.1.1 1) (
 let u2:=(jL p0 14)
 Option.bind u2 fun y9 =>
 let u3:=(sI y9.2.1.1)
 Option.bind u3 fun y10 =>
 cond (ak y4.2.1.1 6) (
 let u4:=(jL p0 103)
 Option.bind u4 fun y11 =>
 let u5:=(cond y3.2.2.1.1 y9.2.2.1.1 false)
 cond (!u5) (
 some ((),((0,[],[],[],[],[],0,0,()),(1,()),()))
 ) (
 (kF (y4.2.1.1,y5.2.1.1,y11.2.1.1,[],y6.2.1.1,p0.1,0,y10.2.1.1,())).bind fun y12 =>
 cond (!y12.2.1.1) (
 some ((),((0,[],[],[],[],[],0,0,()),(1,()),()))
 ) (
 some ((),((y4.2.1.1,y5.2.1.1,y11.2.1.1,[],y6.2.1.1,p0.1,0,y10.2.1.1,()),(0,()),()))
 )
 )
 ) (
 let u4:=(cond y3.2.2.1.1 y9.2.2.1.1 false)
 cond (!u4) (
 some ((),((0,[],[],[],[],[],0,0,()),(1,()),()))
 ) (
 (kF (y4.2.1.1,y5.2.1.1,[],[],y6.2.1.1,p0.1,0,y10.2.1.1,())).bind fun y11 =>
 cond (!y11.2.1.1) (
 some ((),((0,[],[],[],[],[],0,0,()),(1,()),()))
 ) (
 some ((),((y4.2.1.1,y5.2.1.1,[],[],y6.2.1.1,p0.1,0,y10.2.1.1,()),(0,()),()))
 )
 )
 )
 ) (
 cond (ak y4.2.1.1 6) (
 let u2:=(jL p0 103)
 Option.bind u2 fun y9 =>
 cond (!y3.2.2.1.1) (
 some ((),((0,[],[],[],[],[],0,0,()),(1,()),()))
 ) (
 (kF (y4.2.1.1,y5.2.1.1,y9.2.1.1,[],y6.2.1.1,p0.1,0,0,())).bind fun y10 =>
 cond (!y10.2.1.1) (
 some ((),((0,[],[],[],[],[],0,0,()),(1,()),()))
 ) (
 some ((),((y4.2.1.1,y5.2.1.1,y9.2.1.1,[],y6.2.1.1,p0.1,0,0,()),(0,()),()))
 )
 )
 ) (
 cond (!y3.2.2.1.1) (
 some ((),((0,[],[],[],[],[],0,0,()),(1,()),()))
 ) (
 (kF (y4.2.1.1,y5.2.1.1,[],[],y6.2.1.1,p0.1,0,0,())).bind fun y9 =>
 cond (!y9.2.1.1) (
 some ((),((0,[],[],[],[],[],0,0,()),(1,()),()))
 ) (
 some ((),((y4.2.1.1,y5.2.1.1,[],[],y6.2.1.1,p0.1,0,0,()),(0,()),()))
 )
 )
 )
 )
 )
 )
 )
 )
 )
def XZ:Su:=⟨[.c true [.str,.sl 178 dq]],[(true,[.int .i64,.str,.str,.str,.str,.str,.int .i64,.int .i64]),(false,aK)],true,.inl fun x=>Li x.1⟩
theorem RZ:ar Tryz.prog 120 XZ :=
 fq (ac L9 (ac Ri (ac SF (ac TJ (ac Se (ac M8 (ac SY (ac Nd (ac S1 an))))))))) Tryz.f120
def Uv (p0:List R5):Option TG :=
 (LL p0).bind fun y1 =>
 cond (!(ak y1.2.2.1.1 0)) (
 some ((),(([],()),()))
 ) (
 (Li y1.2.1).bind fun y2 =>
 cond (!(ak y2.2.2.1.1 0)) (
 some ((),(([],()),()))
 ) (
 cond (cond (!(ak y2.2.1.1 6)) true (bY y2.2.1.2.2.1 y2.2.1.2.1)) (
 some ((),(([(y2.2.1.2.1,())],()),()))
 ) (
 cond (jT y2.2.1.2.2.1 y2.2.1.2.1) (
 some ((),(([(y2.2.1.2.2.1,()),(y2.2.1.2.1,())],()),()))
 ) (
 some ((),(([(y2.2.1.2.1,()),(y2.2.1.2.2.1,())],()),()))
 )
 )
 )
 )
def ZE:Su:=⟨[.c false [.sl 5 fx]],[(false,[.sl 9 wN])],true,.inl fun x=>Uv x.1.1⟩
theorem WD:ar Tryz.prog 87 ZE :=
 fq (ac Si (ac RZ an)) Tryz.f87
def IX (t1:Int) (t5:List R3) (t8 t9:Int) (t12:List R9) (t13 t14:Int):Rd (Int×(List R3)×Int×Int×(List R9)×Int×Int×Unit) Unit :=
 cond (au t9 (ae t5)) (
 cond (a7 t9 t5) (
 cond (au (gt d3 t5 t9).1 t8) (
 some (.inl (t1,t5,t8,(aq .i64 t9 1),t12,t13,t14,()))
 ) (
 some (.inr (.inl (t1,t5,t8,t9,t12,t13,t14,())))
 )
 ) none
 ) (
 some (.inr (.inl (t1,t5,t8,t9,t12,t13,t14,())))
 )
def xM:=UX (ai (G9 IX))
def sD (t1:Int) (t5:List R3) (t12:List R9) (t13 t14:Int):Rd (Int×(List R3)×(List R9)×Int×Int×Unit) Unit :=
 cond (au t14 t13) (
 cond (a7 t14 t12) (
 (Mj (gt d9 t12 t14).1 t1).bind fun y1 =>
 (xM t1 t5 y1.2.1.1 0 t12 t13 t14).bind (Sum.elim (fun y2 =>
 let u1:=(ae y2.2.1)
 cond (au y2.2.2.2.1 u1) (
 cond (a7 y2.2.2.2.1 y2.2.1) (
 cond (ak (gt d3 y2.2.1 y2.2.2.2.1).1 y2.2.2.1) (
 let u2:=(aq .i64 y2.2.2.2.2.2.2.1 1)
 some (.inl (y2.1,y2.2.1,y2.2.2.2.2.1,y2.2.2.2.2.2.1,u2,()))
 ) (
 let u2:=(dH 0 y2.2.2.2.1 y2.2.1)
 cond u2 (
 let u3:=(NJ y2.2.1 y2.2.2.2.1)
 let u4:=(cS 8 [] u3)
 cond u4 (
 let u5:=(lO [] u3)
 let u6:=(cS 8 u5 [(y2.2.2.1,())])
 cond u6 (
 let u7:=(dH y2.2.2.2.1 u1 y2.2.1)
 cond u7 (
 let u8:=(lO u5 [(y2.2.2.1,())])
 let u9:=(sub y2.2.1 y2.2.2.2.1 u1)
 let u10:=(cS 8 u8 u9)
 cond u10 (
 let u11:=(aq .i64 y2.2.2.2.2.2.2.1 1)
 some (.inl (y2.1,(lO u8 u9),y2.2.2.2.2.1,y2.2.2.2.2.2.1,u11,()))
 ) none
 ) none
 ) none
 ) none
 ) none
 )
 ) none
 ) (
 let u2:=(dH 0 y2.2.2.2.1 y2.2.1)
 cond u2 (
 let u3:=(NJ y2.2.1 y2.2.2.2.1)
 let u4:=(cS 8 [] u3)
 cond u4 (
 let u5:=(lO [] u3)
 let u6:=(cS 8 u5 [(y2.2.2.1,())])
 cond u6 (
 let u7:=(dH y2.2.2.2.1 u1 y2.2.1)
 cond u7 (
 let u8:=(lO u5 [(y2.2.2.1,())])
 let u9:=(sub y2.2.1 y2.2.2.2.1 u1)
 let u10:=(cS 8 u8 u9)
 cond u10 (
 let u11:=(aq .i64 y2.2.2.2.2.2.2.1 1)
 some (.inl (y2.1,(lO u8 u9),y2.2.2.2.2.1,y2.2.2.2.2.2.1,u11,()))
 ) none
 ) none
 ) none
 ) none
 ) none
 )
 ) (fun y2 =>
 some (.inr (.inr ()))
 ))
 ) none
 ) (
 some (.inr (.inl (t1,t5,t12,t13,t14,())))
 )
def DD:=zz (ai (gj sD))
def U2 (p0:List R9) (p1:Int):Option Ni :=
 (DD p1 [] p0 (ae p0) 0).bind (Sum.elim (fun y1 =>
 some ((),((y1.2.1,()),()))
 ) (fun y1 =>
 none
 ))
def ZH:Su:=⟨[.c false [.sl 9 wN],.c false aK],[(false,gq)],true,.inl fun x=>U2 x.1.1 x.2.1.1⟩
theorem VG:ar Tryz.prog 86 ZH :=
 fl (ac Tg an) [] [(2,⟨[.d 1 (.int .i64),.own 5 (.sl 3 aK),.d 8 (.int .i64),.d 9 (.int .i64),.d 12 (.sl 9 wN),.d 13 (.int .i64),.d 14 (.int .i64)],ai (G9 IX)⟩),(0,⟨[.d 1 (.int .i64),.own 5 (.sl 3 aK),.d 12 (.sl 9 wN),.d 13 (.int .i64),.d 14 (.int .i64)],ai (gj sD)⟩)] [] Tryz.f86 (lp [0] (sc (lp [2] (sc dk sn)) sn))
def Us (p0:(List R5)×Int×(List R3)×Int×Int×Int×Int×Int×(List R5)×Unit) (p1:Int):Option Ni :=
 (Uv p0.1).bind fun y1 =>
 (U2 y1.2.1.1 p1).bind fun y2 =>
 some ((),(y2.2.1,()))
def YM:Su:=⟨[.c true gJ,.c false aK],[(false,gq)],true,.inl fun x=>Us x.1 x.2.1.1⟩
theorem VF:ar Tryz.prog 64 YM :=
 fq (ac WD (ac VG an)) Tryz.f64
def vR (t0 t1:List R3) (t12 t13:Int):Rd ((List R3)×(List R3)×Int×Int×Unit) Y1 :=
 cond (au t13 t12) (
 cond (a7 t13 t0) (
 cond (a7 t13 t1) (
 cond (!(ak (gt d3 t0 t13).1 (gt d3 t1 t13).1)) (
 some (.inr (.inr (false,())))
 ) (
 some (.inl (t0,t1,t12,(aq .i64 t13 1),()))
 )
 ) none
 ) none
 ) (
 some (.inr (.inl (t0,t1,t12,t13,())))
 )
def TX:=mU (ai (cU vR))
def Un (p0 p1:List R3):Option dS :=
 let u1:=(ae p0)
 cond (!(ak u1 (ae p1))) (
 some ((),((false,()),()))
 ) (
 (TX p0 p1 u1 0).bind (Sum.elim (fun y1 =>
 some ((),((true,()),()))
 ) (fun y1 =>
 some ((),(y1,()))
 ))
 )
def Zg:Su:=⟨[.c false gq,.c false gq],[(false,[.bool])],true,.inl fun x=>Un x.1.1 x.2.1.1⟩
theorem X3:ar Tryz.prog 63 Zg :=
 fl an [.d 4 (.bool)] [(0,⟨[.d 0 (.sl 3 aK),.d 1 (.sl 3 aK),.d 12 (.int .i64),.d 13 (.int .i64)],ai (cU vR)⟩)] [] Tryz.f63 (lp [0] (sc dk sn))
def UP (p0:(List R5)×Int×(List R3)×Int×Int×Int×Int×Int×(List R5)×Unit) (p1:Int):Option dS :=
 (qG p1 1 5).bind fun y1 =>
 let u1:=(ae p0.2.2.2.2.2.2.2.2.1)
 cond (cond (cond (!y1.2.1.1) true (au 300 (ae p0.1))) true (au 200 u1)) (
 some ((),((false,()),()))
 ) (
 (F3 p0.2.2.2.2.1).bind fun y2 =>
 cond (!y2.2.1.1) (
 some ((),((false,()),()))
 ) (
 (F3 p0.2.2.2.2.2.2.2.1).bind fun y3 =>
 cond (!y3.2.1.1) (
 some ((),((false,()),()))
 ) (
 (qG p0.2.1 0 5).bind fun y4 =>
 cond (!y4.2.1.1) (
 some ((),((false,()),()))
 ) (
 (UI p0).bind fun y5 =>
 cond (!y5.2.1.1) (
 some ((),((false,()),()))
 ) (
 cond (cond (ak p0.2.1 0) (au 0 (ae p0.2.2.1)) false) (
 some ((),((false,()),()))
 ) (
 cond (!(ak p0.2.1 0)) (
 (Us p0 p1).bind fun y6 =>
 (Un p0.2.2.1 y6.2.1.1).bind fun y7 =>
 cond (!y7.2.1.1) (
 some ((),((false,()),()))
 ) (
 cond (bC p0.2.1 2) (
 some ((),(((cond (cond (cond (ak p0.2.2.2.2.2.1 (-1)) (ak p0.2.2.2.2.2.2.1 (-1)) false) (ak p0.2.2.2.2.2.2.2.1 0) false) (ak u1 0) false),()),()))
 ) (
 let u2:=(F3 p0.2.2.2.2.2.1)
 Option.bind u2 fun y8 =>
 cond (cond (!y8.2.1.1) true (au p0.2.2.2.2.2.1 p0.2.2.2.2.1)) (
 some ((),((false,()),()))
 ) (
 cond (ak p0.2.1 5) (
 let u3:=(F3 p0.2.2.2.2.2.2.1)
 Option.bind u3 fun y9 =>
 some ((),(((cond y9.2.1.1 (bC p0.2.2.2.2.2.1 p0.2.2.2.2.2.2.1) false),()),()))
 ) (
 some ((),(((ak p0.2.2.2.2.2.2.1 (-1)),()),()))
 )
 )
 )
 )
 ) (
 cond (bC p0.2.1 2) (
 some ((),(((cond (cond (cond (ak p0.2.2.2.2.2.1 (-1)) (ak p0.2.2.2.2.2.2.1 (-1)) false) (ak p0.2.2.2.2.2.2.2.1 0) false) (ak u1 0) false),()),()))
 ) (
 let u2:=(F3 p0.2.2.2.2.2.1)
 Option.bind u2 fun y6 =>
 cond (cond (!y6.2.1.1) true (au p0.2.2.2.2.2.1 p0.2.2.2.2.1)) (
 some ((),((false,()),()))
 ) (
 cond (ak p0.2.1 5) (
 let u3:=(F3 p0.2.2.2.2.2.2.1)
 Option.bind u3 fun y7 =>
 some ((),(((cond y7.2.1.1 (bC p0.2.2.2.2.2.1 p0.2.2.2.2.2.2.1) false),()),()))
 ) (
 some ((),(((ak p0.2.2.2.2.2.2.1 (-1)),()),()))
 )
 )
 )
 )
 )
 )
 )
 )
 )
 )
def YZ:Su:=⟨[.c true gJ,.c false aK],[(false,[.bool])],true,.inl fun x=>UP x.1 x.2.1.1⟩
theorem Wn:ar Tryz.prog 33 YZ :=
 fq (ac qk (ac Lr (ac Vg (ac VF (ac X3 an))))) Tryz.f33
def uH (t1 t5:Int) (b2:(List R5)×Int×(List R3)×Int×Int×Int×Int×Int×(List R5)×Unit):Rd (Int×Int×lX×Unit) Y1 :=
 cond (cond (au t5 b2.2.2.2.1) (au t5 (ae b2.2.2.1)) false) (
 cond (a7 t5 b2.2.2.1) (
 cond (ak (gt d3 b2.2.2.1 t5).1 t1) (
 some (.inr (.inr (true,())))
 ) (
 some (.inl (t1,(aq .i64 t5 1),b2,()))
 )
 ) none
 ) (
 some (.inr (.inl (t1,t5,b2,())))
 )
def Ug:=qu (ai (fb uH))
def U1 (p0:(List R5)×Int×(List R3)×Int×Int×Int×Int×Int×(List R5)×Unit) (p1:Int):Option dS :=
 (Ug p1 0 p0).bind (Sum.elim (fun y1 =>
 some ((),((false,()),()))
 ) (fun y1 =>
 some ((),(y1,()))
 ))
def ZD:Su:=⟨[.c true gJ,.c false aK],[(false,[.bool])],true,.inl fun x=>U1 x.1 x.2.1.1⟩
theorem X7:ar Tryz.prog 34 ZD :=
 fl an [.d 4 (.bool)] [(0,⟨[.d 1 (.int .i64),.d 5 (.int .i64),.box 2 [(false,.sl 5 fx),(false,.int .i64),(false,.sl 3 aK),(false,.int .i64),(false,.int .i64),(false,.int .i64),(false,.int .i64),(false,.int .i64),(false,.sl 5 fx)]],ai (fb uH)⟩)] [] Tryz.f34 (lp [0] (sc dk sn))
def Cp (t40:List j9) (t41 t42:Int) (b1:(List gb)×Int×Int×(List j9)×Unit):Rd ((List j9)×Int×Int×MO×Unit) Y1 :=
 cond (au t42 t41) (
 cond (a7 t42 t40) (
 let u1:=(gt d64 t40 t42)
 (UP u1 (ae b1.1)).bind fun y1 =>
 cond (cond (!y1.2.1.1) true (au b1.2.1 u1.2.2.2.2.2.2.2.1)) (
 some (.inr (.inr (false,())))
 ) (
 some (.inl (t40,t41,(aq .i64 t42 1),b1,()))
 )
 ) none
 ) (
 some (.inr (.inl (t40,t41,t42,b1,())))
 )
def NQ:=mU (ai (cU Cp))
def CY (t5:Int) (t61:List gb) (t62 t63:Int) (t75:List j9) (t76 t77:Int) (b1:(List gb)×Int×Int×(List j9)×Unit) (b6:Int×(List de)×Unit):Rd (Int×(List gb)×Int×Int×(List j9)×Int×Int×MO×Y8×Unit) Y1 :=
 cond (au t77 t76) (
 cond (a7 t77 t75) (
 (U1 (gt d64 t75 t77) t5).bind fun y1 =>
 cond (!(Ls y1.2.1.1 (ak b6.1 t77))) (
 some (.inr (.inr (false,())))
 ) (
 some (.inl (t5,t61,t62,t63,t75,t76,(aq .i64 t77 1),b1,b6,()))
 )
 ) none
 ) (
 some (.inr (.inl (t5,t61,t62,t63,t75,t76,t77,b1,b6,())))
 )
def Qw:=TZ (ai (B9 CY))
def CD (t61:List gb) (t62 t63:Int) (b1:(List gb)×Int×Int×(List j9)×Unit):Rd ((List gb)×Int×Int×MO×Unit) Y1 :=
 cond (au t63 t62) (
 cond (a7 t63 t61) (
 let u1:=(ae b1.2.2.2.1)
 let u2:=(gt d67 t61 t63)
 cond (bC u1 u2.1) (
 some (.inr (.inr (false,())))
 ) (
 (Qw t63 t61 t62 t63 b1.2.2.2.1 u1 0 b1 u2).bind (Sum.elim (fun y1 =>
 some (.inl (y1.2.1,y1.2.2.1,(aq .i64 y1.2.2.2.1 1),y1.2.2.2.2.2.2.2.1,()))
 ) (fun y1 =>
 some (.inr (.inr (y1.1,())))
 ))
 )
 ) none
 ) (
 some (.inr (.inl (t61,t62,t63,b1,())))
 )
def Rn:=mU (ai (cU CD))
def g9 (p0:(List gb)×Int×Int×(List j9)×Unit):Option dS :=
 (UF p0.1).bind fun y1 =>
 cond (!y1.2.1.1) (
 some ((),((false,()),()))
 ) (
 (F3 p0.2.1).bind fun y2 =>
 cond (!y2.2.1.1) (
 some ((),((false,()),()))
 ) (
 (F3 p0.2.2.1).bind fun y3 =>
 let u1:=(ae p0.2.2.2.1)
 cond (cond (!y3.2.1.1) true (au 12 u1)) (
 some ((),((false,()),()))
 ) (
 (UN p0.2.2.2.1 p0.2.2.1).bind fun y4 =>
 cond (!y4.2.1.1) (
 some ((),((false,()),()))
 ) (
 (NQ p0.2.2.2.1 u1 0 p0).bind (Sum.elim (fun y5 =>
 (Rn y5.2.2.2.1.1 (ae y5.2.2.2.1.1) 0 y5.2.2.2.1).bind (Sum.elim (fun y6 =>
 some ((),((true,()),()))
 ) (fun y6 =>
 some ((),(y6,()))
 ))
 ) (fun y5 =>
 some ((),(y5,()))
 ))
 )
 )
 )
 )
def s9:Su:=⟨[.c true [.sl 67 cR,.int .i64,.int .i64,.sl 64 eG]],[(false,[.bool])],true,.inl fun x=>g9 x.1⟩
theorem Zx:ar Tryz.prog 9 s9 :=
 fl (ac Lr (ac VI (ac Xp (ac Wn (ac X7 an))))) [.d 2 (.bool)] [(0,⟨[.d 40 (.sl 64 eG),.d 41 (.int .i64),.d 42 (.int .i64),.box 1 [(false,.sl 67 cR),(false,.int .i64),(false,.int .i64),(false,.sl 64 eG)]],ai (cU Cp)⟩),(4,⟨[.d 5 (.int .i64),.d 61 (.sl 67 cR),.d 62 (.int .i64),.d 63 (.int .i64),.d 75 (.sl 64 eG),.d 76 (.int .i64),.d 77 (.int .i64),.box 1 [(false,.sl 67 cR),(false,.int .i64),(false,.int .i64),(false,.sl 64 eG)],.box 6 [(false,.int .i64),(false,.sl 92 bl)]],ai (B9 CY)⟩),(2,⟨[.d 61 (.sl 67 cR),.d 62 (.int .i64),.d 63 (.int .i64),.box 1 [(false,.sl 67 cR),(false,.int .i64),(false,.int .i64),(false,.sl 64 eG)]],ai (cU CD)⟩)] [] Tryz.f9 (lp [0,2] (sc dk (sc (lp [4] (sc dk sn)) sn)))
def g16 (p0:(List de)×Int×(List gb)×Int×Int×(List j9)×Unit):Option dS :=
 (Qi (p0.1,())).bind fun y1 =>
 cond y1.2.1.1 (
 (g9 (p0.2.2.1,p0.2.2.2.1,p0.2.2.2.2.1,p0.2.2.2.2.2.1,())).bind fun y2 =>
 some ((),(((cond y2.2.1.1 (ak (ae p0.2.2.1) p0.2.1) false),()),()))
 ) (
 some ((),((false,()),()))
 )
def ZK:Su:=⟨[.c true [.sl 92 bl,.int .i64,.sl 67 cR,.int .i64,.int .i64,.sl 64 eG]],[(false,[.bool])],true,.inl fun x=>g16 x.1⟩
theorem X0:ar Tryz.prog 16 ZK :=
 fq (ac S5 (ac Zx an)) Tryz.f16
def oJ (t0:List UInt8) (t5 t6:Int):Rd Qf Y1 :=
 cond (au t6 t5) (
 cond (a7 t6 t0) (
 let u1:=(dm t0 t6)
 cond (au u1 48) (
 some (.inr (.inr (false,())))
 ) (
 cond (a7 t6 t0) (
 cond (au 57 u1) (
 some (.inr (.inr (false,())))
 ) (
 some (.inl (t0,t5,(aq .i64 t6 1),()))
 )
 ) none
 )
 ) none
 ) (
 some (.inr (.inl (t0,t5,t6,())))
 )
def Ir:=qu (ai (fb oJ))
def sH (p0:List UInt8):Option dS :=
 (Ir p0 (ae p0) 0).bind (Sum.elim (fun y1 =>
 some ((),(((!(bY y1.1 [])),()),()))
 ) (fun y1 =>
 some ((),(y1,()))
 ))
def WI:Su:=⟨[.c false [.str]],[(false,[.bool])],true,.inl fun x=>sH x.1.1⟩
theorem xe:ar Tryz.prog 190 WI :=
 fl an [.d 2 (.bool)] [(0,⟨[.d 0 (.str),.d 5 (.int .i64),.d 6 (.int .i64)],ai (fb oJ)⟩)] [] Tryz.f190 (lp [0] (sc dk sn))
def qJ (t0:List UInt8) (t3:Int) (t4:Bool) (t5:Int):Rd ((List UInt8)×Int×Bool×Int×Unit) Unit :=
 cond (bC 0 t5) (
 cond (a7 t5 t0) (
 cond t4 (
 let u1:=(bN .i64 (aI .u8 (dm t0 t5) 48))
 let u2:=(jH .i64 u1 2)
 cond (au 9 u2) (
 let u3:=(aI .i64 t5 1)
 some (.inl (t0,(aq .i64 t3 (aI .i64 u2 9)),(!t4),u3,()))
 ) (
 let u3:=(aI .i64 t5 1)
 some (.inl (t0,(aq .i64 t3 u2),(!t4),u3,()))
 )
 ) (
 let u1:=(bN .i64 (aI .u8 (dm t0 t5) 48))
 let u2:=(aI .i64 t5 1)
 some (.inl (t0,(aq .i64 t3 u1),(!t4),u2,()))
 )
 ) none
 ) (
 some (.inr (.inl (t0,t3,t4,t5,())))
 )
def GQ:=mU (ai (cU qJ))
def Ki (p0:List UInt8):Option ke :=
 (sH p0).bind fun y1 =>
 cond (!y1.2.1.1) (
 some ((),(((-1),()),()))
 ) (
 (GQ p0 0 true (aI .i64 (ae p0) 1)).bind (Sum.elim (fun y2 =>
 some ((),(((gI (aI .i64 10 (gI y2.2.1 10)) 10),()),()))
 ) (fun y2 =>
 none
 ))
 )
def Wy:Su:=⟨[.c false [.str]],[(false,aK)],true,.inl fun x=>Ki x.1.1⟩
theorem T7:ar Tryz.prog 191 Wy :=
 fl (ac xe an) [] [(0,⟨[.d 0 (.str),.d 3 (.int .i64),.d 4 (.bool),.d 5 (.int .i64)],ai (cU qJ)⟩)] [] Tryz.f191 (lp [0] (sc dk sn))
def K7 (p0:List UInt8):Option dS :=
 let u1:=(aI .i64 (ae p0) 1)
 cond (bC 1 u1) (
 (sH p0).bind fun y1 =>
 cond y1.2.1.1 (
 cond (dH 0 u1 p0) (
 (Ki (sub p0 0 u1)).bind fun y2 =>
 cond (a7 u1 p0) (
 some ((),(((ak y2.2.1.1 (bN .i64 (aI .u8 (dm p0 u1) 48))),()),()))
 ) none
 ) none
 ) (
 some ((),((false,()),()))
 )
 ) (
 some ((),((false,()),()))
 )
def XR:Su:=⟨[.c false [.str]],[(false,[.bool])],true,.inl fun x=>K7 x.1.1⟩
theorem QJ:ar Tryz.prog 141 XR :=
 fq (ac xe (ac T7 an)) Tryz.f141
def q8 (p0:List UInt8):Option dS :=
 cond (bC (ae p0) 19) (
 (K7 p0).bind fun y1 =>
 some ((),(y1.2.1,()))
 ) (
 some ((),((false,()),()))
 )
def XX:Su:=⟨[.c false [.str]],[(false,[.bool])],true,.inl fun x=>q8 x.1.1⟩
theorem Mq:ar Tryz.prog 106 XX :=
 fq (ac QJ an) Tryz.f106
def ni (p0 p1 p2:Int):Option dS :=
 some ((),(((cond (bC p1 p0) (bC p0 p2) false),()),()))
def YQ:Su:=⟨[.c false aK,.c false aK,.c false aK],[(false,[.bool])],true,.inl fun x=>ni x.1.1 x.2.1.1 x.2.2.1.1⟩
theorem nf:ar Tryz.prog 46 YQ :=
 fq an Tryz.f46
def Kv (p0:Int):Option dS :=
 (ni p0 0 4611686018427387904).bind fun y1 =>
 some ((),(y1.2.1,()))
def XU:Su:=⟨[.c false aK],[(false,[.bool])],true,.inl fun x=>Kv x.1.1⟩
theorem MA:ar Tryz.prog 107 XU :=
 fq (ac nf an) Tryz.f107
def ny (t0:List UInt8) (t5 t6:Int):Rd Qf Y1 :=
 cond (au t6 t5) (
 cond (a7 t6 t0) (
 let u1:=(dm t0 t6)
 cond (au u1 48) (
 cond (a7 t6 t0) (
 cond (au u1 97) (
 some (.inr (.inr (false,())))
 ) (
 cond (a7 t6 t0) (
 cond (au 122 u1) (
 some (.inr (.inr (false,())))
 ) (
 some (.inl (t0,t5,(aq .i64 t6 1),()))
 )
 ) none
 )
 ) none
 ) (
 cond (a7 t6 t0) (
 cond (au 57 u1) (
 cond (a7 t6 t0) (
 cond (au u1 97) (
 some (.inr (.inr (false,())))
 ) (
 cond (a7 t6 t0) (
 cond (au 122 u1) (
 some (.inr (.inr (false,())))
 ) (
 some (.inl (t0,t5,(aq .i64 t6 1),()))
 )
 ) none
 )
 ) none
 ) (
 some (.inl (t0,t5,(aq .i64 t6 1),()))
 )
 ) none
 )
 ) none
 ) (
 some (.inr (.inl (t0,t5,t6,())))
 )
def Hb:=qu (ai (fb ny))
def HM (p0:List UInt8):Option dS :=
 (Hb p0 (ae p0) 0).bind (Sum.elim (fun y1 =>
 (ni (ae y1.1) 1 6).bind fun y2 =>
 some ((),(y2.2.1,()))
 ) (fun y1 =>
 some ((),(y1,()))
 ))
def Wp:Su:=⟨[.c false [.str]],[(false,[.bool])],true,.inl fun x=>HM x.1.1⟩
theorem Mn:ar Tryz.prog 192 Wp :=
 fl (ac nf an) [.d 2 (.bool)] [(0,⟨[.d 0 (.str),.d 5 (.int .i64),.d 6 (.int .i64)],ai (fb ny)⟩)] [] Tryz.f192 (lp [0] (sc dk sn))
def sS (p0:Int):Option dS :=
 (ni p0 0 1000000000).bind fun y1 =>
 some ((),(y1.2.1,()))
def Zz:Su:=⟨[.c false aK],[(false,[.bool])],true,.inl fun x=>sS x.1.1⟩
theorem JR:ar Tryz.prog 38 Zz :=
 fq (ac nf an) Tryz.f38
def Le (p0:(List UInt8)×Int×Int×Unit):Option dS :=
 (HM p0.1).bind fun y1 =>
 cond y1.2.1.1 (
 (ni p0.2.1 1 9007199254740992).bind fun y2 =>
 cond y2.2.1.1 (
 (sS p0.2.2.1).bind fun y3 =>
 some ((),(y3.2.1,()))
 ) (
 some ((),((false,()),()))
 )
 ) (
 some ((),((false,()),()))
 )
def Wi:Su:=⟨[.c true js],[(false,[.bool])],true,.inl fun x=>Le x.1⟩
theorem Sw:ar Tryz.prog 142 Wi :=
 fq (ac nf (ac Mn (ac JR an))) Tryz.f142
def nL (t0 t5:List di) (t6 t7:Int):Rd ((List di)×(List di)×Int×Int×Unit) Y1 :=
 cond (au t7 t6) (
 cond (a7 t7 t5) (
 let u1:=(gt d157 t5 t7)
 (Le u1).bind fun y1 =>
 cond (!y1.2.1.1) (
 some (.inr (.inr (false,())))
 ) (
 cond (au 0 t7) (
 let u2:=(aI .i64 t7 1)
 cond (a7 u2 t0) (
 cond (NK u1.1 (gt d157 t0 u2).1) (
 some (.inr (.inr (false,())))
 ) (
 some (.inl (t0,t5,t6,(aq .i64 t7 1),()))
 )
 ) none
 ) (
 some (.inl (t0,t5,t6,(aq .i64 t7 1),()))
 )
 )
 ) none
 ) (
 some (.inr (.inl (t0,t5,t6,t7,())))
 )
def Js:=mU (ai (cU nL))
def K8 (p0:List di):Option dS :=
 (Js p0 p0 (ae p0) 0).bind (Sum.elim (fun y1 =>
 some ((),(((bC (ae y1.1) 4),()),()))
 ) (fun y1 =>
 some ((),(y1,()))
 ))
def WY:Su:=⟨[.c false [.sl 157 dF]],[(false,[.bool])],true,.inl fun x=>K8 x.1.1⟩
theorem TD:ar Tryz.prog 108 WY :=
 fl (ac Sw an) [.d 2 (.bool)] [(0,⟨[.d 0 (.sl 157 dF),.d 5 (.sl 157 dF),.d 6 (.int .i64),.d 7 (.int .i64)],ai (cU nL)⟩)] [] Tryz.f108 (lp [0] (sc dk sn))
def Lp (p1:Int):Option Ni :=
 cond (au p1 0) (
 none
 ) (
 let u1:=(aI .i64 p1 (aI .i64 0 0))
 cond (au 0 u1) (
 cond (Te 0 0) (
 cond (Wh 8 u1) (
 let u2:=(uj d3 u1)
 cond (dH 0 0 u2) (
 some ((),(((NJ u2 0),()),()))
 ) none
 ) none
 ) none
 ) (
 some ((),(([],()),()))
 )
 )
def Xt:Su:=⟨[.nil,.c false aK],[(false,gq)],true,.inl fun x=>Lp x.1.1⟩
theorem Rx:ar Tryz.prog 193 Xt :=
 fq an Tryz.f193
def ru (t0:List Et) (t3:Int) (t9:List Et) (t10 t11:Int):Rd ((List Et)×Int×(List Et)×Int×Int×Unit) Unit :=
 cond (au t11 t10) (
 cond (a7 t11 t9) (
 let u1:=(aq .i64 t3 (ae (gt d53 t9 t11).1))
 cond (au u1 0) (
 none
 ) (
 some (.inl (t0,u1,t9,t10,(aq .i64 t11 1),()))
 )
 ) none
 ) (
 some (.inr (.inl (t0,t3,t9,t10,t11,())))
 )
def CR:=zz (ai (gj ru))
def rD (t6:List R3) (t25:List Et) (t26 t27:Int):Rd ((List R3)×(List Et)×Int×Int×Unit) Unit :=
 cond (au t27 t26) (
 cond (a7 t27 t25) (
 cond (cS 8 t6 (gt d53 t25 t27).1) (
 some (.inl ((lO t6 (gt d53 t25 t27).1),t25,t26,(aq .i64 t27 1),()))
 ) none
 ) none
 ) (
 some (.inr (.inl (t6,t25,t26,t27,())))
 )
def BF:=mU (ai (cU rD))
def KF (p0:List Et):Option Ni :=
 (CR p0 0 p0 (ae p0) 0).bind (Sum.elim (fun y1 =>
 (Lp y1.2.1).bind fun y2 =>
 (BF y2.2.1.1 y1.1 (ae y1.1) 0).bind (Sum.elim (fun y3 =>
 some ((),((y3.1,()),()))
 ) (fun y3 =>
 none
 ))
 ) (fun y1 =>
 none
 ))
def XT:Su:=⟨[.c false [.sl 53 gq]],[(false,gq)],true,.inl fun x=>KF x.1.1⟩
theorem TU:ar Tryz.prog 143 XT :=
 fl (ac Rx an) [] [(0,⟨[.d 0 (.sl 53 gq),.d 3 (.int .i64),.d 9 (.sl 53 gq),.d 10 (.int .i64),.d 11 (.int .i64)],ai (gj ru)⟩),(2,⟨[.own 6 (.sl 3 aK),.d 25 (.sl 53 gq),.d 26 (.int .i64),.d 27 (.int .i64)],ai (cU rD)⟩)] [] Tryz.f143 (lp [0,2] (sc dk (sc dk sn)))
def nS (t3:Int) (t14:List R3) (t15 t16:Int) (b1:Int×Int×(List R3)×(List R3)×Unit):Rd (Int×(List R3)×Int×Int×(Int×Int×(List R3)×(List R3)×Unit)×Unit) Y1 :=
 cond (au t16 t15) (
 cond (a7 t16 t14) (
 (Kv (gt d3 t14 t16).1).bind fun y1 =>
 cond (!y1.2.1.1) (
 some (.inr (.inr (false,())))
 ) (
 some (.inl (t3,t14,t15,(aq .i64 t16 1),b1,()))
 )
 ) none
 ) (
 some (.inr (.inl (t3,t14,t15,t16,b1,())))
 )
def HB:=zz (ai (gj nS))
def GB (p0:Int×Int×(List R3)×(List R3)×Unit):Option dS :=
 (KF [(p0.2.2.1,()),(p0.2.2.2.1,())]).bind fun y1 =>
 (HB (ae p0.2.2.1) y1.2.1.1 (ae y1.2.1.1) 0 p0).bind (Sum.elim (fun y2 =>
 (ni y2.2.2.2.2.1.1 1 1000).bind fun y3 =>
 cond y3.2.1.1 (
 (ni y2.1 1 8).bind fun y4 =>
 cond (cond y4.2.1.1 (ak (ae y2.2.2.2.2.1.2.2.2.1) y2.1) false) (
 (sS y2.2.2.2.2.1.2.1).bind fun y5 =>
 some ((),(y5.2.1,()))
 ) (
 some ((),((false,()),()))
 )
 ) (
 some ((),((false,()),()))
 )
 ) (fun y2 =>
 some ((),(y2,()))
 ))
def V2:Su:=⟨[.c true [.int .i64,.int .i64,.sl 3 aK,.sl 3 aK]],[(false,[.bool])],true,.inl fun x=>GB x.1⟩
theorem Sz:ar Tryz.prog 109 V2 :=
 fl (ac nf (ac MA (ac JR (ac TU an)))) [.d 2 (.bool)] [(0,⟨[.d 3 (.int .i64),.own 14 (.sl 3 aK),.d 15 (.int .i64),.d 16 (.int .i64),.box 1 [(false,.int .i64),(false,.int .i64),(false,.sl 3 aK),(false,.sl 3 aK)]],ai (gj nS)⟩)] [] Tryz.f109 (lp [0] (sc dk sn))
def wF (p0:List UInt8) (p1:Int):Option dS :=
 (sH p0).bind fun y1 =>
 some ((),(((cond y1.2.1.1 (ak (ae p0) p1) false),()),()))
def Vh:Su:=⟨[.c false [.str],.c false aK],[(false,[.bool])],true,.inl fun x=>wF x.1.1 x.2.1.1⟩
theorem IM:ar Tryz.prog 194 Vh :=
 fq (ac xe an) Tryz.f194
def LQ (p0:(List UInt8)×(List UInt8)×(List R5)×Unit):Option dS :=
 (wF p0.1 6).bind fun y1 =>
 cond y1.2.1.1 (
 (wF p0.2.1 4).bind fun y2 =>
 cond y2.2.1.1 (
 (ni (ae p0.2.2.1) 1 200).bind fun y3 =>
 some ((),(y3.2.1,()))
 ) (
 some ((),((false,()),()))
 )
 ) (
 some ((),((false,()),()))
 )
def U8:Su:=⟨[.c true iF],[(false,[.bool])],true,.inl fun x=>LQ x.1⟩
theorem TL:ar Tryz.prog 144 U8 :=
 fq (ac nf (ac IM an)) Tryz.f144
def PC (p0:(List UInt8)×(List UInt8)×(List R5)×Unit) (p1 p2:(List UInt8)×Unit):Option dS :=
 some ((),(((cond (bY p0.1 p1.1) (bY p0.2.1 p2.1) false),()),()))
def VE:Su:=⟨[.c true iF,.pt [.str],.pt [.str]],[(false,[.bool])],true,.inl fun x=>PC x.1 x.2.1 x.2.2.1⟩
theorem RH:ar Tryz.prog 196 VE :=
 fq an Tryz.f196
def oV (t0:List dh) (f1:Y6×Y6×Unit) (t7 t8:Int):Rd ((List dh)×(Y6×Y6×Unit)×Int×Int×Unit) Y0 :=
 cond (au t8 t7) (
 cond (a7 t8 t0) (
 (PC (gt d160 t0 t8) f1.1 f1.2.1).bind fun y1 =>
 cond y1.2.1.1 (
 some (.inr (.inr (t8,())))
 ) (
 some (.inl (t0,f1,t7,(aq .i64 t8 1),()))
 )
 ) none
 ) (
 some (.inr (.inl (t0,f1,t7,t8,())))
 )
def Hw:=mU (ai (cU oV))
def NT (p0:List dh) (c1_0 c1_1:(List UInt8)×Unit):Option ke :=
 (Hw p0 (c1_0,c1_1,()) (ae p0) 0).bind (Sum.elim (fun y1 =>
 some ((),(((-1),()),()))
 ) (fun y1 =>
 some ((),(y1,()))
 ))
def Ve:Su:=⟨[.c false [.sl 160 cW],.fn 196 [.p [.str],.p [.str]]],[(false,aK)],true,.inl fun x=>NT x.1.1 x.2.1.1 x.2.1.2.1⟩
theorem SA:ar Tryz.prog 195 Ve :=
 fl (ac RH an) [.d 4 (.int .i64)] [(0,⟨[.d 0 (.sl 160 cW),.fn 1 196 [.p [.str],.p [.str]],.d 7 (.int .i64),.d 8 (.int .i64)],ai (cU oV)⟩)] [] Tryz.f195 (lp [0] (sc dk sn))
def JT (p0:List dh) (p1 p2:List UInt8):Option ke :=
 (NT p0 (p1,()) (p2,())).bind fun y1 =>
 some ((),(y1.2.1,()))
def Xe:Su:=⟨[.c false [.sl 160 cW],.c false [.str],.c false [.str]],[(false,aK)],true,.inl fun x=>JT x.1.1 x.2.1.1 x.2.2.1.1⟩
theorem TC:ar Tryz.prog 145 Xe :=
 fq (ac SA an) Tryz.f145
def nN (t0 t5:List dh) (t6 t7:Int):Rd UC Y1 :=
 cond (au t7 t6) (
 cond (a7 t7 t5) (
 let u1:=(gt d160 t5 t7)
 (LQ u1).bind fun y1 =>
 cond (!y1.2.1.1) (
 some (.inr (.inr (false,())))
 ) (
 (JT t0 u1.1 u1.2.1).bind fun y2 =>
 cond (!(ak y2.2.1.1 t7)) (
 some (.inr (.inr (false,())))
 ) (
 some (.inl (t0,t5,t6,(aq .i64 t7 1),()))
 )
 )
 ) none
 ) (
 some (.inr (.inl (t0,t5,t6,t7,())))
 )
def I5:=mU (ai (cU nN))
def Ld (p0:List dh):Option dS :=
 (I5 p0 p0 (ae p0) 0).bind (Sum.elim (fun y1 =>
 some ((),(((bC (ae y1.1) 6),()),()))
 ) (fun y1 =>
 some ((),(y1,()))
 ))
def Xd:Su:=⟨[.c false [.sl 160 cW]],[(false,[.bool])],true,.inl fun x=>Ld x.1.1⟩
theorem Re:ar Tryz.prog 110 Xd :=
 fl (ac TL (ac TC an)) [.d 2 (.bool)] [(0,⟨[.d 0 (.sl 160 cW),.d 5 (.sl 160 cW),.d 6 (.int .i64),.d 7 (.int .i64)],ai (cU nN)⟩)] [] Tryz.f110 (lp [0] (sc dk sn))
def IJ (p0 p1:Int):Option ke :=
 let u1:=(FD 0 (Ex p1 4611686018427387904))
 let u2:=(FD 0 (Ex p0 4611686018427387904))
 cond (au (aI .i64 4611686018427387904 u1) u2) (
 some ((),((4611686018427387904,()),()))
 ) (
 some ((),(((aq .i64 u2 u1),()),()))
 )
def W5:Su:=⟨[.c false aK,.c false aK],[(false,aK)],true,.inl fun x=>IJ x.1.1 x.2.1.1⟩
theorem Mw:ar Tryz.prog 111 W5 :=
 fq an Tryz.f111
def o9 (t3:Int) (t6:List di) (t7 t8:Int):Rd (Int×(List di)×Int×Int×Unit) Unit :=
 cond (au t8 t7) (
 cond (a7 t8 t6) (
 (IJ t3 (gt d157 t6 t8).2.1).bind fun y1 =>
 some (.inl (y1.2.1.1,t6,t7,(aq .i64 t8 1),()))
 ) none
 ) (
 some (.inr (.inl (t3,t6,t7,t8,())))
 )
def HW:=mU (ai (cU o9))
def Lc (p0:List di):Option ke :=
 (HW 0 p0 (ae p0) 0).bind (Sum.elim (fun y1 =>
 some ((),((y1.1,()),()))
 ) (fun y1 =>
 none
 ))
def Vp:Su:=⟨[.c false [.sl 157 dF]],[(false,aK)],true,.inl fun x=>Lc x.1.1⟩
theorem T4:ar Tryz.prog 112 Vp :=
 fl (ac Mw an) [] [(0,⟨[.d 3 (.int .i64),.d 6 (.sl 157 dF),.d 7 (.int .i64),.d 8 (.int .i64)],ai (cU o9)⟩)] [] Tryz.f112 (lp [0] (sc dk sn))
def Ul (p0:(List UInt8)×Int×Int×Int×Int×(List di)×Int×Int×(List R3)×(List R3)×(List dh)×Unit):Option dS :=
 (q8 p0.1).bind fun y1 =>
 cond y1.2.1.1 (
 (ni p0.2.1 0 9007199254740992).bind fun y2 =>
 cond y2.2.1.1 (
 (ni p0.2.2.2.1 0 1000).bind fun y3 =>
 cond y3.2.1.1 (
 (ni p0.2.2.2.2.1 0 9007199254740992).bind fun y4 =>
 cond y4.2.1.1 (
 (Kv p0.2.2.1).bind fun y5 =>
 cond y5.2.1.1 (
 (K8 p0.2.2.2.2.2.1).bind fun y6 =>
 cond y6.2.1.1 (
 (GB (p0.2.2.2.2.2.2.1,p0.2.2.2.2.2.2.2.1,p0.2.2.2.2.2.2.2.2.1,p0.2.2.2.2.2.2.2.2.2.1,())).bind fun y7 =>
 cond y7.2.1.1 (
 (Ld p0.2.2.2.2.2.2.2.2.2.2.1).bind fun y8 =>
 cond y8.2.1.1 (
 (Lc p0.2.2.2.2.2.1).bind fun y9 =>
 (IJ p0.2.2.1 y9.2.1.1).bind fun y10 =>
 some ((),(((bC y10.2.1.1 p0.2.1),()),()))
 ) (
 some ((),((false,()),()))
 )
 ) (
 some ((),((false,()),()))
 )
 ) (
 some ((),((false,()),()))
 )
 ) (
 some ((),((false,()),()))
 )
 ) (
 some ((),((false,()),()))
 )
 ) (
 some ((),((false,()),()))
 )
 ) (
 some ((),((false,()),()))
 )
 ) (
 some ((),((false,()),()))
 )
def YY:Su:=⟨[.c true bl],[(false,[.bool])],true,.inl fun x=>Ul x.1⟩
theorem Ww:ar Tryz.prog 78 YY :=
 fq (ac Mq (ac nf (ac MA (ac TD (ac Sz (ac Re (ac Mw (ac T4 an)))))))) Tryz.f78
def wC (t6:List de) (t7 t8:Int) (b1:(List de)×Unit):Rd ((List de)×Int×Int×Y4×Unit) Y1 :=
 cond (au t8 t7) (
 cond (a7 t8 t6) (
 let u1:=(gt d92 t6 t8)
 (Ul u1).bind fun y1 =>
 cond (!y1.2.1.1) (
 some (.inr (.inr (false,())))
 ) (
 cond (au 0 t8) (
 let u2:=(aI .i64 t8 1)
 cond (a7 u2 b1.1) (
 cond (NK u1.1 (gt d92 b1.1 u2).1) (
 some (.inr (.inr (false,())))
 ) (
 some (.inl (t6,t7,(aq .i64 t8 1),b1,()))
 )
 ) none
 ) (
 some (.inl (t6,t7,(aq .i64 t8 1),b1,()))
 )
 )
 ) none
 ) (
 some (.inr (.inl (t6,t7,t8,b1,())))
 )
def MV:=mU (ai (cU wC))
def Qn (p0:(List de)×Unit):Option dS :=
 (MV p0.1 (ae p0.1) 0 p0).bind (Sum.elim (fun y1 =>
 some ((),(((bC (ae y1.2.2.2.1.1) 6),()),()))
 ) (fun y1 =>
 some ((),(y1,()))
 ))
def Yu:Su:=⟨[.c true [.sl 92 bl]],[(false,[.bool])],true,.inl fun x=>Qn x.1⟩
theorem Rz:ar Tryz.prog 51 Yu :=
 fl (ac Ww an) [.d 2 (.bool)] [(0,⟨[.d 6 (.sl 92 bl),.d 7 (.int .i64),.d 8 (.int .i64),.box 1 [(false,.sl 92 bl)]],ai (cU wC)⟩)] [] Tryz.f51 (lp [0] (sc dk sn))
def Oy (p0 p1:(List UInt8)×Int×Int×Int×Int×(List di)×Int×Int×(List R3)×(List R3)×(List dh)×Unit):Option ke :=
 cond (jT p0.1 p1.1) (
 some ((),(((-1),()),()))
 ) (
 cond (!(NK p0.1 p1.1)) (
 some ((),((1,()),()))
 ) (
 some ((),((0,()),()))
 )
 )
def Wz:Su:=⟨[.c true bl,.c true bl],[(false,aK)],true,.inl fun x=>Oy x.1 x.2.1⟩
theorem Gk:ar Tryz.prog 93 Wz :=
 fq an Tryz.f93
def nU (t0:List de) (t1 t2:Int) (f3:Unit) (t8 t9:Int):Rd ((List de)×Int×Int×Unit×Int×Int×Unit) Unit :=
 cond (au t1 t9) (
 cond (a7 t9 t0) (
 let u1:=(aI .i64 t9 1)
 cond (a7 u1 t0) (
 (Oy (gt d92 t0 t9) (gt d92 t0 u1)).bind fun y1 =>
 cond (au y1.2.1.1 0) (
 cond (a7 u1 t0) (
 cond (a7 t9 t0) (
 cond (zD t9 t0 t9) (
 cond (zD u1 t0 u1) (
 some (.inl ((F6 d92 t0 t9 u1),t1,t2,(),t8,u1,()))
 ) none
 ) none
 ) none
 ) none
 ) (
 some (.inr (.inl (t0,t1,t2,(),t8,t9,())))
 )
 ) none
 ) none
 ) (
 some (.inr (.inl (t0,t1,t2,(),t8,t9,())))
 )
def zb:=Ro (ai (Dt nU))
def kS (t0:List de) (t1 t2:Int) (f3:Unit) (t8:Int):Rd ((List de)×Int×Int×Unit×Int×Unit) Unit :=
 cond (au t8 t2) (
 (zb t0 t1 t2 () t8 t8).bind (Sum.elim (fun y1 =>
 some (.inl (y1.1,y1.2.1,y1.2.2.1,(),(aq .i64 y1.2.2.2.2.1 1),()))
 ) (fun y1 =>
 some (.inr (.inr ()))
 ))
 ) (
 some (.inr (.inl (t0,t1,t2,(),t8,())))
 )
def ot:=zz (ai (gj kS))
def Fw (p0:List de) (p1 p2:Int):Option Mh :=
 (ot p0 p1 p2 () (aq .i64 p1 1)).bind (Sum.elim (fun y1 =>
 some (((y1.1,()),()),())
 ) (fun y1 =>
 none
 ))
def KA:Su:=⟨[.io false [.sl 92 bl],.c false aK,.c false aK,.fn 93 []],[],true,.inl fun x=>Fw x.1.1 x.2.1.1 x.2.2.1.1⟩
def qi:List SE:=[.own 0 (.sl 92 bl),.d 1 (.int .i64),.d 2 (.int .i64),.fn 3 93 [],.d 8 (.int .i64),.d 9 (.int .i64)]
def pY:List SE:=[.own 0 (.sl 92 bl),.d 1 (.int .i64),.d 2 (.int .i64),.fn 3 93 [],.d 8 (.int .i64)]
def Jm:List SE:=[]
def M9:Nat->Option (Lo Jm)
 | 2=>some ⟨qi,Dt zb⟩
 | 0=>some ⟨pY,gj ot⟩
 | _=>none
def C5:List (Nat×Su):=[(93,Wz)]
def DE:En:=⟨53,tt,iL C5,Jm,M9,[0],fun _=>none⟩
def RD:Nat->Option (St->Tr St)
 | 6=>some (swapT DE (opsOf (bb 6 (ah Tryz.f164))) [9] [(14,2),(14,3),(14,4)] 14 9 13)
 | _=>none
def AX:En:=⟨53,tt,iL C5,Jm,M9,[0],RD⟩
theorem P5 (x:bG qi):(cY AX 2 qi (aZ 2 (ah Tryz.f164)) x).run=Dt nU x:=by kernel_rfl
theorem Oc (x:bG pY):(cY AX 0 pY (aZ 0 (ah Tryz.f164)) x).run=gj kS x:=by kernel_rfl
theorem t164 (x:PT KA.ps):(Fh AX (ah Tryz.f164) Tryz.f164.results.toList KA.ps KA.rs true x).run=Fw x.1.1 x.2.1.1 x.2.2.1.1:=by kernel_rfl
theorem CK:db Tryz.prog AX:=cM (l:=C5) ⟨Gk,trivial⟩
theorem ET:db Tryz.prog DE:=cM (l:=C5) ⟨Gk,trivial⟩
theorem Pu:cG Tryz.prog AX (bb 6 (ah Tryz.f164)) (swapT DE (opsOf (bb 6 (ah Tryz.f164))) [9] [(14,2),(14,3),(14,4)] 14 9 13) :=
 fY rfl rfl (sY (E:=DE) (kX hT) ET eF (c:=(bb 6 (ah Tryz.f164))) (id:=6) (by kernel_rfl))
theorem PH:bV Tryz.prog AX 2 (.loop (aZ 2 (ah Tryz.f164))) ⟨qi,Dt zb⟩ :=
 eg (kX hT) CK eF (step:=fun (x:bG qi)=>nU x.1 x.2.1 x.2.2.1 x.2.2.2.1 x.2.2.2.2.1 x.2.2.2.2.2.1) P5 (aV [] (by kernel_rfl) trivial [(6,bb 6 (ah Tryz.f164))] (by kernel_rfl) ⟨wO rfl Pu,trivial⟩)
theorem OM:bV Tryz.prog AX 0 (.loop (aZ 0 (ah Tryz.f164))) ⟨pY,gj ot⟩ :=
 eg (kX hT) CK eF (step:=fun (x:bG pY)=>kS x.1 x.2.1 x.2.2.1 x.2.2.2.1 x.2.2.2.2.1) Oc (aV [(2,.loop (aZ 2 (ah Tryz.f164)))] (by kernel_rfl) ⟨lM rfl PH,trivial⟩ [] (by kernel_rfl) trivial)
theorem To:ar Tryz.prog 164 KA :=
 qt (E:=AX) (kX hT) CK eF (fn:=Tryz.f164) (c:=(ah Tryz.f164)) (by kernel_rfl) (by kernel_rfl) (by kernel_rfl) rfl (aV [(0,.loop (aZ 0 (ah Tryz.f164)))] (by kernel_rfl) ⟨lM rfl OM,trivial⟩ [] (by kernel_rfl) trivial) fun x y h=>⟨y.1,fun _=>rfl,(t164 x).trans h⟩
def nJ (t0:List de) (t1 t2 t3 t10:Int):Rd ((List de)×Int×Int×Int×Int×Unit) Unit :=
 cond (au t10 t3) (
 let u1:=(aq .i64 t2 t10)
 cond (a7 u1 t0) (
 let u2:=(aq .i64 t1 t10)
 cond (a7 u2 t0) (
 cond (zD u2 t0 u2) (
 cond (zD u1 t0 u1) (
 some (.inl ((F6 d92 t0 u2 u1),t1,t2,t3,(aq .i64 t10 1),()))
 ) none
 ) none
 ) none
 ) none
 ) (
 some (.inr (.inl (t0,t1,t2,t3,t10,())))
 )
def wM:=zz (ai (gj nJ))
def zq (p0:List de) (p1 p2 p3:Int):Option Mh :=
 (wM p0 p1 p2 p3 0).bind (Sum.elim (fun y1 =>
 some (((y1.1,()),()),())
 ) (fun y1 =>
 none
 ))
def La:Su:=⟨[.io false [.sl 92 bl],.c false aK,.c false aK,.c false aK,.fn 93 []],[],true,.inl fun x=>zq x.1.1 x.2.1.1 x.2.2.1.1 x.2.2.2.1.1⟩
def pN:List SE:=[.own 0 (.sl 92 bl),.d 1 (.int .i64),.d 2 (.int .i64),.d 3 (.int .i64),.d 10 (.int .i64)]
def Hm:List SE:=[]
def Nw:Nat->Option (Lo Hm)
 | 0=>some ⟨pN,gj wM⟩
 | _=>none
def C7:List (Nat×Su):=[]
def Dr:En:=⟨38,tt,iL C7,Hm,Nw,[0],fun _=>none⟩
def R6:Nat->Option (St->Tr St)
 | 3=>some (swapT Dr (opsOf (bb 3 (ah Tryz.f243))) [2,10] [(20,4),(20,5),(20,6),(20,7)] 20 13 19)
 | _=>none
def Eh:En:=⟨38,tt,iL C7,Hm,Nw,[0],R6⟩
theorem Ph (x:bG pN):(cY Eh 0 pN (aZ 0 (ah Tryz.f243)) x).run=gj nJ x:=by kernel_rfl
theorem t243 (x:PT La.ps):(Fh Eh (ah Tryz.f243) Tryz.f243.results.toList La.ps La.rs true x).run=zq x.1.1 x.2.1.1 x.2.2.1.1 x.2.2.2.1.1:=by kernel_rfl
theorem GV:db Tryz.prog Eh:=cM (l:=C7) trivial
theorem Fy:db Tryz.prog Dr:=cM (l:=C7) trivial
theorem Pb:cG Tryz.prog Eh (bb 3 (ah Tryz.f243)) (swapT Dr (opsOf (bb 3 (ah Tryz.f243))) [2,10] [(20,4),(20,5),(20,6),(20,7)] 20 13 19) :=
 fY rfl rfl (sY (E:=Dr) (kX hT) Fy eF (c:=(bb 3 (ah Tryz.f243))) (id:=3) (by kernel_rfl))
theorem PL:bV Tryz.prog Eh 0 (.loop (aZ 0 (ah Tryz.f243))) ⟨pN,gj wM⟩ :=
 eg (kX hT) GV eF (step:=fun (x:bG pN)=>nJ x.1 x.2.1 x.2.2.1 x.2.2.2.1 x.2.2.2.2.1) Ph (aV [] (by kernel_rfl) trivial [(3,bb 3 (ah Tryz.f243))] (by kernel_rfl) ⟨wO rfl Pb,trivial⟩)
theorem QP:ar Tryz.prog 243 La :=
 qt (E:=Eh) (kX hT) GV eF (fn:=Tryz.f243) (c:=(ah Tryz.f243)) (by kernel_rfl) (by kernel_rfl) (by kernel_rfl) rfl (aV [(0,.loop (aZ 0 (ah Tryz.f243)))] (by kernel_rfl) ⟨lM rfl PL,trivial⟩ [] (by kernel_rfl) trivial) fun x y h=>⟨y.1,fun _=>rfl,(t243 x).trans h⟩
def mh (t0:List de) (t2:Int) (f4:Unit) (t10 t11:Int):Rd Vk Unit :=
 cond (!(ak t10 t11)) (
 cond (au t11 t10) (
 let u1:=(aI .i64 t2 t10)
 (zq t0 u1 t2 t11).bind fun y1 =>
 some (.inl (y1.1.1.1,t2,(),(aI .i64 t10 t11),t11,()))
 ) (
 let u1:=(aI .i64 t2 t10)
 (zq t0 u1 (aI .i64 (aq .i64 t2 t11) t10) t10).bind fun y1 =>
 some (.inl (y1.1.1.1,t2,(),t10,(aI .i64 t11 t10),()))
 )
 ) (
 some (.inr (.inl (t0,t2,(),t10,t11,())))
 )
def HG:=zz (ai (gj mh))
def zm (p0:List de) (p1 p2 p3:Int):Option Mh :=
 (HG p0 p2 () (aI .i64 p2 p1) (aI .i64 p3 p2)).bind (Sum.elim (fun y1 =>
 (zq y1.1 (aI .i64 y1.2.1 y1.2.2.2.1) y1.2.1 y1.2.2.2.1).bind fun y2 =>
 some ((y2.1.1,()),())
 ) (fun y1 =>
 none
 ))
def Sd:Su:=⟨[.io false [.sl 92 bl],.c false aK,.c false aK,.c false aK,.fn 93 []],[],true,.inl fun x=>zm x.1.1 x.2.1.1 x.2.2.1.1 x.2.2.2.1.1⟩
theorem G1:ar Tryz.prog 211 Sd :=
 fl (ac QP an) [] [(0,⟨[.own 0 (.sl 92 bl),.d 2 (.int .i64),.fn 4 93 [],.d 10 (.int .i64),.d 11 (.int .i64)],ai (gj mh)⟩)] [0] Tryz.f211 (lp [0] (sc dk sn))
-- REC 165
def mc (t0:List de) (t1:Int) (f4:Unit) (t10 t11:Int):Rd Vk Unit :=
 cond (au t10 t11) (
 let u1:=(bN .i64 (il .u64 (bN .u64 (aq .i64 t10 t11)) 1))
 cond (a7 u1 t0) (
 cond (a7 t1 t0) (
 (Oy (gt d92 t0 u1) (gt d92 t0 t1)).bind fun y1 =>
 cond (au y1.2.1.1 0) (
 some (.inl (t0,t1,(),(aq .i64 u1 1),t11,()))
 ) (
 some (.inl (t0,t1,(),t10,u1,()))
 )
 ) none
 ) none
 ) (
 some (.inr (.inl (t0,t1,(),t10,t11,())))
 )
def uL:=zz (ai (gj mc))
def nM (t0:List de) (t10 t13:Int):Rd ((List de)×Int×Int×Unit) Unit :=
 cond (au t13 (aI .i64 t10 1)) (
 let u1:=(aq .i64 t13 1)
 cond (a7 u1 t0) (
 cond (a7 t13 t0) (
 cond (zD t13 t0 t13) (
 cond (zD u1 t0 u1) (
 some (.inl ((F6 d92 t0 t13 u1),t10,u1,()))
 ) none
 ) none
 ) none
 ) none
 ) (
 some (.inr (.inl (t0,t10,t13,())))
 )
def uJ:=qu (ai (fb nM))
def l3 (t0:List de) (t2:Int) (f4:Unit) (t14 t15:Int):Rd Vk Unit :=
 cond (au t14 t15) (
 cond (a7 t2 t0) (
 let u1:=(bN .i64 (il .u64 (bN .u64 (aq .i64 t14 t15)) 1))
 cond (a7 u1 t0) (
 (Oy (gt d92 t0 t2) (gt d92 t0 u1)).bind fun y1 =>
 cond (!(au y1.2.1.1 0)) (
 some (.inl (t0,t2,(),(aq .i64 u1 1),t15,()))
 ) (
 some (.inl (t0,t2,(),t14,u1,()))
 )
 ) none
 ) none
 ) (
 some (.inr (.inl (t0,t2,(),t14,t15,())))
 )
def wi:=zz (ai (gj l3))
def nK (t0:List de) (t14 t17:Int):Rd ((List de)×Int×Int×Unit) Unit :=
 cond (au t14 t17) (
 let u1:=(aI .i64 t17 1)
 cond (a7 u1 t0) (
 cond (a7 t17 t0) (
 cond (zD t17 t0 t17) (
 cond (zD u1 t0 u1) (
 some (.inl ((F6 d92 t0 t17 u1),t14,u1,()))
 ) none
 ) none
 ) none
 ) none
 ) (
 some (.inr (.inl (t0,t14,t17,())))
 )
def v8:=qu (ai (fb nK))
def lS (t0:List de) (t1 t2 t3:Int) (f4:Unit) (t18 t19 t20 t21 t22:Int):Rd ((List de)×Int×Int×Int×Unit×Int×Int×Int×Int×Int×Unit) Unit :=
 cond (au t20 t21) (
 let u1:=(bN .i64 (il .u64 (bN .u64 (aq .i64 t20 t21)) 1))
 let u2:=(aI .i64 t22 u1)
 cond (a7 u2 t0) (
 cond (a7 u1 t0) (
 (Oy (gt d92 t0 u2) (gt d92 t0 u1)).bind fun y1 =>
 cond (!(au y1.2.1.1 0)) (
 some (.inl (t0,t1,t2,t3,(),t18,t19,(aq .i64 u1 1),t21,t22,()))
 ) (
 some (.inl (t0,t1,t2,t3,(),t18,t19,t20,u1,t22,()))
 )
 ) none
 ) none
 ) (
 some (.inr (.inl (t0,t1,t2,t3,(),t18,t19,t20,t21,t22,())))
 )
def lg:=Sg (ai (AL lS))
def eP (n:Nat):(List de)->Int->Int->Int->Option Mh:=Nat.rec (motive:=fun _=>(List de)->Int->Int->Int->Option Mh) (fun _ _ _ _=>none) (fun _ l8=>fun p0 p1 p2 p3 =>
 cond (ak (aI .i64 p2 p1) 1) (
 (uL p0 p1 () p2 p3).bind (Sum.elim (fun y1 =>
 (uJ y1.1 y1.2.2.2.1 y1.2.1).bind (Sum.elim (fun y2 =>
 some (((y2.1,()),()),())
 ) (fun y2 =>
 none
 ))
 ) (fun y1 =>
 none
 ))
 ) (
 cond (ak (aI .i64 p3 p2) 1) (
 (wi p0 p2 () p1 p2).bind (Sum.elim (fun y1 =>
 (v8 y1.1 y1.2.2.2.1 y1.2.1).bind (Sum.elim (fun y2 =>
 some (((y2.1,()),()),())
 ) (fun y2 =>
 none
 ))
 ) (fun y1 =>
 none
 ))
 ) (
 let u1:=(bN .i64 (il .u64 (bN .u64 (aq .i64 p1 p3)) 1))
 cond (au u1 p2) (
 let u2:=(aq .i64 u1 p2)
 let u3:=(aI .i64 u2 1)
 (lg p0 p1 p2 p3 () u1 u2 (aI .i64 u2 p3) u1 u3).bind (Sum.elim (fun y1 =>
 let u4:=(aI .i64 y1.2.2.2.2.2.2.1 y1.2.2.2.2.2.2.2.1)
 let u5:=(cond (au y1.2.2.2.2.2.2.2.1 y1.2.2.1) (au y1.2.2.1 u4) false)
 cond u5 (
 let u6:=(zm y1.1 y1.2.2.2.2.2.2.2.1 y1.2.2.1 u4)
 Option.bind u6 fun y2 =>
 let u7:=(cond (au y1.2.1 y1.2.2.2.2.2.2.2.1) (au y1.2.2.2.2.2.2.2.1 y1.2.2.2.2.2.1) false)
 cond u7 (
 let u8:=(l8 y2.1.1.1 y1.2.1 y1.2.2.2.2.2.2.2.1 y1.2.2.2.2.2.1)
 Option.bind u8 fun y3 =>
 let u9:=(cond (au y1.2.2.2.2.2.1 u4) (au u4 y1.2.2.2.1) false)
 cond u9 (
 let u10:=(l8 y3.1.1.1 y1.2.2.2.2.2.1 u4 y1.2.2.2.1)
 Option.bind u10 fun y4 =>
 some ((y4.1.1,()),())
 ) (
 some ((y3.1.1,()),())
 )
 ) (
 let u8:=(cond (au y1.2.2.2.2.2.1 u4) (au u4 y1.2.2.2.1) false)
 cond u8 (
 let u9:=(l8 y2.1.1.1 y1.2.2.2.2.2.1 u4 y1.2.2.2.1)
 Option.bind u9 fun y3 =>
 some ((y3.1.1,()),())
 ) (
 some ((y2.1.1,()),())
 )
 )
 ) (
 let u6:=(cond (au y1.2.1 y1.2.2.2.2.2.2.2.1) (au y1.2.2.2.2.2.2.2.1 y1.2.2.2.2.2.1) false)
 cond u6 (
 let u7:=(l8 y1.1 y1.2.1 y1.2.2.2.2.2.2.2.1 y1.2.2.2.2.2.1)
 Option.bind u7 fun y2 =>
 let u8:=(cond (au y1.2.2.2.2.2.1 u4) (au u4 y1.2.2.2.1) false)
 cond u8 (
 let u9:=(l8 y2.1.1.1 y1.2.2.2.2.2.1 u4 y1.2.2.2.1)
 Option.bind u9 fun y3 =>
 some ((y3.1.1,()),())
 ) (
 some ((y2.1.1,()),())
 )
 ) (
 let u7:=(cond (au y1.2.2.2.2.2.1 u4) (au u4 y1.2.2.2.1) false)
 cond u7 (
 let u8:=(l8 y1.1 y1.2.2.2.2.2.1 u4 y1.2.2.2.1)
 Option.bind u8 fun y2 =>
 some ((y2.1.1,()),())
 ) (
 some (((y1.1,()),()),())
 )
 )
 )
 ) (fun y1 =>
 none
 ))
 ) (
 let u2:=(aq .i64 u1 p2)
 let u3:=(aI .i64 u2 1)
 (lg p0 p1 p2 p3 () u1 u2 p1 p2 u3).bind (Sum.elim (fun y1 =>
 let u4:=(aI .i64 y1.2.2.2.2.2.2.1 y1.2.2.2.2.2.2.2.1)
 let u5:=(cond (au y1.2.2.2.2.2.2.2.1 y1.2.2.1) (au y1.2.2.1 u4) false)
 cond u5 (
 let u6:=(zm y1.1 y1.2.2.2.2.2.2.2.1 y1.2.2.1 u4)
 Option.bind u6 fun y2 =>
 let u7:=(cond (au y1.2.1 y1.2.2.2.2.2.2.2.1) (au y1.2.2.2.2.2.2.2.1 y1.2.2.2.2.2.1) false)
 cond u7 (
 let u8:=(l8 y2.1.1.1 y1.2.1 y1.2.2.2.2.2.2.2.1 y1.2.2.2.2.2.1)
 Option.bind u8 fun y3 =>
 let u9:=(cond (au y1.2.2.2.2.2.1 u4) (au u4 y1.2.2.2.1) false)
 cond u9 (
 let u10:=(l8 y3.1.1.1 y1.2.2.2.2.2.1 u4 y1.2.2.2.1)
 Option.bind u10 fun y4 =>
 some ((y4.1.1,()),())
 ) (
 some ((y3.1.1,()),())
 )
 ) (
 let u8:=(cond (au y1.2.2.2.2.2.1 u4) (au u4 y1.2.2.2.1) false)
 cond u8 (
 let u9:=(l8 y2.1.1.1 y1.2.2.2.2.2.1 u4 y1.2.2.2.1)
 Option.bind u9 fun y3 =>
 some ((y3.1.1,()),())
 ) (
 some ((y2.1.1,()),())
 )
 )
 ) (
 let u6:=(cond (au y1.2.1 y1.2.2.2.2.2.2.2.1) (au y1.2.2.2.2.2.2.2.1 y1.2.2.2.2.2.1) false)
 cond u6 (
 let u7:=(l8 y1.1 y1.2.1 y1.2.2.2.2.2.2.2.1 y1.2.2.2.2.2.1)
 Option.bind u7 fun y2 =>
 let u8:=(cond (au y1.2.2.2.2.2.1 u4) (au u4 y1.2.2.2.1) false)
 cond u8 (
 let u9:=(l8 y2.1.1.1 y1.2.2.2.2.2.1 u4 y1.2.2.2.1)
 Option.bind u9 fun y3 =>
 some ((y3.1.1,()),())
 ) (
 some ((y2.1.1,()),())
 )
 ) (
 let u7:=(cond (au y1.2.2.2.2.2.1 u4) (au u4 y1.2.2.2.1) false)
 cond u7 (
 let u8:=(l8 y1.1 y1.2.2.2.2.2.1 u4 y1.2.2.2.1)
 Option.bind u8 fun y2 =>
 some ((y2.1.1,()),())
 ) (
 some (((y1.1,()),()),())
 )
 )
 )
 ) (fun y1 =>
 none
 ))
 )
 )
 )) n
theorem nQ (n:Nat) (p0:(List de)) (p1:Int) (p2:Int) (p3:Int):eP (n + 1) p0 p1 p2 p3 =
 cond (ak (aI .i64 p2 p1) 1) (
  (uL p0 p1 () p2 p3).bind (Sum.elim (fun y1 =>
    (uJ y1.1 y1.2.2.2.1 y1.2.1).bind (Sum.elim (fun y2 =>
      some (((y2.1,()),()),())
    ) (fun y2 =>
     none
    ))
  ) (fun y1 =>
   none
  ))
 ) (
  cond (ak (aI .i64 p3 p2) 1) (
   (wi p0 p2 () p1 p2).bind (Sum.elim (fun y1 =>
     (v8 y1.1 y1.2.2.2.1 y1.2.1).bind (Sum.elim (fun y2 =>
       some (((y2.1,()),()),())
     ) (fun y2 =>
      none
     ))
   ) (fun y1 =>
    none
   ))
  ) (
   let u1:=(bN .i64 (il .u64 (bN .u64 (aq .i64 p1 p3)) 1))
   cond (au u1 p2) (
    let u2:=(aq .i64 u1 p2)
    let u3:=(aI .i64 u2 1)
    (lg p0 p1 p2 p3 () u1 u2 (aI .i64 u2 p3) u1 u3).bind (Sum.elim (fun y1 =>
      let u4:=(aI .i64 y1.2.2.2.2.2.2.1 y1.2.2.2.2.2.2.2.1)
      let u5:=(cond (au y1.2.2.2.2.2.2.2.1 y1.2.2.1) (au y1.2.2.1 u4) false)
      cond u5 (
       let u6:=(zm y1.1 y1.2.2.2.2.2.2.2.1 y1.2.2.1 u4)
       Option.bind u6 fun y2 =>
       let u7:=(cond (au y1.2.1 y1.2.2.2.2.2.2.2.1) (au y1.2.2.2.2.2.2.2.1 y1.2.2.2.2.2.1) false)
       cond u7 (
        let u8:=(eP n y2.1.1.1 y1.2.1 y1.2.2.2.2.2.2.2.1 y1.2.2.2.2.2.1)
        Option.bind u8 fun y3 =>
        let u9:=(cond (au y1.2.2.2.2.2.1 u4) (au u4 y1.2.2.2.1) false)
        cond u9 (
         let u10:=(eP n y3.1.1.1 y1.2.2.2.2.2.1 u4 y1.2.2.2.1)
         Option.bind u10 fun y4 =>
         some ((y4.1.1,()),())
        ) (
         some ((y3.1.1,()),())
        )
       ) (
        let u8:=(cond (au y1.2.2.2.2.2.1 u4) (au u4 y1.2.2.2.1) false)
        cond u8 (
         let u9:=(eP n y2.1.1.1 y1.2.2.2.2.2.1 u4 y1.2.2.2.1)
         Option.bind u9 fun y3 =>
         some ((y3.1.1,()),())
        ) (
         some ((y2.1.1,()),())
        )
       )
      ) (
       let u6:=(cond (au y1.2.1 y1.2.2.2.2.2.2.2.1) (au y1.2.2.2.2.2.2.2.1 y1.2.2.2.2.2.1) false)
       cond u6 (
        let u7:=(eP n y1.1 y1.2.1 y1.2.2.2.2.2.2.2.1 y1.2.2.2.2.2.1)
        Option.bind u7 fun y2 =>
        let u8:=(cond (au y1.2.2.2.2.2.1 u4) (au u4 y1.2.2.2.1) false)
        cond u8 (
         let u9:=(eP n y2.1.1.1 y1.2.2.2.2.2.1 u4 y1.2.2.2.1)
         Option.bind u9 fun y3 =>
         some ((y3.1.1,()),())
        ) (
         some ((y2.1.1,()),())
        )
       ) (
        let u7:=(cond (au y1.2.2.2.2.2.1 u4) (au u4 y1.2.2.2.1) false)
        cond u7 (
         let u8:=(eP n y1.1 y1.2.2.2.2.2.1 u4 y1.2.2.2.1)
         Option.bind u8 fun y2 =>
         some ((y2.1.1,()),())
        ) (
         some (((y1.1,()),()),())
        )
       )
      )
    ) (fun y1 =>
     none
    ))
   ) (
    let u2:=(aq .i64 u1 p2)
    let u3:=(aI .i64 u2 1)
    (lg p0 p1 p2 p3 () u1 u2 p1 p2 u3).bind (Sum.elim (fun y1 =>
      let u4:=(aI .i64 y1.2.2.2.2.2.2.1 y1.2.2.2.2.2.2.2.1)
      let u5:=(cond (au y1.2.2.2.2.2.2.2.1 y1.2.2.1) (au y1.2.2.1 u4) false)
      cond u5 (
       let u6:=(zm y1.1 y1.2.2.2.2.2.2.2.1 y1.2.2.1 u4)
       Option.bind u6 fun y2 =>
       let u7:=(cond (au y1.2.1 y1.2.2.2.2.2.2.2.1) (au y1.2.2.2.2.2.2.2.1 y1.2.2.2.2.2.1) false)
       cond u7 (
        let u8:=(eP n y2.1.1.1 y1.2.1 y1.2.2.2.2.2.2.2.1 y1.2.2.2.2.2.1)
        Option.bind u8 fun y3 =>
        let u9:=(cond (au y1.2.2.2.2.2.1 u4) (au u4 y1.2.2.2.1) false)
        cond u9 (
         let u10:=(eP n y3.1.1.1 y1.2.2.2.2.2.1 u4 y1.2.2.2.1)
         Option.bind u10 fun y4 =>
         some ((y4.1.1,()),())
        ) (
         some ((y3.1.1,()),())
        )
       ) (
        let u8:=(cond (au y1.2.2.2.2.2.1 u4) (au u4 y1.2.2.2.1) false)
        cond u8 (
         let u9:=(eP n y2.1.1.1 y1.2.2.2.2.2.1 u4 y1.2.2.2.1)
         Option.bind u9 fun y3 =>
         some ((y3.1.1,()),())
        ) (
         some ((y2.1.1,()),())
        )
       )
      ) (
       let u6:=(cond (au y1.2.1 y1.2.2.2.2.2.2.2.1) (au y1.2.2.2.2.2.2.2.1 y1.2.2.2.2.2.1) false)
       cond u6 (
        let u7:=(eP n y1.1 y1.2.1 y1.2.2.2.2.2.2.2.1 y1.2.2.2.2.2.1)
        Option.bind u7 fun y2 =>
        let u8:=(cond (au y1.2.2.2.2.2.1 u4) (au u4 y1.2.2.2.1) false)
        cond u8 (
         let u9:=(eP n y2.1.1.1 y1.2.2.2.2.2.1 u4 y1.2.2.2.1)
         Option.bind u9 fun y3 =>
         some ((y3.1.1,()),())
        ) (
         some ((y2.1.1,()),())
        )
       ) (
        let u7:=(cond (au y1.2.2.2.2.2.1 u4) (au u4 y1.2.2.2.1) false)
        cond u7 (
         let u8:=(eP n y1.1 y1.2.2.2.2.2.1 u4 y1.2.2.2.1)
         Option.bind u8 fun y2 =>
         some ((y2.1.1,()),())
        ) (
         some (((y1.1,()),()),())
        )
       )
      )
    ) (fun y1 =>
     none
    ))
   )
  )
 ):=rfl
def l8 (p0:List de) (p1 p2 p3:Int):Option Mh:=CO fun n=>eP n p0 p1 p2 p3
def jx (n:Nat):Su:=⟨[.io false [.sl 92 bl],.c false aK,.c false aK,.c false aK,.fn 93 []],[],true,.inl fun x=>eP n x.1.1 x.2.1.1 x.2.2.1.1 x.2.2.2.1.1⟩
def Iz:Su:=⟨[.io false [.sl 92 bl],.c false aK,.c false aK,.c false aK,.fn 93 []],[],true,.inl fun x=>l8 x.1.1 x.2.1.1 x.2.2.1.1 x.2.2.2.1.1⟩
def px:List SE:=[.own 0 (.sl 92 bl),.d 1 (.int .i64),.fn 4 93 [],.d 10 (.int .i64),.d 11 (.int .i64)]
def pL:List SE:=[.own 0 (.sl 92 bl),.d 10 (.int .i64),.d 13 (.int .i64)]
def qm:List SE:=[.own 0 (.sl 92 bl),.d 2 (.int .i64),.fn 4 93 [],.d 14 (.int .i64),.d 15 (.int .i64)]
def pG:List SE:=[.own 0 (.sl 92 bl),.d 14 (.int .i64),.d 17 (.int .i64)]
def pr:List SE:=[.own 0 (.sl 92 bl),.d 1 (.int .i64),.d 2 (.int .i64),.d 3 (.int .i64),.fn 4 93 [],.d 18 (.int .i64),.d 19 (.int .i64),.d 20 (.int .i64),.d 21 (.int .i64),.d 22 (.int .i64)]
def G5:List SE:=[]
def ME:Nat->Option (Lo G5)
 | 0=>some ⟨px,gj uL⟩
 | 2=>some ⟨pL,fb uJ⟩
 | 4=>some ⟨qm,gj wi⟩
 | 6=>some ⟨pG,fb v8⟩
 | 8=>some ⟨pr,AL lg⟩
 | _=>none
def Au (n:Nat):List (Nat×Su):=[(93,Wz),(165,(jx n)),(211,Sd)]
def rM (n:Nat):En:=⟨220,tt,iL (Au n),G5,ME,[0],fun _=>none⟩
def SI (n:Nat):Nat->Option (St->Tr St)
 | 11=>some (swapT (rM n) (opsOf (bb 11 (ah Tryz.f165))) [13] [(14,2),(14,3),(14,4)] 14 9 13)
 | 23=>some (swapT (rM n) (opsOf (bb 23 (ah Tryz.f165))) [17] [(14,2),(14,3),(14,4)] 14 9 13)
 | _=>none
def nO (n:Nat):En:=⟨220,tt,iL (Au n),G5,ME,[0],(SI n)⟩
theorem OW (n:Nat) (x:bG px):(cY (nO n) 0 px (aZ 0 (ah Tryz.f165)) x).run=gj mc x:=by kernel_rfl
theorem P9 (n:Nat) (x:bG pL):(cY (nO n) 2 pL (aZ 2 (ah Tryz.f165)) x).run=fb nM x:=by kernel_rfl
theorem Oo (n:Nat) (x:bG qm):(cY (nO n) 4 qm (aZ 4 (ah Tryz.f165)) x).run=gj l3 x:=by kernel_rfl
theorem Oa (n:Nat) (x:bG pG):(cY (nO n) 6 pG (aZ 6 (ah Tryz.f165)) x).run=fb nK x:=by kernel_rfl
theorem Ol (n:Nat) (x:bG pr):(cY (nO n) 8 pr (aZ 8 (ah Tryz.f165)) x).run=AL lS x:=by kernel_rfl
theorem t165 (n:Nat) (x:PT (jx (n + 1)).ps):(Fh (nO n) (ah Tryz.f165) Tryz.f165.results.toList (jx (n + 1)).ps (jx (n + 1)).rs true x).run=eP (n + 1) x.1.1 x.2.1.1 x.2.2.1.1 x.2.2.2.1.1:=by kernel_rfl
theorem rG (n:Nat) (hn:ar Tryz.prog 165 (jx n)):db Tryz.prog (nO n):=cM (l:=(Au n)) ⟨Gk,hn,G1,trivial⟩
theorem CM (n:Nat) (hn:ar Tryz.prog 165 (jx n)):db Tryz.prog (rM n):=cM (l:=(Au n)) ⟨Gk,hn,G1,trivial⟩
theorem L7 (n:Nat) (hn:ar Tryz.prog 165 (jx n)):cG Tryz.prog (nO n) (bb 11 (ah Tryz.f165)) (swapT (rM n) (opsOf (bb 11 (ah Tryz.f165))) [13] [(14,2),(14,3),(14,4)] 14 9 13) :=
 fY rfl rfl (sY (E:=(rM n)) (kX hT) (CM n hn) eF (c:=(bb 11 (ah Tryz.f165))) (id:=11) (by kernel_rfl))
theorem Cd (n:Nat) (hn:ar Tryz.prog 165 (jx n)):db Tryz.prog (rM n):=cM (l:=(Au n)) ⟨Gk,hn,G1,trivial⟩
theorem LN (n:Nat) (hn:ar Tryz.prog 165 (jx n)):cG Tryz.prog (nO n) (bb 23 (ah Tryz.f165)) (swapT (rM n) (opsOf (bb 23 (ah Tryz.f165))) [17] [(14,2),(14,3),(14,4)] 14 9 13) :=
 fY rfl rfl (sY (E:=(rM n)) (kX hT) (Cd n hn) eF (c:=(bb 23 (ah Tryz.f165))) (id:=23) (by kernel_rfl))
theorem Pg (n:Nat) (hn:ar Tryz.prog 165 (jx n)):bV Tryz.prog (nO n) 0 (.loop (aZ 0 (ah Tryz.f165))) ⟨px,gj uL⟩ :=
 eg (kX hT) (rG n hn) eF (step:=fun (x:bG px)=>mc x.1 x.2.1 x.2.2.1 x.2.2.2.1 x.2.2.2.2.1) (OW n) (aV [] (by kernel_rfl) trivial [] (by kernel_rfl) trivial)
theorem Ob (n:Nat) (hn:ar Tryz.prog 165 (jx n)):bV Tryz.prog (nO n) 2 (.loop (aZ 2 (ah Tryz.f165))) ⟨pL,fb uJ⟩ :=
 eg (kX hT) (rG n hn) eF (step:=fun (x:bG pL)=>nM x.1 x.2.1 x.2.2.1) (P9 n) (aV [] (by kernel_rfl) trivial [(11,bb 11 (ah Tryz.f165))] (by kernel_rfl) ⟨wO rfl (L7 n hn),trivial⟩)
theorem Oq (n:Nat) (hn:ar Tryz.prog 165 (jx n)):bV Tryz.prog (nO n) 4 (.loop (aZ 4 (ah Tryz.f165))) ⟨qm,gj wi⟩ :=
 eg (kX hT) (rG n hn) eF (step:=fun (x:bG qm)=>l3 x.1 x.2.1 x.2.2.1 x.2.2.2.1 x.2.2.2.2.1) (Oo n) (aV [] (by kernel_rfl) trivial [] (by kernel_rfl) trivial)
theorem OX (n:Nat) (hn:ar Tryz.prog 165 (jx n)):bV Tryz.prog (nO n) 6 (.loop (aZ 6 (ah Tryz.f165))) ⟨pG,fb v8⟩ :=
 eg (kX hT) (rG n hn) eF (step:=fun (x:bG pG)=>nK x.1 x.2.1 x.2.2.1) (Oa n) (aV [] (by kernel_rfl) trivial [(23,bb 23 (ah Tryz.f165))] (by kernel_rfl) ⟨wO rfl (LN n hn),trivial⟩)
theorem Pd (n:Nat) (hn:ar Tryz.prog 165 (jx n)):bV Tryz.prog (nO n) 8 (.loop (aZ 8 (ah Tryz.f165))) ⟨pr,AL lg⟩ :=
 eg (kX hT) (rG n hn) eF (step:=fun (x:bG pr)=>lS x.1 x.2.1 x.2.2.1 x.2.2.2.1 x.2.2.2.2.1 x.2.2.2.2.2.1 x.2.2.2.2.2.2.1 x.2.2.2.2.2.2.2.1 x.2.2.2.2.2.2.2.2.1 x.2.2.2.2.2.2.2.2.2.1) (Ol n) (aV [] (by kernel_rfl) trivial [] (by kernel_rfl) trivial)
theorem Hv:∀ n,ar Tryz.prog 165 (jx n)
 | 0=>ar.zero fun _=>rfl
 | n + 1=>have hn:=Hv n
 qt (E:=(nO n)) (kX hT) (rG n hn) eF (fn:=Tryz.f165) (c:=(ah Tryz.f165)) (by kernel_rfl) (by kernel_rfl) (by kernel_rfl) rfl (aV [(0,.loop (aZ 0 (ah Tryz.f165))),(2,.loop (aZ 2 (ah Tryz.f165))),(4,.loop (aZ 4 (ah Tryz.f165))),(6,.loop (aZ 6 (ah Tryz.f165))),(8,.loop (aZ 8 (ah Tryz.f165)))] (by kernel_rfl) ⟨lM rfl (Pg n hn),lM rfl (Ob n hn),lM rfl (Oq n hn),lM rfl (OX n hn),lM rfl (Pd n hn),trivial⟩ [] (by kernel_rfl) trivial) fun x y h=>⟨y.1,fun _=>rfl,((t165 n) x).trans h⟩
theorem Tt:ar Tryz.prog 165 Iz:=ar.fix (ps:=Iz.ps) (rs:=Iz.rs) (fr:=Iz.fresh) (G:=fun n (x:PT Iz.ps)=>eP n x.1.1 x.2.1.1 x.2.2.1.1 x.2.2.2.1.1) Hv
def rh (t0:List de) (t1:Int) (f2:Unit) (t6 t7 t8:Int):Rd ((List de)×Int×Unit×Int×Int×Int×Unit) Unit :=
 cond (bC t8 t1) (
 (Fw t0 t7 t8).bind fun y1 =>
 some (.inl (y1.1.1.1,t1,(),t6,t8,(aq .i64 t8 t6),()))
 ) (
 some (.inr (.inl (t0,t1,(),t6,t7,t8,())))
 )
def CA:=Ro (ai (Dt rh))
def qW (t0:List de) (t1:Int) (f2:Unit) (t6 t7 t8:Int):Rd ((List de)×Int×Unit×Int×Int×Int×Unit) Unit :=
 cond (bC t8 t1) (
 (l8 t0 t7 (aq .i64 t7 t6) t8).bind fun y1 =>
 some (.inl (y1.1.1.1,t1,(),t6,t8,(aq .i64 t8 (jH .i64 2 t6)),()))
 ) (
 some (.inr (.inl (t0,t1,(),t6,t7,t8,())))
 )
def yO:=Ro (ai (Dt qW))
def rf (t0:List de) (t1:Int) (f2:Unit) (t6:Int):Rd ((List de)×Int×Unit×Int×Unit) Unit :=
 cond (au t6 t1) (
 (yO t0 t1 () t6 0 (jH .i64 2 t6)).bind (Sum.elim (fun y1 =>
 let u1:=(aq .i64 y1.2.2.2.2.1 y1.2.2.2.1)
 cond (au u1 y1.2.1) (
 (l8 y1.1 y1.2.2.2.2.1 u1 y1.2.1).bind fun y2 =>
 let u2:=(jH .i64 y1.2.2.2.1 2)
 some (.inl (y2.1.1.1,y1.2.1,(),u2,()))
 ) (
 let u2:=(jH .i64 y1.2.2.2.1 2)
 some (.inl (y1.1,y1.2.1,(),u2,()))
 )
 ) (fun y1 =>
 some (.inr (.inr ()))
 ))
 ) (
 some (.inr (.inl (t0,t1,(),t6,())))
 )
def BW:=mU (ai (cU rf))
def PJ (p0:List de) (p1:Int):Option Mh :=
 (CA p0 p1 () 20 0 20).bind (Sum.elim (fun y1 =>
 (Fw y1.1 y1.2.2.2.2.1 y1.2.1).bind fun y2 =>
 (BW y2.1.1.1 y1.2.1 () y1.2.2.2.1).bind (Sum.elim (fun y3 =>
 some (((y3.1,()),()),())
 ) (fun y3 =>
 none
 ))
 ) (fun y1 =>
 none
 ))
def Xk:Su:=⟨[.io false [.sl 92 bl],.c false aK,.fn 93 []],[],true,.inl fun x=>PJ x.1.1 x.2.1.1⟩
theorem Tu:ar Tryz.prog 123 Xk :=
 fl (ac To (ac Tt an)) [] [(0,⟨[.own 0 (.sl 92 bl),.d 1 (.int .i64),.fn 2 93 [],.d 6 (.int .i64),.d 7 (.int .i64),.d 8 (.int .i64)],ai (Dt rh)⟩),(4,⟨[.own 0 (.sl 92 bl),.d 1 (.int .i64),.fn 2 93 [],.d 6 (.int .i64),.d 7 (.int .i64),.d 8 (.int .i64)],ai (Dt qW)⟩),(2,⟨[.own 0 (.sl 92 bl),.d 1 (.int .i64),.fn 2 93 [],.d 6 (.int .i64)],ai (cU rf)⟩)] [0] Tryz.f123 (lp [0,2] (sc dk (sc (lp [4] (sc dk sn)) sn)))
def UK (p0:List de):Option Mh :=
 (PJ p0 (ae p0)).bind fun y1 =>
 some ((y1.1.1,()),())
def YN:Su:=⟨[.io false [.sl 92 bl],.fn 93 []],[],true,.inl fun x=>UK x.1.1⟩
theorem VH:ar Tryz.prog 92 YN :=
 fl (ac Tu an) [] [] [0] Tryz.f92 dk
def Jt (p0:List di):Option (Unit×((List di)×Unit)×Unit):=cond (cS 32 ([]:List di) p0) (some ((),((p0,()),()))) none
def Ew:Su:=⟨[.c false [.sl 157 dF]],[(false,[.sl 157 dF])],true,.inl fun x=>Jt x.1.1⟩
def Qd:En:=⟨8,tt,iL [],[],fun _=>none,[],fun _=>none⟩
def NC (x:PT Ew.ps):St:=⟨[(2,.v .nil),(0,.v (.d (.sl 157 dF) x.1.1))],[]⟩
theorem t161 (x:PT Ew.ps) (b:Bool):((cy Qd (.seq (cV (dM (cV (ah Tryz.f161)))) (cV (cV (ah Tryz.f161)))) (((NC x).ay 3 (.v (.d (.sl 157 dF) x.1.1),none)).ay 4 (.v (.d .bool b),none))).bind (Bh Qd Tryz.f161.results.toList Ew.ps Ew.rs Ew.fresh)).run =
 cond b (some ((),(([],()),()))) (Jt x.1.1):=by kernel_rfl
theorem RT:ar Tryz.prog 161 Ew :=
 BZ (E:=Qd) (kX hT) (cM (l:=[]) trivial) eF (fn:=Tryz.f161) (c0:=dM (ah Tryz.f161)) (cc:=cV (dM (cV (ah Tryz.f161)))) (c3:=cV (cV (ah Tryz.f161))) (id:=Hp (dM (dM (cV (ah Tryz.f161)))))
  (o1:=fC (dM (dM (cV (ah Tryz.f161)))) 0) (o2:=fC (dM (dM (cV (ah Tryz.f161)))) 1) (by kernel_rfl) (by kernel_rfl) (by kernel_rfl) rfl
  (bu (fun _=>rfl) _ (by kernel_rfl)) (bu (fun _=>rfl) _ (by kernel_rfl)) (bu (fun _=>rfl) _ (by kernel_rfl)) (t0:=0) (t3:=3) (t4:=4) (ty:=87) (ty':=87) (e:=157) (e':=157) (by':=24) (fl:=[]) (ks:=dF) (by kernel_rfl) (by kernel_rfl) (by kernel_rfl) (by kernel_rfl) (by kernel_rfl) (by kernel_rfl) (by kernel_rfl) (by kernel_rfl) (by kernel_rfl)
  NC (fun x=>x.1.1) (fun x=>by kernel_rfl) (fun x=>by kernel_rfl) fun x y hy b hb=>by
   refine ⟨y.1,fun _=>rfl,?_⟩
   rw [t161]
   have hy:Jt x.1.1=some y:=hy
   cases b with
   | false=>exact hy
   | true =>
     have he:x.1.1=([]:List di):=hb rfl
     rw [he] at hy
     exact hy
def FB (p0:List R3):Option (Unit×Et×Unit):=cond (cS 8 ([]:List R3) p0) (some ((),((p0,()),()))) none
def FW:Su:=⟨[.c false gq],[(false,gq)],true,.inl fun x=>FB x.1.1⟩
def Pq:En:=⟨8,tt,iL [],[],fun _=>none,[],fun _=>none⟩
def Mi (x:PT FW.ps):St:=⟨[(2,.v .nil),(0,.v (.d (.sl 3 aK) x.1.1))],[]⟩
theorem t209 (x:PT FW.ps) (b:Bool):((cy Pq (.seq (cV (dM (cV (ah Tryz.f209)))) (cV (cV (ah Tryz.f209)))) (((Mi x).ay 3 (.v (.d (.sl 3 aK) x.1.1),none)).ay 4 (.v (.d .bool b),none))).bind (Bh Pq Tryz.f209.results.toList FW.ps FW.rs FW.fresh)).run =
 cond b (some ((),(([],()),()))) (FB x.1.1):=by kernel_rfl
theorem QU:ar Tryz.prog 209 FW :=
 BZ (E:=Pq) (kX hT) (cM (l:=[]) trivial) eF (fn:=Tryz.f209) (c0:=dM (ah Tryz.f209)) (cc:=cV (dM (cV (ah Tryz.f209)))) (c3:=cV (cV (ah Tryz.f209))) (id:=Hp (dM (dM (cV (ah Tryz.f209)))))
  (o1:=fC (dM (dM (cV (ah Tryz.f209)))) 0) (o2:=fC (dM (dM (cV (ah Tryz.f209)))) 1) (by kernel_rfl) (by kernel_rfl) (by kernel_rfl) rfl
  (bu (fun _=>rfl) _ (by kernel_rfl)) (bu (fun _=>rfl) _ (by kernel_rfl)) (bu (fun _=>rfl) _ (by kernel_rfl)) (t0:=0) (t3:=3) (t4:=4) (ty:=53) (ty':=53) (e:=3) (e':=3) (by':=24) (fl:=[]) (ks:=aK) (by kernel_rfl) (by kernel_rfl) (by kernel_rfl) (by kernel_rfl) (by kernel_rfl) (by kernel_rfl) (by kernel_rfl) (by kernel_rfl) (by kernel_rfl)
  Mi (fun x=>x.1.1) (fun x=>by kernel_rfl) (fun x=>by kernel_rfl) fun x y hy b hb=>by
   refine ⟨y.1,fun _=>rfl,?_⟩
   rw [t209]
   have hy:FB x.1.1=some y:=hy
   cases b with
   | false=>exact hy
   | true =>
     have he:x.1.1=([]:List R3):=hb rfl
     rw [he] at hy
     exact hy
def Im (p0:Int×Int×(List R3)×(List R3)×Unit):Option Xx :=
 (FB p0.2.2.1).bind fun y1 =>
 (FB p0.2.2.2.1).bind fun y2 =>
 some ((),((p0.1,p0.2.1,y1.2.1.1,y2.2.1.1,()),()))
def WS:Su:=⟨[.c true [.int .i64,.int .i64,.sl 3 aK,.sl 3 aK]],[(true,[.int .i64,.int .i64,.sl 3 aK,.sl 3 aK])],true,.inl fun x=>Im x.1⟩
theorem TM:ar Tryz.prog 162 WS :=
 fq (ac QU an) Tryz.f162
def GI (p0:List R5):Option (Unit×((List R5)×Unit)×Unit):=cond (cS 1 ([]:List R5) p0) (some ((),((p0,()),()))) none
def FM:Su:=⟨[.c false [.sl 5 fx]],[(false,[.sl 5 fx])],true,.inl fun x=>GI x.1.1⟩
def OC:En:=⟨8,tt,iL [],[],fun _=>none,[],fun _=>none⟩
def NB (x:PT FM.ps):St:=⟨[(2,.v .nil),(0,.v (.d (.sl 5 fx) x.1.1))],[]⟩
theorem t210 (x:PT FM.ps) (b:Bool):((cy OC (.seq (cV (dM (cV (ah Tryz.f210)))) (cV (cV (ah Tryz.f210)))) (((NB x).ay 3 (.v (.d (.sl 5 fx) x.1.1),none)).ay 4 (.v (.d .bool b),none))).bind (Bh OC Tryz.f210.results.toList FM.ps FM.rs FM.fresh)).run =
 cond b (some ((),(([],()),()))) (GI x.1.1):=by kernel_rfl
theorem QX:ar Tryz.prog 210 FM :=
 BZ (E:=OC) (kX hT) (cM (l:=[]) trivial) eF (fn:=Tryz.f210) (c0:=dM (ah Tryz.f210)) (cc:=cV (dM (cV (ah Tryz.f210)))) (c3:=cV (cV (ah Tryz.f210))) (id:=Hp (dM (dM (cV (ah Tryz.f210)))))
  (o1:=fC (dM (dM (cV (ah Tryz.f210)))) 0) (o2:=fC (dM (dM (cV (ah Tryz.f210)))) 1) (by kernel_rfl) (by kernel_rfl) (by kernel_rfl) rfl
  (bu (fun _=>rfl) _ (by kernel_rfl)) (bu (fun _=>rfl) _ (by kernel_rfl)) (bu (fun _=>rfl) _ (by kernel_rfl)) (t0:=0) (t3:=3) (t4:=4) (ty:=62) (ty':=62) (e:=5) (e':=5) (by':=24) (fl:=[]) (ks:=fx) (by kernel_rfl) (by kernel_rfl) (by kernel_rfl) (by kernel_rfl) (by kernel_rfl) (by kernel_rfl) (by kernel_rfl) (by kernel_rfl) (by kernel_rfl)
  NB (fun x=>x.1.1) (fun x=>by kernel_rfl) (fun x=>by kernel_rfl) fun x y hy b hb=>by
   refine ⟨y.1,fun _=>rfl,?_⟩
   rw [t210]
   have hy:GI x.1.1=some y:=hy
   cases b with
   | false=>exact hy
   | true =>
     have he:x.1.1=([]:List R5):=hb rfl
     rw [he] at hy
     exact hy
def nW (t3 t7:List dh) (t8 t9:Int):Rd UC Unit :=
 cond (au t9 t8) (
 cond (a7 t9 t7) (
 let u1:=(gt d160 t7 t9)
 (GI u1.2.2.1).bind fun y1 =>
 cond (cS 56 t3 [(u1.1,u1.2.1,y1.2.1.1,())]) (
 some (.inl ((lO t3 [(u1.1,u1.2.1,y1.2.1.1,())]),t7,t8,(aq .i64 t9 1),()))
 ) none
 ) none
 ) (
 some (.inr (.inl (t3,t7,t8,t9,())))
 )
def HF:=mU (ai (cU nW))
def Kf (p0:List dh):Option Xs :=
 (HF [] p0 (ae p0) 0).bind (Sum.elim (fun y1 =>
 some ((),((y1.1,()),()))
 ) (fun y1 =>
 none
 ))
def Vt:Su:=⟨[.c false [.sl 160 cW]],[(false,[.sl 160 cW])],true,.inl fun x=>Kf x.1.1⟩
theorem T1:ar Tryz.prog 163 Vt :=
 fl (ac QX an) [] [(0,⟨[.own 3 (.sl 160 cW),.d 7 (.sl 160 cW),.d 8 (.int .i64),.d 9 (.int .i64)],ai (cU nW)⟩)] [] Tryz.f163 (lp [0] (sc dk sn))
def J9 (p0:(List UInt8)×Int×Int×Int×Int×(List di)×Int×Int×(List R3)×(List R3)×(List dh)×Unit):Option WV :=
 (Jt p0.2.2.2.2.2.1).bind fun y1 =>
 (Im (p0.2.2.2.2.2.2.1,p0.2.2.2.2.2.2.2.1,p0.2.2.2.2.2.2.2.2.1,p0.2.2.2.2.2.2.2.2.2.1,())).bind fun y2 =>
 (Kf p0.2.2.2.2.2.2.2.2.2.2.1).bind fun y3 =>
 some ((),((p0.1,p0.2.1,p0.2.2.1,p0.2.2.2.1,p0.2.2.2.2.1,y1.2.1.1,y2.2.1.1,y2.2.1.2.1,y2.2.1.2.2.1,y2.2.1.2.2.2.1,y3.2.1.1,()),()))
def Vo:Su:=⟨[.c true bl],[(true,bl)],true,.inl fun x=>J9 x.1⟩
theorem Sl:ar Tryz.prog 122 Vo :=
 fq (ac RT (ac TM (ac T1 an))) Tryz.f122
def nI (f1:Unit) (t10:List de) (t11 t12:Int) (b4 b5:(List de)×Unit):Rd (Unit×(List de)×Int×Int×Y4×Y4×Unit) Unit :=
 cond (au t12 t11) (
 cond (a7 t12 t10) (
 (J9 (gt d92 t10 t12)).bind fun y1 =>
 cond (cS 160 b5.1 [y1.2.1]) (
 some (.inl ((),t10,t11,(aq .i64 t12 1),b4,((lO b5.1 [y1.2.1]),()),()))
 ) none
 ) none
 ) (
 some (.inr (.inl ((),t10,t11,t12,b4,b5,())))
 )
def F8:=Ro (ai (Dt nI))
def Ox (p0:(List de)×Unit):Option Qr :=
 (F8 () p0.1 (ae p0.1) 0 ([],()) ([],())).bind (Sum.elim (fun y1 =>
 some ((),(y1.2.2.2.2.2.1,()))
 ) (fun y1 =>
 none
 ))
def Wt:Su:=⟨[.c true [.sl 92 bl],.fn 122 []],[(true,[.sl 92 bl])],true,.inl fun x=>Ox x.1⟩
theorem Ti:ar Tryz.prog 121 Wt :=
 fl (ac Sl an) [] [(0,⟨[.fn 1 122 [],.d 10 (.sl 92 bl),.d 11 (.int .i64),.d 12 (.int .i64),.box 4 [(true,.sl 92 bl)],.box 5 [(true,.sl 92 bl)]],ai (Dt nI)⟩)] [] Tryz.f121 (lp [0] (sc dk sn))
def Uy (p0:(List de)×Unit):Option Qr :=
 (Ox p0).bind fun y1 =>
 some ((),(y1.2.1,()))
def Zd:Su:=⟨[.c true [.sl 92 bl]],[(true,[.sl 92 bl])],true,.inl fun x=>Uy x.1⟩
theorem WZ:ar Tryz.prog 91 Zd :=
 fq (ac Ti an) Tryz.f91
def wI (t7:List gb) (t8 t9:Int) (b2 b3:(List de)×Unit):Rd ((List gb)×Int×Int×Y4×Y4×Unit) Unit :=
 cond (au t9 t8) (
 cond (a7 t9 t7) (
 (Uy ((gt d67 t7 t9).2.1,())).bind fun y1 =>
 cond (cS 160 b3.1 y1.2.1.1) (
 some (.inl (t7,t8,(aq .i64 t9 1),b2,((lO b3.1 y1.2.1.1),()),()))
 ) none
 ) none
 ) (
 some (.inr (.inl (t7,t8,t9,b2,b3,())))
 )
def Nx:=zz (ai (gj wI))
def OU (p0:List gb):Option Qr :=
 (Nx p0 (ae p0) 0 ([],()) ([],())).bind (Sum.elim (fun y1 =>
 (UK y1.2.2.2.2.1.1).bind fun y2 =>
 some ((),(y2.1.1,()))
 ) (fun y1 =>
 none
 ))
def Y9:Su:=⟨[.c false [.sl 67 cR]],[(true,[.sl 92 bl])],true,.inl fun x=>OU x.1.1⟩
theorem Ws:ar Tryz.prog 68 Y9 :=
 fl (ac VH (ac WZ an)) [] [(0,⟨[.d 7 (.sl 67 cR),.d 8 (.int .i64),.d 9 (.int .i64),.box 2 [(true,.sl 92 bl)],.box 3 [(true,.sl 92 bl)]],ai (gj wI)⟩)] [] Tryz.f68 (lp [0] (sc dk sn))
def uK (t0:List UInt8) (t3 t6 t7:Int):Rd ((List UInt8)×Int×Int×Int×Unit) Unit :=
 cond (au t7 t6) (
 cond (a7 t7 t0) (
 some (.inl (t0,(jH .u32 (Bl .u32 t3 (bN .u32 (dm t0 t7))) 16777619),t6,(aq .i64 t7 1),()))
 ) none
 ) (
 some (.inr (.inl (t0,t3,t6,t7,())))
 )
def MR:=mU (ai (cU uK))
def UB (p0:List UInt8):Option ke :=
 (MR p0 2166136261 (ae p0) 0).bind (Sum.elim (fun y1 =>
 some ((),(((bN .i64 y1.2.1),()),()))
 ) (fun y1 =>
 none
 ))
def YF:Su:=⟨[.c false [.str]],[(false,aK)],true,.inl fun x=>UB x.1.1⟩
theorem Va:ar Tryz.prog 90 YF :=
 fl an [] [(0,⟨[.d 0 (.str),.d 3 (.int .u32),.d 6 (.int .i64),.d 7 (.int .i64)],ai (cU uK)⟩)] [] Tryz.f90 (lp [0] (sc dk sn))
def Sj (p0:List UInt8) (p1:Int):Option ke :=
 cond (au p1 1) (
 some ((),((0,()),()))
 ) (
 (UB p0).bind fun y1 =>
 cond (!(ak p1 0)) (
 some ((),(((gI y1.2.1.1 p1),()),()))
 ) none
 )
def Zo:Su:=⟨[.c false [.str],.c false aK],[(false,aK)],true,.inl fun x=>Sj x.1.1 x.2.1.1⟩
theorem So:ar Tryz.prog 67 Zo :=
 fq (ac Va an) Tryz.f67
def ur (t0:List gb) (t3:Int) (t7:List gb) (t8 t9:Int) (t19:List de) (t20 t21:Int) (b4:Int×(List de)×Unit):Rd ((List gb)×Int×(List gb)×Int×Int×(List de)×Int×Int×Y8×Unit) Y1 :=
 cond (au t21 t20) (
 cond (a7 t21 t19) (
 (Sj (gt d92 t19 t21).1 (ae t0)).bind fun y1 =>
 cond (!(ak y1.2.1.1 t3)) (
 some (.inr (.inr (false,())))
 ) (
 cond (au 0 t21) (
 let u1:=(aI .i64 t21 1)
 cond (a7 u1 b4.2.1) (
 cond (NK (gt d92 t19 t21).1 (gt d92 b4.2.1 u1).1) (
 some (.inr (.inr (false,())))
 ) (
 some (.inl (t0,t3,t7,t8,t9,t19,t20,(aq .i64 t21 1),b4,()))
 )
 ) none
 ) (
 some (.inl (t0,t3,t7,t8,t9,t19,t20,(aq .i64 t21 1),b4,()))
 )
 )
 ) none
 ) (
 some (.inr (.inl (t0,t3,t7,t8,t9,t19,t20,t21,b4,())))
 )
def MJ:=TZ (ai (B9 ur))
def uk (t0 t7:List gb) (t8 t9:Int):Rd ((List gb)×(List gb)×Int×Int×Unit) Y1 :=
 cond (au t9 t8) (
 cond (a7 t9 t7) (
 let u1:=(gt d67 t7 t9)
 (ni u1.1 (-1) 11).bind fun y1 =>
 cond (!y1.2.1.1) (
 some (.inr (.inr (false,())))
 ) (
 (MJ t0 t9 t7 t8 t9 u1.2.1 (ae u1.2.1) 0 u1).bind (Sum.elim (fun y2 =>
 some (.inl (y2.1,y2.2.2.1,y2.2.2.2.1,(aq .i64 y2.2.2.2.2.1 1),()))
 ) (fun y2 =>
 some (.inr (.inr (y2.1,())))
 ))
 )
 ) none
 ) (
 some (.inr (.inl (t0,t7,t8,t9,())))
 )
def SZ:=mU (ai (cU uk))
def UD (p0:List gb):Option dS :=
 (SZ p0 p0 (ae p0) 0).bind (Sum.elim (fun y1 =>
 (ni (ae y1.1) 1 5).bind fun y2 =>
 cond y2.2.1.1 (
 (OU y1.1).bind fun y3 =>
 (Qn y3.2.1).bind fun y4 =>
 some ((),(y4.2.1,()))
 ) (
 some ((),((false,()),()))
 )
 ) (fun y1 =>
 some ((),(y1,()))
 ))
def Zj:Su:=⟨[.c false [.sl 67 cR]],[(false,[.bool])],true,.inl fun x=>UD x.1.1⟩
theorem Xy:ar Tryz.prog 37 Zj :=
 fl (ac nf (ac Rz (ac Ws (ac So an)))) [.d 2 (.bool)] [(2,⟨[.d 0 (.sl 67 cR),.d 3 (.int .i64),.d 7 (.sl 67 cR),.d 8 (.int .i64),.d 9 (.int .i64),.d 19 (.sl 92 bl),.d 20 (.int .i64),.d 21 (.int .i64),.box 4 [(false,.int .i64),(false,.sl 92 bl)]],ai (B9 ur)⟩),(0,⟨[.d 0 (.sl 67 cR),.d 7 (.sl 67 cR),.d 8 (.int .i64),.d 9 (.int .i64)],ai (cU uk)⟩)] [] Tryz.f37 (lp [0] (sc (lp [2] (sc dk sn)) sn))
def Uk (p0:Int):Option P2 :=
 (ni p0 0 5).bind fun y1 =>
 cond (!y1.2.1.1) (
 some ((),(([],()),()))
 ) (
 cond (a7 p0 [([114,101,97,100],()),([108,111,99,107],()),([119,111,114,107],()),([102,114,101,101],()),([115,101,110,100],()),([100,111,110,101],())]) (
 some ((),((gt d9 [([114,101,97,100],()),([108,111,99,107],()),([119,111,114,107],()),([102,114,101,101],()),([115,101,110,100],()),([100,111,110,101],())] p0),()))
 ) none
 )
def Zn:Su:=⟨[.c false aK],[(false,[.str])],true,.inl fun x=>Uk x.1.1⟩
theorem XA:ar Tryz.prog 69 Zn :=
 fq (ac nf an) Tryz.f69
def yD (p0:List R5) (p1 p2:Int):Option (Unit×(((List R5)×Unit)×Y1×Unit)) :=
 let u1:=(ae p0)
 (ni p1 0 u1).bind fun y1 =>
 cond (cond (cond (!y1.2.1.1) true (au p2 0)) true (au (aI .i64 u1 p1) p2)) (
 some ((),(([],()),(false,()),()))
 ) (
 let u2:=(aq .i64 p1 p2)
 cond (dH p1 u2 p0) (
 some ((),(((sub p0 p1 u2),()),(true,()),()))
 ) none
 )
def Wg:Su:=⟨[.c false [.sl 5 fx],.c false aK,.c false aK],[(false,[.sl 5 fx]),(false,[.bool])],false,.inl fun x=>yD x.1.1 x.2.1.1 x.2.2.1.1⟩
theorem Gq:ar Tryz.prog 223 Wg :=
 fq (ac nf an) Tryz.f223
def om (t1 t2:Int) (t9:List R5) (t10:Bool) (t11 t27:List R5) (t28 t29:Int):Rd (Int×Int×(List R5)×Bool×(List R5)×(List R5)×Int×Int×Unit) Unit :=
 cond (au t29 t28) (
 cond (a7 t29 t27) (
 cond (cS 1 t11 [((aq .u8 48 (il .u8 (gt d5 t27 t29).1 4)),()),((aq .u8 48 (yU .u8 (gt d5 t27 t29).1 15)),())]) (
 some (.inl (t1,t2,t9,t10,(lO t11 [((aq .u8 48 (il .u8 (gt d5 t27 t29).1 4)),()),((aq .u8 48 (yU .u8 (gt d5 t27 t29).1 15)),())]),t27,t28,(aq .i64 t29 1),()))
 ) none
 ) none
 ) (
 some (.inr (.inl (t1,t2,t9,t10,t11,t27,t28,t29,())))
 )
def Gx:=Qq (ai (xd om))
def yr (p0:List R5) (p1 p2:Int):Option Uq :=
 (ni p2 1 38).bind fun y1 =>
 cond (!y1.2.1.1) (
 some ((),(([],()),(0,()),(false,()),()))
 ) (
 (yD p0 p1 (nE .i64 (aq .i64 p2 1) 2)).bind fun y2 =>
 (Gx p1 p2 y2.2.1.1 y2.2.2.1.1 [] y2.2.1.1 (ae y2.2.1.1) 0).bind (Sum.elim (fun y3 =>
 cond (!y3.2.2.2.1) (
 some ((),(([],()),(0,()),(false,()),()))
 ) (
 (sH (strOf y3.2.2.2.2.1)).bind fun y4 =>
 cond (!y4.2.1.1) (
 some ((),(([],()),(0,()),(false,()),()))
 ) (
 cond (ak (gI y3.2.1 2) 1) (
 cond (a7 0 y3.2.2.2.2.1) (
 cond (!(ak (gt d5 y3.2.2.2.2.1 0).1 48)) (
 some ((),(([],()),(0,()),(false,()),()))
 ) (
 let u1:=(ae y3.2.2.2.2.1)
 let u2:=(aI .i64 u1 y3.2.1)
 let u3:=(dH u2 u1 y3.2.2.2.2.1)
 cond u3 (
 some ((),(((strOf (sub y3.2.2.2.2.1 u2 u1)),()),((aq .i64 y3.1 (ae y3.2.2.1)),()),(true,()),()))
 ) none
 )
 ) none
 ) (
 let u1:=(ae y3.2.2.2.2.1)
 let u2:=(aI .i64 u1 y3.2.1)
 let u3:=(dH u2 u1 y3.2.2.2.2.1)
 cond u3 (
 some ((),(((strOf (sub y3.2.2.2.2.1 u2 u1)),()),((aq .i64 y3.1 (ae y3.2.2.1)),()),(true,()),()))
 ) none
 )
 )
 )
 ) (fun y3 =>
 none
 ))
 )
def Yh:Su:=⟨[.c false [.sl 5 fx],.c false aK,.c false aK],[(false,[.str]),(false,aK),(false,[.bool])],true,.inl fun x=>yr x.1.1 x.2.1.1 x.2.2.1.1⟩
theorem Jn:ar Tryz.prog 168 Yh :=
 fl (ac xe (ac nf (ac Gq an))) [] [(0,⟨[.d 1 (.int .i64),.d 2 (.int .i64),.d 9 (.sl 5 fx),.d 10 (.bool),.own 11 (.sl 5 fx),.d 27 (.sl 5 fx),.d 28 (.int .i64),.d 29 (.int .i64)],ai (xd om)⟩)] [] Tryz.f168 (lp [0] (sc dk sn))
def qY (t1:Int) (t7:List R5) (t9:List R3) (t10:Int):Rd (Int×(List R5)×(List R3)×Int×Unit) Unit :=
 cond (bC t10 64) (
 let u1:=(aI .i64 t10 1)
 let u2:=(nE .i64 u1 8)
 cond (a7 u2 t7) (
 let u3:=(gI u1 8)
 cond (bC 0 u3) (
 cond (!(ak (yU .u8 (gt d5 t7 u2).1 (il .u8 128 u3)) 0)) (
 cond (cS 8 t9 [(t10,())]) (
 let u4:=(aq .i64 t10 1)
 some (.inl (t1,t7,(lO t9 [(t10,())]),u4,()))
 ) none
 ) (
 let u4:=(aq .i64 t10 1)
 some (.inl (t1,t7,t9,u4,()))
 )
 ) none
 ) none
 ) (
 some (.inr (.inl (t1,t7,t9,t10,())))
 )
def GO:=mU (ai (cU qY))
def As (p0:List R5) (p1:Int):Option WW :=
 (yD p0 p1 8).bind fun y1 =>
 cond (!y1.2.2.1.1) (
 some ((),(([],()),(0,()),(false,()),()))
 ) (
 (GO p1 y1.2.1.1 [] 1).bind (Sum.elim (fun y2 =>
 some ((),((y2.2.2.1,()),((aq .i64 y2.1 8),()),(true,()),()))
 ) (fun y2 =>
 none
 ))
 )
def VD:Su:=⟨[.c false [.sl 5 fx],.c false aK],[(false,gq),(false,aK),(false,[.bool])],true,.inl fun x=>As x.1.1 x.2.1.1⟩
theorem Rk:ar Tryz.prog 169 VD :=
 fl (ac Gq an) [] [(0,⟨[.d 1 (.int .i64),.d 7 (.sl 5 fx),.own 9 (.sl 3 aK),.d 10 (.int .i64)],ai (cU qY)⟩)] [] Tryz.f169 (lp [0] (sc dk sn))
def Q1  : Option (Unit×(((List Cq)×Unit)×Unit)) :=
 some ((),(([(2,3,19,()),(3,1,6,()),(4,1,12,()),(7,1,10,()),(11,1,6,()),(14,1,4,()),(37,2,12,()),(38,2,6,()),(39,2,2,()),(41,2,8,()),(48,5,60,()),(49,1,3,()),(54,5,60,()),(95,2,12,()),(102,4,20,()),(103,4,20,())],()),()))
def Ye:Su:=⟨[],[(false,[.sl 232 Ef])],true,.inl fun x=>Q1 ⟩
theorem TT:ar Tryz.prog 250 Ye :=
 fq an Tryz.f250
def rr (t0:Int) (t5:List Cq) (t6 t7:Int) (b2:Int×Int×Int×Unit):Rd (Int×(List Cq)×Int×Int×Cq×Unit) (Cq×Unit) :=
 cond (au t7 t6) (
 cond (a7 t7 t5) (
 let u1:=(gt d232 t5 t7)
 cond (ak u1.1 t0) (
 some (.inr (.inr (u1,())))
 ) (
 some (.inl (t0,t5,t6,(aq .i64 t7 1),b2,()))
 )
 ) none
 ) (
 some (.inr (.inl (t0,t5,t6,t7,b2,())))
 )
def GZ:=zz (ai (gj rr))
def EF (p0:Int):Option (Unit×(Cq×Unit)) :=
 (Q1).bind fun y1 =>
 (GZ p0 y1.2.1.1 (ae y1.2.1.1) 0 (0,0,0,())).bind (Sum.elim (fun y2 =>
 some ((),((0,0,0,()),()))
 ) (fun y2 =>
 some ((),(y2.1,()))
 ))
def Xm:Su:=⟨[.c false aK],[(true,Ef)],true,.inl fun x=>EF x.1.1⟩
theorem Gp:ar Tryz.prog 224 Xm :=
 fl (ac TT an) [.box 2 [(false,.int .i64),(false,.int .i64),(false,.int .i64)]] [(0,⟨[.d 0 (.int .i64),.own 5 (.sl 232 Ef),.d 6 (.int .i64),.d 7 (.int .i64),.box 2 [(false,.int .i64),(false,.int .i64),(false,.int .i64)]],ai (gj rr)⟩)] [] Tryz.f224 (lp [0] (sc dk sn))
def Cg (p0:Int):Option ke :=
 (EF p0).bind fun y1 =>
 some ((),((y1.2.1.2.1,()),()))
def We:Su:=⟨[.c false aK],[(false,aK)],true,.inl fun x=>Cg x.1.1⟩
theorem HV:ar Tryz.prog 170 We :=
 fq (ac Gp an) Tryz.f170
def JO (p0:Int):Option ke :=
 (EF p0).bind fun y1 =>
 some ((),((y1.2.1.2.2.1,()),()))
def Wj:Su:=⟨[.c false aK],[(false,aK)],true,.inl fun x=>JO x.1.1⟩
theorem TH:ar Tryz.prog 225 Wj :=
 fq (ac Gp an) Tryz.f225
def K6 (p0:Int):Option ke :=
 (Cg p0).bind fun y1 =>
 cond (ak y1.2.1.1 5) (
 some ((),((3,()),()))
 ) (
 some ((),((2,()),()))
 )
def Yk:Su:=⟨[.c false aK],[(false,aK)],true,.inl fun x=>K6 x.1.1⟩
theorem RP:ar Tryz.prog 227 Yk :=
 fq (ac HV an) Tryz.f227
section
open Go.RowKit Go.Lib
theorem WK:C4 Tryz.prog 179 190 229:=by
 intro s b v w R R2 hd ha
 have e1:Enters Tryz.prog 190:=enters_of (fn:=Tryz.f190) (c:=ah Tryz.f190) (by kernel_rfl) (by kernel_rfl) (by kernel_rfl)
 have e2:Enters Tryz.prog 229:=enters_of (fn:=Tryz.f229) (c:=ah Tryz.f229) (by kernel_rfl) (by kernel_rfl) (by kernel_rfl)
 have hsz:s.size < 9223372036854775808∨9223372036854775808<=s.size:=Nat.lt_or_ge _ _
 cases b with
 | false =>
   go_enter Tryz.func179,Tryz.ntmps179
   go_wp2_with (go_at_call 190; refine hd.mono ?_; rintro e W1 ⟨rfl,hW⟩)
   go_ret2
   exact .inr ⟨by simp,rfl,hW⟩
 | true =>
   by_cases hs:s.size<=18
   . have hb:=ha rfl hs
     have h1:¬ (18:Int) < (s.size:Int):=by omega
     go_enter Tryz.func179,Tryz.ntmps179
     go_wp2_with (first
      | (go_at_call 190; refine hd.mono ?_; rintro e W1 ⟨rfl,hW⟩)
      | (go_at_call 229; refine (hb _ hW).mono ?_; rintro e W2 ⟨rfl,hW2⟩))
     go_ret2
     exact .inl ⟨by trivial,hs,rfl,hW2⟩
   . have h1:(18:Int) < (s.size:Int):=by omega
     go_enter Tryz.func179,Tryz.ntmps179
     go_wp2_with (go_at_call 190; refine hd.mono ?_; rintro e W1 ⟨rfl,hW⟩)
     go_ret2
     exact .inr ⟨by simp [hs],rfl,hW⟩
end
def Ck (p0:List UInt8):Option V8:=sN sH p0
def Vm:Su:=⟨[.c false [.str]],[(false,aK),(false,[.bool])],true,.inl fun x=>Ck x.1.1⟩
theorem Ng:ar Tryz.prog 179 Vm:=E1 vS (gd:=sH) xe (fnd:=Tryz.f190) (cd:=ah Tryz.f190) (by kernel_rfl) (by kernel_rfl) (by kernel_rfl) rfl WK (fn:=Tryz.f179) (c:=ah Tryz.f179) (by kernel_rfl) (by kernel_rfl) (by kernel_rfl)
def EC (p0:List R5) (p1 p2:Int):Option (Unit×(Y0×Y0×Y1×Unit)) :=
 (ni p2 2 3).bind fun y1 =>
 cond (!y1.2.1.1) (
 some ((),((0,()),(0,()),(false,()),()))
 ) (
 (yr p0 p1 p2).bind fun y2 =>
 cond (!y2.2.2.2.1.1) (
 some ((),((0,()),(0,()),(false,()),()))
 ) (
 (Ck y2.2.1.1).bind fun y3 =>
 some ((),(y3.2.1,y2.2.2.1,(true,()),()))
 )
 )
def Xu:Su:=⟨[.c false [.sl 5 fx],.c false aK,.c false aK],[(false,aK),(false,aK),(false,[.bool])],true,.inl fun x=>EC x.1.1 x.2.1.1 x.2.2.1.1⟩
theorem RM:ar Tryz.prog 226 Xu :=
 fq (ac nf (ac Jn (ac Ng an))) Tryz.f226
def oZ (t0:List UInt8) (t5 t6:Int):Rd Qf Y1 :=
 cond (au t6 t5) (
 cond (a7 t6 t0) (
 let u1:=(dm t0 t6)
 cond (au u1 32) (
 some (.inr (.inr (false,())))
 ) (
 cond (a7 t6 t0) (
 cond (au 126 u1) (
 some (.inr (.inr (false,())))
 ) (
 some (.inl (t0,t5,(aq .i64 t6 1),()))
 )
 ) none
 )
 ) none
 ) (
 some (.inr (.inl (t0,t5,t6,())))
 )
def Jp:=qu (ai (fb oZ))
def FT (p0:List UInt8):Option dS :=
 (Jp p0 (ae p0) 0).bind (Sum.elim (fun y1 =>
 some ((),((true,()),()))
 ) (fun y1 =>
 some ((),(y1,()))
 ))
def W9:Su:=⟨[.c false [.str]],[(false,[.bool])],true,.inl fun x=>FT x.1.1⟩
theorem Tm:ar Tryz.prog 251 W9 :=
 fl an [.d 2 (.bool)] [(0,⟨[.d 0 (.str),.d 5 (.int .i64),.d 6 (.int .i64)],ai (fb oZ)⟩)] [] Tryz.f251 (lp [0] (sc dk sn))
def wP (p0:Int) (p1:List UInt8):Option dS :=
 (EF p0).bind fun y1 =>
 cond (ak y1.2.1.2.1 1) (
 let u1:=(sH p1)
 Option.bind u1 fun y2 =>
 let u2:=(ae p1)
 some ((),(((cond y2.2.1.1 (ak u2 y1.2.1.2.2.1) false),()),()))
 ) (
 cond (ak y1.2.1.2.1 2) (
 let u1:=(FT p1)
 Option.bind u1 fun y2 =>
 let u2:=(ae p1)
 some ((),(((cond y2.2.1.1 (ak u2 y1.2.1.2.2.1) false),()),()))
 ) (
 cond (ak y1.2.1.2.1 3) (
 let u1:=(sH p1)
 Option.bind u1 fun y2 =>
 cond y2.2.1.1 (
 let u2:=(ae p1)
 let u3:=(ni u2 1 y1.2.1.2.2.1)
 Option.bind u3 fun y3 =>
 some ((),(y3.2.1,()))
 ) (
 some ((),((false,()),()))
 )
 ) (
 cond (ak y1.2.1.2.1 4) (
 let u1:=(FT p1)
 Option.bind u1 fun y2 =>
 cond y2.2.1.1 (
 let u2:=(ae p1)
 let u3:=(ni u2 1 y1.2.1.2.2.1)
 Option.bind u3 fun y3 =>
 some ((),(y3.2.1,()))
 ) (
 some ((),((false,()),()))
 )
 ) (
 cond (ak y1.2.1.2.1 5) (
 let u1:=(FT p1)
 Option.bind u1 fun y2 =>
 cond y2.2.1.1 (
 let u2:=(ae p1)
 let u3:=(ni u2 1 y1.2.1.2.2.1)
 Option.bind u3 fun y3 =>
 some ((),(y3.2.1,()))
 ) (
 some ((),((false,()),()))
 )
 ) (
 some ((),((false,()),()))
 )
 )
 )
 )
 )
def W7:Su:=⟨[.c false aK,.c false [.str]],[(false,[.bool])],true,.inl fun x=>wP x.1.1 x.2.1.1⟩
theorem ND:ar Tryz.prog 228 W7 :=
 fq (ac xe (ac nf (ac Gp (ac Tm an)))) Tryz.f228
def H8 (p0:List R5) (p1 p2:Int):Option Uq :=
 (JO p2).bind fun y1 =>
 (Cg p2).bind fun y2 =>
 cond (cond (cond (ak y2.2.1.1 3) true (ak y2.2.1.1 4)) true (ak y2.2.1.1 5)) (
 (K6 p2).bind fun y3 =>
 (EC p0 p1 y3.2.1.1).bind fun y4 =>
 cond (!y4.2.2.2.1.1) (
 some ((),(([],()),(0,()),(false,()),()))
 ) (
 let u1:=(cond (ak y2.2.1.1 1) true (ak y2.2.1.1 3))
 cond u1 (
 (yr p0 y4.2.2.1.1 y4.2.1.1).bind fun y5 =>
 cond (!y5.2.2.2.1.1) (
 some ((),(([],()),(0,()),(false,()),()))
 ) (
 (wP p2 y5.2.1.1).bind fun y6 =>
 cond (!y6.2.1.1) (
 some ((),(([],()),(0,()),(false,()),()))
 ) (
 some ((),(y5.2.1,y5.2.2.1,(true,()),()))
 )
 )
 ) (
 (yD p0 y4.2.2.1.1 y4.2.1.1).bind fun y5 =>
 cond (!y5.2.2.1.1) (
 some ((),(([],()),(0,()),(false,()),()))
 ) (
 let u2:=(strOf y5.2.1.1)
 (wP p2 u2).bind fun y6 =>
 cond (!y6.2.1.1) (
 some ((),(([],()),(0,()),(false,()),()))
 ) (
 some ((),((u2,()),((aq .i64 y4.2.2.1.1 y4.2.1.1),()),(true,()),()))
 )
 )
 )
 )
 ) (
 let u1:=(cond (ak y2.2.1.1 1) true (ak y2.2.1.1 3))
 cond u1 (
 (yr p0 p1 y1.2.1.1).bind fun y3 =>
 cond (!y3.2.2.2.1.1) (
 some ((),(([],()),(0,()),(false,()),()))
 ) (
 (wP p2 y3.2.1.1).bind fun y4 =>
 cond (!y4.2.1.1) (
 some ((),(([],()),(0,()),(false,()),()))
 ) (
 some ((),(y3.2.1,y3.2.2.1,(true,()),()))
 )
 )
 ) (
 (yD p0 p1 y1.2.1.1).bind fun y3 =>
 cond (!y3.2.2.1.1) (
 some ((),(([],()),(0,()),(false,()),()))
 ) (
 let u2:=(strOf y3.2.1.1)
 (wP p2 u2).bind fun y4 =>
 cond (!y4.2.1.1) (
 some ((),(([],()),(0,()),(false,()),()))
 ) (
 some ((),((u2,()),((aq .i64 p1 y1.2.1.1),()),(true,()),()))
 )
 )
 )
 )
def X4:Su:=⟨[.c false [.sl 5 fx],.c false aK,.c false aK],[(false,[.str]),(false,aK),(false,[.bool])],true,.inl fun x=>H8 x.1.1 x.2.1.1 x.2.2.1.1⟩
theorem S0:ar Tryz.prog 171 X4 :=
 fq (ac Gq (ac Jn (ac HV (ac TH (ac RP (ac RM (ac ND an))))))) Tryz.f171
def oq (t0:List R5) (t4:List UInt8) (t5:Int) (t8:List R3) (t9:Bool) (t41:List R3) (t42 t43:Int) (b2:(List UInt8)×(List iv)×Unit):Rd ((List R5)×(List UInt8)×Int×(List R3)×Bool×(List R3)×Int×Int×C6×Unit) U0 :=
 cond (au t43 t42) (
 cond (a7 t43 t41) (
 let u1:=(gt d3 t41 t43)
 cond (ak u1.1 1) (
 let u2:=(aq .i64 t43 1)
 some (.inl (t0,t4,t5,t8,true,t41,t42,u2,b2,()))
 ) (
 (Cg u1.1).bind fun y1 =>
 cond (ak y1.2.1.1 0) (
 some (.inr (.inr (2,([],[],()),())))
 ) (
 cond (cS 8 t8 [u1]) (
 let u2:=(aq .i64 t43 1)
 some (.inl (t0,t4,t5,(lO t8 [u1]),t9,t41,t42,u2,b2,()))
 ) none
 )
 )
 ) none
 ) (
 some (.inr (.inl (t0,t4,t5,t8,t9,t41,t42,t43,b2,())))
 )
def Jj:=TZ (ai (B9 oq))
def oT (t0:List R5) (t4:List UInt8) (t5:Int) (t8 t76:List R3) (t77 t78:Int) (b2:(List UInt8)×(List iv)×Unit):Rd ((List R5)×(List UInt8)×Int×(List R3)×(List R3)×Int×Int×C6×Unit) U0 :=
 cond (au t78 t77) (
 cond (a7 t78 t76) (
 let u1:=(aq .i64 (gt d3 t76 t78).1 64)
 (Cg u1).bind fun y1 =>
 cond (ak y1.2.1.1 0) (
 some (.inr (.inr (2,([],[],()),())))
 ) (
 cond (cS 8 t8 [(u1,())]) (
 some (.inl (t0,t4,t5,(lO t8 [(u1,())]),t76,t77,(aq .i64 t78 1),b2,()))
 ) none
 )
 ) none
 ) (
 some (.inr (.inl (t0,t4,t5,t8,t76,t77,t78,b2,())))
 )
def JD:=Qq (ai (xd oT))
def nx (t0:List R5) (t5:Int) (t95:List R3) (t96 t97:Int) (b2 b15:(List UInt8)×(List iv)×Unit):Rd ((List R5)×Int×(List R3)×Int×Int×C6×C6×Unit) U0 :=
 cond (au t97 t96) (
 cond (a7 t97 t95) (
 (H8 t0 t5 (gt d3 t95 t97).1).bind fun y1 =>
 cond (!y1.2.2.2.1.1) (
 some (.inr (.inr (3,([],[],()),())))
 ) (
 cond (cS 24 b15.2.1 [((gt d3 t95 t97).1,y1.2.1.1,())]) (
 some (.inl (t0,y1.2.2.1.1,t95,t96,(aq .i64 t97 1),b2,(b15.1,(lO b15.2.1 [((gt d3 t95 t97).1,y1.2.1.1,())]),()),()))
 ) none
 )
 ) none
 ) (
 some (.inr (.inl (t0,t5,t95,t96,t97,b2,b15,())))
 )
def yL:=UX (ai (G9 nx))
def KB (p0:List R5):Option (Unit×(C6×Y0×Unit)) :=
 (yr p0 0 4).bind fun y1 =>
 cond (!y1.2.2.2.1.1) (
 some ((),(([],[],()),(1,()),()))
 ) (
 (As p0 y1.2.2.1.1).bind fun y2 =>
 cond (!y2.2.2.2.1.1) (
 some ((),(([],[],()),(2,()),()))
 ) (
 (Jj p0 y1.2.1.1 y2.2.2.1.1 [] false y2.2.1.1 (ae y2.2.1.1) 0 ([],[],())).bind (Sum.elim (fun y3 =>
 cond y3.2.2.2.2.1 (
 (As y3.1 y3.2.2.1).bind fun y4 =>
 let u1:=(ae y4.2.1.1)
 cond (cond (!y4.2.2.2.1.1) true (ak u1 0)) (
 some ((),(([],[],()),(2,()),()))
 ) (
 (JD y3.1 y3.2.1 y4.2.2.1.1 y3.2.2.2.1 y4.2.1.1 u1 0 y3.2.2.2.2.2.2.2.2.1).bind (Sum.elim (fun y5 =>
 (yL y5.1 y5.2.2.1 y5.2.2.2.1 (ae y5.2.2.2.1) 0 y5.2.2.2.2.2.2.2.1 (y5.2.1,[],())).bind (Sum.elim (fun y6 =>
 cond (!(ak y6.2.1 (ae y6.1))) (
 some ((),(([],[],()),(4,()),()))
 ) (
 some ((),(y6.2.2.2.2.2.2.1,(0,()),()))
 )
 ) (fun y6 =>
 some ((),(y6.2.1,(y6.1,()),()))
 ))
 ) (fun y5 =>
 some ((),(y5.2.1,(y5.1,()),()))
 ))
 )
 ) (
 (yL y3.1 y3.2.2.1 y3.2.2.2.1 (ae y3.2.2.2.1) 0 y3.2.2.2.2.2.2.2.2.1 (y3.2.1,[],())).bind (Sum.elim (fun y4 =>
 cond (!(ak y4.2.1 (ae y4.1))) (
 some ((),(([],[],()),(4,()),()))
 ) (
 some ((),(y4.2.2.2.2.2.2.1,(0,()),()))
 )
 ) (fun y4 =>
 some ((),(y4.2.1,(y4.1,()),()))
 ))
 )
 ) (fun y3 =>
 some ((),(y3.2.1,(y3.1,()),()))
 ))
 )
 )
def VV:Su:=⟨[.c false [.sl 5 fx]],[(true,[.str,.sl 178 dq]),(false,aK)],true,.inl fun x=>KB x.1.1⟩
theorem Qv:ar Tryz.prog 126 VV :=
 fl (ac Jn (ac Rk (ac HV (ac S0 an)))) [.d 3 (.int .i64),.box 2 [(false,.str),(true,.sl 178 dq)]] [(0,⟨[.d 0 (.sl 5 fx),.d 4 (.str),.d 5 (.int .i64),.own 8 (.sl 3 aK),.d 9 (.bool),.own 41 (.sl 3 aK),.d 42 (.int .i64),.d 43 (.int .i64),.box 2 [(false,.str),(true,.sl 178 dq)]],ai (B9 oq)⟩),(3,⟨[.d 0 (.sl 5 fx),.d 4 (.str),.d 5 (.int .i64),.own 8 (.sl 3 aK),.own 76 (.sl 3 aK),.d 77 (.int .i64),.d 78 (.int .i64),.box 2 [(false,.str),(true,.sl 178 dq)]],ai (xd oT)⟩),(5,⟨[.d 0 (.sl 5 fx),.d 5 (.int .i64),.own 95 (.sl 3 aK),.d 96 (.int .i64),.d 97 (.int .i64),.box 2 [(false,.str),(true,.sl 178 dq)],.box 15 [(false,.str),(true,.sl 178 dq)]],ai (G9 nx)⟩)] [] Tryz.f126 (lp [0,3,5] (sc dk (sc dk (sc dk sn))))
def oo (t6:List iv) (t7 t8:Int) (b1:(List UInt8)×(List iv)×Unit):Rd ((List iv)×Int×Int×C6×Unit) Y1 :=
 cond (au t8 t7) (
 cond (a7 t8 t6) (
 let u1:=(gt d178 t6 t8)
 (wP u1.1 u1.2.1).bind fun y1 =>
 cond (!y1.2.1.1) (
 some (.inr (.inr (false,())))
 ) (
 cond (au 0 t8) (
 let u2:=(aI .i64 t8 1)
 cond (a7 u2 b1.2.1) (
 cond (bC u1.1 (gt d178 b1.2.1 u2).1) (
 some (.inr (.inr (false,())))
 ) (
 some (.inl (t6,t7,(aq .i64 t8 1),b1,()))
 )
 ) none
 ) (
 some (.inl (t6,t7,(aq .i64 t8 1),b1,()))
 )
 )
 ) none
 ) (
 some (.inr (.inl (t6,t7,t8,b1,())))
 )
def CH:=mU (ai (cU oo))
def LB (p0:(List UInt8)×(List iv)×Unit):Option dS :=
 (CH p0.2.1 (ae p0.2.1) 0 p0).bind (Sum.elim (fun y1 =>
 (wF y1.2.2.2.1.1 4).bind fun y2 =>
 some ((),(y2.2.1,()))
 ) (fun y1 =>
 some ((),(y1,()))
 ))
def U5:Su:=⟨[.c true [.str,.sl 178 dq]],[(false,[.bool])],true,.inl fun x=>LB x.1⟩
theorem Sp:ar Tryz.prog 172 U5 :=
 fl (ac IM (ac ND an)) [.d 2 (.bool)] [(0,⟨[.d 6 (.sl 178 dq),.d 7 (.int .i64),.d 8 (.int .i64),.box 1 [(false,.str),(false,.sl 178 dq)]],ai (cU oo)⟩)] [] Tryz.f172 (lp [0] (sc dk sn))
end
end Go.Av
