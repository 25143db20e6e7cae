/- Part of a proof that the law FnExactWaitsOn answers true for every input: the printed functions of this program and their plain laws. No conditions beyond the statement. -/
import Derived.Test.YtpgkhfcgbjangaaGreatDoorFw4
import Derived.Test.YtpgkhfcgbjangaaGreatDoorFw3
import Derived.WalkKit
import Derived.Lib.Walk
import Derived.Lib.SliceRun
import Derived.Shelf.Spec.SlicesInsert
import Derived.Test.YtpgkhfcgbjangaaGreatDoorProg
set_option maxRecDepth 100000
namespace Go.Av
open Go.Proofs
set_option maxHeartbeats 4000000
noncomputable section
def jn:List K:=[.str,.int .i64,.int .i64]
def aK:List K:=[.int .i64]
def fy:List K:=[.int .u8]
def iy:List K:=[.str,.str,.sl 5 fy]
def jS:List K:=[.str,.int .i64,.int .i64,.int .i64,.int .i64,.sl 204 jn,.int .i64,.int .i64,.sl 3 aK,.sl 3 aK,.sl 206 iy]
def nh:List K:=[.int .i64,.sl 124 jS]
def gG:List K:=[.sl 5 fy,.int .i64,.sl 3 aK,.int .i64,.int .i64,.int .i64,.int .i64,.int .i64,.sl 5 fy]
def dG:List K:=[.str,.int .i64,.int .i64]
def cT:List K:=[.str,.str,.sl 5 fy]
def bw:List K:=[.str,.int .i64,.int .i64,.int .i64,.int .i64,.sl 157 dG,.int .i64,.int .i64,.sl 3 aK,.sl 3 aK,.sl 160 cT]
def de:List K:=[.int .i64,.sl 92 bw]
def fw:List K:=[.sl 5 fy,.int .i64,.sl 3 aK,.int .i64,.int .i64,.int .i64,.int .i64,.int .i64,.sl 5 fy]
def wM:List K:=[.str]
def dz:List K:=[.int .i64,.str]
def xD:List K:=[.str,.str,.str,.sl 3 aK]
def gD:List K:=[.sl 3 aK]
def D9:List K:=[.int .i64,.int .i64,.int .i64]
abbrev mG:=((List UInt8)×Int×Int×Unit)
def d204:mG:=([],0,0,())
abbrev R3:=(Int×Unit)
def d3:R3:=(0,())
abbrev R5:=(Int×Unit)
def d5:R5:=(0,())
abbrev kS:=((List UInt8)×(List UInt8)×(List R5)×Unit)
def d206:kS:=([],[],[],())
abbrev mA:=((List UInt8)×Int×Int×Int×Int×(List mG)×Int×Int×(List R3)×(List R3)×(List kS)×Unit)
def d124:mA:=([],0,0,0,0,[],0,0,[],[],[],())
abbrev sG:=(Int×(List mA)×Unit)
def d84:sG:=(0,[],())
abbrev qP:=((List R5)×Int×(List R3)×Int×Int×Int×Int×Int×(List R5)×Unit)
def d86:qP:=([],0,[],0,0,0,0,0,[],())
abbrev dj:=((List UInt8)×Int×Int×Unit)
def d157:dj:=([],0,0,())
abbrev di:=((List UInt8)×(List UInt8)×(List R5)×Unit)
def d160:di:=([],[],[],())
abbrev dp:=((List UInt8)×Int×Int×Int×Int×(List dj)×Int×Int×(List R3)×(List R3)×(List di)×Unit)
def d92:dp:=([],0,0,0,0,[],0,0,[],[],[],())
abbrev gk:=(Int×(List dp)×Unit)
def d67:gk:=(0,[],())
abbrev kQ:=((List R5)×Int×(List R3)×Int×Int×Int×Int×Int×(List R5)×Unit)
def d64:kQ:=([],0,[],0,0,0,0,0,[],())
abbrev R9:=((List UInt8)×Unit)
def d9:R9:=([],())
abbrev iw:=(Int×(List UInt8)×Unit)
def d178:iw:=(0,[],())
abbrev Eu:=((List UInt8)×(List UInt8)×(List UInt8)×(List R3)×Unit)
def d198:Eu:=([],[],[],[],())
abbrev EC:=((List R3)×Unit)
def d53:EC:=([],())
abbrev CC:=(Int×Int×Int×Unit)
def d232:CC:=(0,0,0,())
def tt:List (Nat×TI):=[(2,⟨false,[.int .i64],0,8,[]⟩),
 (3,⟨false,[.int .i64],0,8,[]⟩),
 (4,⟨false,[.bool],0,1,[]⟩),
 (5,⟨false,[.int .u8],0,1,[]⟩),
 (6,⟨false,[.int .u8],0,1,[]⟩),
 (7,⟨true,[.int .i64,.int .i64,.bool,.int .u8],0,24,[(0,2),(1,3),(2,4),(3,6)]⟩),
 (8,⟨true,[.int .i64,.int .i64,.bool,.int .u8],0,24,[(0,2),(1,3),(2,4),(3,6)]⟩),
 (9,⟨false,[.str],0,16,[]⟩),
 (10,⟨false,[.str],0,16,[]⟩),
 (11,⟨false,[.str],0,16,[]⟩),
 (12,⟨false,[.int .u64],0,8,[]⟩),
 (13,⟨true,[.str,.int .u64],0,24,[(0,9),(1,12)]⟩),
 (14,⟨true,[.str,.int .u64],0,24,[(0,9),(1,12)]⟩),
 (21,⟨false,[.int .i32],0,4,[]⟩),
 (22,⟨false,[.sl 84 nh],84,24,[]⟩),
 (23,⟨false,[.sl 86 gG],86,24,[]⟩),
 (24,⟨true,[.sl 84 nh,.int .i64,.int .i64,.sl 86 gG],0,64,[(0,22),(1,3),(2,3),(3,23)]⟩),
 (25,⟨true,[.sl 84 nh,.int .i64,.int .i64,.sl 86 gG],0,64,[(0,22),(1,3),(2,3),(3,23)]⟩),
 (28,⟨false,[.sl 67 de],67,24,[]⟩),
 (29,⟨false,[.sl 64 fw],64,24,[]⟩),
 (30,⟨true,[.sl 67 de,.int .i64,.int .i64,.sl 64 fw],0,64,[(0,28),(1,3),(2,3),(3,29)]⟩),
 (31,⟨true,[.sl 67 de,.int .i64,.int .i64,.sl 64 fw],0,64,[(0,28),(1,3),(2,3),(3,29)]⟩),
 (37,⟨false,[.sl 124 jS],124,24,[]⟩),
 (38,⟨true,[.sl 124 jS],0,24,[(0,37)]⟩),
 (39,⟨true,[.sl 124 jS],0,24,[(0,37)]⟩),
 (40,⟨true,[.sl 124 jS,.int .i64,.sl 84 nh,.int .i64,.int .i64,.sl 86 gG],0,96,[(0,39),(1,3),(2,25)]⟩),
 (41,⟨true,[.sl 124 jS,.int .i64,.sl 84 nh,.int .i64,.int .i64,.sl 86 gG],0,96,[(0,39),(1,3),(2,25)]⟩),
 (44,⟨false,[.sl 92 bw],92,24,[]⟩),
 (45,⟨true,[.sl 92 bw],0,24,[(0,44)]⟩),
 (46,⟨true,[.sl 92 bw],0,24,[(0,44)]⟩),
 (47,⟨true,[.sl 92 bw,.int .i64,.sl 67 de,.int .i64,.int .i64,.sl 64 fw],0,96,[(0,46),(1,3),(2,31)]⟩),
 (48,⟨true,[.sl 92 bw,.int .i64,.sl 67 de,.int .i64,.int .i64,.sl 64 fw],0,96,[(0,46),(1,3),(2,31)]⟩),
 (53,⟨false,[.sl 3 aK],3,24,[]⟩),
 (62,⟨false,[.sl 5 fy],5,24,[]⟩),
 (63,⟨true,[.sl 5 fy,.int .i64,.sl 3 aK,.int .i64,.int .i64,.int .i64,.int .i64,.int .i64,.sl 5 fy],0,120,[(0,62),(1,3),(2,53),(3,3),(4,3),(5,3),(6,3),(7,3),(8,62)]⟩),
 (64,⟨true,[.sl 5 fy,.int .i64,.sl 3 aK,.int .i64,.int .i64,.int .i64,.int .i64,.int .i64,.sl 5 fy],0,120,[(0,62),(1,3),(2,53),(3,3),(4,3),(5,3),(6,3),(7,3),(8,62)]⟩),
 (66,⟨true,[.int .i64,.sl 92 bw],0,32,[(0,3),(1,44)]⟩),
 (67,⟨true,[.int .i64,.sl 92 bw],0,32,[(0,3),(1,44)]⟩),
 (83,⟨true,[.int .i64,.sl 124 jS],0,32,[(0,3),(1,37)]⟩),
 (84,⟨true,[.int .i64,.sl 124 jS],0,32,[(0,3),(1,37)]⟩),
 (86,⟨true,[.sl 5 fy,.int .i64,.sl 3 aK,.int .i64,.int .i64,.int .i64,.int .i64,.int .i64,.sl 5 fy],0,120,[(0,62),(1,3),(2,53),(3,3),(4,3),(5,3),(6,3),(7,3),(8,62)]⟩),
 (87,⟨false,[.sl 157 dG],157,24,[]⟩),
 (88,⟨true,[.int .i64,.int .i64,.sl 3 aK,.sl 3 aK],0,64,[(0,3),(1,3),(2,53),(3,53)]⟩),
 (89,⟨true,[.int .i64,.int .i64,.sl 3 aK,.sl 3 aK],0,64,[(0,3),(1,3),(2,53),(3,53)]⟩),
 (90,⟨false,[.sl 160 cT],160,24,[]⟩),
 (91,⟨true,[.str,.int .i64,.int .i64,.int .i64,.int .i64,.sl 157 dG,.int .i64,.int .i64,.sl 3 aK,.sl 3 aK,.sl 160 cT],0,160,[(0,9),(1,3),(2,3),(3,3),(4,3),(5,87),(6,89),(10,90)]⟩),
 (92,⟨true,[.str,.int .i64,.int .i64,.int .i64,.int .i64,.sl 157 dG,.int .i64,.int .i64,.sl 3 aK,.sl 3 aK,.sl 160 cT],0,160,[(0,9),(1,3),(2,3),(3,3),(4,3),(5,87),(6,89),(10,90)]⟩),
 (111,⟨false,[.sl 9 wM],9,24,[]⟩),
 (120,⟨false,[.sl 204 jn],204,24,[]⟩),
 (121,⟨true,[.int .i64,.int .i64,.sl 3 aK,.sl 3 aK],0,64,[(0,3),(1,3),(2,53),(3,53)]⟩),
 (122,⟨false,[.sl 206 iy],206,24,[]⟩),
 (123,⟨true,[.str,.int .i64,.int .i64,.int .i64,.int .i64,.sl 204 jn,.int .i64,.int .i64,.sl 3 aK,.sl 3 aK,.sl 206 iy],0,160,[(0,9),(1,3),(2,3),(3,3),(4,3),(5,120),(6,121),(10,122)]⟩),
 (124,⟨true,[.str,.int .i64,.int .i64,.int .i64,.int .i64,.sl 204 jn,.int .i64,.int .i64,.sl 3 aK,.sl 3 aK,.sl 206 iy],0,160,[(0,9),(1,3),(2,3),(3,3),(4,3),(5,120),(6,121),(10,122)]⟩),
 (137,⟨false,[.sl 178 dz],178,24,[]⟩),
 (138,⟨true,[.str,.sl 178 dz],0,40,[(0,9),(1,137)]⟩),
 (139,⟨true,[.str,.sl 178 dz],0,40,[(0,9),(1,137)]⟩),
 (142,⟨true,[.int .i64,.str,.str,.str,.str,.str,.int .i64,.int .i64],0,104,[(0,3),(1,9),(2,9),(3,9),(4,9),(5,9),(6,3),(7,3)]⟩),
 (143,⟨true,[.int .i64,.str,.str,.str,.str,.str,.int .i64,.int .i64],0,104,[(0,3),(1,9),(2,9),(3,9),(4,9),(5,9),(6,3),(7,3)]⟩),
 (146,⟨false,[.int .u32],0,4,[]⟩),
 (156,⟨true,[.str,.int .i64,.int .i64],0,32,[(0,9),(1,3),(2,3)]⟩),
 (157,⟨true,[.str,.int .i64,.int .i64],0,32,[(0,9),(1,3),(2,3)]⟩),
 (159,⟨true,[.str,.str,.sl 5 fy],0,56,[(0,9),(1,9),(2,62)]⟩),
 (160,⟨true,[.str,.str,.sl 5 fy],0,56,[(0,9),(1,9),(2,62)]⟩),
 (177,⟨true,[.int .i64,.str],0,24,[(0,3),(1,9)]⟩),
 (178,⟨true,[.int .i64,.str],0,24,[(0,3),(1,9)]⟩),
 (192,⟨false,[.int .u64],0,8,[]⟩),
 (196,⟨false,[.sl 198 xD],198,24,[]⟩),
 (197,⟨true,[.str,.str,.str,.sl 3 aK],0,72,[(0,9),(1,9),(2,9),(3,53)]⟩),
 (198,⟨true,[.str,.str,.str,.sl 3 aK],0,72,[(0,9),(1,9),(2,9),(3,53)]⟩),
 (204,⟨true,[.str,.int .i64,.int .i64],0,32,[(0,9),(1,3),(2,3)]⟩),
 (206,⟨true,[.str,.str,.sl 5 fy],0,56,[(0,9),(1,9),(2,62)]⟩),
 (209,⟨false,[.sl 53 gD],53,24,[]⟩),
 (219,⟨false,[.int .i64],0,8,[]⟩),
 (228,⟨false,[.int .u64],0,8,[]⟩),
 (231,⟨true,[.int .i64,.int .i64,.int .i64],0,24,[(0,3),(1,3),(2,3)]⟩),
 (232,⟨true,[.int .i64,.int .i64,.int .i64],0,24,[(0,3),(1,3),(2,3)]⟩),
 (246,⟨false,[.int .u64],0,8,[]⟩),
 (252,⟨false,[.sl 232 D9],232,24,[]⟩),
 (267,⟨false,[.int .i64],0,8,[]⟩),
 (287,⟨true,[.str],0,16,[(0,9)]⟩),
 (288,⟨true,[.str],0,16,[(0,9)]⟩),
 (293,⟨true,[.int .u8,.int .u8],0,2,[(0,5),(1,5)]⟩),
 (294,⟨true,[.int .u8,.int .u8],0,2,[(0,5),(1,5)]⟩),
 (312,⟨false,[.int .u8],0,1,[]⟩),
 (313,⟨false,[.int .u8],0,1,[]⟩),
 (315,⟨false,[.int .i32],0,4,[]⟩),
 (316,⟨false,[.int .i32],0,4,[]⟩)]
def E0:En:=⟨0,tt,fun _=>[],[],fun _=>none,[],fun _=>none⟩
theorem hT:bF Tryz.prog E0:=KG (by kernel_rfl)
theorem eH:Tryz.prog.follows .mixedOrders=true:=by kernel_rfl
theorem fl {f:Nat} {s:Su} {l:List (Nat×Su)} (hl:pT Tryz.prog l) (ρ:List SE) (los:List (Nat×Lo ρ)) (pins:List Nat) (fn:Func)
 (hlo:QG Tryz.prog (FY fn.ntmps tt l ρ los pins) (ah fn) (ah fn))
 (h : (Tryz.prog.funcs[f]?, (fn.name == "runtime.NumGoroutine"), fn.body.isSome) = (some fn, false, true) := by kernel_rfl)
 (ht:∀ x,(Es (FY fn.ntmps tt l ρ los pins) (ah fn) fn.results.toList s.ps s.rs s.fresh x).run=s.sg x:=by intro x; kernel_rfl):ar Tryz.prog f s:=by
 simp only [Prod.mk.injEq] at h
 exact Yg hT eH hl (fn:=fn) (by rw [h.1,h.2.1,h.2.2]) hlo ht
theorem fq {f:Nat} {s:Su} {l:List (Nat×Su)} (hl:pT Tryz.prog l) (fn:Func)
 (h : (Tryz.prog.funcs[f]?, (fn.name == "runtime.NumGoroutine"), fn.body.isSome, dx (fun _ => false) (ah fn)) = (some fn, false, true, []) := by kernel_rfl)
 (ht:∀ x,(Es (FY fn.ntmps tt l [] [] []) (ah fn) fn.results.toList s.ps s.rs s.fresh x).run=s.sg x:=by intro x; kernel_rfl):ar Tryz.prog f s:=by
 simp only [Prod.mk.injEq] at h
 exact Yg hT eH hl (fn:=fn) (by rw [h.1,h.2.1,h.2.2.1]) (lp (n:=fn.ntmps) (tt:=tt) (l:=l) (ρ:=[]) (los:=[]) (pins:=[]) [] sn h.2.2.2) ht
def nk:List UInt8:=[0,1,2,2,3,3,3,3,4,4,4,4,4,4,4,4,5,5,5,5,5,5,5,5,5,5,5,5,5,5,5,5,6,6,6,6,6,6,6,6,6,6,6,6,6,6,6,6,6,6,6,6,6,6,6,6,6,6,6,6,6,6,6,6,7,7,7,7,7,7,7,7,7,7,7,7,7,7,7,7,7,7,7,7,7,7,7,7,7,7,7,7,7,7,7,7,7,7,7,7,7,7,7,7,7,7,7,7,7,7,7,7,7,7,7,7,7,7,7,7,7,7,7,7,7,7,7,7,8,8,8,8,8,8,8,8,8,8,8,8,8,8,8,8,8,8,8,8,8,8,8,8,8,8,8,8,8,8,8,8,8,8,8,8,8,8,8,8,8,8,8,8,8,8,8,8,8,8,8,8,8,8,8,8,8,8,8,8,8,8,8,8,8,8,8,8,8,8,8,8,8,8,8,8,8,8,8,8,8,8,8,8,8,8,8,8,8,8,8,8,8,8,8,8,8,8,8,8,8,8,8,8,8,8,8,8,8,8,8,8,8,8,8,8,8,8,8,8,8,8,8,8,8,8,8,8]
abbrev Y0:=Int×Unit
abbrev Y1:=Bool×Unit
abbrev Y4:=(List dp)×Unit
abbrev Y6:=(List UInt8)×Unit
abbrev Y8:=Int×(List dp)×Unit
abbrev QF:=(List UInt8)×Int×Unit
abbrev jX:=Unit×(Y0×Unit)
abbrev dZ:=Unit×(Y1×Unit)
abbrev Wd:=(List R3)×Int×Bool×Unit
abbrev Qi:=(List UInt8)×Int×Int×Unit
abbrev Di:=(List UInt8)×(List iw)×Unit
abbrev SJ:=Unit×(((List R9)×Unit)×Unit)
abbrev Nx:=Unit×(EC×Unit)
abbrev U3:=(((List R9)×Unit)×Unit)×Unit
abbrev VL:=(EC×Unit)×Unit
abbrev RG:=Unit×(Y4×Unit)
abbrev Nz:=(Y4×Unit)×Unit
abbrev XB:=Unit×(((List di)×Unit)×Unit)
abbrev NZ:=Unit×(Y6×Unit)
abbrev Vh:=(List dp)×Int×Unit×Int×Int×Unit
abbrev ND:=(List gk)×Int×Int×(List kQ)×Unit
abbrev WA:=Unit×(Y0×Y1×Unit)
abbrev Uw:=(List di)×(List di)×Int×Int×Unit
abbrev Ux:=Int×Di×Unit
abbrev Wi:=Unit×((Int×Int×(List R3)×(List R3)×Unit)×Unit)
abbrev WR:=Unit×(EC×Y0×Y1×Unit)
abbrev UH:=Unit×(Y6×Y0×Y1×Unit)
abbrev S0:=Int×(List UInt8)×(List UInt8)×(List UInt8)×(List UInt8)×(List UInt8)×Int×Int×Unit
abbrev Wc:=Unit×(dp×Unit)
section
open Go.Shelf Go.RowKit Go.Lib
def sρ:Ren:=⟨fun | 129=>222 | 171=>275 | 172=>229 | 205=>274 | 243=>281 | 244=>252 | 245=>253 | 246=>287 | 247=>263 | 279=>264 | 280=>265 | 281=>266 | 282=>267 | 283=>289 | 284=>290 | 285=>291 | 286=>292 | 287=>272 | 316=>273 | 317=>294 | 318=>295 | 319=>296 | 320=>297 | 321=>279 | 322=>280 | 337=>298 | 338=>299 | n=>n,fun | 0=>0 | 2=>2 | 3=>3 | 4=>4 | 5=>5 | 9=>9 | 20=>20 | 21=>21 | 37=>62 | 46=>192 | 51=>146 | 53=>228 | 75=>235 | 76=>236 | 80=>305 | 85=>268 | 127=>285 | 143=>286 | 145=>288 | 167=>267 | 168=>270 | 171=>296 | 173=>298 | 175=>278 | 210=>281 | 212=>301 | 213=>302 | 232=>303 | 233=>304 | n=>n,fun | 15=>0 | 16=>1 | 17=>5 | 18=>6 | 19=>7 | n=>n⟩
theorem uO:LaysC.n172 Tryz.prog sρ:={ mixed:=by kernel_rfl,f129:=by kernel_rfl,f171:=by kernel_rfl,f172:=by kernel_rfl,f205:=by kernel_rfl,f243:=by kernel_rfl,f244:=by kernel_rfl,f245:=by kernel_rfl,f246:=by kernel_rfl,f247:=by kernel_rfl,f279:=by kernel_rfl,f280:=by kernel_rfl,f281:=by kernel_rfl,f282:=by kernel_rfl,f283:=by kernel_rfl,f284:=by kernel_rfl,f285:=by kernel_rfl,f286:=by kernel_rfl,f287:=by kernel_rfl,f316:=by kernel_rfl,f317:=by kernel_rfl,f318:=by kernel_rfl,f319:=by kernel_rfl,f320:=by kernel_rfl,f321:=by kernel_rfl,f322:=by kernel_rfl,f337:=by kernel_rfl,f338:=by kernel_rfl,t0:=by kernel_rfl,a0:=fun _=>by kernel_rfl,z0:=fun _=>by kernel_rfl,v0:=fun _=>by kernel_rfl,t2:=by kernel_rfl,a2:=fun _=>by kernel_rfl,z2:=fun _=>by kernel_rfl,v2:=fun _=>by kernel_rfl,t3:=by kernel_rfl,a3:=fun _=>by kernel_rfl,z3:=fun _=>by kernel_rfl,v3:=fun _=>by kernel_rfl,t4:=by kernel_rfl,a4:=fun _=>by kernel_rfl,z4:=fun _=>by kernel_rfl,v4:=fun _=>by kernel_rfl,t5:=by kernel_rfl,a5:=fun _=>by kernel_rfl,z5:=fun _=>by kernel_rfl,v5:=fun _=>by kernel_rfl,t9:=by kernel_rfl,a9:=fun _=>by kernel_rfl,z9:=fun _=>by kernel_rfl,v9:=fun _=>by kernel_rfl,t20:=by kernel_rfl,a20:=fun _=>by kernel_rfl,z20:=fun _=>by kernel_rfl,v20:=fun _=>by kernel_rfl,t21:=by kernel_rfl,a21:=fun _=>by kernel_rfl,z21:=fun _=>by kernel_rfl,v21:=fun _=>by kernel_rfl,t37:=by kernel_rfl,a37:=fun _=>by kernel_rfl,z37:=fun _=>by kernel_rfl,v37:=fun _=>by kernel_rfl,t46:=by kernel_rfl,a46:=fun _=>by kernel_rfl,z46:=fun _=>by kernel_rfl,v46:=fun _=>by kernel_rfl,t51:=by kernel_rfl,a51:=fun _=>by kernel_rfl,z51:=fun _=>by kernel_rfl,v51:=fun _=>by kernel_rfl,t53:=by kernel_rfl,a53:=fun _=>by kernel_rfl,z53:=fun _=>by kernel_rfl,v53:=fun _=>by kernel_rfl,t75:=by kernel_rfl,a75:=fun _=>by kernel_rfl,z75:=fun _=>by kernel_rfl,v75:=fun _=>by kernel_rfl,t76:=by kernel_rfl,a76:=fun _=>by kernel_rfl,z76:=fun _=>by kernel_rfl,v76:=fun _=>by kernel_rfl,t85:=by kernel_rfl,a85:=fun _=>by kernel_rfl,z85:=fun _=>by kernel_rfl,v85:=fun _=>by kernel_rfl,t127:=by kernel_rfl,a127:=fun _=>by kernel_rfl,z127:=fun _=>by kernel_rfl,v127:=fun _=>by kernel_rfl,t143:=by kernel_rfl,a143:=fun _=>by kernel_rfl,z143:=fun _=>by kernel_rfl,v143:=fun _=>by kernel_rfl,t145:=by kernel_rfl,a145:=fun _=>by kernel_rfl,z145:=fun _=>by kernel_rfl,v145:=fun _=>by kernel_rfl,t167:=by kernel_rfl,a167:=fun _=>by kernel_rfl,z167:=fun _=>by kernel_rfl,v167:=fun _=>by kernel_rfl,t168:=by kernel_rfl,a168:=fun _=>by kernel_rfl,z168:=fun _=>by kernel_rfl,v168:=fun _=>by kernel_rfl,t171:=by kernel_rfl,a171:=fun _=>by kernel_rfl,z171:=fun _=>by kernel_rfl,v171:=fun _=>by kernel_rfl,t173:=by kernel_rfl,a173:=fun _=>by kernel_rfl,z173:=fun _=>by kernel_rfl,v173:=fun _=>by kernel_rfl,t175:=by kernel_rfl,a175:=fun _=>by kernel_rfl,z175:=fun _=>by kernel_rfl,v175:=fun _=>by kernel_rfl,t210:=by kernel_rfl,a210:=fun _=>by kernel_rfl,z210:=fun _=>by kernel_rfl,v210:=fun _=>by kernel_rfl,t212:=by kernel_rfl,a212:=fun _=>by kernel_rfl,z212:=fun _=>by kernel_rfl,v212:=fun _=>by kernel_rfl,t213:=by kernel_rfl,a213:=fun _=>by kernel_rfl,z213:=fun _=>by kernel_rfl,t232:=by kernel_rfl,a232:=fun _=>by kernel_rfl,z232:=fun _=>by kernel_rfl,v232:=fun _=>by kernel_rfl,t233:=by kernel_rfl,a233:=fun _=>by kernel_rfl,z233:=fun _=>by kernel_rfl,v233:=fun _=>by kernel_rfl,g15:=by kernel_rfl,g16:=by kernel_rfl,g17:=by kernel_rfl,g18:=by kernel_rfl,g19:=by kernel_rfl,t80:=by kernel_rfl,a80:=fun _=>by kernel_rfl,z80:=fun _=>by kernel_rfl,v80:=fun _=>by kernel_rfl,i0:=by kernel_rfl,i2:=by kernel_rfl,i3:=by kernel_rfl,i4:=by kernel_rfl,i5:=by kernel_rfl,i9:=by kernel_rfl,i20:=by kernel_rfl,i21:=by kernel_rfl,i37:=by kernel_rfl,i46:=by kernel_rfl,i51:=by kernel_rfl,i53:=by kernel_rfl,i75:=by kernel_rfl,i76:=by kernel_rfl,i80:=by kernel_rfl,i85:=by kernel_rfl,i127:=by kernel_rfl,i143:=by kernel_rfl,i145:=by kernel_rfl,i167:=by kernel_rfl,i168:=by kernel_rfl,i171:=by kernel_rfl,i173:=by kernel_rfl,i175:=by kernel_rfl,i210:=by kernel_rfl,i212:=by kernel_rfl,i232:=by kernel_rfl,i233:=by kernel_rfl,m15:=by kernel_rfl,m16:=by kernel_rfl,m17:=by kernel_rfl,m18:=by kernel_rfl,m19:=by kernel_rfl,c0:=by kernel_rfl,c2:=by kernel_rfl,c3:=by kernel_rfl,c4:=by kernel_rfl,c5:=by kernel_rfl,c9:=by kernel_rfl,c20:=by kernel_rfl,c21:=by kernel_rfl,c37:=by kernel_rfl,c46:=by kernel_rfl,c51:=by kernel_rfl,c53:=by kernel_rfl,c75:=by kernel_rfl,c76:=by kernel_rfl,c80:=by kernel_rfl,c85:=by kernel_rfl,c127:=by kernel_rfl,c143:=by kernel_rfl,c145:=by kernel_rfl,c167:=by kernel_rfl,c168:=by kernel_rfl,c171:=by kernel_rfl,c173:=by kernel_rfl,c175:=by kernel_rfl,c210:=by kernel_rfl,c212:=by kernel_rfl,c213:=by kernel_rfl,c232:=by kernel_rfl,c233:=by kernel_rfl }
end
def Le (p0:(List UInt8)×Int×Int×Unit) (p1:Int):Option jX :=
 let u1:=(aG .i64 p1 (ae p0.1))
 cond (au u1 0) (
 some ((),(((-1),()),()))
 ) (
 some ((),((u1,()),()))
 )
def Xw:Su:=⟨[.c true jn,.c false aK],[(false,aK)],true,.inl fun x=>Le x.1 x.2.1.1⟩
theorem TD:ar Tryz.prog 183 Xw :=
 fq an Tryz.f183
def o8 (t0:List mG) (t1 t5:Int):Rd ((List mG)×Int×Int×Unit) Y0 :=
 cond (au t5 (ae t0)) (
 cond (a7 t5 t0) (
 (Le (gt d204 t0 t5) t1).bind fun y1 =>
 cond (au y1.2.1.1 0) (
 some (.inr (.inr ((-1),())))
 ) (
 some (.inl (t0,y1.2.1.1,(aq .i64 t5 1),()))
 )
 ) none
 ) (
 some (.inr (.inl (t0,t1,t5,())))
 )
def Jx:=pJ (ai (fb o8))
def J6 (p0:List mG) (p1:Int):Option jX :=
 let u1:=(aG .i64 p1 (ae p0))
 cond (au u1 0) (
 some ((),(((-1),()),()))
 ) (
 (Jx p0 u1 0).bind (Sum.elim (fun y1 =>
 some ((),((y1.2.1,()),()))
 ) (fun y1 =>
 some ((),(y1,()))
 ))
 )
def Vw:Su:=⟨[.c false [.sl 204 jn],.c false aK],[(false,aK)],true,.inl fun x=>J6 x.1.1 x.2.1.1⟩
theorem Tb:ar Tryz.prog 130 Vw :=
 fl (ac TD an) [.d 4 (.int .i64)] [(0,⟨[.d 0 (.sl 204 jn),.d 1 (.int .i64),.d 5 (.int .i64)],ai (fb o8)⟩)] [] Tryz.f130 (lp [0] (sc dn sn))
def Qg (p0:List R3) (p1:Int):Option jX :=
 let u1:=(aG .i64 p1 (ae p0))
 cond (au u1 0) (
 some ((),(((-1),()),()))
 ) (
 some ((),((u1,()),()))
 )
def ZA:Su:=⟨[.c false gD,.c false aK],[(false,aK)],true,.inl fun x=>Qg x.1.1 x.2.1.1⟩
theorem T8:ar Tryz.prog 83 ZA :=
 fq an Tryz.f83
def LO (p0:Int×Int×(List R3)×(List R3)×Unit) (p1:Int):Option jX :=
 (Qg p0.2.2.1 p1).bind fun y1 =>
 cond (au y1.2.1.1 0) (
 some ((),(((-1),()),()))
 ) (
 (Qg p0.2.2.2.1 y1.2.1.1).bind fun y2 =>
 cond (au y2.2.1.1 0) (
 some ((),(((-1),()),()))
 ) (
 some ((),(y2.2.1,()))
 )
 )
def W0:Su:=⟨[.c true [.int .i64,.int .i64,.sl 3 aK,.sl 3 aK],.c false aK],[(false,aK)],true,.inl fun x=>LO x.1 x.2.1.1⟩
theorem QK:ar Tryz.prog 131 W0 :=
 fq (ac T8 an) Tryz.f131
def Qn (p0:List R5) (p1:Int):Option jX :=
 let u1:=(aG .i64 p1 (ae p0))
 cond (au u1 0) (
 some ((),(((-1),()),()))
 ) (
 some ((),((u1,()),()))
 )
def YS:Su:=⟨[.c false [.sl 5 fy],.c false aK],[(false,aK)],true,.inl fun x=>Qn x.1.1 x.2.1.1⟩
theorem Rz:ar Tryz.prog 82 YS :=
 fq an Tryz.f82
def LS (p0:(List UInt8)×(List UInt8)×(List R5)×Unit) (p1:Int):Option jX :=
 let u1:=(aG .i64 p1 (ae p0.1))
 cond (au u1 0) (
 some ((),(((-1),()),()))
 ) (
 let u2:=(aG .i64 u1 (ae p0.2.1))
 cond (au u2 0) (
 some ((),(((-1),()),()))
 ) (
 (Qn p0.2.2.1 u2).bind fun y1 =>
 cond (au y1.2.1.1 0) (
 some ((),(((-1),()),()))
 ) (
 some ((),(y1.2.1,()))
 )
 )
 )
def V3:Su:=⟨[.c true iy,.c false aK],[(false,aK)],true,.inl fun x=>LS x.1 x.2.1.1⟩
theorem TG:ar Tryz.prog 184 V3 :=
 fq (ac Rz an) Tryz.f184
def oG (t0:List kS) (t1 t5:Int):Rd ((List kS)×Int×Int×Unit) Y0 :=
 cond (au t5 (ae t0)) (
 cond (a7 t5 t0) (
 (LS (gt d206 t0 t5) t1).bind fun y1 =>
 cond (au y1.2.1.1 0) (
 some (.inr (.inr ((-1),())))
 ) (
 some (.inl (t0,y1.2.1.1,(aq .i64 t5 1),()))
 )
 ) none
 ) (
 some (.inr (.inl (t0,t1,t5,())))
 )
def GQ:=pJ (ai (fb oG))
def Ly (p0:List kS) (p1:Int):Option jX :=
 let u1:=(aG .i64 p1 (ae p0))
 cond (au u1 0) (
 some ((),(((-1),()),()))
 ) (
 (GQ p0 u1 0).bind (Sum.elim (fun y1 =>
 some ((),((y1.2.1,()),()))
 ) (fun y1 =>
 some ((),(y1,()))
 ))
 )
def XV:Su:=⟨[.c false [.sl 206 iy],.c false aK],[(false,aK)],true,.inl fun x=>Ly x.1.1 x.2.1.1⟩
theorem So:ar Tryz.prog 132 XV :=
 fl (ac TG an) [.d 4 (.int .i64)] [(0,⟨[.d 0 (.sl 206 iy),.d 1 (.int .i64),.d 5 (.int .i64)],ai (fb oG)⟩)] [] Tryz.f132 (lp [0] (sc dn sn))
def UD (p0:(List UInt8)×Int×Int×Int×Int×(List mG)×Int×Int×(List R3)×(List R3)×(List kS)×Unit) (p1:Int):Option jX :=
 let u1:=(aG .i64 p1 (ae p0.1))
 cond (au u1 0) (
 some ((),(((-1),()),()))
 ) (
 (J6 p0.2.2.2.2.2.1 u1).bind fun y1 =>
 cond (au y1.2.1.1 0) (
 some ((),(((-1),()),()))
 ) (
 (LO (p0.2.2.2.2.2.2.1,p0.2.2.2.2.2.2.2.1,p0.2.2.2.2.2.2.2.2.1,p0.2.2.2.2.2.2.2.2.2.1,()) y1.2.1.1).bind fun y2 =>
 cond (au y2.2.1.1 0) (
 some ((),(((-1),()),()))
 ) (
 (Ly p0.2.2.2.2.2.2.2.2.2.2.1 y2.2.1.1).bind fun y3 =>
 cond (au y3.2.1.1 0) (
 some ((),(((-1),()),()))
 ) (
 some ((),(y3.2.1,()))
 )
 )
 )
 )
def YN:Su:=⟨[.c true jS,.c false aK],[(false,aK)],true,.inl fun x=>UD x.1 x.2.1.1⟩
theorem XT:ar Tryz.prog 97 YN :=
 fq (ac Tb (ac QK (ac So an))) Tryz.f97
def uD (t0:List mA) (t1 t5:Int):Rd ((List mA)×Int×Int×Unit) Y0 :=
 cond (au t5 (ae t0)) (
 cond (a7 t5 t0) (
 (UD (gt d124 t0 t5) t1).bind fun y1 =>
 cond (au y1.2.1.1 0) (
 some (.inr (.inr ((-1),())))
 ) (
 some (.inl (t0,y1.2.1.1,(aq .i64 t5 1),()))
 )
 ) none
 ) (
 some (.inr (.inl (t0,t1,t5,())))
 )
def MH:=pJ (ai (fb uD))
def UA (p0:List mA) (p1:Int):Option jX :=
 let u1:=(aG .i64 p1 (ae p0))
 cond (au u1 0) (
 some ((),(((-1),()),()))
 ) (
 (MH p0 u1 0).bind (Sum.elim (fun y1 =>
 some ((),((y1.2.1,()),()))
 ) (fun y1 =>
 some ((),(y1,()))
 ))
 )
def YK:Su:=⟨[.c false [.sl 124 jS],.c false aK],[(false,aK)],true,.inl fun x=>UA x.1.1 x.2.1.1⟩
theorem XY:ar Tryz.prog 75 YK :=
 fl (ac XT an) [.d 4 (.int .i64)] [(0,⟨[.d 0 (.sl 124 jS),.d 1 (.int .i64),.d 5 (.int .i64)],ai (fb uD)⟩)] [] Tryz.f75 (lp [0] (sc dn sn))
def UG (p0:Int×(List mA)×Unit) (p1:Int):Option jX :=
 (UA p0.2.1 p1).bind fun y1 =>
 cond (au y1.2.1.1 0) (
 some ((),(((-1),()),()))
 ) (
 some ((),(y1.2.1,()))
 )
def Zx:Su:=⟨[.c true nh,.c false aK],[(false,aK)],true,.inl fun x=>UG x.1 x.2.1.1⟩
theorem V1:ar Tryz.prog 57 Zx :=
 fq (ac XY an) Tryz.f57
def wj (t0:List sG) (t1 t5:Int):Rd ((List sG)×Int×Int×Unit) Y0 :=
 cond (au t5 (ae t0)) (
 cond (a7 t5 t0) (
 (UG (gt d84 t0 t5) t1).bind fun y1 =>
 cond (au y1.2.1.1 0) (
 some (.inr (.inr ((-1),())))
 ) (
 some (.inl (t0,y1.2.1.1,(aq .i64 t5 1),()))
 )
 ) none
 ) (
 some (.inr (.inl (t0,t1,t5,())))
 )
def Mn:=pJ (ai (fb wj))
def Up (p0:List sG) (p1:Int):Option jX :=
 let u1:=(aG .i64 p1 (ae p0))
 cond (au u1 0) (
 some ((),(((-1),()),()))
 ) (
 (Mn p0 u1 0).bind (Sum.elim (fun y1 =>
 some ((),((y1.2.1,()),()))
 ) (fun y1 =>
 some ((),(y1,()))
 ))
 )
def Zz:Su:=⟨[.c false [.sl 84 nh],.c false aK],[(false,aK)],true,.inl fun x=>Up x.1.1 x.2.1.1⟩
theorem VD:ar Tryz.prog 28 Zz :=
 fl (ac V1 an) [.d 4 (.int .i64)] [(0,⟨[.d 0 (.sl 84 nh),.d 1 (.int .i64),.d 5 (.int .i64)],ai (fb wj)⟩)] [] Tryz.f28 (lp [0] (sc dn sn))
def Ug (p0:(List R5)×Int×(List R3)×Int×Int×Int×Int×Int×(List R5)×Unit) (p1:Int):Option jX :=
 (Qn p0.1 p1).bind fun y1 =>
 cond (au y1.2.1.1 0) (
 some ((),(((-1),()),()))
 ) (
 (Qg p0.2.2.1 y1.2.1.1).bind fun y2 =>
 cond (au y2.2.1.1 0) (
 some ((),(((-1),()),()))
 ) (
 (Qn p0.2.2.2.2.2.2.2.2.1 y2.2.1.1).bind fun y3 =>
 cond (au y3.2.1.1 0) (
 some ((),(((-1),()),()))
 ) (
 some ((),(y3.2.1,()))
 )
 )
 )
def Zi:Su:=⟨[.c true gG,.c false aK],[(false,aK)],true,.inl fun x=>Ug x.1 x.2.1.1⟩
theorem X6:ar Tryz.prog 58 Zi :=
 fq (ac T8 (ac Rz an)) Tryz.f58
def wJ (t0:List qP) (t1 t5:Int):Rd ((List qP)×Int×Int×Unit) Y0 :=
 cond (au t5 (ae t0)) (
 cond (a7 t5 t0) (
 (Ug (gt d86 t0 t5) t1).bind fun y1 =>
 cond (au y1.2.1.1 0) (
 some (.inr (.inr ((-1),())))
 ) (
 some (.inl (t0,y1.2.1.1,(aq .i64 t5 1),()))
 )
 ) none
 ) (
 some (.inr (.inl (t0,t1,t5,())))
 )
def Ma:=pJ (ai (fb wJ))
def UK (p0:List qP) (p1:Int):Option jX :=
 let u1:=(aG .i64 p1 (ae p0))
 cond (au u1 0) (
 some ((),(((-1),()),()))
 ) (
 (Ma p0 u1 0).bind (Sum.elim (fun y1 =>
 some ((),((y1.2.1,()),()))
 ) (fun y1 =>
 some ((),(y1,()))
 ))
 )
def YV:Su:=⟨[.c false [.sl 86 gG],.c false aK],[(false,aK)],true,.inl fun x=>UK x.1.1 x.2.1.1⟩
theorem Vx:ar Tryz.prog 29 YV :=
 fl (ac X6 an) [.d 4 (.int .i64)] [(0,⟨[.d 0 (.sl 86 gG),.d 1 (.int .i64),.d 5 (.int .i64)],ai (fb wJ)⟩)] [] Tryz.f29 (lp [0] (sc dn sn))
def g8 (p0:(List sG)×Int×Int×(List qP)×Unit) (p1:Int):Option jX :=
 (Up p0.1 p1).bind fun y1 =>
 cond (au y1.2.1.1 0) (
 some ((),(((-1),()),()))
 ) (
 (UK p0.2.2.2.1 y1.2.1.1).bind fun y2 =>
 cond (au y2.2.1.1 0) (
 some ((),(((-1),()),()))
 ) (
 some ((),(y2.2.1,()))
 )
 )
def s8:Su:=⟨[.c true [.sl 84 nh,.int .i64,.int .i64,.sl 86 gG],.c false aK],[(false,aK)],true,.inl fun x=>g8 x.1 x.2.1.1⟩
theorem Za:ar Tryz.prog 8 s8 :=
 fq (ac VD (ac Vx an)) Tryz.f8
def LH (p0:(List UInt8)×Int×Int×Unit):Option (Unit×(Qi×Unit)) :=
 some ((),(p0,()))
def Xa:Su:=⟨[.c true jn],[(true,jn)],true,.inl fun x=>LH x.1⟩
theorem Rr:ar Tryz.prog 188 Xa :=
 fq an Tryz.f188
def po (t0:List mG) (t3:List dj) (t4:Int):Rd ((List mG)×(List dj)×Int×Unit) Unit :=
 cond (au t4 (ae t0)) (
 cond (a7 t4 t0) (
 (LH (gt d204 t0 t4)).bind fun y1 =>
 cond (a7 t4 t3) (
 let u1:=(gt d157 t3 t4)
 let u2:=(zE t3 t4 (y1.2.1.1,u1.2.1,u1.2.2.1,()))
 let u3:=(gt d157 u2 t4)
 let u4:=(zE u2 t4 (u3.1,y1.2.1.2.1,u3.2.2.1,()))
 let u5:=(gt d157 u4 t4)
 some (.inl (t0,(zE u4 t4 (u5.1,u5.2.1,y1.2.1.2.2.1,())),(aq .i64 t4 1),()))
 ) none
 ) none
 ) (
 some (.inr (.inl (t0,t3,t4,())))
 )
def I3:=pJ (ai (fb po))
def LG (p0:List mG):Option (Unit×(((List dj)×Unit)×Unit)) :=
 let u1:=(ae p0)
 cond (Lw 32 u1) (
 (I3 p0 (u0 d157 u1) 0).bind (Sum.elim (fun y1 =>
 some ((),((y1.2.1,()),()))
 ) (fun y1 =>
 none
 ))
 ) none
def WV:Su:=⟨[.c false [.sl 204 jn]],[(false,[.sl 157 dG])],true,.inl fun x=>LG x.1.1⟩
theorem T0:ar Tryz.prog 138 WV :=
 fl (ac Rr an) [] [(0,⟨[.d 0 (.sl 204 jn),.own 3 (.sl 157 dG),.d 4 (.int .i64)],ai (fb po)⟩)] [] Tryz.f138 (lp [0] (sc dn sn))
def vH (t0 t3:List R3) (t4:Int):Rd ((List R3)×(List R3)×Int×Unit) Unit :=
 cond (au t4 (ae t0)) (
 cond (a7 t4 t0) (
 cond (a7 t4 t3) (
 some (.inl (t0,(zE t3 t4 (gt d3 t0 t4)),(aq .i64 t4 1),()))
 ) none
 ) none
 ) (
 some (.inr (.inl (t0,t3,t4,())))
 )
def Nk:=pJ (ai (fb vH))
def Qm (p0:List R3):Option Nx :=
 let u1:=(ae p0)
 cond (Lw 8 u1) (
 (Nk p0 (u0 d3 u1) 0).bind (Sum.elim (fun y1 =>
 some ((),((y1.2.1,()),()))
 ) (fun y1 =>
 none
 ))
 ) none
def Zv:Su:=⟨[.c false gD],[(false,gD)],true,.inl fun x=>Qm x.1.1⟩
theorem TE:ar Tryz.prog 89 Zv :=
 fl an [] [(0,⟨[.d 0 (.sl 3 aK),.own 3 (.sl 3 aK),.d 4 (.int .i64)],ai (fb vH)⟩)] [] Tryz.f89 (lp [0] (sc dn sn))
def JV (p0:Int×Int×(List R3)×(List R3)×Unit):Option Wi :=
 (Qm p0.2.2.1).bind fun y1 =>
 (Qm p0.2.2.2.1).bind fun y2 =>
 some ((),((p0.1,p0.2.1,y1.2.1.1,y2.2.1.1,()),()))
def We:Su:=⟨[.c true [.int .i64,.int .i64,.sl 3 aK,.sl 3 aK]],[(true,[.int .i64,.int .i64,.sl 3 aK,.sl 3 aK])],true,.inl fun x=>JV x.1⟩
theorem TL:ar Tryz.prog 139 We :=
 fq (ac TE an) Tryz.f139
def uz (t0 t3:List R5) (t4:Int):Rd ((List R5)×(List R5)×Int×Unit) Unit :=
 cond (au t4 (ae t0)) (
 cond (a7 t4 t0) (
 cond (a7 t4 t3) (
 some (.inl (t0,(zE t3 t4 (gt d5 t0 t4)),(aq .i64 t4 1),()))
 ) none
 ) none
 ) (
 some (.inr (.inl (t0,t3,t4,())))
 )
def NC:=pJ (ai (fb uz))
def Qk (p0:List R5):Option (Unit×(((List R5)×Unit)×Unit)) :=
 let u1:=(ae p0)
 cond (Lw 1 u1) (
 (NC p0 (u0 d5 u1) 0).bind (Sum.elim (fun y1 =>
 some ((),((y1.2.1,()),()))
 ) (fun y1 =>
 none
 ))
 ) none
def YW:Su:=⟨[.c false [.sl 5 fy]],[(false,[.sl 5 fy])],true,.inl fun x=>Qk x.1.1⟩
theorem Tx:ar Tryz.prog 88 YW :=
 fl an [] [(0,⟨[.d 0 (.sl 5 fy),.own 3 (.sl 5 fy),.d 4 (.int .i64)],ai (fb uz)⟩)] [] Tryz.f88 (lp [0] (sc dn sn))
def Lu (p0:(List UInt8)×(List UInt8)×(List R5)×Unit):Option (Unit×(kS×Unit)) :=
 (Qk p0.2.2.1).bind fun y1 =>
 some ((),((p0.1,p0.2.1,y1.2.1.1,()),()))
def WD:Su:=⟨[.c true iy],[(true,iy)],true,.inl fun x=>Lu x.1⟩
theorem T5:ar Tryz.prog 189 WD :=
 fq (ac Tx an) Tryz.f189
def oB (t0:List kS) (t3:List di) (t4:Int):Rd ((List kS)×(List di)×Int×Unit) Unit :=
 cond (au t4 (ae t0)) (
 cond (a7 t4 t0) (
 (Lu (gt d206 t0 t4)).bind fun y1 =>
 cond (a7 t4 t3) (
 let u1:=(gt d160 t3 t4)
 let u2:=(zE t3 t4 (y1.2.1.1,u1.2.1,u1.2.2.1,()))
 let u3:=(gt d160 u2 t4)
 let u4:=(zE u2 t4 (u3.1,y1.2.1.2.1,u3.2.2.1,()))
 let u5:=(gt d160 u4 t4)
 some (.inl (t0,(zE u4 t4 (u5.1,u5.2.1,y1.2.1.2.2.1,())),(aq .i64 t4 1),()))
 ) none
 ) none
 ) (
 some (.inr (.inl (t0,t3,t4,())))
 )
def Ic:=pJ (ai (fb oB))
def J1 (p0:List kS):Option XB :=
 let u1:=(ae p0)
 cond (Lw 56 u1) (
 (Ic p0 (u0 d160 u1) 0).bind (Sum.elim (fun y1 =>
 some ((),((y1.2.1,()),()))
 ) (fun y1 =>
 none
 ))
 ) none
def Vn:Su:=⟨[.c false [.sl 206 iy]],[(false,[.sl 160 cT])],true,.inl fun x=>J1 x.1.1⟩
theorem SM:ar Tryz.prog 140 Vn :=
 fl (ac T5 an) [] [(0,⟨[.d 0 (.sl 206 iy),.own 3 (.sl 160 cT),.d 4 (.int .i64)],ai (fb oB)⟩)] [] Tryz.f140 (lp [0] (sc dn sn))
def Kp (p0:(List UInt8)×Int×Int×Int×Int×(List mG)×Int×Int×(List R3)×(List R3)×(List kS)×Unit):Option Wc :=
 (LG p0.2.2.2.2.2.1).bind fun y1 =>
 (JV (p0.2.2.2.2.2.2.1,p0.2.2.2.2.2.2.2.1,p0.2.2.2.2.2.2.2.2.1,p0.2.2.2.2.2.2.2.2.2.1,())).bind fun y2 =>
 (J1 p0.2.2.2.2.2.2.2.2.2.2.1).bind fun y3 =>
 some ((),((p0.1,p0.2.1,p0.2.2.1,p0.2.2.2.1,p0.2.2.2.2.1,y1.2.1.1,y2.2.1.1,y2.2.1.2.1,y2.2.1.2.2.1,y2.2.1.2.2.2.1,y3.2.1.1,()),()))
def Wv:Su:=⟨[.c true jS],[(true,bw)],true,.inl fun x=>Kp x.1⟩
theorem SH:ar Tryz.prog 105 Wv :=
 fq (ac T0 (ac TL (ac SM an))) Tryz.f105
def we (t0:List mA) (t3:List dp) (t4:Int):Rd ((List mA)×(List dp)×Int×Unit) Unit :=
 cond (au t4 (ae t0)) (
 cond (a7 t4 t0) (
 (Kp (gt d124 t0 t4)).bind fun y1 =>
 cond (a7 t4 t3) (
 some (.inl (t0,(zE t3 t4 y1.2.1),(aq .i64 t4 1),()))
 ) none
 ) none
 ) (
 some (.inr (.inl (t0,t3,t4,())))
 )
def M4:=pJ (ai (fb we))
def Uy (p0:List mA):Option RG :=
 let u1:=(ae p0)
 cond (Lw 160 u1) (
 (M4 p0 (u0 d92 u1) 0).bind (Sum.elim (fun y1 =>
 some ((),((y1.2.1,()),()))
 ) (fun y1 =>
 none
 ))
 ) none
def ZB:Su:=⟨[.c false [.sl 124 jS]],[(false,[.sl 92 bw])],true,.inl fun x=>Uy x.1.1⟩
theorem VY:ar Tryz.prog 77 ZB :=
 fl (ac SH an) [] [(0,⟨[.d 0 (.sl 124 jS),.own 3 (.sl 92 bw),.d 4 (.int .i64)],ai (fb we)⟩)] [] Tryz.f77 (lp [0] (sc dn sn))
def Ub (p0:Int×(List mA)×Unit):Option (Unit×(Y8×Unit)) :=
 (Uy p0.2.1).bind fun y1 =>
 some ((),((p0.1,y1.2.1.1,()),()))
def YA:Su:=⟨[.c true nh],[(true,de)],true,.inl fun x=>Ub x.1⟩
theorem Vt:ar Tryz.prog 65 YA :=
 fq (ac VY an) Tryz.f65
def tP (t0:List sG) (t3:List gk) (t4:Int):Rd ((List sG)×(List gk)×Int×Unit) Unit :=
 cond (au t4 (ae t0)) (
 cond (a7 t4 t0) (
 (Ub (gt d84 t0 t4)).bind fun y1 =>
 cond (a7 t4 t3) (
 let u1:=(zE t3 t4 (y1.2.1.1,(gt d67 t3 t4).2.1,()))
 some (.inl (t0,(zE u1 t4 ((gt d67 u1 t4).1,y1.2.1.2.1,())),(aq .i64 t4 1),()))
 ) none
 ) none
 ) (
 some (.inr (.inl (t0,t3,t4,())))
 )
def Mi:=pJ (ai (fb tP))
def Uk (p0:List sG):Option (Unit×(((List gk)×Unit)×Unit)) :=
 let u1:=(ae p0)
 cond (Lw 32 u1) (
 (Mi p0 (u0 d67 u1) 0).bind (Sum.elim (fun y1 =>
 some ((),((y1.2.1,()),()))
 ) (fun y1 =>
 none
 ))
 ) none
def Zd:Su:=⟨[.c false [.sl 84 nh]],[(false,[.sl 67 de])],true,.inl fun x=>Uk x.1.1⟩
theorem WO:ar Tryz.prog 35 Zd :=
 fl (ac Vt an) [] [(0,⟨[.d 0 (.sl 84 nh),.own 3 (.sl 67 de),.d 4 (.int .i64)],ai (fb tP)⟩)] [] Tryz.f35 (lp [0] (sc dn sn))
def UO (p0:(List R5)×Int×(List R3)×Int×Int×Int×Int×Int×(List R5)×Unit):Option (Unit×(qP×Unit)) :=
 (Qk p0.1).bind fun y1 =>
 (Qm p0.2.2.1).bind fun y2 =>
 (Qk p0.2.2.2.2.2.2.2.2.1).bind fun y3 =>
 some ((),((y1.2.1.1,p0.2.1,y2.2.1.1,p0.2.2.2.1,p0.2.2.2.2.1,p0.2.2.2.2.2.1,p0.2.2.2.2.2.2.1,p0.2.2.2.2.2.2.2.1,y3.2.1.1,()),()))
def YI:Su:=⟨[.c true gG],[(true,gG)],true,.inl fun x=>UO x.1⟩
theorem Xm:ar Tryz.prog 66 YI :=
 fq (ac TE (ac Tx an)) Tryz.f66
def vr (t0:List qP) (t3:List kQ) (t4:Int):Rd ((List qP)×(List kQ)×Int×Unit) Unit :=
 cond (au t4 (ae t0)) (
 cond (a7 t4 t0) (
 (UO (gt d86 t0 t4)).bind fun y1 =>
 cond (a7 t4 t3) (
 some (.inl (t0,(zE t3 t4 y1.2.1),(aq .i64 t4 1),()))
 ) none
 ) none
 ) (
 some (.inr (.inl (t0,t3,t4,())))
 )
def NG:=pJ (ai (fb vr))
def UT (p0:List qP):Option (Unit×(((List kQ)×Unit)×Unit)) :=
 let u1:=(ae p0)
 cond (Lw 120 u1) (
 (NG p0 (u0 d64 u1) 0).bind (Sum.elim (fun y1 =>
 some ((),((y1.2.1,()),()))
 ) (fun y1 =>
 none
 ))
 ) none
def Yz:Su:=⟨[.c false [.sl 86 gG]],[(false,[.sl 64 fw])],true,.inl fun x=>UT x.1.1⟩
theorem Xg:ar Tryz.prog 36 Yz :=
 fl (ac Xm an) [] [(0,⟨[.d 0 (.sl 86 gG),.own 3 (.sl 64 fw),.d 4 (.int .i64)],ai (fb vr)⟩)] [] Tryz.f36 (lp [0] (sc dn sn))
def g10 (p0:(List sG)×Int×Int×(List qP)×Unit):Option (Unit×(ND×Unit)) :=
 (Uk p0.1).bind fun y1 =>
 (UT p0.2.2.2.1).bind fun y2 =>
 some ((),((y1.2.1.1,p0.2.1,p0.2.2.1,y2.2.1.1,()),()))
def Yl:Su:=⟨[.c true [.sl 84 nh,.int .i64,.int .i64,.sl 86 gG]],[(true,[.sl 67 de,.int .i64,.int .i64,.sl 64 fw])],true,.inl fun x=>g10 x.1⟩
theorem Vz:ar Tryz.prog 10 Yl :=
 fq (ac WO (ac Xg an)) Tryz.f10
def pq (p0 p1 p2:Int):Option dZ :=
 some ((),(((cond (bz p1 p0) (bz p0 p2) false),()),()))
def YU:Su:=⟨[.c false aK,.c false aK,.c false aK],[(false,[.bool])],true,.inl fun x=>pq x.1.1 x.2.1.1 x.2.2.1.1⟩
theorem nj:ar Tryz.prog 44 YU :=
 fq an Tryz.f44
def I2 (p0:Int×Int×(List R3)×(List R3)×Unit):Option Wi :=
 cond (cR 8 [] p0.2.2.1) (
 cond (cR 8 [] p0.2.2.2.1) (
 some ((),((p0.1,p0.2.1,(lP [] p0.2.2.1),(lP [] p0.2.2.2.1),()),()))
 ) none
 ) none
def Vu:Su:=⟨[.c true [.int .i64,.int .i64,.sl 3 aK,.sl 3 aK]],[(true,[.int .i64,.int .i64,.sl 3 aK,.sl 3 aK])],true,.inl fun x=>I2 x.1⟩
theorem RI:ar Tryz.prog 117 Vu :=
 fq an Tryz.f117
def nI (t3 t7:List di) (t8 t9:Int):Rd Uw Unit :=
 cond (au t9 t8) (
 cond (a7 t9 t7) (
 let u1:=(gt d160 t7 t9)
 cond (cR 1 [] u1.2.2.1) (
 cond (cR 56 t3 [(u1.1,u1.2.1,(lP [] u1.2.2.1),())]) (
 some (.inl ((lP t3 [(u1.1,u1.2.1,(lP [] u1.2.2.1),())]),t7,t8,(aq .i64 t9 1),()))
 ) none
 ) none
 ) none
 ) (
 some (.inr (.inl (t3,t7,t8,t9,())))
 )
def Ht:=mJ (ai (cW nI))
def Lh (p0:List di):Option XB :=
 (Ht [] p0 (ae p0) 0).bind (Sum.elim (fun y1 =>
 some ((),((y1.1,()),()))
 ) (fun y1 =>
 none
 ))
def Ve:Su:=⟨[.c false [.sl 160 cT]],[(false,[.sl 160 cT])],true,.inl fun x=>Lh x.1.1⟩
theorem QB:ar Tryz.prog 118 Ve :=
 fl an [] [(0,⟨[.own 3 (.sl 160 cT),.d 7 (.sl 160 cT),.d 8 (.int .i64),.d 9 (.int .i64)],ai (cW nI)⟩)] [] Tryz.f118 (lp [0] (sc dn sn))
def UJ (p0:(List UInt8)×Int×Int×Int×Int×(List dj)×Int×Int×(List R3)×(List R3)×(List di)×Unit):Option Wc :=
 cond (cR 32 [] p0.2.2.2.2.2.1) (
 (I2 (p0.2.2.2.2.2.2.1,p0.2.2.2.2.2.2.2.1,p0.2.2.2.2.2.2.2.2.1,p0.2.2.2.2.2.2.2.2.2.1,())).bind fun y1 =>
 (Lh p0.2.2.2.2.2.2.2.2.2.2.1).bind fun y2 =>
 some ((),((p0.1,p0.2.1,p0.2.2.1,p0.2.2.2.1,p0.2.2.2.2.1,(lP [] p0.2.2.2.2.2.1),y1.2.1.1,y1.2.1.2.1,y1.2.1.2.2.1,y1.2.1.2.2.2.1,y2.2.1.1,()),()))
 ) none
def Yh:Su:=⟨[.c true bw],[(true,bw)],true,.inl fun x=>UJ x.1⟩
theorem OS:ar Tryz.prog 85 Yh :=
 fq (ac RI (ac QB an)) Tryz.f85
def vV (t3:List dp) (t8:Int) (t11:List gk) (t12 t13:Int) (t18:List dp) (t19 t20:Int) (b2:(List dp)×Unit) (b7:(List UInt8)×Int×Int×Int×Int×(List dj)×Int×Int×(List R3)×(List R3)×(List di)×Unit):Rd ((List dp)×Int×(List gk)×Int×Int×(List dp)×Int×Int×Y4×dp×Unit) Unit :=
 cond (au 0 t8) (
 let u1:=(aG .i64 t8 1)
 cond (a7 u1 t3) (
 cond (!(O4 (gt d92 t3 u1).1 b7.1)) (
 some (.inl (t3,u1,t11,t12,t13,t18,t19,t20,b2,b7,()))
 ) (
 some (.inr (.inl (t3,t8,t11,t12,t13,t18,t19,t20,b2,b7,())))
 )
 ) none
 ) (
 some (.inr (.inl (t3,t8,t11,t12,t13,t18,t19,t20,b2,b7,())))
 )
def AM:=Tt (ai (AY vV))
def sk (t3:List dp) (t11:List gk) (t12 t13:Int) (t18:List dp) (t19 t20:Int) (b2:(List dp)×Unit):Rd ((List dp)×(List gk)×Int×Int×(List dp)×Int×Int×Y4×Unit) Unit :=
 cond (au t20 t19) (
 cond (a7 t20 t18) (
 (AM t3 (ae t3) t11 t12 t13 t18 t19 t20 b2 (gt d92 t18 t20)).bind (Sum.elim (fun y1 =>
 cond (dI 0 y1.2.1 y1.1) (
 cond (S3 160 [] y1.1 y1.2.1) (
 (UJ y1.2.2.2.2.2.2.2.2.2.1).bind fun y2 =>
 let u1:=(lP [] (NA y1.1 y1.2.1))
 cond (cR 160 u1 [y2.2.1]) (
 cond (PA y1.2.1 y1.2.1) (
 let u2:=(lP u1 [y2.2.1])
 let u3:=(W7 y1.1 y1.2.1)
 cond (cR 160 u2 u3) (
 some (.inl ((lP u2 u3),y1.2.2.1,y1.2.2.2.1,y1.2.2.2.2.1,y1.2.2.2.2.2.1,y1.2.2.2.2.2.2.1,(aq .i64 y1.2.2.2.2.2.2.2.1 1),y1.2.2.2.2.2.2.2.2.1,()))
 ) none
 ) none
 ) none
 ) none
 ) none
 ) (fun y1 =>
 some (.inr (.inr ()))
 ))
 ) none
 ) (
 some (.inr (.inl (t3,t11,t12,t13,t18,t19,t20,b2,())))
 )
def C5:=Qe (ai (xM sk))
def su (t3:List dp) (t11:List gk) (t12 t13:Int) (b2:(List dp)×Unit):Rd ((List dp)×(List gk)×Int×Int×Y4×Unit) Unit :=
 cond (au t13 t12) (
 cond (a7 t13 t11) (
 (C5 t3 t11 t12 t13 (gt d67 t11 t13).2.1 (ae (gt d67 t11 t13).2.1) 0 b2).bind (Sum.elim (fun y1 =>
 some (.inl (y1.1,y1.2.1,y1.2.2.1,(aq .i64 y1.2.2.2.1 1),y1.2.2.2.2.2.2.2.1,()))
 ) (fun y1 =>
 some (.inr (.inr ()))
 ))
 ) none
 ) (
 some (.inr (.inl (t3,t11,t12,t13,b2,())))
 )
def C9:=yA (ai (gi su))
def MP (p0:List gk):Option RG :=
 (C9 [] p0 (ae p0) 0 ([],())).bind (Sum.elim (fun y1 =>
 some ((),((y1.1,()),()))
 ) (fun y1 =>
 none
 ))
def UI:Su:=⟨[.c false [.sl 67 de]],[(true,[.sl 92 bw])],true,.inl fun x=>MP x.1.1⟩
def uP:List SE:=[.own 3 (.sl 92 bw),.d 8 (.int .i64),.d 11 (.sl 67 de),.d 12 (.int .i64),.d 13 (.int .i64),.d 18 (.sl 92 bw),.d 19 (.int .i64),.d 20 (.int .i64),.box 2 [(true,.sl 92 bw)],.box 7 [(false,.str),(false,.int .i64),(false,.int .i64),(false,.int .i64),(false,.int .i64),(false,.sl 157 dG),(false,.int .i64),(false,.int .i64),(false,.sl 3 aK),(false,.sl 3 aK),(false,.sl 160 cT)]]
def uL:List SE:=[.own 3 (.sl 92 bw),.d 11 (.sl 67 de),.d 12 (.int .i64),.d 13 (.int .i64),.d 18 (.sl 92 bw),.d 19 (.int .i64),.d 20 (.int .i64),.box 2 [(true,.sl 92 bw)]]
def tr:List SE:=[.own 3 (.sl 92 bw),.d 11 (.sl 67 de),.d 12 (.int .i64),.d 13 (.int .i64),.box 2 [(true,.sl 92 bw)]]
def NR:List SE:=[]
def Sh:Nat->Option (Lo NR)
 | 4=>some ⟨uP,AY AM⟩
 | 2=>some ⟨uL,xM C5⟩
 | 0=>some ⟨tr,gi C9⟩
 | _=>none
def Hs:List (Nat×Su):=[(85,Yh)]
def Ai:En:=⟨60,tt,iN Hs,NR,Sh,[],fun _=>none⟩
def VK:Nat->Option (St->Tr St)
 | 11=>some (tw Ai (fF (bb 11 (ah Tryz.f60)) 0).op 44 44 44 3 8 41 42 43 44 45 9)
 | 13=>some (z8 Ai 44 44 44 9 3 8 51 52 53 54 55)
 | _=>none
def GN:En:=⟨60,tt,iN Hs,NR,Sh,[],VK⟩
theorem Qr (x:bE uP):(cX GN 4 uP (aZ 4 (ah Tryz.f60)) x).run=AY vV x:=by kernel_rfl
theorem TB (x:bE uL):(cX GN 2 uL (aZ 2 (ah Tryz.f60)) x).run=xM sk x:=by kernel_rfl
theorem SC (x:bE tr):(cX GN 0 tr (aZ 0 (ah Tryz.f60)) x).run=gi su x:=by kernel_rfl
theorem t60 (x:PT UI.ps):(Es GN (ah Tryz.f60) Tryz.f60.results.toList UI.ps UI.rs true x).run=MP x.1.1:=by kernel_rfl
theorem CZ:db Tryz.prog GN:=cO (l:=Hs) ⟨OS,trivial⟩
theorem Fl:db Tryz.prog Ai:=cO (l:=Hs) ⟨OS,trivial⟩
theorem Pg:cF Tryz.prog GN (bb 11 (ah Tryz.f60)) (tw Ai (fF (bb 11 (ah Tryz.f60)) 0).op 44 44 44 3 8 41 42 43 44 45 9) :=
 gb rfl rfl (GZ (E:=Ai) (kU hT) Fl (cd:=(bb 11 (ah Tryz.f60))) (rid:=11) (o1:=fF (bb 11 (ah Tryz.f60)) 0) (o2:=fF (bb 11 (ah Tryz.f60)) 1) (o3:=fF (bb 11 (ah Tryz.f60)) 2) (o4:=fF (bb 11 (ah Tryz.f60)) 3) (o5:=fF (bb 11 (ah Tryz.f60)) 4) (o6:=fF (bb 11 (ah Tryz.f60)) 5) (c:=yf (fF (bb 11 (ah Tryz.f60)) 4)) (tys:=[])
  (by kernel_rfl) (by kernel_rfl) (by kernel_rfl) (by kernel_rfl) (by kernel_rfl) (by kernel_rfl) (by kernel_rfl) (by kernel_rfl) (by kernel_rfl) (by kernel_rfl) (by kernel_rfl) (by kernel_rfl) (by kernel_rfl) (by kernel_rfl) (by kernel_rfl) (by kernel_rfl) (by kernel_rfl) (by kernel_rfl) (by kernel_rfl) (by kernel_rfl) (by kernel_rfl))
theorem FE:db Tryz.prog Ai:=cO (l:=Hs) ⟨OS,trivial⟩
theorem PJ:cF Tryz.prog GN (bb 13 (ah Tryz.f60)) (z8 Ai 44 44 44 9 3 8 51 52 53 54 55) :=
 gb rfl rfl (JZ (E:=Ai) (kU hT) FE (cd:=(bb 13 (ah Tryz.f60))) (rid:=13) (o1:=fF (bb 13 (ah Tryz.f60)) 0) (o2:=fF (bb 13 (ah Tryz.f60)) 1) (o3:=fF (bb 13 (ah Tryz.f60)) 2) (o4:=fF (bb 13 (ah Tryz.f60)) 3) (o5:=fF (bb 13 (ah Tryz.f60)) 4) (o6:=fF (bb 13 (ah Tryz.f60)) 5) (c:=yf (fF (bb 13 (ah Tryz.f60)) 4)) (tys:=[])
  (by kernel_rfl) (by kernel_rfl) (by kernel_rfl) (by kernel_rfl) (by kernel_rfl) (by kernel_rfl) (by kernel_rfl) (by kernel_rfl) (by kernel_rfl) (by kernel_rfl) (by kernel_rfl) (by kernel_rfl) (by kernel_rfl) (by kernel_rfl) (by kernel_rfl) (by kernel_rfl) (by kernel_rfl) (by kernel_rfl) (by kernel_rfl) (by kernel_rfl) (by kernel_rfl) (by kernel_rfl))
theorem SF:bV Tryz.prog GN 4 (.loop (aZ 4 (ah Tryz.f60))) ⟨uP,AY AM⟩ :=
 ej (kU hT) CZ eH (step:=fun (x:bE uP)=>vV x.1 x.2.1 x.2.2.1 x.2.2.2.1 x.2.2.2.2.1 x.2.2.2.2.2.1 x.2.2.2.2.2.2.1 x.2.2.2.2.2.2.2.1 x.2.2.2.2.2.2.2.2.1 x.2.2.2.2.2.2.2.2.2.1) Qr (aW [] (by kernel_rfl) trivial [] (by kernel_rfl) trivial)
theorem Sn:bV Tryz.prog GN 2 (.loop (aZ 2 (ah Tryz.f60))) ⟨uL,xM C5⟩ :=
 ej (kU hT) CZ eH (step:=fun (x:bE uL)=>sk x.1 x.2.1 x.2.2.1 x.2.2.2.1 x.2.2.2.2.1 x.2.2.2.2.2.1 x.2.2.2.2.2.2.1 x.2.2.2.2.2.2.2.1) TB (aW [(4,.loop (aZ 4 (ah Tryz.f60)))] (by kernel_rfl) ⟨lN rfl SF,trivial⟩ [(11,bb 11 (ah Tryz.f60)),(13,bb 13 (ah Tryz.f60))] (by kernel_rfl) ⟨wX rfl Pg,wX rfl PJ,trivial⟩)
theorem Rb:bV Tryz.prog GN 0 (.loop (aZ 0 (ah Tryz.f60))) ⟨tr,gi C9⟩ :=
 ej (kU hT) CZ eH (step:=fun (x:bE tr)=>su x.1 x.2.1 x.2.2.1 x.2.2.2.1 x.2.2.2.2.1) SC (aW [(2,.loop (aZ 2 (ah Tryz.f60)))] (by kernel_rfl) ⟨lN rfl Sn,trivial⟩ [] (by kernel_rfl) trivial)
theorem Wk:ar Tryz.prog 60 UI :=
 qD (E:=GN) (kU hT) CZ eH (fn:=Tryz.f60) (c:=(ah Tryz.f60)) (by kernel_rfl) (by kernel_rfl) (by kernel_rfl) rfl (aW [(0,.loop (aZ 0 (ah Tryz.f60)))] (by kernel_rfl) ⟨lN rfl Rb,trivial⟩ [] (by kernel_rfl) trivial) fun x y h=>⟨y.1,fun _=>rfl,(t60 x).trans h⟩
def nZ (t0:List UInt8) (t3:Int):Rd QF Y1 :=
 cond (au t3 (ae t0)) (
 cond (a7 t3 t0) (
 let u1:=(dq t0 t3)
 cond (au u1 48) (
 some (.inr (.inr (false,())))
 ) (
 cond (a7 t3 t0) (
 cond (au 57 u1) (
 some (.inr (.inr (false,())))
 ) (
 some (.inl (t0,(aq .i64 t3 1),()))
 )
 ) none
 )
 ) none
 ) (
 some (.inr (.inl (t0,t3,())))
 )
def Hm:=NQ (ai (wP nZ))
def pM (p0:List UInt8):Option dZ :=
 (Hm p0 0).bind (Sum.elim (fun y1 =>
 some ((),(((au 0 (ae y1.1)),()),()))
 ) (fun y1 =>
 some ((),(y1,()))
 ))
def XL:Su:=⟨[.c false [.str]],[(false,[.bool])],true,.inl fun x=>pM x.1.1⟩
theorem sh:ar Tryz.prog 185 XL :=
 fl an [.d 2 (.bool)] [(0,⟨[.d 0 (.str),.d 3 (.int .i64)],ai (wP nZ)⟩)] [] Tryz.f185 (lp [0] (sc dn sn))
def rG (t0:List UInt8) (t3:Int) (t4:Bool) (t5:Int):Rd ((List UInt8)×Int×Bool×Int×Unit) Unit :=
 cond (bz 0 t5) (
 cond (a7 t5 t0) (
 cond t4 (
 let u1:=(aG .i64 (bN .i64 (dq t0 t5)) 48)
 let u2:=(jI .i64 2 u1)
 cond (au 9 u2) (
 let u3:=(aG .i64 t5 1)
 some (.inl (t0,(gH (aq .i64 t3 (aG .i64 u2 9)) 10),(!t4),u3,()))
 ) (
 let u3:=(aG .i64 t5 1)
 some (.inl (t0,(gH (aq .i64 t3 u2) 10),(!t4),u3,()))
 )
 ) (
 let u1:=(aG .i64 (bN .i64 (dq t0 t5)) 48)
 let u2:=(aG .i64 t5 1)
 some (.inl (t0,(gH (aq .i64 t3 u1) 10),(!t4),u2,()))
 )
 ) none
 ) (
 some (.inr (.inl (t0,t3,t4,t5,())))
 )
def Hh:=mJ (ai (cW rG))
def Lq (p0:List UInt8):Option jX :=
 (pM p0).bind fun y1 =>
 cond (!y1.2.1.1) (
 some ((),(((-1),()),()))
 ) (
 (Hh p0 0 true (aG .i64 (ae p0) 1)).bind (Sum.elim (fun y2 =>
 some ((),(((gH (aG .i64 10 y2.2.1) 10),()),()))
 ) (fun y2 =>
 none
 ))
 )
def U1:Su:=⟨[.c false [.str]],[(false,aK)],true,.inl fun x=>Lq x.1.1⟩
theorem Sy:ar Tryz.prog 186 U1 :=
 fl (ac sh an) [] [(0,⟨[.d 0 (.str),.d 3 (.int .i64),.d 4 (.bool),.d 5 (.int .i64)],ai (cW rG)⟩)] [] Tryz.f186 (lp [0] (sc dn sn))
def JO (p0:List UInt8):Option dZ :=
 (pM p0).bind fun y1 =>
 let u1:=(ae p0)
 cond (cond (!y1.2.1.1) true (au u1 2)) (
 some ((),((false,()),()))
 ) (
 let u2:=(aG .i64 u1 1)
 cond (dI 0 u2 p0) (
 (Lq (sub p0 0 u2)).bind fun y2 =>
 cond (a7 u2 p0) (
 some ((),(((ak y2.2.1.1 (aG .i64 (bN .i64 (dq p0 u2)) 48)),()),()))
 ) none
 ) none
 )
def VF:Su:=⟨[.c false [.str]],[(false,[.bool])],true,.inl fun x=>JO x.1.1⟩
theorem TO:ar Tryz.prog 133 VF :=
 fq (ac sh (ac Sy an)) Tryz.f133
def FQ (p0:List UInt8):Option dZ :=
 cond (bz (ae p0) 19) (
 (JO p0).bind fun y1 =>
 some ((),(y1.2.1,()))
 ) (
 some ((),((false,()),()))
 )
def Yr:Su:=⟨[.c false [.str]],[(false,[.bool])],true,.inl fun x=>FQ x.1.1⟩
theorem Rx:ar Tryz.prog 98 Yr :=
 fq (ac TO an) Tryz.f98
def Oa (p0:Int):Option dZ :=
 some ((),(((cond (bz 0 p0) (bz p0 4611686018427387904) false),()),()))
def Zy:Su:=⟨[.c false aK],[(false,[.bool])],true,.inl fun x=>Oa x.1.1⟩
theorem O1:ar Tryz.prog 99 Zy :=
 fq an Tryz.f99
def pf (t0:List UInt8) (t3:Int):Rd QF Y1 :=
 cond (au t3 (ae t0)) (
 cond (a7 t3 t0) (
 let u1:=(dq t0 t3)
 cond (au u1 48) (
 cond (a7 t3 t0) (
 cond (au u1 97) (
 some (.inr (.inr (false,())))
 ) (
 cond (a7 t3 t0) (
 cond (au 122 u1) (
 some (.inr (.inr (false,())))
 ) (
 some (.inl (t0,(aq .i64 t3 1),()))
 )
 ) none
 )
 ) none
 ) (
 cond (a7 t3 t0) (
 cond (au 57 u1) (
 cond (a7 t3 t0) (
 cond (au u1 97) (
 some (.inr (.inr (false,())))
 ) (
 cond (a7 t3 t0) (
 cond (au 122 u1) (
 some (.inr (.inr (false,())))
 ) (
 some (.inl (t0,(aq .i64 t3 1),()))
 )
 ) none
 )
 ) none
 ) (
 some (.inl (t0,(aq .i64 t3 1),()))
 )
 ) none
 )
 ) none
 ) (
 some (.inr (.inl (t0,t3,())))
 )
def Ho:=NQ (ai (wP pf))
def Je (p0:List UInt8):Option dZ :=
 (Ho p0 0).bind (Sum.elim (fun y1 =>
 (pq (ae y1.1) 1 6).bind fun y2 =>
 some ((),(y2.2.1,()))
 ) (fun y1 =>
 some ((),(y1,()))
 ))
def X3:Su:=⟨[.c false [.str]],[(false,[.bool])],true,.inl fun x=>Je x.1.1⟩
theorem Nd:ar Tryz.prog 187 X3 :=
 fl (ac nj an) [.d 2 (.bool)] [(0,⟨[.d 0 (.str),.d 3 (.int .i64)],ai (wP pf)⟩)] [] Tryz.f187 (lp [0] (sc dn sn))
def FX (p0:Int):Option dZ :=
 (pq p0 0 1000000000).bind fun y1 =>
 some ((),(y1.2.1,()))
def YZ:Su:=⟨[.c false aK],[(false,[.bool])],true,.inl fun x=>FX x.1.1⟩
theorem KP:ar Tryz.prog 31 YZ :=
 fq (ac nj an) Tryz.f31
def LZ (p0:(List UInt8)×Int×Int×Unit):Option dZ :=
 (Je p0.1).bind fun y1 =>
 cond y1.2.1.1 (
 (pq p0.2.1 1 9007199254740992).bind fun y2 =>
 cond y2.2.1.1 (
 (FX p0.2.2.1).bind fun y3 =>
 some ((),(y3.2.1,()))
 ) (
 some ((),((false,()),()))
 )
 ) (
 some ((),((false,()),()))
 )
def Vq:Su:=⟨[.c true jn],[(false,[.bool])],true,.inl fun x=>LZ x.1⟩
theorem Qp:ar Tryz.prog 134 Vq :=
 fq (ac nj (ac Nd (ac KP an))) Tryz.f134
def nW (t0 t5:List dj) (t6 t7:Int):Rd ((List dj)×(List dj)×Int×Int×Unit) Y1 :=
 cond (au t7 t6) (
 cond (a7 t7 t5) (
 let u1:=(gt d157 t5 t7)
 (LZ u1).bind fun y1 =>
 cond (!y1.2.1.1) (
 some (.inr (.inr (false,())))
 ) (
 cond (au 0 t7) (
 let u2:=(aG .i64 t7 1)
 cond (a7 u2 t0) (
 cond (!(jU (gt d157 t0 u2).1 u1.1)) (
 some (.inr (.inr (false,())))
 ) (
 some (.inl (t0,t5,t6,(aq .i64 t7 1),()))
 )
 ) none
 ) (
 some (.inl (t0,t5,t6,(aq .i64 t7 1),()))
 )
 )
 ) none
 ) (
 some (.inr (.inl (t0,t5,t6,t7,())))
 )
def G7:=mJ (ai (cW nW))
def Lg (p0:List dj):Option dZ :=
 (G7 p0 p0 (ae p0) 0).bind (Sum.elim (fun y1 =>
 some ((),(((bz (ae y1.1) 4),()),()))
 ) (fun y1 =>
 some ((),(y1,()))
 ))
def W8:Su:=⟨[.c false [.sl 157 dG]],[(false,[.bool])],true,.inl fun x=>Lg x.1.1⟩
theorem Tf:ar Tryz.prog 100 W8 :=
 fl (ac Qp an) [.d 2 (.bool)] [(0,⟨[.d 0 (.sl 157 dG),.d 5 (.sl 157 dG),.d 6 (.int .i64),.d 7 (.int .i64)],ai (cW nW)⟩)] [] Tryz.f100 (lp [0] (sc dn sn))
def oA (t32 t33:Int) (b1:Int×Int×(List R3)×(List R3)×Unit):Rd (Int×Int×(Int×Int×(List R3)×(List R3)×Unit)×Unit) Y1 :=
 cond (au t33 t32) (
 cond (a7 t33 b1.2.2.1) (
 (Oa (gt d3 b1.2.2.1 t33).1).bind fun y1 =>
 cond (!y1.2.1.1) (
 some (.inr (.inr (false,())))
 ) (
 cond (a7 t33 b1.2.2.2.1) (
 (Oa (gt d3 b1.2.2.2.1 t33).1).bind fun y2 =>
 cond (!y2.2.1.1) (
 some (.inr (.inr (false,())))
 ) (
 some (.inl (t32,(aq .i64 t33 1),b1,()))
 )
 ) none
 )
 ) none
 ) (
 some (.inr (.inl (t32,t33,b1,())))
 )
def HS:=pJ (ai (fb oA))
def Jp (p0:Int×Int×(List R3)×(List R3)×Unit):Option dZ :=
 (pq p0.1 1 1000).bind fun y1 =>
 cond (!y1.2.1.1) (
 some ((),((false,()),()))
 ) (
 let u1:=(ae p0.2.2.1)
 (pq u1 1 8).bind fun y2 =>
 cond (cond (!y2.2.1.1) true (!(ak (ae p0.2.2.2.1) u1))) (
 some ((),((false,()),()))
 ) (
 (FX p0.2.1).bind fun y3 =>
 cond (!y3.2.1.1) (
 some ((),((false,()),()))
 ) (
 (HS u1 0 p0).bind (Sum.elim (fun y4 =>
 some ((),((true,()),()))
 ) (fun y4 =>
 some ((),(y4,()))
 ))
 )
 )
 )
def XC:Su:=⟨[.c true [.int .i64,.int .i64,.sl 3 aK,.sl 3 aK]],[(false,[.bool])],true,.inl fun x=>Jp x.1⟩
theorem S2:ar Tryz.prog 101 XC :=
 fl (ac nj (ac O1 (ac KP an))) [.d 2 (.bool)] [(0,⟨[.d 32 (.int .i64),.d 33 (.int .i64),.box 1 [(false,.int .i64),(false,.int .i64),(false,.sl 3 aK),(false,.sl 3 aK)]],ai (fb oA)⟩)] [] Tryz.f101 (lp [0] (sc dn sn))
def KO (p0:(List UInt8)×(List UInt8)×(List R5)×Unit):Option dZ :=
 (pM p0.1).bind fun y1 =>
 cond (cond y1.2.1.1 (ak (ae p0.1) 6) false) (
 (pM p0.2.1).bind fun y2 =>
 cond (cond y2.2.1.1 (ak (ae p0.2.1) 4) false) (
 (pq (ae p0.2.2.1) 1 200).bind fun y3 =>
 some ((),(y3.2.1,()))
 ) (
 some ((),((false,()),()))
 )
 ) (
 some ((),((false,()),()))
 )
def V8:Su:=⟨[.c true iy],[(false,[.bool])],true,.inl fun x=>KO x.1⟩
theorem Qq:ar Tryz.prog 135 V8 :=
 fq (ac nj (ac sh an)) Tryz.f135
def nx (t0 t7:List di) (t8 t9:Int) (t19:List di) (t20 t21:Int) (b4:(List UInt8)×(List UInt8)×(List R5)×Unit):Rd ((List di)×(List di)×Int×Int×(List di)×Int×Int×kS×Unit) Y1 :=
 cond (au t21 t20) (
 cond (a7 t21 t19) (
 let u1:=(gt d160 t19 t21)
 cond (cond (bY u1.1 b4.1) (bY u1.2.1 b4.2.1) false) (
 some (.inr (.inr (false,())))
 ) (
 some (.inl (t0,t7,t8,t9,t19,t20,(aq .i64 t21 1),b4,()))
 )
 ) none
 ) (
 some (.inr (.inl (t0,t7,t8,t9,t19,t20,t21,b4,())))
 )
def Hq:=Qe (ai (xM nx))
def oU (t0 t7:List di) (t8 t9:Int):Rd Uw Y1 :=
 cond (au t9 t8) (
 cond (a7 t9 t7) (
 let u1:=(gt d160 t7 t9)
 (KO u1).bind fun y1 =>
 cond (!y1.2.1.1) (
 some (.inr (.inr (false,())))
 ) (
 cond (dI 0 t9 t0) (
 let u2:=(sub t0 0 t9)
 (Hq t0 t7 t8 t9 u2 (ae u2) 0 u1).bind (Sum.elim (fun y2 =>
 some (.inl (y2.1,y2.2.1,y2.2.2.1,(aq .i64 y2.2.2.2.1 1),()))
 ) (fun y2 =>
 some (.inr (.inr (y2.1,())))
 ))
 ) none
 )
 ) none
 ) (
 some (.inr (.inl (t0,t7,t8,t9,())))
 )
def Ip:=mJ (ai (cW oU))
def LC (p0:List di):Option dZ :=
 (Ip p0 p0 (ae p0) 0).bind (Sum.elim (fun y1 =>
 some ((),(((bz (ae y1.1) 6),()),()))
 ) (fun y1 =>
 some ((),(y1,()))
 ))
def V0:Su:=⟨[.c false [.sl 160 cT]],[(false,[.bool])],true,.inl fun x=>LC x.1.1⟩
theorem Sz:ar Tryz.prog 102 V0 :=
 fl (ac Qq an) [.d 2 (.bool)] [(2,⟨[.d 0 (.sl 160 cT),.d 7 (.sl 160 cT),.d 8 (.int .i64),.d 9 (.int .i64),.d 19 (.sl 160 cT),.d 20 (.int .i64),.d 21 (.int .i64),.box 4 [(false,.str),(false,.str),(false,.sl 5 fy)]],ai (xM nx)⟩),(0,⟨[.d 0 (.sl 160 cT),.d 7 (.sl 160 cT),.d 8 (.int .i64),.d 9 (.int .i64)],ai (cW oU)⟩)] [] Tryz.f102 (lp [0] (sc (lp [2] (sc dn sn)) sn))
def GB (p0 p1 p2:Int):Option jX :=
 cond (au p0 p1) (
 some ((),((p1,()),()))
 ) (
 cond (au p2 p0) (
 some ((),((p2,()),()))
 ) (
 some ((),((p0,()),()))
 )
 )
def UY:Su:=⟨[.c false aK,.c false aK,.c false aK],[(false,aK)],true,.inl fun x=>GB x.1.1 x.2.1.1 x.2.2.1.1⟩
theorem Rg:ar Tryz.prog 137 UY :=
 fq an Tryz.f137
def O8 (p0 p1:Int):Option WA :=
 (Oa p0).bind fun y1 =>
 cond (!y1.2.1.1) (
 some ((),((0,()),(false,()),()))
 ) (
 (Oa p1).bind fun y2 =>
 cond (cond (!y2.2.1.1) true (au (aG .i64 4611686018427387904 p1) p0)) (
 some ((),((0,()),(false,()),()))
 ) (
 some ((),(((aq .i64 p0 p1),()),(true,()),()))
 )
 )
def V2:Su:=⟨[.c false aK,.c false aK],[(false,aK),(false,[.bool])],true,.inl fun x=>O8 x.1.1 x.2.1.1⟩
theorem Sd:ar Tryz.prog 136 V2 :=
 fq (ac O1 an) Tryz.f136
def Gc (p0 p1:Int):Option jX :=
 (GB p0 0 4611686018427387904).bind fun y1 =>
 (GB p1 0 4611686018427387904).bind fun y2 =>
 (O8 y1.2.1.1 y2.2.1.1).bind fun y3 =>
 cond (!y3.2.2.1.1) (
 some ((),((4611686018427387904,()),()))
 ) (
 some ((),(y3.2.1,()))
 )
def WJ:Su:=⟨[.c false aK,.c false aK],[(false,aK)],true,.inl fun x=>Gc x.1.1 x.2.1.1⟩
theorem Nv:ar Tryz.prog 103 WJ :=
 fq (ac Rg (ac Sd an)) Tryz.f103
def pk (t3:Int) (t6:List dj) (t7 t8:Int):Rd (Int×(List dj)×Int×Int×Unit) Unit :=
 cond (au t8 t7) (
 cond (a7 t8 t6) (
 (Gc t3 (gt d157 t6 t8).2.1).bind fun y1 =>
 some (.inl (y1.2.1.1,t6,t7,(aq .i64 t8 1),()))
 ) none
 ) (
 some (.inr (.inl (t3,t6,t7,t8,())))
 )
def GH:=mJ (ai (cW pk))
def KK (p0:List dj):Option jX :=
 (GH 0 p0 (ae p0) 0).bind (Sum.elim (fun y1 =>
 some ((),((y1.1,()),()))
 ) (fun y1 =>
 none
 ))
def U9:Su:=⟨[.c false [.sl 157 dG]],[(false,aK)],true,.inl fun x=>KK x.1.1⟩
theorem Sb:ar Tryz.prog 104 U9 :=
 fl (ac Nv an) [] [(0,⟨[.d 3 (.int .i64),.d 6 (.sl 157 dG),.d 7 (.int .i64),.d 8 (.int .i64)],ai (cW pk)⟩)] [] Tryz.f104 (lp [0] (sc dn sn))
def Un (p0:(List UInt8)×Int×Int×Int×Int×(List dj)×Int×Int×(List R3)×(List R3)×(List di)×Unit):Option dZ :=
 (FQ p0.1).bind fun y1 =>
 cond (!y1.2.1.1) (
 some ((),((false,()),()))
 ) (
 (pq p0.2.1 0 9007199254740992).bind fun y2 =>
 cond (!y2.2.1.1) (
 some ((),((false,()),()))
 ) (
 (pq p0.2.2.2.1 0 1000).bind fun y3 =>
 cond (!y3.2.1.1) (
 some ((),((false,()),()))
 ) (
 (pq p0.2.2.2.2.1 0 9007199254740992).bind fun y4 =>
 cond (!y4.2.1.1) (
 some ((),((false,()),()))
 ) (
 (Oa p0.2.2.1).bind fun y5 =>
 cond (!y5.2.1.1) (
 some ((),((false,()),()))
 ) (
 (Lg p0.2.2.2.2.2.1).bind fun y6 =>
 cond y6.2.1.1 (
 (Jp (p0.2.2.2.2.2.2.1,p0.2.2.2.2.2.2.2.1,p0.2.2.2.2.2.2.2.2.1,p0.2.2.2.2.2.2.2.2.2.1,())).bind fun y7 =>
 cond y7.2.1.1 (
 (LC p0.2.2.2.2.2.2.2.2.2.2.1).bind fun y8 =>
 cond y8.2.1.1 (
 (KK p0.2.2.2.2.2.1).bind fun y9 =>
 (Gc p0.2.2.1 y9.2.1.1).bind fun y10 =>
 some ((),(((bz y10.2.1.1 p0.2.1),()),()))
 ) (
 some ((),((false,()),()))
 )
 ) (
 some ((),((false,()),()))
 )
 ) (
 some ((),((false,()),()))
 )
 )
 )
 )
 )
 )
def Y9:Su:=⟨[.c true bw],[(false,[.bool])],true,.inl fun x=>Un x.1⟩
theorem WY:ar Tryz.prog 76 Y9 :=
 fq (ac nj (ac Rx (ac O1 (ac Tf (ac S2 (ac Sz (ac Nv (ac Sb an)))))))) Tryz.f76
def uu (t6:List dp) (t7 t8:Int) (b1:(List dp)×Unit):Rd ((List dp)×Int×Int×Y4×Unit) Y1 :=
 cond (au t8 t7) (
 cond (a7 t8 t6) (
 let u1:=(gt d92 t6 t8)
 (Un u1).bind fun y1 =>
 cond (!y1.2.1.1) (
 some (.inr (.inr (false,())))
 ) (
 cond (au 0 t8) (
 let u2:=(aG .i64 t8 1)
 cond (a7 u2 b1.1) (
 cond (!(jU (gt d92 b1.1 u2).1 u1.1)) (
 some (.inr (.inr (false,())))
 ) (
 some (.inl (t6,t7,(aq .i64 t8 1),b1,()))
 )
 ) none
 ) (
 some (.inl (t6,t7,(aq .i64 t8 1),b1,()))
 )
 )
 ) none
 ) (
 some (.inr (.inl (t6,t7,t8,b1,())))
 )
def MI:=mJ (ai (cW uu))
def RX (p0:(List dp)×Unit):Option dZ :=
 (MI p0.1 (ae p0.1) 0 p0).bind (Sum.elim (fun y1 =>
 some ((),(((bz (ae y1.2.2.2.1.1) 6),()),()))
 ) (fun y1 =>
 some ((),(y1,()))
 ))
def Yx:Su:=⟨[.c true [.sl 92 bw]],[(false,[.bool])],true,.inl fun x=>RX x.1⟩
theorem Vm:ar Tryz.prog 49 Yx :=
 fl (ac WY an) [.d 2 (.bool)] [(0,⟨[.d 6 (.sl 92 bw),.d 7 (.int .i64),.d 8 (.int .i64),.box 1 [(false,.sl 92 bw)]],ai (cW uu)⟩)] [] Tryz.f49 (lp [0] (sc dn sn))
def tF (t0:List UInt8) (t3 t4:Int):Rd Qi Unit :=
 cond (au t4 (ae t0)) (
 cond (a7 t4 t0) (
 some (.inl (t0,(zw .i64 (jI .i64 (AQ .i64 t3 (bN .i64 (dq t0 t4))) 16777619) 4294967295),(aq .i64 t4 1),()))
 ) none
 ) (
 some (.inr (.inl (t0,t3,t4,())))
 )
def Me:=pJ (ai (fb tF))
def UB (p0:List UInt8):Option jX :=
 (Me p0 2166136261 0).bind (Sum.elim (fun y1 =>
 some ((),((y1.2.1,()),()))
 ) (fun y1 =>
 none
 ))
def YY:Su:=⟨[.c false [.str]],[(false,aK)],true,.inl fun x=>UB x.1.1⟩
theorem U7:ar Tryz.prog 84 YY :=
 fl an [] [(0,⟨[.d 0 (.str),.d 3 (.int .i64),.d 4 (.int .i64)],ai (fb tF)⟩)] [] Tryz.f84 (lp [0] (sc dn sn))
def Nw (p0:List UInt8) (p1:Int):Option jX :=
 cond (au p1 1) (
 some ((),((0,()),()))
 ) (
 (UB p0).bind fun y1 =>
 cond (!(ak p1 0)) (
 some ((),(((gH y1.2.1.1 p1),()),()))
 ) none
 )
def YC:Su:=⟨[.c false [.str],.c false aK],[(false,aK)],true,.inl fun x=>Nw x.1.1 x.2.1.1⟩
theorem Rn:ar Tryz.prog 59 YC :=
 fq (ac U7 an) Tryz.f59
def wm (t0:List gk) (t3:Int) (t11:List gk) (t12 t13:Int) (t23:List dp) (t24 t25:Int) (b4:Int×(List dp)×Unit):Rd ((List gk)×Int×(List gk)×Int×Int×(List dp)×Int×Int×Y8×Unit) Y1 :=
 cond (au t25 t24) (
 cond (a7 t25 t23) (
 (Nw (gt d92 t23 t25).1 (ae t0)).bind fun y1 =>
 cond (!(ak y1.2.1.1 t3)) (
 some (.inr (.inr (false,())))
 ) (
 cond (au 0 t25) (
 let u1:=(aG .i64 t25 1)
 cond (a7 u1 b4.2.1) (
 cond (!(jU (gt d92 b4.2.1 u1).1 (gt d92 t23 t25).1)) (
 some (.inr (.inr (false,())))
 ) (
 some (.inl (t0,t3,t11,t12,t13,t23,t24,(aq .i64 t25 1),b4,()))
 )
 ) none
 ) (
 some (.inl (t0,t3,t11,t12,t13,t23,t24,(aq .i64 t25 1),b4,()))
 )
 )
 ) none
 ) (
 some (.inr (.inl (t0,t3,t11,t12,t13,t23,t24,t25,b4,())))
 )
def MY:=TP (ai (CN wm))
def uE (t0 t11:List gk) (t12 t13:Int):Rd ((List gk)×(List gk)×Int×Int×Unit) Y1 :=
 cond (au t13 t12) (
 cond (a7 t13 t11) (
 let u1:=(gt d67 t11 t13)
 (pq u1.1 (-1) 11).bind fun y1 =>
 cond (!y1.2.1.1) (
 some (.inr (.inr (false,())))
 ) (
 (MY t0 t13 t11 t12 t13 u1.2.1 (ae u1.2.1) 0 u1).bind (Sum.elim (fun y2 =>
 some (.inl (y2.1,y2.2.2.1,y2.2.2.2.1,(aq .i64 y2.2.2.2.2.1 1),()))
 ) (fun y2 =>
 some (.inr (.inr (y2.1,())))
 ))
 )
 ) none
 ) (
 some (.inr (.inl (t0,t11,t12,t13,())))
 )
def Rk:=mJ (ai (cW uE))
def Ue (p0:List gk):Option dZ :=
 let u1:=(ae p0)
 (pq u1 1 5).bind fun y1 =>
 cond (!y1.2.1.1) (
 some ((),((false,()),()))
 ) (
 (Rk p0 p0 u1 0).bind (Sum.elim (fun y2 =>
 (MP y2.1).bind fun y3 =>
 (RX y3.2.1).bind fun y4 =>
 some ((),(y4.2.1,()))
 ) (fun y2 =>
 some ((),(y2,()))
 ))
 )
def Zm:Su:=⟨[.c false [.sl 67 de]],[(false,[.bool])],true,.inl fun x=>Ue x.1.1⟩
theorem WG:ar Tryz.prog 30 Zm :=
 fl (ac nj (ac Wk (ac Vm (ac Rn an)))) [.d 2 (.bool)] [(2,⟨[.d 0 (.sl 67 de),.d 3 (.int .i64),.d 11 (.sl 67 de),.d 12 (.int .i64),.d 13 (.int .i64),.d 23 (.sl 92 bw),.d 24 (.int .i64),.d 25 (.int .i64),.box 4 [(false,.int .i64),(false,.sl 92 bw)]],ai (CN wm)⟩),(0,⟨[.d 0 (.sl 67 de),.d 11 (.sl 67 de),.d 12 (.int .i64),.d 13 (.int .i64)],ai (cW uE)⟩)] [] Tryz.f30 (lp [0] (sc (lp [2] (sc dn sn)) sn))
def uX (t1:Int) (t7:List R3) (t8 t9:Int):Rd (Int×(List R3)×Int×Int×Unit) Y1 :=
 cond (au t9 t8) (
 cond (a7 t9 t7) (
 cond (ak (gt d3 t7 t9).1 t1) (
 some (.inr (.inr (true,())))
 ) (
 some (.inl (t1,t7,t8,(aq .i64 t9 1),()))
 )
 ) none
 ) (
 some (.inr (.inl (t1,t7,t8,t9,())))
 )
def TJ:=mJ (ai (cW uX))
def Ul (p0:List R3) (p1:Int):Option dZ :=
 (TJ p1 p0 (ae p0) 0).bind (Sum.elim (fun y1 =>
 some ((),((false,()),()))
 ) (fun y1 =>
 some ((),(y1,()))
 ))
def YX:Su:=⟨[.c false gD,.c false aK],[(false,[.bool])],true,.inl fun x=>Ul x.1.1 x.2.1.1⟩
theorem U6:ar Tryz.prog 61 YX :=
 fl an [.d 4 (.bool)] [(0,⟨[.d 1 (.int .i64),.d 7 (.sl 3 aK),.d 8 (.int .i64),.d 9 (.int .i64)],ai (cW uX)⟩)] [] Tryz.f61 (lp [0] (sc dn sn))
def wG (t1:Int) (t5:List R3) (t11:List kQ) (t12 t13:Int) (t23:List R3) (t24 t25:Int):Rd (Int×(List R3)×(List kQ)×Int×Int×(List R3)×Int×Int×Unit) Y1 :=
 cond (au t25 t24) (
 cond (a7 t25 t23) (
 let u1:=(gt d3 t23 t25)
 cond (ak u1.1 (-1)) (
 let u2:=(aq .i64 t25 1)
 some (.inl (t1,t5,t11,t12,t13,t23,t24,u2,()))
 ) (
 cond (bz t1 u1.1) (
 some (.inr (.inr (false,())))
 ) (
 (Ul t5 u1.1).bind fun y1 =>
 cond y1.2.1.1 (
 some (.inr (.inr (false,())))
 ) (
 cond (cR 8 t5 [u1]) (
 let u2:=(aq .i64 t25 1)
 some (.inl (t1,(lP t5 [u1]),t11,t12,t13,t23,t24,u2,()))
 ) none
 )
 )
 )
 ) none
 ) (
 some (.inr (.inl (t1,t5,t11,t12,t13,t23,t24,t25,())))
 )
def Mc:=Qe (ai (xM wG))
def wE (t1:Int) (t5:List R3) (t11:List kQ) (t12 t13:Int):Rd (Int×(List R3)×(List kQ)×Int×Int×Unit) Y1 :=
 cond (au t13 t12) (
 cond (a7 t13 t11) (
 let u1:=(gt d64 t11 t13)
 (Mc t1 t5 t11 t12 t13 [(u1.2.2.2.2.1,()),(u1.2.2.2.2.2.1,()),(u1.2.2.2.2.2.2.1,())] (ae [(u1.2.2.2.2.1,()),(u1.2.2.2.2.2.1,()),(u1.2.2.2.2.2.2.1,())]) 0).bind (Sum.elim (fun y1 =>
 some (.inl (y1.1,y1.2.1,y1.2.2.1,y1.2.2.2.1,(aq .i64 y1.2.2.2.2.1 1),()))
 ) (fun y1 =>
 some (.inr (.inr (y1.1,())))
 ))
 ) none
 ) (
 some (.inr (.inl (t1,t5,t11,t12,t13,())))
 )
def QT:=yA (ai (gi wE))
def Uz (p0:List kQ) (p1:Int):Option dZ :=
 (QT p1 [] p0 (ae p0) 0).bind (Sum.elim (fun y1 =>
 some ((),((true,()),()))
 ) (fun y1 =>
 some ((),(y1,()))
 ))
def YM:Su:=⟨[.c false [.sl 64 fw],.c false aK],[(false,[.bool])],true,.inl fun x=>Uz x.1.1 x.2.1.1⟩
theorem WQ:ar Tryz.prog 32 YM :=
 fl (ac U6 an) [.d 4 (.bool)] [(2,⟨[.d 1 (.int .i64),.own 5 (.sl 3 aK),.d 11 (.sl 64 fw),.d 12 (.int .i64),.d 13 (.int .i64),.own 23 (.sl 3 aK),.d 24 (.int .i64),.d 25 (.int .i64)],ai (xM wG)⟩),(0,⟨[.d 1 (.int .i64),.own 5 (.sl 3 aK),.d 11 (.sl 64 fw),.d 12 (.int .i64),.d 13 (.int .i64)],ai (gi wE)⟩)] [] Tryz.f32 (lp [0] (sc (lp [2] (sc dn sn)) sn))
def Uh (p0:(List R5)×Int×(List R3)×Int×Int×Int×Int×Int×(List R5)×Unit):Option dZ :=
 cond (ak p0.2.1 1) (
 let u1:=(ae p0.2.2.1)
 some ((),(((cond (bz 0 p0.2.2.2.1) (au p0.2.2.2.1 u1) false),()),()))
 ) (
 cond (ak p0.2.1 2) (
 let u1:=(ae p0.2.2.1)
 some ((),(((cond (ak p0.2.2.2.1 u1) (au 0 u1) false),()),()))
 ) (
 cond (ak p0.2.1 3) (
 let u1:=(ae p0.2.2.1)
 (pq p0.2.2.2.1 1 u1).bind fun y1 =>
 some ((),(y1.2.1,()))
 ) (
 some ((),(((ak p0.2.2.2.1 0),()),()))
 )
 )
 )
def YF:Su:=⟨[.c true gG],[(false,[.bool])],true,.inl fun x=>Uh x.1⟩
theorem Wf:ar Tryz.prog 62 YF :=
 fq (ac nj an) Tryz.f62
def oI (t0:List R5) (t1 t2:Int) (t9:List UInt8) (t10:Int):Rd ((List R5)×Int×Int×(List UInt8)×Int×Unit) Unit :=
 cond (au t10 (aq .i64 t1 (oM .i64 (aq .i64 t2 1) 2))) (
 cond (a7 t10 t0) (
 cond (a7 t10 t0) (
 let u1:=(bN .i64 (gt d5 t0 t10).1)
 let u2:=(strOf [((bN .u8 (aq .i64 48 (oM .i64 u1 16))),()),((bN .u8 (aq .i64 48 (gH u1 16))),())])
 cond (QA t9 u2) (
 some (.inl (t0,t1,t2,(Y5 t9 u2),(aq .i64 t10 1),()))
 ) none
 ) none
 ) none
 ) (
 some (.inr (.inl (t0,t1,t2,t9,t10,())))
 )
def F7:=yA (ai (gi oI))
def ud (p0:List R5) (p1 p2:Int):Option UH :=
 let u1:=(ae p0)
 cond (cond (cond (cond (au p2 1) true (au 38 p2)) true (au p1 0)) true (au u1 p1)) (
 some ((),(([],()),(0,()),(false,()),()))
 ) (
 cond (au (aG .i64 u1 p1) (oM .i64 (aq .i64 p2 1) 2)) (
 some ((),(([],()),(0,()),(false,()),()))
 ) (
 (F7 p0 p1 p2 [] p1).bind (Sum.elim (fun y1 =>
 cond (ak (gH y1.2.2.1 2) 1) (
 cond (a7 0 y1.2.2.2.1) (
 cond (!(ak (dq y1.2.2.2.1 0) 48)) (
 some ((),(([],()),(0,()),(false,()),()))
 ) (
 let u2:=(ae y1.2.2.2.1)
 cond (dI 1 u2 y1.2.2.2.1) (
 let u3:=(sub y1.2.2.2.1 1 u2)
 (pM u3).bind fun y2 =>
 cond (!y2.2.1.1) (
 some ((),(([],()),(0,()),(false,()),()))
 ) (
 some ((),((u3,()),((aq .i64 y1.2.1 (oM .i64 (aq .i64 y1.2.2.1 1) 2)),()),(true,()),()))
 )
 ) none
 )
 ) none
 ) (
 (pM y1.2.2.2.1).bind fun y2 =>
 cond (!y2.2.1.1) (
 some ((),(([],()),(0,()),(false,()),()))
 ) (
 some ((),((y1.2.2.2.1,()),((aq .i64 y1.2.1 (oM .i64 (aq .i64 y1.2.2.1 1) 2)),()),(true,()),()))
 )
 )
 ) (fun y1 =>
 none
 ))
 )
 )
def XX:Su:=⟨[.c false [.sl 5 fy],.c false aK,.c false aK],[(false,[.str]),(false,aK),(false,[.bool])],true,.inl fun x=>ud x.1.1 x.2.1.1 x.2.2.1.1⟩
theorem Gb:ar Tryz.prog 149 XX :=
 fl (ac sh an) [] [(0,⟨[.d 0 (.sl 5 fy),.d 1 (.int .i64),.d 2 (.int .i64),.d 9 (.str),.d 10 (.int .i64)],ai (gi oI)⟩)] [] Tryz.f149 (lp [0] (sc dn sn))
def ru (t0:List R5) (t1:Int) (t7:List R3) (t8:Int):Rd ((List R5)×Int×(List R3)×Int×Unit) Unit :=
 cond (bz t8 64) (
 let u1:=(aG .i64 t8 1)
 let u2:=(aq .i64 t1 (oM .i64 u1 8))
 cond (a7 u2 t0) (
 let u3:=(aG .i64 7 (gH u1 8))
 cond (bz 0 u3) (
 cond (ak (gH (ic .i64 (bN .i64 (gt d5 t0 u2).1) u3) 2) 1) (
 cond (cR 8 t7 [(t8,())]) (
 let u4:=(aq .i64 t8 1)
 some (.inl (t0,t1,(lP t7 [(t8,())]),u4,()))
 ) none
 ) (
 let u4:=(aq .i64 t8 1)
 some (.inl (t0,t1,t7,u4,()))
 )
 ) none
 ) none
 ) (
 some (.inr (.inl (t0,t1,t7,t8,())))
 )
def Hf:=mJ (ai (cW ru))
def B9 (p0:List R5) (p1:Int):Option WR :=
 cond (cond (au p1 0) true (au (aG .i64 (ae p0) 8) p1)) (
 some ((),(([],()),(0,()),(false,()),()))
 ) (
 (Hf p0 p1 [] 1).bind (Sum.elim (fun y1 =>
 some ((),((y1.2.2.1,()),((aq .i64 y1.2.1 8),()),(true,()),()))
 ) (fun y1 =>
 none
 ))
 )
def U0:Su:=⟨[.c false [.sl 5 fy],.c false aK],[(false,gD),(false,aK),(false,[.bool])],true,.inl fun x=>B9 x.1.1 x.2.1.1⟩
theorem Sj:ar Tryz.prog 199 U0 :=
 fl an [] [(0,⟨[.d 0 (.sl 5 fy),.d 1 (.int .i64),.own 7 (.sl 3 aK),.d 8 (.int .i64)],ai (cW ru)⟩)] [] Tryz.f199 (lp [0] (sc dn sn))
def Ft (p0:Int):Option jX :=
 cond (ak p0 3) (
 some ((),((1,()),()))
 ) (
 cond (ak p0 4) (
 some ((),((1,()),()))
 ) (
 cond (ak p0 7) (
 some ((),((1,()),()))
 ) (
 cond (ak p0 11) (
 some ((),((1,()),()))
 ) (
 cond (ak p0 14) (
 some ((),((1,()),()))
 ) (
 cond (ak p0 49) (
 some ((),((1,()),()))
 ) (
 cond (ak p0 37) (
 some ((),((2,()),()))
 ) (
 cond (ak p0 38) (
 some ((),((2,()),()))
 ) (
 cond (ak p0 39) (
 some ((),((2,()),()))
 ) (
 cond (ak p0 41) (
 some ((),((2,()),()))
 ) (
 cond (ak p0 95) (
 some ((),((2,()),()))
 ) (
 cond (ak p0 2) (
 some ((),((3,()),()))
 ) (
 cond (ak p0 102) (
 some ((),((4,()),()))
 ) (
 cond (ak p0 103) (
 some ((),((4,()),()))
 ) (
 cond (ak p0 48) (
 some ((),((5,()),()))
 ) (
 cond (ak p0 54) (
 some ((),((5,()),()))
 ) (
 some ((),((0,()),()))
 )
 )
 )
 )
 )
 )
 )
 )
 )
 )
 )
 )
 )
 )
 )
 )
def Xt:Su:=⟨[.c false aK],[(false,aK)],true,.inl fun x=>Ft x.1.1⟩
theorem Ji:ar Tryz.prog 200 Xt :=
 fq an Tryz.f200
def oP (t0:List R5) (t6:Int) (t8:List R3) (t9:Bool) (t28:List R3) (t29 t30:Int):Rd ((List R5)×Int×(List R3)×Bool×(List R3)×Int×Int×Unit) Wd :=
 cond (au t30 t29) (
 cond (a7 t30 t28) (
 let u1:=(gt d3 t28 t30)
 cond (ak u1.1 1) (
 let u2:=(aq .i64 t30 1)
 some (.inl (t0,t6,t8,true,t28,t29,u2,()))
 ) (
 cond (cR 8 t8 [u1]) (
 let u2:=(aq .i64 t30 1)
 some (.inl (t0,t6,(lP t8 [u1]),t9,t28,t29,u2,()))
 ) none
 )
 ) none
 ) (
 some (.inr (.inl (t0,t6,t8,t9,t28,t29,t30,())))
 )
def IL:=Ui (ai (GG oP))
def nz (t8:List R3) (t13:Int) (t56:List R3) (t57 t58:Int):Rd ((List R3)×Int×(List R3)×Int×Int×Unit) Wd :=
 cond (au t58 t57) (
 cond (a7 t58 t56) (
 cond (cR 8 t8 [((aq .i64 (gt d3 t56 t58).1 64),())]) (
 some (.inl ((lP t8 [((aq .i64 (gt d3 t56 t58).1 64),())]),t13,t56,t57,(aq .i64 t58 1),()))
 ) none
 ) none
 ) (
 some (.inr (.inl (t8,t13,t56,t57,t58,())))
 )
def I1:=yA (ai (gi nz))
def oQ (t69:Unit) (t6:Int) (t8:List R3) (t70 t71:Int):Rd (Unit×Int×(List R3)×Int×Int×Unit) Wd :=
 cond (au t71 t70) (
 cond (a7 t71 t8) (
 (Ft (gt d3 t8 t71).1).bind fun y1 =>
 cond (ak y1.2.1.1 0) (
 some (.inr (.inr ([],0,false,())))
 ) (
 some (.inl ((),t6,t8,t70,(aq .i64 t71 1),()))
 )
 ) none
 ) (
 some (.inr (.inl ((),t6,t8,t70,t71,())))
 )
def B5:=yA (ai (gi oQ))
def G2 (p0:List R5):Option WR :=
 (B9 p0 2).bind fun y1 =>
 cond (!y1.2.2.2.1.1) (
 some ((),(([],()),(0,()),(false,()),()))
 ) (
 (IL p0 y1.2.2.1.1 [] false y1.2.1.1 (ae y1.2.1.1) 0).bind (Sum.elim (fun y2 =>
 cond y2.2.2.2.1 (
 (B9 y2.1 y2.2.1).bind fun y3 =>
 let u1:=(ae y3.2.1.1)
 cond (cond (!y3.2.2.2.1.1) true (ak u1 0)) (
 some ((),(([],()),(0,()),(false,()),()))
 ) (
 (I1 y2.2.2.1 y3.2.2.1.1 y3.2.1.1 u1 0).bind (Sum.elim (fun y4 =>
 (B5 () y4.2.1 y4.1 (ae y4.1) 0).bind (Sum.elim (fun y5 =>
 some ((),((y5.2.2.1,()),(y5.2.1,()),(true,()),()))
 ) (fun y5 =>
 some ((),((y5.1,()),(y5.2.1,()),(y5.2.2.1,()),()))
 ))
 ) (fun y4 =>
 some ((),((y4.1,()),(y4.2.1,()),(y4.2.2.1,()),()))
 ))
 )
 ) (
 (B5 () y2.2.1 y2.2.2.1 (ae y2.2.2.1) 0).bind (Sum.elim (fun y3 =>
 some ((),((y3.2.2.1,()),(y3.2.1,()),(true,()),()))
 ) (fun y3 =>
 some ((),((y3.1,()),(y3.2.1,()),(y3.2.2.1,()),()))
 ))
 )
 ) (fun y2 =>
 some ((),((y2.1,()),(y2.2.1,()),(y2.2.2.1,()),()))
 ))
 )
def Ww:Su:=⟨[.c false [.sl 5 fy]],[(false,gD),(false,aK),(false,[.bool])],true,.inl fun x=>G2 x.1.1⟩
theorem Q7:ar Tryz.prog 150 Ww :=
 fl (ac Sj (ac Ji an)) [.own 2 (.sl 3 aK),.d 3 (.int .i64),.d 4 (.bool)] [(0,⟨[.d 0 (.sl 5 fy),.d 6 (.int .i64),.own 8 (.sl 3 aK),.d 9 (.bool),.own 28 (.sl 3 aK),.d 29 (.int .i64),.d 30 (.int .i64)],ai (GG oP)⟩),(2,⟨[.own 8 (.sl 3 aK),.d 13 (.int .i64),.own 56 (.sl 3 aK),.d 57 (.int .i64),.d 58 (.int .i64)],ai (gi nz)⟩),(4,⟨[.al 69 8,.d 6 (.int .i64),.own 8 (.sl 3 aK),.d 70 (.int .i64),.d 71 (.int .i64)],ai (gi oQ)⟩)] [] Tryz.f150 (lp [0,2,4] (sc dn (sc dn (sc dn sn))))
def F2 (p0:Int):Option jX :=
 cond (ak p0 2) (
 some ((),((19,()),()))
 ) (
 cond (ak p0 3) (
 some ((),((6,()),()))
 ) (
 cond (ak p0 11) (
 some ((),((6,()),()))
 ) (
 cond (ak p0 38) (
 some ((),((6,()),()))
 ) (
 cond (ak p0 4) (
 some ((),((12,()),()))
 ) (
 cond (ak p0 37) (
 some ((),((12,()),()))
 ) (
 cond (ak p0 95) (
 some ((),((12,()),()))
 ) (
 cond (ak p0 7) (
 some ((),((10,()),()))
 ) (
 cond (ak p0 14) (
 some ((),((4,()),()))
 ) (
 cond (ak p0 39) (
 some ((),((2,()),()))
 ) (
 cond (ak p0 41) (
 some ((),((8,()),()))
 ) (
 cond (ak p0 49) (
 some ((),((3,()),()))
 ) (
 cond (ak p0 102) (
 some ((),((20,()),()))
 ) (
 cond (ak p0 103) (
 some ((),((20,()),()))
 ) (
 cond (ak p0 48) (
 some ((),((60,()),()))
 ) (
 cond (ak p0 54) (
 some ((),((60,()),()))
 ) (
 some ((),((0,()),()))
 )
 )
 )
 )
 )
 )
 )
 )
 )
 )
 )
 )
 )
 )
 )
 )
def V7:Su:=⟨[.c false aK],[(false,aK)],true,.inl fun x=>F2 x.1.1⟩
theorem Ms:ar Tryz.prog 201 V7 :=
 fq an Tryz.f201
def TQ (p0:Int):Option jX :=
 cond (ak p0 3) (
 some ((),((2,()),()))
 ) (
 cond (ak p0 4) (
 some ((),((2,()),()))
 ) (
 cond (ak p0 5) (
 some ((),((3,()),()))
 ) (
 some ((),((0,()),()))
 )
 )
 )
def Vk:Su:=⟨[.c false aK],[(false,aK)],true,.inl fun x=>TQ x.1.1⟩
theorem Q6:ar Tryz.prog 202 Vk :=
 fq an Tryz.f202
def nC (t0:List UInt8) (t4 t5:Int):Rd Qi Unit :=
 cond (au t5 (ae t0)) (
 cond (a7 t5 t0) (
 some (.inl (t0,(aG .i64 (aq .i64 (jI .i64 t4 10) (bN .i64 (dq t0 t5))) 48),(aq .i64 t5 1),()))
 ) none
 ) (
 some (.inr (.inl (t0,t4,t5,())))
 )
def Jj:=pJ (ai (fb nC))
def sF (p0:List UInt8):Option WA :=
 (pM p0).bind fun y1 =>
 cond (cond (!y1.2.1.1) true (au 18 (ae p0))) (
 some ((),((0,()),(false,()),()))
 ) (
 (Jj p0 0 0).bind (Sum.elim (fun y2 =>
 some ((),((y2.2.1,()),(true,()),()))
 ) (fun y2 =>
 none
 ))
 )
def X5:Su:=⟨[.c false [.str]],[(false,aK),(false,[.bool])],true,.inl fun x=>sF x.1.1⟩
theorem My:ar Tryz.prog 159 X5 :=
 fl (ac sh an) [] [(0,⟨[.d 0 (.str),.d 4 (.int .i64),.d 5 (.int .i64)],ai (fb nC)⟩)] [] Tryz.f159 (lp [0] (sc dn sn))
def Ig (p0:List R5) (p1 p2:Int):Option (Unit×(Y0×Y0×Y1×Unit)) :=
 cond (cond (!(ak p2 2)) (!(ak p2 3)) false) (
 some ((),((0,()),(0,()),(false,()),()))
 ) (
 (ud p0 p1 p2).bind fun y1 =>
 (sF y1.2.1.1).bind fun y2 =>
 some ((),(y2.2.1,y1.2.2.1,y1.2.2.2.1,()))
 )
def XE:Su:=⟨[.c false [.sl 5 fy],.c false aK,.c false aK],[(false,aK),(false,aK),(false,[.bool])],true,.inl fun x=>Ig x.1.1 x.2.1.1 x.2.2.1.1⟩
theorem Q8:ar Tryz.prog 203 XE :=
 fq (ac Gb (ac My an)) Tryz.f203
def nR (t0:List UInt8) (t3:Int):Rd QF Y1 :=
 cond (au t3 (ae t0)) (
 cond (a7 t3 t0) (
 let u1:=(dq t0 t3)
 cond (au u1 32) (
 some (.inr (.inr (false,())))
 ) (
 cond (a7 t3 t0) (
 cond (au 126 u1) (
 some (.inr (.inr (false,())))
 ) (
 some (.inl (t0,(aq .i64 t3 1),()))
 )
 ) none
 )
 ) none
 ) (
 some (.inr (.inl (t0,t3,())))
 )
def Iz:=NQ (ai (wP nR))
def yF (p0:List UInt8):Option dZ :=
 (Iz p0 0).bind (Sum.elim (fun y1 =>
 some ((),((true,()),()))
 ) (fun y1 =>
 some ((),(y1,()))
 ))
def Vp:Su:=⟨[.c false [.str]],[(false,[.bool])],true,.inl fun x=>yF x.1.1⟩
theorem MU:ar Tryz.prog 204 Vp :=
 fl an [.d 2 (.bool)] [(0,⟨[.d 0 (.str),.d 3 (.int .i64)],ai (wP nR)⟩)] [] Tryz.f204 (lp [0] (sc dn sn))
def K4 (p0:List R5) (p1 p2:Int):Option UH :=
 (Ft p2).bind fun y1 =>
 (F2 p2).bind fun y2 =>
 cond (cond (ak y1.2.1.1 0) true (au p1 0)) (
 some ((),(([],()),(0,()),(false,()),()))
 ) (
 let u1:=(TQ y1.2.1.1)
 Option.bind u1 fun y3 =>
 cond (au 0 y3.2.1.1) (
 Option.bind u1 fun y4 =>
 (Ig p0 p1 y4.2.1.1).bind fun y5 =>
 cond (!y5.2.2.2.1.1) (
 some ((),(([],()),(0,()),(false,()),()))
 ) (
 (pq y5.2.1.1 1 y2.2.1.1).bind fun y6 =>
 cond (!y6.2.1.1) (
 some ((),(([],()),(0,()),(false,()),()))
 ) (
 let u2:=(cond (ak y1.2.1.1 1) true (ak y1.2.1.1 3))
 cond u2 (
 (ud p0 y5.2.2.1.1 y5.2.1.1).bind fun y7 =>
 some ((),(y7.2.1,y7.2.2.1,y7.2.2.2.1,()))
 ) (
 let u3:=(ae p0)
 cond (cond (au u3 y5.2.2.1.1) true (au (aG .i64 u3 y5.2.2.1.1) y5.2.1.1)) (
 some ((),(([],()),(0,()),(false,()),()))
 ) (
 let u4:=(aq .i64 y5.2.2.1.1 y5.2.1.1)
 let u5:=(dI y5.2.2.1.1 u4 p0)
 cond u5 (
 let u6:=(strOf (sub p0 y5.2.2.1.1 u4))
 (yF u6).bind fun y7 =>
 cond (!y7.2.1.1) (
 some ((),(([],()),(0,()),(false,()),()))
 ) (
 cond u5 (
 some ((),((u6,()),(u4,()),(true,()),()))
 ) none
 )
 ) none
 )
 )
 )
 )
 ) (
 let u2:=(cond (ak y1.2.1.1 1) true (ak y1.2.1.1 3))
 cond u2 (
 (ud p0 p1 y2.2.1.1).bind fun y4 =>
 some ((),(y4.2.1,y4.2.2.1,y4.2.2.2.1,()))
 ) (
 let u3:=(ae p0)
 cond (cond (au u3 p1) true (au (aG .i64 u3 p1) y2.2.1.1)) (
 some ((),(([],()),(0,()),(false,()),()))
 ) (
 let u4:=(aq .i64 p1 y2.2.1.1)
 let u5:=(dI p1 u4 p0)
 cond u5 (
 let u6:=(strOf (sub p0 p1 u4))
 (yF u6).bind fun y4 =>
 cond (!y4.2.1.1) (
 some ((),(([],()),(0,()),(false,()),()))
 ) (
 cond u5 (
 some ((),((u6,()),(u4,()),(true,()),()))
 ) none
 )
 ) none
 )
 )
 )
 )
def Vc:Su:=⟨[.c false [.sl 5 fy],.c false aK,.c false aK],[(false,[.str]),(false,aK),(false,[.bool])],true,.inl fun x=>K4 x.1.1 x.2.1.1 x.2.2.1.1⟩
theorem RN:ar Tryz.prog 151 Vc :=
 fq (ac nj (ac Gb (ac Ji (ac Ms (ac Q6 (ac Q8 (ac MU an))))))) Tryz.f151
def nU (t0:List R5) (t8:Int) (t35:List R3) (t36 t37:Int) (b2 b9:(List UInt8)×(List iw)×Unit):Rd ((List R5)×Int×(List R3)×Int×Int×Di×Di×Unit) Ux :=
 cond (au t37 t36) (
 cond (a7 t37 t35) (
 (K4 t0 t8 (gt d3 t35 t37).1).bind fun y1 =>
 cond (!y1.2.2.2.1.1) (
 some (.inr (.inr (3,([],[],()),())))
 ) (
 cond (cR 24 b9.2.1 [((gt d3 t35 t37).1,y1.2.1.1,())]) (
 some (.inl (t0,y1.2.2.1.1,t35,t36,(aq .i64 t37 1),b2,(b9.1,(lP b9.2.1 [((gt d3 t35 t37).1,y1.2.1.1,())]),()),()))
 ) none
 )
 ) none
 ) (
 some (.inr (.inl (t0,t8,t35,t36,t37,b2,b9,())))
 )
def Jw:=Ui (ai (GG nU))
def KY (p0:List R5):Option (Unit×(Di×Y0×Unit)) :=
 (ud p0 0 4).bind fun y1 =>
 cond (!y1.2.2.2.1.1) (
 some ((),(([],[],()),(1,()),()))
 ) (
 (G2 p0).bind fun y2 =>
 cond (!y2.2.2.2.1.1) (
 some ((),(([],[],()),(2,()),()))
 ) (
 (Jw p0 y2.2.2.1.1 y2.2.1.1 (ae y2.2.1.1) 0 ([],[],()) (y1.2.1.1,[],())).bind (Sum.elim (fun y3 =>
 cond (!(ak y3.2.1 (ae y3.1))) (
 some ((),(([],[],()),(4,()),()))
 ) (
 some ((),(y3.2.2.2.2.2.2.1,(0,()),()))
 )
 ) (fun y3 =>
 some ((),(y3.2.1,(y3.1,()),()))
 ))
 )
 )
def Xd:Su:=⟨[.c false [.sl 5 fy]],[(true,[.str,.sl 178 dz]),(false,aK)],true,.inl fun x=>KY x.1.1⟩
theorem Se:ar Tryz.prog 119 Xd :=
 fl (ac Gb (ac Q7 (ac RN an))) [.d 3 (.int .i64),.box 2 [(false,.str),(true,.sl 178 dz)]] [(0,⟨[.d 0 (.sl 5 fy),.d 8 (.int .i64),.own 35 (.sl 3 aK),.d 36 (.int .i64),.d 37 (.int .i64),.box 2 [(false,.str),(true,.sl 178 dz)],.box 9 [(false,.str),(true,.sl 178 dz)]],ai (GG nU)⟩)] [] Tryz.f119 (lp [0] (sc dn sn))
def J8 (p0:Int) (p1:List UInt8):Option dZ :=
 (F2 p0).bind fun y1 =>
 (Ft p0).bind fun y2 =>
 cond (ak y2.2.1.1 1) (
 let u1:=(pM p1)
 Option.bind u1 fun y3 =>
 let u2:=(ae p1)
 some ((),(((cond y3.2.1.1 (ak u2 y1.2.1.1) false),()),()))
 ) (
 cond (ak y2.2.1.1 2) (
 let u1:=(yF p1)
 Option.bind u1 fun y3 =>
 let u2:=(ae p1)
 some ((),(((cond y3.2.1.1 (ak u2 y1.2.1.1) false),()),()))
 ) (
 cond (ak y2.2.1.1 3) (
 let u1:=(pM p1)
 Option.bind u1 fun y3 =>
 let u2:=(ae p1)
 some ((),(((cond y3.2.1.1 (bz u2 y1.2.1.1) false),()),()))
 ) (
 cond (ak y2.2.1.1 4) (
 let u1:=(yF p1)
 Option.bind u1 fun y3 =>
 cond y3.2.1.1 (
 let u2:=(ae p1)
 let u3:=(pq u2 1 y1.2.1.1)
 Option.bind u3 fun y4 =>
 some ((),(y4.2.1,()))
 ) (
 some ((),((false,()),()))
 )
 ) (
 cond (ak y2.2.1.1 5) (
 let u1:=(yF p1)
 Option.bind u1 fun y3 =>
 cond y3.2.1.1 (
 let u2:=(ae p1)
 let u3:=(pq u2 1 y1.2.1.1)
 Option.bind u3 fun y4 =>
 some ((),(y4.2.1,()))
 ) (
 some ((),((false,()),()))
 )
 ) (
 some ((),((false,()),()))
 )
 )
 )
 )
 )
def Xr:Su:=⟨[.c false aK,.c false [.str]],[(false,[.bool])],true,.inl fun x=>J8 x.1.1 x.2.1.1⟩
theorem TZ:ar Tryz.prog 205 Xr :=
 fq (ac nj (ac sh (ac Ji (ac Ms (ac MU an))))) Tryz.f205
def ny (t16:List iw) (t17 t18:Int) (b1:(List UInt8)×(List iw)×Unit):Rd ((List iw)×Int×Int×Di×Unit) Y1 :=
 cond (au t18 t17) (
 cond (a7 t18 t16) (
 let u1:=(gt d178 t16 t18)
 (J8 u1.1 u1.2.1).bind fun y1 =>
 cond (!y1.2.1.1) (
 some (.inr (.inr (false,())))
 ) (
 cond (au 0 t18) (
 let u2:=(aG .i64 t18 1)
 cond (a7 u2 b1.2.1) (
 cond (bz u1.1 (gt d178 b1.2.1 u2).1) (
 some (.inr (.inr (false,())))
 ) (
 some (.inl (t16,t17,(aq .i64 t18 1),b1,()))
 )
 ) none
 ) (
 some (.inl (t16,t17,(aq .i64 t18 1),b1,()))
 )
 )
 ) none
 ) (
 some (.inr (.inl (t16,t17,t18,b1,())))
 )
def BY:=mJ (ai (cW ny))
def Lc (p0:(List UInt8)×(List iw)×Unit):Option dZ :=
 (pM p0.1).bind fun y1 =>
 cond (cond (!y1.2.1.1) true (!(ak (ae p0.1) 4))) (
 some ((),((false,()),()))
 ) (
 (BY p0.2.1 (ae p0.2.1) 0 p0).bind (Sum.elim (fun y2 =>
 some ((),((true,()),()))
 ) (fun y2 =>
 some ((),(y2,()))
 ))
 )
def Wm:Su:=⟨[.c true [.str,.sl 178 dz]],[(false,[.bool])],true,.inl fun x=>Lc x.1⟩
theorem RM:ar Tryz.prog 152 Wm :=
 fl (ac sh (ac TZ an)) [.d 2 (.bool)] [(0,⟨[.d 16 (.sl 178 dz),.d 17 (.int .i64),.d 18 (.int .i64),.box 1 [(false,.str),(false,.sl 178 dz)]],ai (cW ny)⟩)] [] Tryz.f152 (lp [0] (sc dn sn))
def Ow (p0:List UInt8):Option dZ :=
 some ((),(((cond (cond (bY p0 [48,49,48,48]) true (bY p0 [48,50,48,48])) true (bY p0 [48,50,50,48])),()),()))
def VW:Su:=⟨[.c false [.str]],[(false,[.bool])],true,.inl fun x=>Ow x.1.1⟩
theorem RP:ar Tryz.prog 153 VW :=
 fq an Tryz.f153
def nL (t1:Int) (t9:List iw) (t10 t11:Int):Rd (Int×(List iw)×Int×Int×Unit) ((List UInt8)×Bool×Unit) :=
 cond (au t11 t10) (
 cond (a7 t11 t9) (
 let u1:=(gt d178 t9 t11)
 cond (ak u1.1 t1) (
 some (.inr (.inr (u1.2.1,true,())))
 ) (
 some (.inl (t1,t9,t10,(aq .i64 t11 1),()))
 )
 ) none
 ) (
 some (.inr (.inl (t1,t9,t10,t11,())))
 )
def HH:=mJ (ai (cW nL))
def jH (p0:(List UInt8)×(List iw)×Unit) (p1:Int):Option (Unit×(Y6×Y1×Unit)) :=
 (HH p1 p0.2.1 (ae p0.2.1) 0).bind (Sum.elim (fun y1 =>
 some ((),(([],()),(false,()),()))
 ) (fun y1 =>
 some ((),((y1.1,()),(y1.2.1,()),()))
 ))
def U8:Su:=⟨[.c true [.str,.sl 178 dz],.c false aK],[(false,[.str]),(false,[.bool])],true,.inl fun x=>jH x.1 x.2.1.1⟩
theorem Re:ar Tryz.prog 154 U8 :=
 fl an [.d 4 (.str),.d 5 (.bool)] [(0,⟨[.d 1 (.int .i64),.d 9 (.sl 178 dz),.d 10 (.int .i64),.d 11 (.int .i64)],ai (cW nL)⟩)] [] Tryz.f154 (lp [0] (sc dn sn))
def zW (p0:Int):Option dZ :=
 (pq p0 1 8).bind fun y1 =>
 some ((),(y1.2.1,()))
def Vr:Su:=⟨[.c false aK],[(false,[.bool])],true,.inl fun x=>zW x.1.1⟩
theorem DR:ar Tryz.prog 208 Vr :=
 fq (ac nj an) Tryz.f208
def Q2  : Option SJ :=
 some ((),(([([],()),([48,49,48,48],()),([48,49,48,48],()),([48,50,50,48],()),([48,50,50,48],()),([48,50,50,48],()),([48,50,48,48],()),([48,49,48,48],()),([48,50,48,48],())],()),()))
def WX:Su:=⟨[],[(false,[.sl 9 wM])],true,.inl fun x=>Q2 ⟩
theorem SN:ar Tryz.prog 241 WX :=
 fq an Tryz.f241
def EE (p0:Int):Option NZ :=
 (zW p0).bind fun y1 =>
 cond (!y1.2.1.1) (
 some ((),(([],()),()))
 ) (
 (Q2).bind fun y2 =>
 cond (a7 p0 y2.2.1.1) (
 some ((),((gt d9 y2.2.1.1 p0),()))
 ) none
 )
def X7:Su:=⟨[.c false aK],[(false,[.str])],true,.inl fun x=>EE x.1.1⟩
theorem Ni:ar Tryz.prog 206 X7 :=
 fq (ac DR (ac SN an)) Tryz.f206
def RA  : Option SJ :=
 some ((),(([([],()),([48,48],()),([48,50],()),([48,49],()),([48,48],()),([50,48],()),([52,48],()),([51,49],()),([57,48],())],()),()))
def XK:Su:=⟨[],[(false,[.sl 9 wM])],true,.inl fun x=>RA ⟩
theorem SU:ar Tryz.prog 242 XK :=
 fq an Tryz.f242
def OY (p0:Int):Option NZ :=
 (zW p0).bind fun y1 =>
 cond (!y1.2.1.1) (
 some ((),(([],()),()))
 ) (
 (RA).bind fun y2 =>
 cond (a7 p0 y2.2.1.1) (
 some ((),((gt d9 y2.2.1.1 p0),()))
 ) none
 )
def Yc:Su:=⟨[.c false aK],[(false,[.str])],true,.inl fun x=>OY x.1.1⟩
theorem SY:ar Tryz.prog 207 Yc :=
 fq (ac DR (ac SU an)) Tryz.f207
def wu (t0 t1:List UInt8) (t5:Int):Rd ((List UInt8)×(List UInt8)×Int×Unit) Y0 :=
 cond (bz t5 8) (
 (EE t5).bind fun y1 =>
 cond (bY y1.2.1.1 t0) (
 (OY t5).bind fun y2 =>
 cond (dI 0 2 t1) (
 cond (bY y2.2.1.1 (sub t1 0 2)) (
 some (.inr (.inr (t5,())))
 ) (
 some (.inl (t0,t1,(aq .i64 t5 1),()))
 )
 ) none
 ) (
 some (.inl (t0,t1,(aq .i64 t5 1),()))
 )
 ) (
 some (.inr (.inl (t0,t1,t5,())))
 )
def IC:=pJ (ai (fb wu))
def GK (p0 p1:List UInt8):Option jX :=
 (IC p0 p1 1).bind (Sum.elim (fun y1 =>
 some ((),((0,()),()))
 ) (fun y1 =>
 some ((),(y1,()))
 ))
def Vo:Su:=⟨[.c false [.str],.c false [.str]],[(false,aK)],true,.inl fun x=>GK x.1.1 x.2.1.1⟩
theorem QR:ar Tryz.prog 155 Vo :=
 fl (ac Ni (ac SY an)) [.d 4 (.int .i64)] [(0,⟨[.d 0 (.str),.d 1 (.str),.d 5 (.int .i64)],ai (fb wu)⟩)] [] Tryz.f155 (lp [0] (sc dn sn))
def Fz (p0:Int):Option dZ :=
 (zW p0).bind fun y1 =>
 some ((),(((cond y1.2.1.1 (au p0 7) false),()),()))
def Wp:Su:=⟨[.c false aK],[(false,[.bool])],true,.inl fun x=>Fz x.1.1⟩
theorem M9:ar Tryz.prog 156 Wp :=
 fq (ac DR an) Tryz.f156
def zz (t0:List UInt8) (t3:Int):Rd QF Unit :=
 cond (au 0 t3) (
 let u1:=(aG .i64 t3 1)
 cond (a7 u1 t0) (
 cond (ak (dq t0 u1) 32) (
 some (.inl (t0,u1,()))
 ) (
 some (.inr (.inl (t0,t3,())))
 )
 ) none
 ) (
 some (.inr (.inl (t0,t3,())))
 )
def Hv:=NQ (ai (wP zz))
def KB (p0:List UInt8):Option NZ :=
 (Hv p0 (ae p0)).bind (Sum.elim (fun y1 =>
 cond (dI 0 y1.2.1 y1.1) (
 some ((),(((sub y1.1 0 y1.2.1),()),()))
 ) none
 ) (fun y1 =>
 none
 ))
def V4:Su:=⟨[.c false [.str]],[(false,[.str])],true,.inl fun x=>KB x.1.1⟩
theorem Ri:ar Tryz.prog 157 V4 :=
 fl an [] [(0,⟨[.d 0 (.str),.d 3 (.int .i64)],ai (wP zz)⟩)] [] Tryz.f157 (lp [0] (sc dn sn))
def Ar (p0:Int):Option dZ :=
 (pq p0 1 4).bind fun y1 =>
 some ((),(y1.2.1,()))
def UZ:Su:=⟨[.c false aK],[(false,[.bool])],true,.inl fun x=>Ar x.1.1⟩
theorem M3:ar Tryz.prog 158 UZ :=
 fq (ac nj an) Tryz.f158
def kA (p0:Int×(List UInt8)×(List UInt8)×(List UInt8)×(List UInt8)×(List UInt8)×Int×Int×Unit):Option dZ :=
 (zW p0.1).bind fun y1 =>
 cond (!y1.2.1.1) (
 some ((),((false,()),()))
 ) (
 (EE p0.1).bind fun y2 =>
 cond (!(bY p0.2.2.2.2.2.1 y2.2.1.1)) (
 some ((),((false,()),()))
 ) (
 (FQ p0.2.1).bind fun y3 =>
 cond (!y3.2.1.1) (
 some ((),((false,()),()))
 ) (
 (pM p0.2.2.2.2.1).bind fun y4 =>
 cond (cond (!y4.2.1.1) true (!(ak (ae p0.2.2.2.2.1) 6))) (
 some ((),((false,()),()))
 ) (
 let u1:=(Fz p0.1)
 Option.bind u1 fun y5 =>
 cond y5.2.1.1 (
 (Je p0.2.2.2.1).bind fun y6 =>
 cond (!y6.2.1.1) (
 some ((),((false,()),()))
 ) (
 Option.bind u1 fun y7 =>
 cond (cond (!y7.2.1.1) (!(bY p0.2.2.2.1 [])) false) (
 some ((),((false,()),()))
 ) (
 let u2:=(Ar p0.1)
 Option.bind u2 fun y8 =>
 cond y8.2.1.1 (
 let u3:=(pq p0.2.2.2.2.2.2.1 0 999999999999)
 Option.bind u3 fun y9 =>
 cond (!y9.2.1.1) (
 some ((),((false,()),()))
 ) (
 Option.bind u2 fun y10 =>
 cond (cond (!y10.2.1.1) (!(ak p0.2.2.2.2.2.2.1 0)) false) (
 some ((),((false,()),()))
 ) (
 cond (ak p0.1 1) (
 let u4:=(pq p0.2.2.2.2.2.2.2.1 0 9999)
 Option.bind u4 fun y11 =>
 cond (!y11.2.1.1) (
 some ((),((false,()),()))
 ) (
 let u5:=(cond (!(ak p0.1 1)) (!(ak p0.2.2.2.2.2.2.2.1 0)) false)
 cond u5 (
 some ((),((false,()),()))
 ) (
 cond (ak p0.1 6) (
 let u6:=(FQ p0.2.2.1)
 Option.bind u6 fun y12 =>
 cond y12.2.1.1 (
 some ((),((true,()),()))
 ) (
 some ((),(((cond (!(ak p0.1 6)) (bY p0.2.2.1 []) false),()),()))
 )
 ) (
 some ((),(((cond (!(ak p0.1 6)) (bY p0.2.2.1 []) false),()),()))
 )
 )
 )
 ) (
 let u4:=(cond (!(ak p0.1 1)) (!(ak p0.2.2.2.2.2.2.2.1 0)) false)
 cond u4 (
 some ((),((false,()),()))
 ) (
 cond (ak p0.1 6) (
 let u5:=(FQ p0.2.2.1)
 Option.bind u5 fun y11 =>
 cond y11.2.1.1 (
 some ((),((true,()),()))
 ) (
 some ((),(((cond (!(ak p0.1 6)) (bY p0.2.2.1 []) false),()),()))
 )
 ) (
 some ((),(((cond (!(ak p0.1 6)) (bY p0.2.2.1 []) false),()),()))
 )
 )
 )
 )
 )
 ) (
 Option.bind u2 fun y9 =>
 let u3:=(cond (!y9.2.1.1) (!(ak p0.2.2.2.2.2.2.1 0)) false)
 cond u3 (
 some ((),((false,()),()))
 ) (
 cond (ak p0.1 1) (
 let u4:=(pq p0.2.2.2.2.2.2.2.1 0 9999)
 Option.bind u4 fun y10 =>
 cond (!y10.2.1.1) (
 some ((),((false,()),()))
 ) (
 let u5:=(cond (!(ak p0.1 1)) (!(ak p0.2.2.2.2.2.2.2.1 0)) false)
 cond u5 (
 some ((),((false,()),()))
 ) (
 cond (ak p0.1 6) (
 let u6:=(FQ p0.2.2.1)
 Option.bind u6 fun y11 =>
 cond y11.2.1.1 (
 some ((),((true,()),()))
 ) (
 some ((),(((cond (!(ak p0.1 6)) (bY p0.2.2.1 []) false),()),()))
 )
 ) (
 some ((),(((cond (!(ak p0.1 6)) (bY p0.2.2.1 []) false),()),()))
 )
 )
 )
 ) (
 let u4:=(cond (!(ak p0.1 1)) (!(ak p0.2.2.2.2.2.2.2.1 0)) false)
 cond u4 (
 some ((),((false,()),()))
 ) (
 cond (ak p0.1 6) (
 let u5:=(FQ p0.2.2.1)
 Option.bind u5 fun y10 =>
 cond y10.2.1.1 (
 some ((),((true,()),()))
 ) (
 some ((),(((cond (!(ak p0.1 6)) (bY p0.2.2.1 []) false),()),()))
 )
 ) (
 some ((),(((cond (!(ak p0.1 6)) (bY p0.2.2.1 []) false),()),()))
 )
 )
 )
 )
 )
 )
 )
 ) (
 Option.bind u1 fun y6 =>
 cond (cond (!y6.2.1.1) (!(bY p0.2.2.2.1 [])) false) (
 some ((),((false,()),()))
 ) (
 let u2:=(Ar p0.1)
 Option.bind u2 fun y7 =>
 cond y7.2.1.1 (
 let u3:=(pq p0.2.2.2.2.2.2.1 0 999999999999)
 Option.bind u3 fun y8 =>
 cond (!y8.2.1.1) (
 some ((),((false,()),()))
 ) (
 Option.bind u2 fun y9 =>
 let u4:=(cond (!y9.2.1.1) (!(ak p0.2.2.2.2.2.2.1 0)) false)
 cond u4 (
 some ((),((false,()),()))
 ) (
 cond (ak p0.1 1) (
 let u5:=(pq p0.2.2.2.2.2.2.2.1 0 9999)
 Option.bind u5 fun y10 =>
 cond (!y10.2.1.1) (
 some ((),((false,()),()))
 ) (
 let u6:=(cond (!(ak p0.1 1)) (!(ak p0.2.2.2.2.2.2.2.1 0)) false)
 cond u6 (
 some ((),((false,()),()))
 ) (
 cond (ak p0.1 6) (
 let u7:=(FQ p0.2.2.1)
 Option.bind u7 fun y11 =>
 cond y11.2.1.1 (
 some ((),((true,()),()))
 ) (
 some ((),(((cond (!(ak p0.1 6)) (bY p0.2.2.1 []) false),()),()))
 )
 ) (
 some ((),(((cond (!(ak p0.1 6)) (bY p0.2.2.1 []) false),()),()))
 )
 )
 )
 ) (
 let u5:=(cond (!(ak p0.1 1)) (!(ak p0.2.2.2.2.2.2.2.1 0)) false)
 cond u5 (
 some ((),((false,()),()))
 ) (
 cond (ak p0.1 6) (
 let u6:=(FQ p0.2.2.1)
 Option.bind u6 fun y10 =>
 cond y10.2.1.1 (
 some ((),((true,()),()))
 ) (
 some ((),(((cond (!(ak p0.1 6)) (bY p0.2.2.1 []) false),()),()))
 )
 ) (
 some ((),(((cond (!(ak p0.1 6)) (bY p0.2.2.1 []) false),()),()))
 )
 )
 )
 )
 )
 ) (
 Option.bind u2 fun y8 =>
 cond (cond (!y8.2.1.1) (!(ak p0.2.2.2.2.2.2.1 0)) false) (
 some ((),((false,()),()))
 ) (
 cond (ak p0.1 1) (
 let u3:=(pq p0.2.2.2.2.2.2.2.1 0 9999)
 Option.bind u3 fun y9 =>
 cond (!y9.2.1.1) (
 some ((),((false,()),()))
 ) (
 let u4:=(cond (!(ak p0.1 1)) (!(ak p0.2.2.2.2.2.2.2.1 0)) false)
 cond u4 (
 some ((),((false,()),()))
 ) (
 cond (ak p0.1 6) (
 let u5:=(FQ p0.2.2.1)
 Option.bind u5 fun y10 =>
 cond y10.2.1.1 (
 some ((),((true,()),()))
 ) (
 some ((),(((cond (!(ak p0.1 6)) (bY p0.2.2.1 []) false),()),()))
 )
 ) (
 some ((),(((cond (!(ak p0.1 6)) (bY p0.2.2.1 []) false),()),()))
 )
 )
 )
 ) (
 let u3:=(cond (!(ak p0.1 1)) (!(ak p0.2.2.2.2.2.2.2.1 0)) false)
 cond u3 (
 some ((),((false,()),()))
 ) (
 cond (ak p0.1 6) (
 let u4:=(FQ p0.2.2.1)
 Option.bind u4 fun y9 =>
 cond y9.2.1.1 (
 some ((),((true,()),()))
 ) (
 some ((),(((cond (!(ak p0.1 6)) (bY p0.2.2.1 []) false),()),()))
 )
 ) (
 some ((),(((cond (!(ak p0.1 6)) (bY p0.2.2.1 []) false),()),()))
 )
 )
 )
 )
 )
 )
 )
 )
 )
 )
 )
def VV:Su:=⟨[.c true [.int .i64,.str,.str,.str,.str,.str,.int .i64,.int .i64]],[(false,[.bool])],true,.inl fun x=>kA x.1⟩
theorem Qu:ar Tryz.prog 160 VV :=
 fq (ac nj (ac sh (ac Rx (ac Nd (ac DR (ac Ni (ac M9 (ac M3 an)))))))) Tryz.f160
def JQ (p0:(List UInt8)×(List iw)×Unit):Option (Unit×(S0×Y0×Unit)) :=
 (Lc p0).bind fun y1 =>
 cond (!y1.2.1.1) (
 some ((),((0,[],[],[],[],[],0,0,()),(1,()),()))
 ) (
 (Ow p0.1).bind fun y2 =>
 cond (!y2.2.1.1) (
 some ((),((0,[],[],[],[],[],0,0,()),(2,()),()))
 ) (
 (jH p0 3).bind fun y3 =>
 cond (!y3.2.2.1.1) (
 some ((),((0,[],[],[],[],[],0,0,()),(1,()),()))
 ) (
 (GK p0.1 y3.2.1.1).bind fun y4 =>
 (jH p0 2).bind fun y5 =>
 (jH p0 11).bind fun y6 =>
 (Fz y4.2.1.1).bind fun y7 =>
 cond y7.2.1.1 (
 (jH p0 38).bind fun y8 =>
 (KB y8.2.1.1).bind fun y9 =>
 let u1:=(Ar y4.2.1.1)
 Option.bind u1 fun y10 =>
 cond y10.2.1.1 (
 let u2:=(jH p0 4)
 Option.bind u2 fun y11 =>
 let u3:=(sF y11.2.1.1)
 Option.bind u3 fun y12 =>
 cond (ak y4.2.1.1 1) (
 let u4:=(jH p0 14)
 Option.bind u4 fun y13 =>
 (sF y13.2.1.1).bind fun y14 =>
 cond (ak y4.2.1.1 6) (
 let u5:=(jH p0 103)
 Option.bind u5 fun y15 =>
 let u6:=(cond y3.2.2.1.1 y11.2.2.1.1 false)
 cond (!(cond u6 y13.2.2.1.1 false)) (
 some ((),((0,[],[],[],[],[],0,0,()),(1,()),()))
 ) (
 (kA (y4.2.1.1,y5.2.1.1,y15.2.1.1,y9.2.1.1,y6.2.1.1,p0.1,y12.2.1.1,y14.2.1.1,())).bind fun y16 =>
 cond (!y16.2.1.1) (
 some ((),((0,[],[],[],[],[],0,0,()),(1,()),()))
 ) (
 some ((),((y4.2.1.1,y5.2.1.1,y15.2.1.1,y9.2.1.1,y6.2.1.1,p0.1,y12.2.1.1,y14.2.1.1,()),(0,()),()))
 )
 )
 ) (
 let u5:=(cond y3.2.2.1.1 y11.2.2.1.1 false)
 cond (!(cond u5 y13.2.2.1.1 false)) (
 some ((),((0,[],[],[],[],[],0,0,()),(1,()),()))
 ) (
 (kA (y4.2.1.1,y5.2.1.1,[],y9.2.1.1,y6.2.1.1,p0.1,y12.2.1.1,y14.2.1.1,())).bind fun y15 =>
 cond (!y15.2.1.1) (
 some ((),((0,[],[],[],[],[],0,0,()),(1,()),()))
 ) (
 some ((),((y4.2.1.1,y5.2.1.1,[],y9.2.1.1,y6.2.1.1,p0.1,y12.2.1.1,y14.2.1.1,()),(0,()),()))
 )
 )
 )
 ) (
 cond (ak y4.2.1.1 6) (
 let u4:=(jH p0 103)
 Option.bind u4 fun y13 =>
 let u5:=(cond y3.2.2.1.1 y11.2.2.1.1 false)
 cond (!u5) (
 some ((),((0,[],[],[],[],[],0,0,()),(1,()),()))
 ) (
 (kA (y4.2.1.1,y5.2.1.1,y13.2.1.1,y9.2.1.1,y6.2.1.1,p0.1,y12.2.1.1,0,())).bind fun y14 =>
 cond (!y14.2.1.1) (
 some ((),((0,[],[],[],[],[],0,0,()),(1,()),()))
 ) (
 some ((),((y4.2.1.1,y5.2.1.1,y13.2.1.1,y9.2.1.1,y6.2.1.1,p0.1,y12.2.1.1,0,()),(0,()),()))
 )
 )
 ) (
 let u4:=(cond y3.2.2.1.1 y11.2.2.1.1 false)
 cond (!u4) (
 some ((),((0,[],[],[],[],[],0,0,()),(1,()),()))
 ) (
 (kA (y4.2.1.1,y5.2.1.1,[],y9.2.1.1,y6.2.1.1,p0.1,y12.2.1.1,0,())).bind fun y13 =>
 cond (!y13.2.1.1) (
 some ((),((0,[],[],[],[],[],0,0,()),(1,()),()))
 ) (
 some ((),((y4.2.1.1,y5.2.1.1,[],y9.2.1.1,y6.2.1.1,p0.1,y12.2.1.1,0,()),(0,()),()))
 )
 )
 )
 )
 ) (
 cond (ak y4.2.1.1 1) (
 let u2:=(jH p0 14)
 Option.bind u2 fun y11 =>
 let u3:=(sF y11.2.1.1)
 Option.bind u3 fun y12 =>
 cond (ak y4.2.1.1 6) (
 let u4:=(jH p0 103)
 Option.bind u4 fun y13 =>
 let u5:=(cond y3.2.2.1.1 y11.2.2.1.1 false)
 cond (!u5) (
 some ((),((0,[],[],[],[],[],0,0,()),(1,()),()))
 ) (
 (kA (y4.2.1.1,y5.2.1.1,y13.2.1.1,y9.2.1.1,y6.2.1.1,p0.1,0,y12.2.1.1,())).bind fun y14 =>
 cond (!y14.2.1.1) (
 some ((),((0,[],[],[],[],[],0,0,()),(1,()),()))
 ) (
 some ((),((y4.2.1.1,y5.2.1.1,y13.2.1.1,y9.2.1.1,y6.2.1.1,p0.1,0,y12.2.1.1,()),(0,()),()))
 )
 )
 ) (
 let u4:=(cond y3.2.2.1.1 y11.2.2.1.1 false)
 cond (!u4) (
 some ((),((0,[],[],[],[],[],0,0,()),(1,()),()))
 ) (
 (kA (y4.2.1.1,y5.2.1.1,[],y9.2.1.1,y6.2.1.1,p0.1,0,y12.2.1.1,())).bind fun y13 =>
 cond (!y13.2.1.1) (
 some ((),((0,[],[],[],[],[],0,0,()),(1,()),()))
 ) (
 some ((),((y4.2.1.1,y5.2.1.1,[],y9.2.1.1,y6.2.1.1,p0.1,0,y12.2.1.1,()),(0,()),()))
 )
 )
 )
 ) (
 cond (ak y4.2.1.1 6) (
 let u2:=(jH p0 103)
 Option.bind u2 fun y11 =>
 cond (!y3.2.2.1.1) (
 some ((),((0,[],[],[],[],[],0,0,()),(1,()),()))
 ) (
 (kA (y4.2.1.1,y5.2.1.1,y11.2.1.1,y9.2.1.1,y6.2.1.1,p0.1,0,0,())).bind fun y12 =>
 cond (!y12.2.1.1) (
 some ((),((0,[],[],[],[],[],0,0,()),(1,()),()))
 ) (
 some ((),((y4.2.1.1,y5.2.1.1,y11.2.1.1,y9.2.1.1,y6.2.1.1,p0.1,0,0,()),(0,()),()))
 )
 )
 ) (
 cond (!y3.2.2.1.1) (
 some ((),((0,[],[],[],[],[],0,0,()),(1,()),()))
 ) (
 (kA (y4.2.1.1,y5.2.1.1,[],y9.2.1.1,y6.2.1.1,p0.1,0,0,())).bind fun y11 =>
 cond (!y11.2.1.1) (
 some ((),((0,[],[],[],[],[],0,0,()),(1,()),()))
 ) (
 some ((),((y4.2.1.1,y5.2.1.1,[],y9.2.1.1,y6.2.1.1,p0.1,0,0,()),(0,()),()))
 )
 )
 )
 )
 )
 ) (
 let u1:=(Ar y4.2.1.1)
 Option.bind u1 fun y8 =>
 cond y8.2.1.1 (
 let u2:=(jH p0 4)
 Option.bind u2 fun y9 =>
 let u3:=(sF y9.2.1.1)
 Option.bind u3 fun y10 =>
 cond (ak y4.2.1.1 1) (
 let u4:=(jH p0 14)
 Option.bind u4 fun y11 =>
 let u5:=(sF y11.2.1.1)
 Option.bind u5 fun y12 =>
 cond (ak y4.2.1.1 6) (
 let u6:=(jH p0 103)
 Option.bind u6 fun y13 =>
 let u7:=(cond y3.2.2.1.1 y9.2.2.1.1 false)
 cond (!(cond u7 y11.2.2.1.1 false)) (
 some ((),((0,[],[],[],[],[],0,0,()),(1,()),()))
 ) (
 (kA (y4.2.1.1,y5.2.1.1,y13.2.1.1,[],y6.2.1.1,p0.1,y10.2.1.1,y12.2.1.1,())).bind fun y14 =>
 cond (!y14.2.1.1) (
 some ((),((0,[],[],[],[],[],0,0,()),(1,()),()))
 ) (
 some ((),((y4.2.1.1,y5.2.1.1,y13.2.1.1,[],y6.2.1.1,p0.1,y10.2.1.1,y12.2.1.1,()),(0,()),()))
 )
 )
 ) (
 let u6:=(cond y3.2.2.1.1 y9.2.2.1.1 false)
 cond (!(cond u6 y11.2.2.1.1 false)) (
 some ((),((0,[],[],[],[],[],0,0,()),(1,()),()))
 ) (
 (kA (y4.2.1.1,y5.2.1.1,[],[],y6.2.1.1,p0.1,y10.2.1.1,y12.2.1.1,())).bind fun y13 =>
 cond (!y13.2.1.1) (
 some ((),((0,[],[],[],[],[],0,0,()),(1,()),()))
 ) (
 some ((),((y4.2.1.1,y5.2.1.1,[],[],y6.2.1.1,p0.1,y10.2.1.1,y12.2.1.1,()),(0,()),()))
 )
 )
 )
 ) (
 cond (ak y4.2.1.1 6) (
 let u4:=(jH p0 103)
 Option.bind u4 fun y11 =>
 let u5:=(cond y3.2.2.1.1 y9.2.2.1.1 false)
 cond (!u5) (
 some ((),((0,[],[],[],[],[],0,0,()),(1,()),()))
 ) (
 (kA (y4.2.1.1,y5.2.1.1,y11.2.1.1,[],y6.2.1.1,p0.1,y10.2.1.1,0,())).bind fun y12 =>
 cond (!y12.2.1.1) (
 some ((),((0,[],[],[],[],[],0,0,()),(1,()),()))
 ) (
 some ((),((y4.2.1.1,y5.2.1.1,y11.2.1.1,[],y6.2.1.1,p0.1,y10.2.1.1,0,()),(0,()),()))
 )
 )
 ) (
 let u4:=(cond y3.2.2.1.1 y9.2.2.1.1 false)
 cond (!u4) (
 some ((),((0,[],[],[],[],[],0,0,()),(1,()),()))
 ) (
 (kA (y4.2.1.1,y5.2.1.1,[],[],y6.2.1.1,p0.1,y10.2.1.1,0,())).bind fun y11 =>
 cond (!y11.2.1.1) (
 some ((),((0,[],[],[],[],[],0,0,()),(1,()),()))
 ) (
 some ((),((y4.2.1.1,y5.2.1.1,[],[],y6.2.1.1,p0.1,y10.2.1.1,0,()),(0,()),()))
 )
 )
 )
 )
 ) (
 cond (ak y4.2.1.1 1) (
 let u2:=(jH p0 14)
 Option.bind u2 fun y9 =>
 let u3:=(sF y9.2.1.1)
 Option.bind u3 fun y10 =>
 cond (ak y4.2.1.1 6) (
 let u4:=(jH p0 103)
 Option.bind u4 fun y11 =>
 let u5:=(cond y3.2.2.1.1 y9.2.2.1.1 false)
 cond (!u5) (
 some ((),((0,[],[],[],[],[],0,0,()),(1,()),()))
 ) (
 (kA (y4.2.1.1,y5.2.1.1,y11.2.1.1,[],y6.2.1.1,p0.1,0,y10.2.1.1,())).bind fun y12 =>
 cond (!y12.2.1.1) (
 some ((),((0,[],[],[],[],[],0,0,()),(1,()),()))
 ) (
 some ((),((y4.2.1.1,y5.2.1.1,y11.2.1.1,[],y6.2.1.1,p0.1,0,y10.2.1.1,()),(0,()),()))
 )
 )
 ) (
 let u4:=(cond y3.2.2.1.1 y9.2.2.1.1 false)
 cond (!u4) (
 some ((),((0,[],[],[],[],[],0,0,()),(1,()),()))
 ) (
 (kA (y4.2.1.1,y5.2.1.1,[],[],y6.2.1.1,p0.1,0,y10.2.1.1,())).bind fun y11 =>
 cond (!y11.2.1.1) (
 some ((),((0,[],[],[],[],[],0,0,()),(1,()),()))
 ) (
 some ((),((y4.2.1.1,y5.2.1.1,[],[],y6.2.1.1,p0.1,0,y10.2.1.1,()),(0,()),()))
 )
 )
 )
 ) (
 cond (ak y4.2.1.1 6) (
 let u2:=(jH p0 103)
 Option.bind u2 fun y9 =>
 cond (!y3.2.2.1.1) (
 some ((),((0,[],[],[],[],[],0,0,()),(1,()),()))
 ) (
 (kA (y4.2.1.1,y5.2.1.1,y9.2.1.1,[],y6.2.1.1,p0.1,0,0,())).bind fun y10 =>
 cond (!y10.2.1.1) (
 some ((),((0,[],[],[],[],[],0,0,()),(1,()),()))
 ) (
 some ((),((y4.2.1.1,y5.2.1.1,y9.2.1.1,[],y6.2.1.1,p0.1,0,0,()),(0,()),()))
 )
 )
 ) (
 cond (!y3.2.2.1.1) (
 some ((),((0,[],[],[],[],[],0,0,()),(1,()),()))
 ) (
 (kA (y4.2.1.1,y5.2.1.1,[],[],y6.2.1.1,p0.1,0,0,())).bind fun y9 =>
 cond (!y9.2.1.1) (
 some ((),((0,[],[],[],[],[],0,0,()),(1,()),()))
 ) (
 some ((),((y4.2.1.1,y5.2.1.1,[],[],y6.2.1.1,p0.1,0,0,()),(0,()),()))
 )
 )
 )
 )
 )
 )
 )
 )
 )
def Xn:Su:=⟨[.c true [.str,.sl 178 dz]],[(true,[.int .i64,.str,.str,.str,.str,.str,.int .i64,.int .i64]),(false,aK)],true,.inl fun x=>JQ x.1⟩
theorem Tn:ar Tryz.prog 120 Xn :=
 fq (ac My (ac RM (ac RP (ac Re (ac QR (ac M9 (ac Ri (ac M3 (ac Qu an))))))))) Tryz.f120
def Uf (p0:List R5):Option SJ :=
 (KY p0).bind fun y1 =>
 cond (!(ak y1.2.2.1.1 0)) (
 some ((),(([],()),()))
 ) (
 (JQ y1.2.1).bind fun y2 =>
 cond (!(ak y2.2.2.1.1 0)) (
 some ((),(([],()),()))
 ) (
 cond (cond (!(ak y2.2.1.1 6)) true (bY y2.2.1.2.2.1 y2.2.1.2.1)) (
 some ((),(([(y2.2.1.2.1,())],()),()))
 ) (
 cond (jU y2.2.1.2.2.1 y2.2.1.2.1) (
 some ((),(([(y2.2.1.2.2.1,()),(y2.2.1.2.1,())],()),()))
 ) (
 some ((),(([(y2.2.1.2.1,()),(y2.2.1.2.2.1,())],()),()))
 )
 )
 )
 )
def YQ:Su:=⟨[.c false [.sl 5 fy]],[(false,[.sl 9 wM])],true,.inl fun x=>Uf x.1.1⟩
theorem VG:ar Tryz.prog 87 YQ :=
 fq (ac Se (ac Tn an)) Tryz.f87
def IQ (t1:Int) (t5:List R3) (t8 t9:Int) (t12:List R9) (t13 t14:Int):Rd (Int×(List R3)×Int×Int×(List R9)×Int×Int×Unit) Unit :=
 cond (au t9 (ae t5)) (
 cond (a7 t9 t5) (
 cond (au (gt d3 t5 t9).1 t8) (
 some (.inl (t1,t5,t8,(aq .i64 t9 1),t12,t13,t14,()))
 ) (
 some (.inr (.inl (t1,t5,t8,t9,t12,t13,t14,())))
 )
 ) none
 ) (
 some (.inr (.inl (t1,t5,t8,t9,t12,t13,t14,())))
 )
def xG:=Ui (ai (GG IQ))
def sC (t1:Int) (t5:List R3) (t12:List R9) (t13 t14:Int):Rd (Int×(List R3)×(List R9)×Int×Int×Unit) Unit :=
 cond (au t14 t13) (
 cond (a7 t14 t12) (
 (Nw (gt d9 t12 t14).1 t1).bind fun y1 =>
 (xG t1 t5 y1.2.1.1 0 t12 t13 t14).bind (Sum.elim (fun y2 =>
 let u1:=(ae y2.2.1)
 cond (au y2.2.2.2.1 u1) (
 cond (a7 y2.2.2.2.1 y2.2.1) (
 cond (ak (gt d3 y2.2.1 y2.2.2.2.1).1 y2.2.2.1) (
 let u2:=(aq .i64 y2.2.2.2.2.2.2.1 1)
 some (.inl (y2.1,y2.2.1,y2.2.2.2.2.1,y2.2.2.2.2.2.1,u2,()))
 ) (
 let u2:=(dI 0 y2.2.2.2.1 y2.2.1)
 cond u2 (
 let u3:=(NA y2.2.1 y2.2.2.2.1)
 let u4:=(cR 8 [] u3)
 cond u4 (
 let u5:=(lP [] u3)
 let u6:=(cR 8 u5 [(y2.2.2.1,())])
 cond u6 (
 let u7:=(dI y2.2.2.2.1 u1 y2.2.1)
 cond u7 (
 let u8:=(lP u5 [(y2.2.2.1,())])
 let u9:=(sub y2.2.1 y2.2.2.2.1 u1)
 let u10:=(cR 8 u8 u9)
 cond u10 (
 let u11:=(aq .i64 y2.2.2.2.2.2.2.1 1)
 some (.inl (y2.1,(lP u8 u9),y2.2.2.2.2.1,y2.2.2.2.2.2.1,u11,()))
 ) none
 ) none
 ) none
 ) none
 ) none
 )
 ) none
 ) (
 let u2:=(dI 0 y2.2.2.2.1 y2.2.1)
 cond u2 (
 let u3:=(NA y2.2.1 y2.2.2.2.1)
 let u4:=(cR 8 [] u3)
 cond u4 (
 let u5:=(lP [] u3)
 let u6:=(cR 8 u5 [(y2.2.2.1,())])
 cond u6 (
 let u7:=(dI y2.2.2.2.1 u1 y2.2.1)
 cond u7 (
 let u8:=(lP u5 [(y2.2.2.1,())])
 let u9:=(sub y2.2.1 y2.2.2.2.1 u1)
 let u10:=(cR 8 u8 u9)
 cond u10 (
 let u11:=(aq .i64 y2.2.2.2.2.2.2.1 1)
 some (.inl (y2.1,(lP u8 u9),y2.2.2.2.2.1,y2.2.2.2.2.2.1,u11,()))
 ) none
 ) none
 ) none
 ) none
 ) none
 )
 ) (fun y2 =>
 some (.inr (.inr ()))
 ))
 ) none
 ) (
 some (.inr (.inl (t1,t5,t12,t13,t14,())))
 )
def Df:=yA (ai (gi sC))
def Um (p0:List R9) (p1:Int):Option Nx :=
 (Df p1 [] p0 (ae p0) 0).bind (Sum.elim (fun y1 =>
 some ((),((y1.2.1,()),()))
 ) (fun y1 =>
 none
 ))
def Zu:Su:=⟨[.c false [.sl 9 wM],.c false aK],[(false,gD)],true,.inl fun x=>Um x.1.1 x.2.1.1⟩
theorem Xh:ar Tryz.prog 86 Zu :=
 fl (ac Rn an) [] [(2,⟨[.d 1 (.int .i64),.own 5 (.sl 3 aK),.d 8 (.int .i64),.d 9 (.int .i64),.d 12 (.sl 9 wM),.d 13 (.int .i64),.d 14 (.int .i64)],ai (GG IQ)⟩),(0,⟨[.d 1 (.int .i64),.own 5 (.sl 3 aK),.d 12 (.sl 9 wM),.d 13 (.int .i64),.d 14 (.int .i64)],ai (gi sC)⟩)] [] Tryz.f86 (lp [0] (sc (lp [2] (sc dn sn)) sn))
def UC (p0:(List R5)×Int×(List R3)×Int×Int×Int×Int×Int×(List R5)×Unit) (p1:Int):Option Nx :=
 (Uf p0.1).bind fun y1 =>
 (Um y1.2.1.1 p1).bind fun y2 =>
 some ((),(y2.2.1,()))
def YL:Su:=⟨[.c true gG,.c false aK],[(false,gD)],true,.inl fun x=>UC x.1 x.2.1.1⟩
theorem VA:ar Tryz.prog 64 YL :=
 fq (ac VG (ac Xh an)) Tryz.f64
def vc (t0 t1:List R3) (t12 t13:Int):Rd ((List R3)×(List R3)×Int×Int×Unit) Y1 :=
 cond (au t13 t12) (
 cond (a7 t13 t0) (
 cond (a7 t13 t1) (
 cond (!(ak (gt d3 t0 t13).1 (gt d3 t1 t13).1)) (
 some (.inr (.inr (false,())))
 ) (
 some (.inl (t0,t1,t12,(aq .i64 t13 1),()))
 )
 ) none
 ) none
 ) (
 some (.inr (.inl (t0,t1,t12,t13,())))
 )
def Si:=mJ (ai (cW vc))
def Ud (p0 p1:List R3):Option dZ :=
 let u1:=(ae p0)
 cond (!(ak u1 (ae p1))) (
 some ((),((false,()),()))
 ) (
 (Si p0 p1 u1 0).bind (Sum.elim (fun y1 =>
 some ((),((true,()),()))
 ) (fun y1 =>
 some ((),(y1,()))
 ))
 )
def Yo:Su:=⟨[.c false gD,.c false gD],[(false,[.bool])],true,.inl fun x=>Ud x.1.1 x.2.1.1⟩
theorem VR:ar Tryz.prog 63 Yo :=
 fl an [.d 4 (.bool)] [(0,⟨[.d 0 (.sl 3 aK),.d 1 (.sl 3 aK),.d 12 (.int .i64),.d 13 (.int .i64)],ai (cW vc)⟩)] [] Tryz.f63 (lp [0] (sc dn sn))
def Uu (p0:(List R5)×Int×(List R3)×Int×Int×Int×Int×Int×(List R5)×Unit) (p1:Int):Option dZ :=
 (pq p1 1 5).bind fun y1 =>
 let u1:=(ae p0.2.2.2.2.2.2.2.2.1)
 cond (cond (cond (!y1.2.1.1) true (au 300 (ae p0.1))) true (au 200 u1)) (
 some ((),((false,()),()))
 ) (
 (FX p0.2.2.2.2.1).bind fun y2 =>
 cond (!y2.2.1.1) (
 some ((),((false,()),()))
 ) (
 (FX p0.2.2.2.2.2.2.2.1).bind fun y3 =>
 cond (!y3.2.1.1) (
 some ((),((false,()),()))
 ) (
 (pq p0.2.1 0 5).bind fun y4 =>
 cond (!y4.2.1.1) (
 some ((),((false,()),()))
 ) (
 (Uh p0).bind fun y5 =>
 cond (!y5.2.1.1) (
 some ((),((false,()),()))
 ) (
 cond (cond (ak p0.2.1 0) (au 0 (ae p0.2.2.1)) false) (
 some ((),((false,()),()))
 ) (
 cond (!(ak p0.2.1 0)) (
 (UC p0 p1).bind fun y6 =>
 (Ud p0.2.2.1 y6.2.1.1).bind fun y7 =>
 cond (!y7.2.1.1) (
 some ((),((false,()),()))
 ) (
 cond (bz p0.2.1 2) (
 some ((),(((cond (cond (cond (ak p0.2.2.2.2.2.1 (-1)) (ak p0.2.2.2.2.2.2.1 (-1)) false) (ak p0.2.2.2.2.2.2.2.1 0) false) (ak u1 0) false),()),()))
 ) (
 let u2:=(FX p0.2.2.2.2.2.1)
 Option.bind u2 fun y8 =>
 cond (cond (!y8.2.1.1) true (au p0.2.2.2.2.2.1 p0.2.2.2.2.1)) (
 some ((),((false,()),()))
 ) (
 cond (ak p0.2.1 5) (
 let u3:=(FX p0.2.2.2.2.2.2.1)
 Option.bind u3 fun y9 =>
 some ((),(((cond y9.2.1.1 (bz p0.2.2.2.2.2.1 p0.2.2.2.2.2.2.1) false),()),()))
 ) (
 some ((),(((ak p0.2.2.2.2.2.2.1 (-1)),()),()))
 )
 )
 )
 )
 ) (
 cond (bz p0.2.1 2) (
 some ((),(((cond (cond (cond (ak p0.2.2.2.2.2.1 (-1)) (ak p0.2.2.2.2.2.2.1 (-1)) false) (ak p0.2.2.2.2.2.2.2.1 0) false) (ak u1 0) false),()),()))
 ) (
 let u2:=(FX p0.2.2.2.2.2.1)
 Option.bind u2 fun y6 =>
 cond (cond (!y6.2.1.1) true (au p0.2.2.2.2.2.1 p0.2.2.2.2.1)) (
 some ((),((false,()),()))
 ) (
 cond (ak p0.2.1 5) (
 let u3:=(FX p0.2.2.2.2.2.2.1)
 Option.bind u3 fun y7 =>
 some ((),(((cond y7.2.1.1 (bz p0.2.2.2.2.2.1 p0.2.2.2.2.2.2.1) false),()),()))
 ) (
 some ((),(((ak p0.2.2.2.2.2.2.1 (-1)),()),()))
 )
 )
 )
 )
 )
 )
 )
 )
 )
 )
def YB:Su:=⟨[.c true gG,.c false aK],[(false,[.bool])],true,.inl fun x=>Uu x.1 x.2.1.1⟩
theorem Vv:ar Tryz.prog 33 YB :=
 fq (ac nj (ac KP (ac Wf (ac VA (ac VR an))))) Tryz.f33
def uo (t1 t5:Int) (b2:(List R5)×Int×(List R3)×Int×Int×Int×Int×Int×(List R5)×Unit):Rd (Int×Int×qP×Unit) Y1 :=
 cond (cond (au t5 b2.2.2.2.1) (au t5 (ae b2.2.2.1)) false) (
 cond (a7 t5 b2.2.2.1) (
 cond (ak (gt d3 b2.2.2.1 t5).1 t1) (
 some (.inr (.inr (true,())))
 ) (
 some (.inl (t1,(aq .i64 t5 1),b2,()))
 )
 ) none
 ) (
 some (.inr (.inl (t1,t5,b2,())))
 )
def Rp:=pJ (ai (fb uo))
def Uo (p0:(List R5)×Int×(List R3)×Int×Int×Int×Int×Int×(List R5)×Unit) (p1:Int):Option dZ :=
 (Rp p1 0 p0).bind (Sum.elim (fun y1 =>
 some ((),((false,()),()))
 ) (fun y1 =>
 some ((),(y1,()))
 ))
def YJ:Su:=⟨[.c true gG,.c false aK],[(false,[.bool])],true,.inl fun x=>Uo x.1 x.2.1.1⟩
theorem Xj:ar Tryz.prog 34 YJ :=
 fl an [.d 4 (.bool)] [(0,⟨[.d 1 (.int .i64),.d 5 (.int .i64),.box 2 [(false,.sl 5 fy),(false,.int .i64),(false,.sl 3 aK),(false,.int .i64),(false,.int .i64),(false,.int .i64),(false,.int .i64),(false,.int .i64),(false,.sl 5 fy)]],ai (fb uo)⟩)] [] Tryz.f34 (lp [0] (sc dn sn))
def BJ (t40:List kQ) (t41 t42:Int) (b1:(List gk)×Int×Int×(List kQ)×Unit):Rd ((List kQ)×Int×Int×ND×Unit) Y1 :=
 cond (au t42 t41) (
 cond (a7 t42 t40) (
 let u1:=(gt d64 t40 t42)
 (Uu u1 (ae b1.1)).bind fun y1 =>
 cond (cond (!y1.2.1.1) true (au b1.2.1 u1.2.2.2.2.2.2.2.1)) (
 some (.inr (.inr (false,())))
 ) (
 some (.inl (t40,t41,(aq .i64 t42 1),b1,()))
 )
 ) none
 ) (
 some (.inr (.inl (t40,t41,t42,b1,())))
 )
def On:=mJ (ai (cW BJ))
def B3 (t5:Int) (t61:List gk) (t62 t63:Int) (t75:List kQ) (t76 t77:Int) (b1:(List gk)×Int×Int×(List kQ)×Unit) (b6:Int×(List dp)×Unit):Rd (Int×(List gk)×Int×Int×(List kQ)×Int×Int×ND×Y8×Unit) Y1 :=
 cond (au t77 t76) (
 cond (a7 t77 t75) (
 (Uo (gt d64 t75 t77) t5).bind fun y1 =>
 cond (!(P6 y1.2.1.1 (ak b6.1 t77))) (
 some (.inr (.inr (false,())))
 ) (
 some (.inl (t5,t61,t62,t63,t75,t76,(aq .i64 t77 1),b1,b6,()))
 )
 ) none
 ) (
 some (.inr (.inl (t5,t61,t62,t63,t75,t76,t77,b1,b6,())))
 )
def QZ:=TP (ai (CN B3))
def BF (t61:List gk) (t62 t63:Int) (b1:(List gk)×Int×Int×(List kQ)×Unit):Rd ((List gk)×Int×Int×ND×Unit) Y1 :=
 cond (au t63 t62) (
 cond (a7 t63 t61) (
 let u1:=(ae b1.2.2.2.1)
 let u2:=(gt d67 t61 t63)
 cond (bz u1 u2.1) (
 some (.inr (.inr (false,())))
 ) (
 (QZ t63 t61 t62 t63 b1.2.2.2.1 u1 0 b1 u2).bind (Sum.elim (fun y1 =>
 some (.inl (y1.2.1,y1.2.2.1,(aq .i64 y1.2.2.2.1 1),y1.2.2.2.2.2.2.2.1,()))
 ) (fun y1 =>
 some (.inr (.inr (y1.1,())))
 ))
 )
 ) none
 ) (
 some (.inr (.inl (t61,t62,t63,b1,())))
 )
def Rf:=mJ (ai (cW BF))
def g9 (p0:(List gk)×Int×Int×(List kQ)×Unit):Option dZ :=
 (Ue p0.1).bind fun y1 =>
 cond (!y1.2.1.1) (
 some ((),((false,()),()))
 ) (
 (FX p0.2.1).bind fun y2 =>
 cond (!y2.2.1.1) (
 some ((),((false,()),()))
 ) (
 (FX p0.2.2.1).bind fun y3 =>
 let u1:=(ae p0.2.2.2.1)
 cond (cond (!y3.2.1.1) true (au 12 u1)) (
 some ((),((false,()),()))
 ) (
 (Uz p0.2.2.2.1 p0.2.2.1).bind fun y4 =>
 cond (!y4.2.1.1) (
 some ((),((false,()),()))
 ) (
 (On p0.2.2.2.1 u1 0 p0).bind (Sum.elim (fun y5 =>
 (Rf y5.2.2.2.1.1 (ae y5.2.2.2.1.1) 0 y5.2.2.2.1).bind (Sum.elim (fun y6 =>
 some ((),((true,()),()))
 ) (fun y6 =>
 some ((),(y6,()))
 ))
 ) (fun y5 =>
 some ((),(y5,()))
 ))
 )
 )
 )
 )
def s9:Su:=⟨[.c true [.sl 67 de,.int .i64,.int .i64,.sl 64 fw]],[(false,[.bool])],true,.inl fun x=>g9 x.1⟩
theorem Zl:ar Tryz.prog 9 s9 :=
 fl (ac KP (ac WG (ac WQ (ac Vv (ac Xj an))))) [.d 2 (.bool)] [(0,⟨[.d 40 (.sl 64 fw),.d 41 (.int .i64),.d 42 (.int .i64),.box 1 [(false,.sl 67 de),(false,.int .i64),(false,.int .i64),(false,.sl 64 fw)]],ai (cW BJ)⟩),(4,⟨[.d 5 (.int .i64),.d 61 (.sl 67 de),.d 62 (.int .i64),.d 63 (.int .i64),.d 75 (.sl 64 fw),.d 76 (.int .i64),.d 77 (.int .i64),.box 1 [(false,.sl 67 de),(false,.int .i64),(false,.int .i64),(false,.sl 64 fw)],.box 6 [(false,.int .i64),(false,.sl 92 bw)]],ai (CN B3)⟩),(2,⟨[.d 61 (.sl 67 de),.d 62 (.int .i64),.d 63 (.int .i64),.box 1 [(false,.sl 67 de),(false,.int .i64),(false,.int .i64),(false,.sl 64 fw)]],ai (cW BF)⟩)] [] Tryz.f9 (lp [0,2] (sc dn (sc (lp [4] (sc dn sn)) sn)))
def Uc (p0:(List R5)×Int×(List R3)×Int×Int×Int×Int×Int×(List R5)×Unit):Option jX :=
 cond (!(ak p0.2.1 1)) (
 some ((),(((-1),()),()))
 ) (
 (pq p0.2.2.2.1 0 (aG .i64 (ae p0.2.2.1) 1)).bind fun y1 =>
 cond (!y1.2.1.1) (
 some ((),(((-1),()),()))
 ) (
 cond (a7 p0.2.2.2.1 p0.2.2.1) (
 some ((),((gt d3 p0.2.2.1 p0.2.2.2.1),()))
 ) none
 )
 )
def Zj:Su:=⟨[.c true gG],[(false,aK)],true,.inl fun x=>Uc x.1⟩
theorem Wb:ar Tryz.prog 45 Zj :=
 fq (ac nj an) Tryz.f45
def g13 (p0:(List gk)×Int×Int×(List kQ)×Unit) (p1:Int):Option jX :=
 (g9 p0).bind fun y1 =>
 cond (!y1.2.1.1) (
 some ((),(((-1),()),()))
 ) (
 (pq p1 0 (aG .i64 (ae p0.2.2.2.1) 1)).bind fun y2 =>
 cond (!y2.2.1.1) (
 some ((),(((-1),()),()))
 ) (
 cond (a7 p1 p0.2.2.2.1) (
 (Uc (gt d64 p0.2.2.2.1 p1)).bind fun y3 =>
 cond (au y3.2.1.1 0) (
 some ((),(((-1),()),()))
 ) (
 cond (a7 y3.2.1.1 p0.1) (
 some ((),(((gt d67 p0.1 y3.2.1.1).1,()),()))
 ) none
 )
 ) none
 )
 )
def YG:Su:=⟨[.c true [.sl 67 de,.int .i64,.int .i64,.sl 64 fw],.c false aK],[(false,aK)],true,.inl fun x=>g13 x.1 x.2.1.1⟩
theorem Xx:ar Tryz.prog 13 YG :=
 fq (ac nj (ac Zl (ac Wb an))) Tryz.f13
def lX (p0 p1 p2:Int):Option dZ :=
 some ((),(((cond (bz p1 p0) (bz p0 p2) false),()),()))
def Zr:Su:=⟨[.c false aK,.c false aK,.c false aK],[(false,[.bool])],true,.inl fun x=>lX x.1.1 x.2.1.1 x.2.2.1.1⟩
theorem lM:ar Tryz.prog 46 Zr :=
 fq an Tryz.f46
def O0 (p0 p1:(List UInt8)×Int×Int×Int×Int×(List dj)×Int×Int×(List R3)×(List R3)×(List di)×Unit):Option jX :=
 cond (jU p0.1 p1.1) (
 some ((),(((-1),()),()))
 ) (
 cond (!(O4 p0.1 p1.1)) (
 some ((),((1,()),()))
 ) (
 some ((),((0,()),()))
 )
 )
def VS:Su:=⟨[.c true bw,.c true bw],[(false,aK)],true,.inl fun x=>O0 x.1 x.2.1⟩
theorem IJ:ar Tryz.prog 93 VS :=
 fq an Tryz.f93
def nO (t0:List dp) (t1 t2:Int) (f3:Unit) (t8 t9:Int):Rd ((List dp)×Int×Int×Unit×Int×Int×Unit) Unit :=
 cond (au t1 t9) (
 cond (a7 t9 t0) (
 let u1:=(aG .i64 t9 1)
 cond (a7 u1 t0) (
 (O0 (gt d92 t0 t9) (gt d92 t0 u1)).bind fun y1 =>
 cond (au y1.2.1.1 0) (
 cond (a7 u1 t0) (
 cond (a7 t9 t0) (
 cond (zF t9 t0 t9) (
 cond (zF u1 t0 u1) (
 some (.inl ((FZ d92 t0 t9 u1),t1,t2,(),t8,u1,()))
 ) none
 ) none
 ) none
 ) none
 ) (
 some (.inr (.inl (t0,t1,t2,(),t8,t9,())))
 )
 ) none
 ) none
 ) (
 some (.inr (.inl (t0,t1,t2,(),t8,t9,())))
 )
def yT:=SQ (ai (D1 nO))
def lu (t0:List dp) (t1 t2:Int) (f3:Unit) (t8:Int):Rd ((List dp)×Int×Int×Unit×Int×Unit) Unit :=
 cond (au t8 t2) (
 (yT t0 t1 t2 () t8 t8).bind (Sum.elim (fun y1 =>
 some (.inl (y1.1,y1.2.1,y1.2.2.1,(),(aq .i64 y1.2.2.2.2.1 1),()))
 ) (fun y1 =>
 some (.inr (.inr ()))
 ))
 ) (
 some (.inr (.inl (t0,t1,t2,(),t8,())))
 )
def ot:=yA (ai (gi lu))
def EB (p0:List dp) (p1 p2:Int):Option Nz :=
 (ot p0 p1 p2 () (aq .i64 p1 1)).bind (Sum.elim (fun y1 =>
 some (((y1.1,()),()),())
 ) (fun y1 =>
 none
 ))
def LL:Su:=⟨[.io false [.sl 92 bw],.c false aK,.c false aK,.fn 93 []],[],true,.inl fun x=>EB x.1.1 x.2.1.1 x.2.2.1.1⟩
def pH:List SE:=[.own 0 (.sl 92 bw),.d 1 (.int .i64),.d 2 (.int .i64),.fn 3 93 [],.d 8 (.int .i64),.d 9 (.int .i64)]
def pR:List SE:=[.own 0 (.sl 92 bw),.d 1 (.int .i64),.d 2 (.int .i64),.fn 3 93 [],.d 8 (.int .i64)]
def Ia:List SE:=[]
def MW:Nat->Option (Lo Ia)
 | 2=>some ⟨pH,D1 yT⟩
 | 0=>some ⟨pR,gi ot⟩
 | _=>none
def DU:List (Nat×Su):=[(93,VS)]
def Dg:En:=⟨53,tt,iN DU,Ia,MW,[0],fun _=>none⟩
def T7:Nat->Option (St->Tr St)
 | 6=>some (swapT Dg (opsOf (bb 6 (ah Tryz.f164))) [9] [(14,2),(14,3),(14,4)] 14 9 13)
 | _=>none
def zZ:En:=⟨53,tt,iN DU,Ia,MW,[0],T7⟩
theorem Ot (x:bE pH):(cX zZ 2 pH (aZ 2 (ah Tryz.f164)) x).run=D1 nO x:=by kernel_rfl
theorem Od (x:bE pR):(cX zZ 0 pR (aZ 0 (ah Tryz.f164)) x).run=gi lu x:=by kernel_rfl
theorem t164 (x:PT LL.ps):(Es zZ (ah Tryz.f164) Tryz.f164.results.toList LL.ps LL.rs true x).run=EB x.1.1 x.2.1.1 x.2.2.1.1:=by kernel_rfl
theorem BX:db Tryz.prog zZ:=cO (l:=DU) ⟨IJ,trivial⟩
theorem EW:db Tryz.prog Dg:=cO (l:=DU) ⟨IJ,trivial⟩
theorem PU:cF Tryz.prog zZ (bb 6 (ah Tryz.f164)) (swapT Dg (opsOf (bb 6 (ah Tryz.f164))) [9] [(14,2),(14,3),(14,4)] 14 9 13) :=
 gb rfl rfl (sX (E:=Dg) (kU hT) EW eH (c:=(bb 6 (ah Tryz.f164))) (id:=6) (by kernel_rfl))
theorem OU:bV Tryz.prog zZ 2 (.loop (aZ 2 (ah Tryz.f164))) ⟨pH,D1 yT⟩ :=
 ej (kU hT) BX eH (step:=fun (x:bE pH)=>nO x.1 x.2.1 x.2.2.1 x.2.2.2.1 x.2.2.2.2.1 x.2.2.2.2.2.1) Ot (aW [] (by kernel_rfl) trivial [(6,bb 6 (ah Tryz.f164))] (by kernel_rfl) ⟨wX rfl PU,trivial⟩)
theorem ON:bV Tryz.prog zZ 0 (.loop (aZ 0 (ah Tryz.f164))) ⟨pR,gi ot⟩ :=
 ej (kU hT) BX eH (step:=fun (x:bE pR)=>lu x.1 x.2.1 x.2.2.1 x.2.2.2.1 x.2.2.2.2.1) Od (aW [(2,.loop (aZ 2 (ah Tryz.f164)))] (by kernel_rfl) ⟨lN rfl OU,trivial⟩ [] (by kernel_rfl) trivial)
theorem R6:ar Tryz.prog 164 LL :=
 qD (E:=zZ) (kU hT) BX eH (fn:=Tryz.f164) (c:=(ah Tryz.f164)) (by kernel_rfl) (by kernel_rfl) (by kernel_rfl) rfl (aW [(0,.loop (aZ 0 (ah Tryz.f164)))] (by kernel_rfl) ⟨lN rfl ON,trivial⟩ [] (by kernel_rfl) trivial) fun x y h=>⟨y.1,fun _=>rfl,(t164 x).trans h⟩
def oq (t0:List dp) (t1 t2 t3 t10:Int):Rd ((List dp)×Int×Int×Int×Int×Unit) Unit :=
 cond (au t10 t3) (
 let u1:=(aq .i64 t2 t10)
 cond (a7 u1 t0) (
 let u2:=(aq .i64 t1 t10)
 cond (a7 u2 t0) (
 cond (zF u2 t0 u2) (
 cond (zF u1 t0 u1) (
 some (.inl ((FZ d92 t0 u2 u1),t1,t2,t3,(aq .i64 t10 1),()))
 ) none
 ) none
 ) none
 ) none
 ) (
 some (.inr (.inl (t0,t1,t2,t3,t10,())))
 )
def vM:=yA (ai (gi oq))
def zc (p0:List dp) (p1 p2 p3:Int):Option Nz :=
 (vM p0 p1 p2 p3 0).bind (Sum.elim (fun y1 =>
 some (((y1.1,()),()),())
 ) (fun y1 =>
 none
 ))
def KF:Su:=⟨[.io false [.sl 92 bw],.c false aK,.c false aK,.c false aK,.fn 93 []],[],true,.inl fun x=>zc x.1.1 x.2.1.1 x.2.2.1.1 x.2.2.2.1.1⟩
def qb:List SE:=[.own 0 (.sl 92 bw),.d 1 (.int .i64),.d 2 (.int .i64),.d 3 (.int .i64),.d 10 (.int .i64)]
def Jy:List SE:=[]
def Ng:Nat->Option (Lo Jy)
 | 0=>some ⟨qb,gi vM⟩
 | _=>none
def Du:List (Nat×Su):=[]
def DM:En:=⟨38,tt,iN Du,Jy,Ng,[0],fun _=>none⟩
def RE:Nat->Option (St->Tr St)
 | 3=>some (swapT DM (opsOf (bb 3 (ah Tryz.f243))) [2,10] [(20,4),(20,5),(20,6),(20,7)] 20 13 19)
 | _=>none
def Et:En:=⟨38,tt,iN Du,Jy,Ng,[0],RE⟩
theorem NO (x:bE qb):(cX Et 0 qb (aZ 0 (ah Tryz.f243)) x).run=gi oq x:=by kernel_rfl
theorem t243 (x:PT KF.ps):(Es Et (ah Tryz.f243) Tryz.f243.results.toList KF.ps KF.rs true x).run=zc x.1.1 x.2.1.1 x.2.2.1.1 x.2.2.2.1.1:=by kernel_rfl
theorem G6:db Tryz.prog Et:=cO (l:=Du) trivial
theorem EU:db Tryz.prog DM:=cO (l:=Du) trivial
theorem NV:cF Tryz.prog Et (bb 3 (ah Tryz.f243)) (swapT DM (opsOf (bb 3 (ah Tryz.f243))) [2,10] [(20,4),(20,5),(20,6),(20,7)] 20 13 19) :=
 gb rfl rfl (sX (E:=DM) (kU hT) EU eH (c:=(bb 3 (ah Tryz.f243))) (id:=3) (by kernel_rfl))
theorem P5:bV Tryz.prog Et 0 (.loop (aZ 0 (ah Tryz.f243))) ⟨qb,gi vM⟩ :=
 ej (kU hT) G6 eH (step:=fun (x:bE qb)=>oq x.1 x.2.1 x.2.2.1 x.2.2.2.1 x.2.2.2.2.1) NO (aW [] (by kernel_rfl) trivial [(3,bb 3 (ah Tryz.f243))] (by kernel_rfl) ⟨wX rfl NV,trivial⟩)
theorem Te:ar Tryz.prog 243 KF :=
 qD (E:=Et) (kU hT) G6 eH (fn:=Tryz.f243) (c:=(ah Tryz.f243)) (by kernel_rfl) (by kernel_rfl) (by kernel_rfl) rfl (aW [(0,.loop (aZ 0 (ah Tryz.f243)))] (by kernel_rfl) ⟨lN rfl P5,trivial⟩ [] (by kernel_rfl) trivial) fun x y h=>⟨y.1,fun _=>rfl,(t243 x).trans h⟩
def l5 (t0:List dp) (t2:Int) (f4:Unit) (t10 t11:Int):Rd Vh Unit :=
 cond (!(ak t10 t11)) (
 cond (au t11 t10) (
 let u1:=(aG .i64 t2 t10)
 (zc t0 u1 t2 t11).bind fun y1 =>
 some (.inl (y1.1.1.1,t2,(),(aG .i64 t10 t11),t11,()))
 ) (
 let u1:=(aG .i64 t2 t10)
 (zc t0 u1 (aG .i64 (aq .i64 t2 t11) t10) t10).bind fun y1 =>
 some (.inl (y1.1.1.1,t2,(),t10,(aG .i64 t11 t10),()))
 )
 ) (
 some (.inr (.inl (t0,t2,(),t10,t11,())))
 )
def Ih:=yA (ai (gi l5))
def zm (p0:List dp) (p1 p2 p3:Int):Option Nz :=
 (Ih p0 p2 () (aG .i64 p2 p1) (aG .i64 p3 p2)).bind (Sum.elim (fun y1 =>
 (zc y1.1 (aG .i64 y1.2.1 y1.2.2.2.1) y1.2.1 y1.2.2.2.1).bind fun y2 =>
 some ((y2.1.1,()),())
 ) (fun y1 =>
 none
 ))
def T6:Su:=⟨[.io false [.sl 92 bw],.c false aK,.c false aK,.c false aK,.fn 93 []],[],true,.inl fun x=>zm x.1.1 x.2.1.1 x.2.2.1.1 x.2.2.2.1.1⟩
theorem IK:ar Tryz.prog 211 T6 :=
 fl (ac Te an) [] [(0,⟨[.own 0 (.sl 92 bw),.d 2 (.int .i64),.fn 4 93 [],.d 10 (.int .i64),.d 11 (.int .i64)],ai (gi l5)⟩)] [0] Tryz.f211 (lp [0] (sc dn sn))
-- REC 165
def mz (t0:List dp) (t1:Int) (f4:Unit) (t10 t11:Int):Rd Vh Unit :=
 cond (au t10 t11) (
 let u1:=(bN .i64 (ic .u64 (bN .u64 (aq .i64 t10 t11)) 1))
 cond (a7 u1 t0) (
 cond (a7 t1 t0) (
 (O0 (gt d92 t0 u1) (gt d92 t0 t1)).bind fun y1 =>
 cond (au y1.2.1.1 0) (
 some (.inl (t0,t1,(),(aq .i64 u1 1),t11,()))
 ) (
 some (.inl (t0,t1,(),t10,u1,()))
 )
 ) none
 ) none
 ) (
 some (.inr (.inl (t0,t1,(),t10,t11,())))
 )
def tC:=yA (ai (gi mz))
def n9 (t0:List dp) (t10 t13:Int):Rd ((List dp)×Int×Int×Unit) Unit :=
 cond (au t13 (aG .i64 t10 1)) (
 let u1:=(aq .i64 t13 1)
 cond (a7 u1 t0) (
 cond (a7 t13 t0) (
 cond (zF t13 t0 t13) (
 cond (zF u1 t0 u1) (
 some (.inl ((FZ d92 t0 t13 u1),t10,u1,()))
 ) none
 ) none
 ) none
 ) none
 ) (
 some (.inr (.inl (t0,t10,t13,())))
 )
def uQ:=pJ (ai (fb n9))
def lS (t0:List dp) (t2:Int) (f4:Unit) (t14 t15:Int):Rd Vh Unit :=
 cond (au t14 t15) (
 cond (a7 t2 t0) (
 let u1:=(bN .i64 (ic .u64 (bN .u64 (aq .i64 t14 t15)) 1))
 cond (a7 u1 t0) (
 (O0 (gt d92 t0 t2) (gt d92 t0 u1)).bind fun y1 =>
 cond (!(au y1.2.1.1 0)) (
 some (.inl (t0,t2,(),(aq .i64 u1 1),t15,()))
 ) (
 some (.inl (t0,t2,(),t14,u1,()))
 )
 ) none
 ) none
 ) (
 some (.inr (.inl (t0,t2,(),t14,t15,())))
 )
def uF:=yA (ai (gi lS))
def oE (t0:List dp) (t14 t17:Int):Rd ((List dp)×Int×Int×Unit) Unit :=
 cond (au t14 t17) (
 let u1:=(aG .i64 t17 1)
 cond (a7 u1 t0) (
 cond (a7 t17 t0) (
 cond (zF t17 t0 t17) (
 cond (zF u1 t0 u1) (
 some (.inl ((FZ d92 t0 t17 u1),t14,u1,()))
 ) none
 ) none
 ) none
 ) none
 ) (
 some (.inr (.inl (t0,t14,t17,())))
 )
def tQ:=pJ (ai (fb oE))
def l0 (t0:List dp) (t1 t2 t3:Int) (f4:Unit) (t18 t19 t20 t21 t22:Int):Rd ((List dp)×Int×Int×Int×Unit×Int×Int×Int×Int×Int×Unit) Unit :=
 cond (au t20 t21) (
 let u1:=(bN .i64 (ic .u64 (bN .u64 (aq .i64 t20 t21)) 1))
 let u2:=(aG .i64 t22 u1)
 cond (a7 u2 t0) (
 cond (a7 u1 t0) (
 (O0 (gt d92 t0 u2) (gt d92 t0 u1)).bind fun y1 =>
 cond (!(au y1.2.1.1 0)) (
 some (.inl (t0,t1,t2,t3,(),t18,t19,(aq .i64 u1 1),t21,t22,()))
 ) (
 some (.inl (t0,t1,t2,t3,(),t18,t19,t20,u1,t22,()))
 )
 ) none
 ) none
 ) (
 some (.inr (.inl (t0,t1,t2,t3,(),t18,t19,t20,t21,t22,())))
 )
def kT:=Tt (ai (AY l0))
def eP (n:Nat):(List dp)->Int->Int->Int->Option Nz:=Nat.rec (motive:=fun _=>(List dp)->Int->Int->Int->Option Nz) (fun _ _ _ _=>none) (fun _ mj=>fun p0 p1 p2 p3 =>
 cond (ak (aG .i64 p2 p1) 1) (
 (tC p0 p1 () p2 p3).bind (Sum.elim (fun y1 =>
 (uQ y1.1 y1.2.2.2.1 y1.2.1).bind (Sum.elim (fun y2 =>
 some (((y2.1,()),()),())
 ) (fun y2 =>
 none
 ))
 ) (fun y1 =>
 none
 ))
 ) (
 cond (ak (aG .i64 p3 p2) 1) (
 (uF p0 p2 () p1 p2).bind (Sum.elim (fun y1 =>
 (tQ y1.1 y1.2.2.2.1 y1.2.1).bind (Sum.elim (fun y2 =>
 some (((y2.1,()),()),())
 ) (fun y2 =>
 none
 ))
 ) (fun y1 =>
 none
 ))
 ) (
 let u1:=(bN .i64 (ic .u64 (bN .u64 (aq .i64 p1 p3)) 1))
 cond (au u1 p2) (
 let u2:=(aq .i64 u1 p2)
 let u3:=(aG .i64 u2 1)
 (kT p0 p1 p2 p3 () u1 u2 (aG .i64 u2 p3) u1 u3).bind (Sum.elim (fun y1 =>
 let u4:=(aG .i64 y1.2.2.2.2.2.2.1 y1.2.2.2.2.2.2.2.1)
 let u5:=(cond (au y1.2.2.2.2.2.2.2.1 y1.2.2.1) (au y1.2.2.1 u4) false)
 cond u5 (
 let u6:=(zm y1.1 y1.2.2.2.2.2.2.2.1 y1.2.2.1 u4)
 Option.bind u6 fun y2 =>
 let u7:=(cond (au y1.2.1 y1.2.2.2.2.2.2.2.1) (au y1.2.2.2.2.2.2.2.1 y1.2.2.2.2.2.1) false)
 cond u7 (
 let u8:=(mj y2.1.1.1 y1.2.1 y1.2.2.2.2.2.2.2.1 y1.2.2.2.2.2.1)
 Option.bind u8 fun y3 =>
 let u9:=(cond (au y1.2.2.2.2.2.1 u4) (au u4 y1.2.2.2.1) false)
 cond u9 (
 let u10:=(mj y3.1.1.1 y1.2.2.2.2.2.1 u4 y1.2.2.2.1)
 Option.bind u10 fun y4 =>
 some ((y4.1.1,()),())
 ) (
 some ((y3.1.1,()),())
 )
 ) (
 let u8:=(cond (au y1.2.2.2.2.2.1 u4) (au u4 y1.2.2.2.1) false)
 cond u8 (
 let u9:=(mj y2.1.1.1 y1.2.2.2.2.2.1 u4 y1.2.2.2.1)
 Option.bind u9 fun y3 =>
 some ((y3.1.1,()),())
 ) (
 some ((y2.1.1,()),())
 )
 )
 ) (
 let u6:=(cond (au y1.2.1 y1.2.2.2.2.2.2.2.1) (au y1.2.2.2.2.2.2.2.1 y1.2.2.2.2.2.1) false)
 cond u6 (
 let u7:=(mj y1.1 y1.2.1 y1.2.2.2.2.2.2.2.1 y1.2.2.2.2.2.1)
 Option.bind u7 fun y2 =>
 let u8:=(cond (au y1.2.2.2.2.2.1 u4) (au u4 y1.2.2.2.1) false)
 cond u8 (
 let u9:=(mj y2.1.1.1 y1.2.2.2.2.2.1 u4 y1.2.2.2.1)
 Option.bind u9 fun y3 =>
 some ((y3.1.1,()),())
 ) (
 some ((y2.1.1,()),())
 )
 ) (
 let u7:=(cond (au y1.2.2.2.2.2.1 u4) (au u4 y1.2.2.2.1) false)
 cond u7 (
 let u8:=(mj y1.1 y1.2.2.2.2.2.1 u4 y1.2.2.2.1)
 Option.bind u8 fun y2 =>
 some ((y2.1.1,()),())
 ) (
 some (((y1.1,()),()),())
 )
 )
 )
 ) (fun y1 =>
 none
 ))
 ) (
 let u2:=(aq .i64 u1 p2)
 let u3:=(aG .i64 u2 1)
 (kT p0 p1 p2 p3 () u1 u2 p1 p2 u3).bind (Sum.elim (fun y1 =>
 let u4:=(aG .i64 y1.2.2.2.2.2.2.1 y1.2.2.2.2.2.2.2.1)
 let u5:=(cond (au y1.2.2.2.2.2.2.2.1 y1.2.2.1) (au y1.2.2.1 u4) false)
 cond u5 (
 let u6:=(zm y1.1 y1.2.2.2.2.2.2.2.1 y1.2.2.1 u4)
 Option.bind u6 fun y2 =>
 let u7:=(cond (au y1.2.1 y1.2.2.2.2.2.2.2.1) (au y1.2.2.2.2.2.2.2.1 y1.2.2.2.2.2.1) false)
 cond u7 (
 let u8:=(mj y2.1.1.1 y1.2.1 y1.2.2.2.2.2.2.2.1 y1.2.2.2.2.2.1)
 Option.bind u8 fun y3 =>
 let u9:=(cond (au y1.2.2.2.2.2.1 u4) (au u4 y1.2.2.2.1) false)
 cond u9 (
 let u10:=(mj y3.1.1.1 y1.2.2.2.2.2.1 u4 y1.2.2.2.1)
 Option.bind u10 fun y4 =>
 some ((y4.1.1,()),())
 ) (
 some ((y3.1.1,()),())
 )
 ) (
 let u8:=(cond (au y1.2.2.2.2.2.1 u4) (au u4 y1.2.2.2.1) false)
 cond u8 (
 let u9:=(mj y2.1.1.1 y1.2.2.2.2.2.1 u4 y1.2.2.2.1)
 Option.bind u9 fun y3 =>
 some ((y3.1.1,()),())
 ) (
 some ((y2.1.1,()),())
 )
 )
 ) (
 let u6:=(cond (au y1.2.1 y1.2.2.2.2.2.2.2.1) (au y1.2.2.2.2.2.2.2.1 y1.2.2.2.2.2.1) false)
 cond u6 (
 let u7:=(mj y1.1 y1.2.1 y1.2.2.2.2.2.2.2.1 y1.2.2.2.2.2.1)
 Option.bind u7 fun y2 =>
 let u8:=(cond (au y1.2.2.2.2.2.1 u4) (au u4 y1.2.2.2.1) false)
 cond u8 (
 let u9:=(mj y2.1.1.1 y1.2.2.2.2.2.1 u4 y1.2.2.2.1)
 Option.bind u9 fun y3 =>
 some ((y3.1.1,()),())
 ) (
 some ((y2.1.1,()),())
 )
 ) (
 let u7:=(cond (au y1.2.2.2.2.2.1 u4) (au u4 y1.2.2.2.1) false)
 cond u7 (
 let u8:=(mj y1.1 y1.2.2.2.2.2.1 u4 y1.2.2.2.1)
 Option.bind u8 fun y2 =>
 some ((y2.1.1,()),())
 ) (
 some (((y1.1,()),()),())
 )
 )
 )
 ) (fun y1 =>
 none
 ))
 )
 )
 )) n
theorem nG (n:Nat) (p0:(List dp)) (p1:Int) (p2:Int) (p3:Int):eP (n + 1) p0 p1 p2 p3 =
 cond (ak (aG .i64 p2 p1) 1) (
  (tC p0 p1 () p2 p3).bind (Sum.elim (fun y1 =>
    (uQ y1.1 y1.2.2.2.1 y1.2.1).bind (Sum.elim (fun y2 =>
      some (((y2.1,()),()),())
    ) (fun y2 =>
     none
    ))
  ) (fun y1 =>
   none
  ))
 ) (
  cond (ak (aG .i64 p3 p2) 1) (
   (uF p0 p2 () p1 p2).bind (Sum.elim (fun y1 =>
     (tQ y1.1 y1.2.2.2.1 y1.2.1).bind (Sum.elim (fun y2 =>
       some (((y2.1,()),()),())
     ) (fun y2 =>
      none
     ))
   ) (fun y1 =>
    none
   ))
  ) (
   let u1:=(bN .i64 (ic .u64 (bN .u64 (aq .i64 p1 p3)) 1))
   cond (au u1 p2) (
    let u2:=(aq .i64 u1 p2)
    let u3:=(aG .i64 u2 1)
    (kT p0 p1 p2 p3 () u1 u2 (aG .i64 u2 p3) u1 u3).bind (Sum.elim (fun y1 =>
      let u4:=(aG .i64 y1.2.2.2.2.2.2.1 y1.2.2.2.2.2.2.2.1)
      let u5:=(cond (au y1.2.2.2.2.2.2.2.1 y1.2.2.1) (au y1.2.2.1 u4) false)
      cond u5 (
       let u6:=(zm y1.1 y1.2.2.2.2.2.2.2.1 y1.2.2.1 u4)
       Option.bind u6 fun y2 =>
       let u7:=(cond (au y1.2.1 y1.2.2.2.2.2.2.2.1) (au y1.2.2.2.2.2.2.2.1 y1.2.2.2.2.2.1) false)
       cond u7 (
        let u8:=(eP n y2.1.1.1 y1.2.1 y1.2.2.2.2.2.2.2.1 y1.2.2.2.2.2.1)
        Option.bind u8 fun y3 =>
        let u9:=(cond (au y1.2.2.2.2.2.1 u4) (au u4 y1.2.2.2.1) false)
        cond u9 (
         let u10:=(eP n y3.1.1.1 y1.2.2.2.2.2.1 u4 y1.2.2.2.1)
         Option.bind u10 fun y4 =>
         some ((y4.1.1,()),())
        ) (
         some ((y3.1.1,()),())
        )
       ) (
        let u8:=(cond (au y1.2.2.2.2.2.1 u4) (au u4 y1.2.2.2.1) false)
        cond u8 (
         let u9:=(eP n y2.1.1.1 y1.2.2.2.2.2.1 u4 y1.2.2.2.1)
         Option.bind u9 fun y3 =>
         some ((y3.1.1,()),())
        ) (
         some ((y2.1.1,()),())
        )
       )
      ) (
       let u6:=(cond (au y1.2.1 y1.2.2.2.2.2.2.2.1) (au y1.2.2.2.2.2.2.2.1 y1.2.2.2.2.2.1) false)
       cond u6 (
        let u7:=(eP n y1.1 y1.2.1 y1.2.2.2.2.2.2.2.1 y1.2.2.2.2.2.1)
        Option.bind u7 fun y2 =>
        let u8:=(cond (au y1.2.2.2.2.2.1 u4) (au u4 y1.2.2.2.1) false)
        cond u8 (
         let u9:=(eP n y2.1.1.1 y1.2.2.2.2.2.1 u4 y1.2.2.2.1)
         Option.bind u9 fun y3 =>
         some ((y3.1.1,()),())
        ) (
         some ((y2.1.1,()),())
        )
       ) (
        let u7:=(cond (au y1.2.2.2.2.2.1 u4) (au u4 y1.2.2.2.1) false)
        cond u7 (
         let u8:=(eP n y1.1 y1.2.2.2.2.2.1 u4 y1.2.2.2.1)
         Option.bind u8 fun y2 =>
         some ((y2.1.1,()),())
        ) (
         some (((y1.1,()),()),())
        )
       )
      )
    ) (fun y1 =>
     none
    ))
   ) (
    let u2:=(aq .i64 u1 p2)
    let u3:=(aG .i64 u2 1)
    (kT p0 p1 p2 p3 () u1 u2 p1 p2 u3).bind (Sum.elim (fun y1 =>
      let u4:=(aG .i64 y1.2.2.2.2.2.2.1 y1.2.2.2.2.2.2.2.1)
      let u5:=(cond (au y1.2.2.2.2.2.2.2.1 y1.2.2.1) (au y1.2.2.1 u4) false)
      cond u5 (
       let u6:=(zm y1.1 y1.2.2.2.2.2.2.2.1 y1.2.2.1 u4)
       Option.bind u6 fun y2 =>
       let u7:=(cond (au y1.2.1 y1.2.2.2.2.2.2.2.1) (au y1.2.2.2.2.2.2.2.1 y1.2.2.2.2.2.1) false)
       cond u7 (
        let u8:=(eP n y2.1.1.1 y1.2.1 y1.2.2.2.2.2.2.2.1 y1.2.2.2.2.2.1)
        Option.bind u8 fun y3 =>
        let u9:=(cond (au y1.2.2.2.2.2.1 u4) (au u4 y1.2.2.2.1) false)
        cond u9 (
         let u10:=(eP n y3.1.1.1 y1.2.2.2.2.2.1 u4 y1.2.2.2.1)
         Option.bind u10 fun y4 =>
         some ((y4.1.1,()),())
        ) (
         some ((y3.1.1,()),())
        )
       ) (
        let u8:=(cond (au y1.2.2.2.2.2.1 u4) (au u4 y1.2.2.2.1) false)
        cond u8 (
         let u9:=(eP n y2.1.1.1 y1.2.2.2.2.2.1 u4 y1.2.2.2.1)
         Option.bind u9 fun y3 =>
         some ((y3.1.1,()),())
        ) (
         some ((y2.1.1,()),())
        )
       )
      ) (
       let u6:=(cond (au y1.2.1 y1.2.2.2.2.2.2.2.1) (au y1.2.2.2.2.2.2.2.1 y1.2.2.2.2.2.1) false)
       cond u6 (
        let u7:=(eP n y1.1 y1.2.1 y1.2.2.2.2.2.2.2.1 y1.2.2.2.2.2.1)
        Option.bind u7 fun y2 =>
        let u8:=(cond (au y1.2.2.2.2.2.1 u4) (au u4 y1.2.2.2.1) false)
        cond u8 (
         let u9:=(eP n y2.1.1.1 y1.2.2.2.2.2.1 u4 y1.2.2.2.1)
         Option.bind u9 fun y3 =>
         some ((y3.1.1,()),())
        ) (
         some ((y2.1.1,()),())
        )
       ) (
        let u7:=(cond (au y1.2.2.2.2.2.1 u4) (au u4 y1.2.2.2.1) false)
        cond u7 (
         let u8:=(eP n y1.1 y1.2.2.2.2.2.1 u4 y1.2.2.2.1)
         Option.bind u8 fun y2 =>
         some ((y2.1.1,()),())
        ) (
         some (((y1.1,()),()),())
        )
       )
      )
    ) (fun y1 =>
     none
    ))
   )
  )
 ):=rfl
def mj (p0:List dp) (p1 p2 p3:Int):Option Nz:=BZ fun n=>eP n p0 p1 p2 p3
def jr (n:Nat):Su:=⟨[.io false [.sl 92 bw],.c false aK,.c false aK,.c false aK,.fn 93 []],[],true,.inl fun x=>eP n x.1.1 x.2.1.1 x.2.2.1.1 x.2.2.2.1.1⟩
def JA:Su:=⟨[.io false [.sl 92 bw],.c false aK,.c false aK,.c false aK,.fn 93 []],[],true,.inl fun x=>mj x.1.1 x.2.1.1 x.2.2.1.1 x.2.2.2.1.1⟩
def qw:List SE:=[.own 0 (.sl 92 bw),.d 1 (.int .i64),.fn 4 93 [],.d 10 (.int .i64),.d 11 (.int .i64)]
def ql:List SE:=[.own 0 (.sl 92 bw),.d 10 (.int .i64),.d 13 (.int .i64)]
def pL:List SE:=[.own 0 (.sl 92 bw),.d 2 (.int .i64),.fn 4 93 [],.d 14 (.int .i64),.d 15 (.int .i64)]
def qB:List SE:=[.own 0 (.sl 92 bw),.d 14 (.int .i64),.d 17 (.int .i64)]
def pZ:List SE:=[.own 0 (.sl 92 bw),.d 1 (.int .i64),.d 2 (.int .i64),.d 3 (.int .i64),.fn 4 93 [],.d 18 (.int .i64),.d 19 (.int .i64),.d 20 (.int .i64),.d 21 (.int .i64),.d 22 (.int .i64)]
def Gd:List SE:=[]
def NJ:Nat->Option (Lo Gd)
 | 0=>some ⟨qw,gi tC⟩
 | 2=>some ⟨ql,fb uQ⟩
 | 4=>some ⟨pL,gi uF⟩
 | 6=>some ⟨qB,fb tQ⟩
 | 8=>some ⟨pZ,AY kT⟩
 | _=>none
def zY (n:Nat):List (Nat×Su):=[(93,VS),(165,(jr n)),(211,T6)]
def sD (n:Nat):En:=⟨220,tt,iN (zY n),Gd,NJ,[0],fun _=>none⟩
def SW (n:Nat):Nat->Option (St->Tr St)
 | 11=>some (swapT (sD n) (opsOf (bb 11 (ah Tryz.f165))) [13] [(14,2),(14,3),(14,4)] 14 9 13)
 | 23=>some (swapT (sD n) (opsOf (bb 23 (ah Tryz.f165))) [17] [(14,2),(14,3),(14,4)] 14 9 13)
 | _=>none
def oY (n:Nat):En:=⟨220,tt,iN (zY n),Gd,NJ,[0],(SW n)⟩
theorem Oo (n:Nat) (x:bE qw):(cX (oY n) 0 qw (aZ 0 (ah Tryz.f165)) x).run=gi mz x:=by kernel_rfl
theorem Pb (n:Nat) (x:bE ql):(cX (oY n) 2 ql (aZ 2 (ah Tryz.f165)) x).run=fb n9 x:=by kernel_rfl
theorem Pn (n:Nat) (x:bE pL):(cX (oY n) 4 pL (aZ 4 (ah Tryz.f165)) x).run=gi lS x:=by kernel_rfl
theorem Pw (n:Nat) (x:bE qB):(cX (oY n) 6 qB (aZ 6 (ah Tryz.f165)) x).run=fb oE x:=by kernel_rfl
theorem Qd (n:Nat) (x:bE pZ):(cX (oY n) 8 pZ (aZ 8 (ah Tryz.f165)) x).run=AY l0 x:=by kernel_rfl
theorem t165 (n:Nat) (x:PT (jr (n + 1)).ps):(Es (oY n) (ah Tryz.f165) Tryz.f165.results.toList (jr (n + 1)).ps (jr (n + 1)).rs true x).run=eP (n + 1) x.1.1 x.2.1.1 x.2.2.1.1 x.2.2.2.1.1:=by kernel_rfl
theorem ri (n:Nat) (hn:ar Tryz.prog 165 (jr n)):db Tryz.prog (oY n):=cO (l:=(zY n)) ⟨IJ,hn,IK,trivial⟩
theorem BG (n:Nat) (hn:ar Tryz.prog 165 (jr n)):db Tryz.prog (sD n):=cO (l:=(zY n)) ⟨IJ,hn,IK,trivial⟩
theorem La (n:Nat) (hn:ar Tryz.prog 165 (jr n)):cF Tryz.prog (oY n) (bb 11 (ah Tryz.f165)) (swapT (sD n) (opsOf (bb 11 (ah Tryz.f165))) [13] [(14,2),(14,3),(14,4)] 14 9 13) :=
 gb rfl rfl (sX (E:=(sD n)) (kU hT) (BG n hn) eH (c:=(bb 11 (ah Tryz.f165))) (id:=11) (by kernel_rfl))
theorem CR (n:Nat) (hn:ar Tryz.prog 165 (jr n)):db Tryz.prog (sD n):=cO (l:=(zY n)) ⟨IJ,hn,IK,trivial⟩
theorem KN (n:Nat) (hn:ar Tryz.prog 165 (jr n)):cF Tryz.prog (oY n) (bb 23 (ah Tryz.f165)) (swapT (sD n) (opsOf (bb 23 (ah Tryz.f165))) [17] [(14,2),(14,3),(14,4)] 14 9 13) :=
 gb rfl rfl (sX (E:=(sD n)) (kU hT) (CR n hn) eH (c:=(bb 23 (ah Tryz.f165))) (id:=23) (by kernel_rfl))
theorem Po (n:Nat) (hn:ar Tryz.prog 165 (jr n)):bV Tryz.prog (oY n) 0 (.loop (aZ 0 (ah Tryz.f165))) ⟨qw,gi tC⟩ :=
 ej (kU hT) (ri n hn) eH (step:=fun (x:bE qw)=>mz x.1 x.2.1 x.2.2.1 x.2.2.2.1 x.2.2.2.2.1) (Oo n) (aW [] (by kernel_rfl) trivial [] (by kernel_rfl) trivial)
theorem PC (n:Nat) (hn:ar Tryz.prog 165 (jr n)):bV Tryz.prog (oY n) 2 (.loop (aZ 2 (ah Tryz.f165))) ⟨ql,fb uQ⟩ :=
 ej (kU hT) (ri n hn) eH (step:=fun (x:bE ql)=>n9 x.1 x.2.1 x.2.2.1) (Pb n) (aW [] (by kernel_rfl) trivial [(11,bb 11 (ah Tryz.f165))] (by kernel_rfl) ⟨wX rfl (La n hn),trivial⟩)
theorem Om (n:Nat) (hn:ar Tryz.prog 165 (jr n)):bV Tryz.prog (oY n) 4 (.loop (aZ 4 (ah Tryz.f165))) ⟨pL,gi uF⟩ :=
 ej (kU hT) (ri n hn) eH (step:=fun (x:bE pL)=>lS x.1 x.2.1 x.2.2.1 x.2.2.2.1 x.2.2.2.2.1) (Pn n) (aW [] (by kernel_rfl) trivial [] (by kernel_rfl) trivial)
theorem N3 (n:Nat) (hn:ar Tryz.prog 165 (jr n)):bV Tryz.prog (oY n) 6 (.loop (aZ 6 (ah Tryz.f165))) ⟨qB,fb tQ⟩ :=
 ej (kU hT) (ri n hn) eH (step:=fun (x:bE qB)=>oE x.1 x.2.1 x.2.2.1) (Pw n) (aW [] (by kernel_rfl) trivial [(23,bb 23 (ah Tryz.f165))] (by kernel_rfl) ⟨wX rfl (KN n hn),trivial⟩)
theorem Ox (n:Nat) (hn:ar Tryz.prog 165 (jr n)):bV Tryz.prog (oY n) 8 (.loop (aZ 8 (ah Tryz.f165))) ⟨pZ,AY kT⟩ :=
 ej (kU hT) (ri n hn) eH (step:=fun (x:bE pZ)=>l0 x.1 x.2.1 x.2.2.1 x.2.2.2.1 x.2.2.2.2.1 x.2.2.2.2.2.1 x.2.2.2.2.2.2.1 x.2.2.2.2.2.2.2.1 x.2.2.2.2.2.2.2.2.1 x.2.2.2.2.2.2.2.2.2.1) (Qd n) (aW [] (by kernel_rfl) trivial [] (by kernel_rfl) trivial)
theorem HW:∀ n,ar Tryz.prog 165 (jr n)
 | 0=>ar.zero fun _=>rfl
 | n + 1=>have hn:=HW n
 qD (E:=(oY n)) (kU hT) (ri n hn) eH (fn:=Tryz.f165) (c:=(ah Tryz.f165)) (by kernel_rfl) (by kernel_rfl) (by kernel_rfl) rfl (aW [(0,.loop (aZ 0 (ah Tryz.f165))),(2,.loop (aZ 2 (ah Tryz.f165))),(4,.loop (aZ 4 (ah Tryz.f165))),(6,.loop (aZ 6 (ah Tryz.f165))),(8,.loop (aZ 8 (ah Tryz.f165)))] (by kernel_rfl) ⟨lN rfl (Po n hn),lN rfl (PC n hn),lN rfl (Om n hn),lN rfl (N3 n hn),lN rfl (Ox n hn),trivial⟩ [] (by kernel_rfl) trivial) fun x y h=>⟨y.1,fun _=>rfl,((t165 n) x).trans h⟩
theorem RR:ar Tryz.prog 165 JA:=ar.fix (ps:=JA.ps) (rs:=JA.rs) (fr:=JA.fresh) (G:=fun n (x:PT JA.ps)=>eP n x.1.1 x.2.1.1 x.2.2.1.1 x.2.2.2.1.1) HW
def rq (t0:List dp) (t1:Int) (f2:Unit) (t6 t7 t8:Int):Rd ((List dp)×Int×Unit×Int×Int×Int×Unit) Unit :=
 cond (bz t8 t1) (
 (EB t0 t7 t8).bind fun y1 =>
 some (.inl (y1.1.1.1,t1,(),t6,t8,(aq .i64 t8 t6),()))
 ) (
 some (.inr (.inl (t0,t1,(),t6,t7,t8,())))
 )
def BU:=SQ (ai (D1 rq))
def qT (t0:List dp) (t1:Int) (f2:Unit) (t6 t7 t8:Int):Rd ((List dp)×Int×Unit×Int×Int×Int×Unit) Unit :=
 cond (bz t8 t1) (
 (mj t0 t7 (aq .i64 t7 t6) t8).bind fun y1 =>
 some (.inl (y1.1.1.1,t1,(),t6,t8,(aq .i64 t8 (jI .i64 2 t6)),()))
 ) (
 some (.inr (.inl (t0,t1,(),t6,t7,t8,())))
 )
def ya:=SQ (ai (D1 qT))
def qW (t0:List dp) (t1:Int) (f2:Unit) (t6:Int):Rd ((List dp)×Int×Unit×Int×Unit) Unit :=
 cond (au t6 t1) (
 (ya t0 t1 () t6 0 (jI .i64 2 t6)).bind (Sum.elim (fun y1 =>
 let u1:=(aq .i64 y1.2.2.2.2.1 y1.2.2.2.1)
 cond (au u1 y1.2.1) (
 (mj y1.1 y1.2.2.2.2.1 u1 y1.2.1).bind fun y2 =>
 let u2:=(jI .i64 y1.2.2.2.1 2)
 some (.inl (y2.1.1.1,y1.2.1,(),u2,()))
 ) (
 let u2:=(jI .i64 y1.2.2.2.1 2)
 some (.inl (y1.1,y1.2.1,(),u2,()))
 )
 ) (fun y1 =>
 some (.inr (.inr ()))
 ))
 ) (
 some (.inr (.inl (t0,t1,(),t6,())))
 )
def BP:=mJ (ai (cW qW))
def OM (p0:List dp) (p1:Int):Option Nz :=
 (BU p0 p1 () 20 0 20).bind (Sum.elim (fun y1 =>
 (EB y1.1 y1.2.2.2.2.1 y1.2.1).bind fun y2 =>
 (BP y2.1.1.1 y1.2.1 () y1.2.2.2.1).bind (Sum.elim (fun y3 =>
 some (((y3.1,()),()),())
 ) (fun y3 =>
 none
 ))
 ) (fun y1 =>
 none
 ))
def WH:Su:=⟨[.io false [.sl 92 bw],.c false aK,.fn 93 []],[],true,.inl fun x=>OM x.1.1 x.2.1.1⟩
theorem TC:ar Tryz.prog 123 WH :=
 fl (ac R6 (ac RR an)) [] [(0,⟨[.own 0 (.sl 92 bw),.d 1 (.int .i64),.fn 2 93 [],.d 6 (.int .i64),.d 7 (.int .i64),.d 8 (.int .i64)],ai (D1 rq)⟩),(4,⟨[.own 0 (.sl 92 bw),.d 1 (.int .i64),.fn 2 93 [],.d 6 (.int .i64),.d 7 (.int .i64),.d 8 (.int .i64)],ai (D1 qT)⟩),(2,⟨[.own 0 (.sl 92 bw),.d 1 (.int .i64),.fn 2 93 [],.d 6 (.int .i64)],ai (cW qW)⟩)] [0] Tryz.f123 (lp [0,2] (sc dn (sc (lp [4] (sc dn sn)) sn)))
def UE (p0:List dp):Option Nz :=
 (OM p0 (ae p0)).bind fun y1 =>
 some ((y1.1.1,()),())
def YT:Su:=⟨[.io false [.sl 92 bw],.fn 93 []],[],true,.inl fun x=>UE x.1.1⟩
theorem XD:ar Tryz.prog 92 YT :=
 fl (ac TC an) [] [] [0] Tryz.f92 dn
def Hr (p0:List dj):Option (Unit×((List dj)×Unit)×Unit):=cond (cR 32 ([]:List dj) p0) (some ((),((p0,()),()))) none
def FG:Su:=⟨[.c false [.sl 157 dG]],[(false,[.sl 157 dG])],true,.inl fun x=>Hr x.1.1⟩
def Ob:En:=⟨8,tt,iN [],[],fun _=>none,[],fun _=>none⟩
def M8 (x:PT FG.ps):St:=⟨[(2,.v .nil),(0,.v (.d (.sl 157 dG) x.1.1))],[]⟩
theorem t161 (x:PT FG.ps) (b:Bool):((cy Ob (.seq (cV (dM (cV (ah Tryz.f161)))) (cV (cV (ah Tryz.f161)))) (((M8 x).az 3 (.v (.d (.sl 157 dG) x.1.1),none)).az 4 (.v (.d .bool b),none))).bind (AT Ob Tryz.f161.results.toList FG.ps FG.rs FG.fresh)).run =
 cond b (some ((),(([],()),()))) (Hr x.1.1):=by kernel_rfl
theorem TW:ar Tryz.prog 161 FG :=
 CH (E:=Ob) (kU hT) (cO (l:=[]) trivial) eH (fn:=Tryz.f161) (c0:=dM (ah Tryz.f161)) (cc:=cV (dM (cV (ah Tryz.f161)))) (c3:=cV (cV (ah Tryz.f161))) (id:=HO (dM (dM (cV (ah Tryz.f161)))))
  (o1:=fF (dM (dM (cV (ah Tryz.f161)))) 0) (o2:=fF (dM (dM (cV (ah Tryz.f161)))) 1) (by kernel_rfl) (by kernel_rfl) (by kernel_rfl) rfl
  (bt (fun _=>rfl) _ (by kernel_rfl)) (bt (fun _=>rfl) _ (by kernel_rfl)) (bt (fun _=>rfl) _ (by kernel_rfl)) (t0:=0) (t3:=3) (t4:=4) (ty:=87) (ty':=87) (e:=157) (e':=157) (by':=24) (fl:=[]) (ks:=dG) (by kernel_rfl) (by kernel_rfl) (by kernel_rfl) (by kernel_rfl) (by kernel_rfl) (by kernel_rfl) (by kernel_rfl) (by kernel_rfl) (by kernel_rfl)
  M8 (fun x=>x.1.1) (fun x=>by kernel_rfl) (fun x=>by kernel_rfl) fun x y hy b hb=>by
   refine ⟨y.1,fun _=>rfl,?_⟩
   rw [t161]
   have hy:Hr x.1.1=some y:=hy
   cases b with
   | false=>exact hy
   | true =>
     have he:x.1.1=([]:List dj):=hb rfl
     rw [he] at hy
     exact hy
def Fs (p0:List R3):Option (Unit×EC×Unit):=cond (cR 8 ([]:List R3) p0) (some ((),((p0,()),()))) none
def EN:Su:=⟨[.c false gD],[(false,gD)],true,.inl fun x=>Fs x.1.1⟩
def OW:En:=⟨8,tt,iN [],[],fun _=>none,[],fun _=>none⟩
def Nn (x:PT EN.ps):St:=⟨[(2,.v .nil),(0,.v (.d (.sl 3 aK) x.1.1))],[]⟩
theorem t209 (x:PT EN.ps) (b:Bool):((cy OW (.seq (cV (dM (cV (ah Tryz.f209)))) (cV (cV (ah Tryz.f209)))) (((Nn x).az 3 (.v (.d (.sl 3 aK) x.1.1),none)).az 4 (.v (.d .bool b),none))).bind (AT OW Tryz.f209.results.toList EN.ps EN.rs EN.fresh)).run =
 cond b (some ((),(([],()),()))) (Fs x.1.1):=by kernel_rfl
theorem QQ:ar Tryz.prog 209 EN :=
 CH (E:=OW) (kU hT) (cO (l:=[]) trivial) eH (fn:=Tryz.f209) (c0:=dM (ah Tryz.f209)) (cc:=cV (dM (cV (ah Tryz.f209)))) (c3:=cV (cV (ah Tryz.f209))) (id:=HO (dM (dM (cV (ah Tryz.f209)))))
  (o1:=fF (dM (dM (cV (ah Tryz.f209)))) 0) (o2:=fF (dM (dM (cV (ah Tryz.f209)))) 1) (by kernel_rfl) (by kernel_rfl) (by kernel_rfl) rfl
  (bt (fun _=>rfl) _ (by kernel_rfl)) (bt (fun _=>rfl) _ (by kernel_rfl)) (bt (fun _=>rfl) _ (by kernel_rfl)) (t0:=0) (t3:=3) (t4:=4) (ty:=53) (ty':=53) (e:=3) (e':=3) (by':=24) (fl:=[]) (ks:=aK) (by kernel_rfl) (by kernel_rfl) (by kernel_rfl) (by kernel_rfl) (by kernel_rfl) (by kernel_rfl) (by kernel_rfl) (by kernel_rfl) (by kernel_rfl)
  Nn (fun x=>x.1.1) (fun x=>by kernel_rfl) (fun x=>by kernel_rfl) fun x y hy b hb=>by
   refine ⟨y.1,fun _=>rfl,?_⟩
   rw [t209]
   have hy:Fs x.1.1=some y:=hy
   cases b with
   | false=>exact hy
   | true =>
     have he:x.1.1=([]:List R3):=hb rfl
     rw [he] at hy
     exact hy
def HL (p0:Int×Int×(List R3)×(List R3)×Unit):Option Wi :=
 (Fs p0.2.2.1).bind fun y1 =>
 (Fs p0.2.2.2.1).bind fun y2 =>
 some ((),((p0.1,p0.2.1,y1.2.1.1,y2.2.1.1,()),()))
def Wg:Su:=⟨[.c true [.int .i64,.int .i64,.sl 3 aK,.sl 3 aK]],[(true,[.int .i64,.int .i64,.sl 3 aK,.sl 3 aK])],true,.inl fun x=>HL x.1⟩
theorem Ro:ar Tryz.prog 162 Wg :=
 fq (ac QQ an) Tryz.f162
def I6 (p0:List R5):Option (Unit×((List R5)×Unit)×Unit):=cond (cR 1 ([]:List R5) p0) (some ((),((p0,()),()))) none
def Er:Su:=⟨[.c false [.sl 5 fy]],[(false,[.sl 5 fy])],true,.inl fun x=>I6 x.1.1⟩
def N0:En:=⟨8,tt,iN [],[],fun _=>none,[],fun _=>none⟩
def Na (x:PT Er.ps):St:=⟨[(2,.v .nil),(0,.v (.d (.sl 5 fy) x.1.1))],[]⟩
theorem t210 (x:PT Er.ps) (b:Bool):((cy N0 (.seq (cV (dM (cV (ah Tryz.f210)))) (cV (cV (ah Tryz.f210)))) (((Na x).az 3 (.v (.d (.sl 5 fy) x.1.1),none)).az 4 (.v (.d .bool b),none))).bind (AT N0 Tryz.f210.results.toList Er.ps Er.rs Er.fresh)).run =
 cond b (some ((),(([],()),()))) (I6 x.1.1):=by kernel_rfl
theorem Q9:ar Tryz.prog 210 Er :=
 CH (E:=N0) (kU hT) (cO (l:=[]) trivial) eH (fn:=Tryz.f210) (c0:=dM (ah Tryz.f210)) (cc:=cV (dM (cV (ah Tryz.f210)))) (c3:=cV (cV (ah Tryz.f210))) (id:=HO (dM (dM (cV (ah Tryz.f210)))))
  (o1:=fF (dM (dM (cV (ah Tryz.f210)))) 0) (o2:=fF (dM (dM (cV (ah Tryz.f210)))) 1) (by kernel_rfl) (by kernel_rfl) (by kernel_rfl) rfl
  (bt (fun _=>rfl) _ (by kernel_rfl)) (bt (fun _=>rfl) _ (by kernel_rfl)) (bt (fun _=>rfl) _ (by kernel_rfl)) (t0:=0) (t3:=3) (t4:=4) (ty:=62) (ty':=62) (e:=5) (e':=5) (by':=24) (fl:=[]) (ks:=fy) (by kernel_rfl) (by kernel_rfl) (by kernel_rfl) (by kernel_rfl) (by kernel_rfl) (by kernel_rfl) (by kernel_rfl) (by kernel_rfl) (by kernel_rfl)
  Na (fun x=>x.1.1) (fun x=>by kernel_rfl) (fun x=>by kernel_rfl) fun x y hy b hb=>by
   refine ⟨y.1,fun _=>rfl,?_⟩
   rw [t210]
   have hy:I6 x.1.1=some y:=hy
   cases b with
   | false=>exact hy
   | true =>
     have he:x.1.1=([]:List R5):=hb rfl
     rw [he] at hy
     exact hy
def oX (t3 t7:List di) (t8 t9:Int):Rd Uw Unit :=
 cond (au t9 t8) (
 cond (a7 t9 t7) (
 let u1:=(gt d160 t7 t9)
 (I6 u1.2.2.1).bind fun y1 =>
 cond (cR 56 t3 [(u1.1,u1.2.1,y1.2.1.1,())]) (
 some (.inl ((lP t3 [(u1.1,u1.2.1,y1.2.1.1,())]),t7,t8,(aq .i64 t9 1),()))
 ) none
 ) none
 ) (
 some (.inr (.inl (t3,t7,t8,t9,())))
 )
def Gz:=mJ (ai (cW oX))
def Ka (p0:List di):Option XB :=
 (Gz [] p0 (ae p0) 0).bind (Sum.elim (fun y1 =>
 some ((),((y1.1,()),()))
 ) (fun y1 =>
 none
 ))
def Xi:Su:=⟨[.c false [.sl 160 cT]],[(false,[.sl 160 cT])],true,.inl fun x=>Ka x.1.1⟩
theorem T2:ar Tryz.prog 163 Xi :=
 fl (ac Q9 an) [] [(0,⟨[.own 3 (.sl 160 cT),.d 7 (.sl 160 cT),.d 8 (.int .i64),.d 9 (.int .i64)],ai (cW oX)⟩)] [] Tryz.f163 (lp [0] (sc dn sn))
def K3 (p0:(List UInt8)×Int×Int×Int×Int×(List dj)×Int×Int×(List R3)×(List R3)×(List di)×Unit):Option Wc :=
 (Hr p0.2.2.2.2.2.1).bind fun y1 =>
 (HL (p0.2.2.2.2.2.2.1,p0.2.2.2.2.2.2.2.1,p0.2.2.2.2.2.2.2.2.1,p0.2.2.2.2.2.2.2.2.2.1,())).bind fun y2 =>
 (Ka p0.2.2.2.2.2.2.2.2.2.2.1).bind fun y3 =>
 some ((),((p0.1,p0.2.1,p0.2.2.1,p0.2.2.2.1,p0.2.2.2.2.1,y1.2.1.1,y2.2.1.1,y2.2.1.2.1,y2.2.1.2.2.1,y2.2.1.2.2.2.1,y3.2.1.1,()),()))
def WT:Su:=⟨[.c true bw],[(true,bw)],true,.inl fun x=>K3 x.1⟩
theorem Ts:ar Tryz.prog 122 WT :=
 fq (ac TW (ac Ro (ac T2 an))) Tryz.f122
def ob (f1:Unit) (t10:List dp) (t11 t12:Int) (b4 b5:(List dp)×Unit):Rd (Unit×(List dp)×Int×Int×Y4×Y4×Unit) Unit :=
 cond (au t12 t11) (
 cond (a7 t12 t10) (
 (K3 (gt d92 t10 t12)).bind fun y1 =>
 cond (cR 160 b5.1 [y1.2.1]) (
 some (.inl ((),t10,t11,(aq .i64 t12 1),b4,((lP b5.1 [y1.2.1]),()),()))
 ) none
 ) none
 ) (
 some (.inr (.inl ((),t10,t11,t12,b4,b5,())))
 )
def Jf:=SQ (ai (D1 ob))
def OB (p0:(List dp)×Unit):Option RG :=
 (Jf () p0.1 (ae p0.1) 0 ([],()) ([],())).bind (Sum.elim (fun y1 =>
 some ((),(y1.2.2.2.2.2.1,()))
 ) (fun y1 =>
 none
 ))
def VB:Su:=⟨[.c true [.sl 92 bw],.fn 122 []],[(true,[.sl 92 bw])],true,.inl fun x=>OB x.1⟩
theorem T4:ar Tryz.prog 121 VB :=
 fl (ac Ts an) [] [(0,⟨[.fn 1 122 [],.d 10 (.sl 92 bw),.d 11 (.int .i64),.d 12 (.int .i64),.box 4 [(true,.sl 92 bw)],.box 5 [(true,.sl 92 bw)]],ai (D1 ob)⟩)] [] Tryz.f121 (lp [0] (sc dn sn))
def Ur (p0:(List dp)×Unit):Option RG :=
 (OB p0).bind fun y1 =>
 some ((),(y1.2.1,()))
def Zo:Su:=⟨[.c true [.sl 92 bw]],[(true,[.sl 92 bw])],true,.inl fun x=>Ur x.1⟩
theorem Wt:ar Tryz.prog 91 Zo :=
 fq (ac T4 an) Tryz.f91
def vo (t7:List gk) (t8 t9:Int) (b2 b3:(List dp)×Unit):Rd ((List gk)×Int×Int×Y4×Y4×Unit) Unit :=
 cond (au t9 t8) (
 cond (a7 t9 t7) (
 (Ur ((gt d67 t7 t9).2.1,())).bind fun y1 =>
 cond (cR 160 b3.1 y1.2.1.1) (
 some (.inl (t7,t8,(aq .i64 t9 1),b2,((lP b3.1 y1.2.1.1),()),()))
 ) none
 ) none
 ) (
 some (.inr (.inl (t7,t8,t9,b2,b3,())))
 )
def L8:=yA (ai (gi vo))
def Oc (p0:List gk):Option RG :=
 (L8 p0 (ae p0) 0 ([],()) ([],())).bind (Sum.elim (fun y1 =>
 (UE y1.2.2.2.2.1.1).bind fun y2 =>
 some ((),(y2.1.1,()))
 ) (fun y1 =>
 none
 ))
def Zn:Su:=⟨[.c false [.sl 67 de]],[(true,[.sl 92 bw])],true,.inl fun x=>Oc x.1.1⟩
theorem Yd:ar Tryz.prog 68 Zn :=
 fl (ac XD (ac Wt an)) [] [(0,⟨[.d 7 (.sl 67 de),.d 8 (.int .i64),.d 9 (.int .i64),.box 2 [(true,.sl 92 bw)],.box 3 [(true,.sl 92 bw)]],ai (gi vo)⟩)] [] Tryz.f68 (lp [0] (sc dn sn))
def oK (t0:List UInt8) (t5 t6:Int):Rd Qi Y1 :=
 cond (au t6 t5) (
 cond (a7 t6 t0) (
 let u1:=(dq t0 t6)
 cond (au u1 48) (
 some (.inr (.inr (false,())))
 ) (
 cond (a7 t6 t0) (
 cond (au 57 u1) (
 some (.inr (.inr (false,())))
 ) (
 some (.inl (t0,t5,(aq .i64 t6 1),()))
 )
 ) none
 )
 ) none
 ) (
 some (.inr (.inl (t0,t5,t6,())))
 )
def Ij:=pJ (ai (fb oK))
def sI (p0:List UInt8):Option dZ :=
 (Ij p0 (ae p0) 0).bind (Sum.elim (fun y1 =>
 some ((),(((!(bY y1.1 [])),()),()))
 ) (fun y1 =>
 some ((),(y1,()))
 ))
def Vl:Su:=⟨[.c false [.str]],[(false,[.bool])],true,.inl fun x=>sI x.1.1⟩
theorem xf:ar Tryz.prog 190 Vl :=
 fl an [.d 2 (.bool)] [(0,⟨[.d 0 (.str),.d 5 (.int .i64),.d 6 (.int .i64)],ai (fb oK)⟩)] [] Tryz.f190 (lp [0] (sc dn sn))
def q8 (t0:List UInt8) (t3:Int) (t4:Bool) (t5:Int):Rd ((List UInt8)×Int×Bool×Int×Unit) Unit :=
 cond (bz 0 t5) (
 cond (a7 t5 t0) (
 cond t4 (
 let u1:=(bN .i64 (aG .u8 (dq t0 t5) 48))
 let u2:=(jI .i64 u1 2)
 cond (au 9 u2) (
 let u3:=(aG .i64 t5 1)
 some (.inl (t0,(aq .i64 t3 (aG .i64 u2 9)),(!t4),u3,()))
 ) (
 let u3:=(aG .i64 t5 1)
 some (.inl (t0,(aq .i64 t3 u2),(!t4),u3,()))
 )
 ) (
 let u1:=(bN .i64 (aG .u8 (dq t0 t5) 48))
 let u2:=(aG .i64 t5 1)
 some (.inl (t0,(aq .i64 t3 u1),(!t4),u2,()))
 )
 ) none
 ) (
 some (.inr (.inl (t0,t3,t4,t5,())))
 )
def Gg:=mJ (ai (cW q8))
def JW (p0:List UInt8):Option jX :=
 (sI p0).bind fun y1 =>
 cond (!y1.2.1.1) (
 some ((),(((-1),()),()))
 ) (
 (Gg p0 0 true (aG .i64 (ae p0) 1)).bind (Sum.elim (fun y2 =>
 some ((),(((gH (aG .i64 10 (gH y2.2.1 10)) 10),()),()))
 ) (fun y2 =>
 none
 ))
 )
def WZ:Su:=⟨[.c false [.str]],[(false,aK)],true,.inl fun x=>JW x.1.1⟩
theorem TR:ar Tryz.prog 191 WZ :=
 fl (ac xf an) [] [(0,⟨[.d 0 (.str),.d 3 (.int .i64),.d 4 (.bool),.d 5 (.int .i64)],ai (cW q8)⟩)] [] Tryz.f191 (lp [0] (sc dn sn))
def Kw (p0:List UInt8):Option dZ :=
 let u1:=(aG .i64 (ae p0) 1)
 cond (bz 1 u1) (
 (sI p0).bind fun y1 =>
 cond y1.2.1.1 (
 cond (dI 0 u1 p0) (
 (JW (sub p0 0 u1)).bind fun y2 =>
 cond (a7 u1 p0) (
 some ((),(((ak y2.2.1.1 (bN .i64 (aG .u8 (dq p0 u1) 48))),()),()))
 ) none
 ) none
 ) (
 some ((),((false,()),()))
 )
 ) (
 some ((),((false,()),()))
 )
def Yb:Su:=⟨[.c false [.str]],[(false,[.bool])],true,.inl fun x=>Kw x.1.1⟩
theorem Q0:ar Tryz.prog 141 Yb :=
 fq (ac xf (ac TR an)) Tryz.f141
def qN (p0:List UInt8):Option dZ :=
 cond (bz (ae p0) 19) (
 (Kw p0).bind fun y1 =>
 some ((),(y1.2.1,()))
 ) (
 some ((),((false,()),()))
 )
def Vb:Su:=⟨[.c false [.str]],[(false,[.bool])],true,.inl fun x=>qN x.1.1⟩
theorem Mq:ar Tryz.prog 106 Vb :=
 fq (ac Q0 an) Tryz.f106
def LF (p0:Int):Option dZ :=
 (lX p0 0 4611686018427387904).bind fun y1 =>
 some ((),(y1.2.1,()))
def W9:Su:=⟨[.c false aK],[(false,[.bool])],true,.inl fun x=>LF x.1.1⟩
theorem Mu:ar Tryz.prog 107 W9 :=
 fq (ac lM an) Tryz.f107
def om (t0:List UInt8) (t5 t6:Int):Rd Qi Y1 :=
 cond (au t6 t5) (
 cond (a7 t6 t0) (
 let u1:=(dq t0 t6)
 cond (au u1 48) (
 cond (a7 t6 t0) (
 cond (au u1 97) (
 some (.inr (.inr (false,())))
 ) (
 cond (a7 t6 t0) (
 cond (au 122 u1) (
 some (.inr (.inr (false,())))
 ) (
 some (.inl (t0,t5,(aq .i64 t6 1),()))
 )
 ) none
 )
 ) none
 ) (
 cond (a7 t6 t0) (
 cond (au 57 u1) (
 cond (a7 t6 t0) (
 cond (au u1 97) (
 some (.inr (.inr (false,())))
 ) (
 cond (a7 t6 t0) (
 cond (au 122 u1) (
 some (.inr (.inr (false,())))
 ) (
 some (.inl (t0,t5,(aq .i64 t6 1),()))
 )
 ) none
 )
 ) none
 ) (
 some (.inl (t0,t5,(aq .i64 t6 1),()))
 )
 ) none
 )
 ) none
 ) (
 some (.inr (.inl (t0,t5,t6,())))
 )
def Ir:=pJ (ai (fb om))
def HD (p0:List UInt8):Option dZ :=
 (Ir p0 (ae p0) 0).bind (Sum.elim (fun y1 =>
 (lX (ae y1.1) 1 6).bind fun y2 =>
 some ((),(y2.2.1,()))
 ) (fun y1 =>
 some ((),(y1,()))
 ))
def Wn:Su:=⟨[.c false [.str]],[(false,[.bool])],true,.inl fun x=>HD x.1.1⟩
theorem Mh:ar Tryz.prog 192 Wn :=
 fl (ac lM an) [.d 2 (.bool)] [(0,⟨[.d 0 (.str),.d 5 (.int .i64),.d 6 (.int .i64)],ai (fb om)⟩)] [] Tryz.f192 (lp [0] (sc dn sn))
def sK (p0:Int):Option dZ :=
 (lX p0 0 1000000000).bind fun y1 =>
 some ((),(y1.2.1,()))
def Zw:Su:=⟨[.c false aK],[(false,[.bool])],true,.inl fun x=>sK x.1.1⟩
theorem J0:ar Tryz.prog 38 Zw :=
 fq (ac lM an) Tryz.f38
def KD (p0:(List UInt8)×Int×Int×Unit):Option dZ :=
 (HD p0.1).bind fun y1 =>
 cond y1.2.1.1 (
 (lX p0.2.1 1 9007199254740992).bind fun y2 =>
 cond y2.2.1.1 (
 (sK p0.2.2.1).bind fun y3 =>
 some ((),(y3.2.1,()))
 ) (
 some ((),((false,()),()))
 )
 ) (
 some ((),((false,()),()))
 )
def Xb:Su:=⟨[.c true jn],[(false,[.bool])],true,.inl fun x=>KD x.1⟩
theorem Ra:ar Tryz.prog 142 Xb :=
 fq (ac lM (ac Mh (ac J0 an))) Tryz.f142
def nF (t0 t5:List dj) (t6 t7:Int):Rd ((List dj)×(List dj)×Int×Int×Unit) Y1 :=
 cond (au t7 t6) (
 cond (a7 t7 t5) (
 let u1:=(gt d157 t5 t7)
 (KD u1).bind fun y1 =>
 cond (!y1.2.1.1) (
 some (.inr (.inr (false,())))
 ) (
 cond (au 0 t7) (
 let u2:=(aG .i64 t7 1)
 cond (a7 u2 t0) (
 cond (O4 u1.1 (gt d157 t0 u2).1) (
 some (.inr (.inr (false,())))
 ) (
 some (.inl (t0,t5,t6,(aq .i64 t7 1),()))
 )
 ) none
 ) (
 some (.inl (t0,t5,t6,(aq .i64 t7 1),()))
 )
 )
 ) none
 ) (
 some (.inr (.inl (t0,t5,t6,t7,())))
 )
def Gk:=mJ (ai (cW nF))
def Kv (p0:List dj):Option dZ :=
 (Gk p0 p0 (ae p0) 0).bind (Sum.elim (fun y1 =>
 some ((),(((bz (ae y1.1) 4),()),()))
 ) (fun y1 =>
 some ((),(y1,()))
 ))
def VC:Su:=⟨[.c false [.sl 157 dG]],[(false,[.bool])],true,.inl fun x=>Kv x.1.1⟩
theorem Ti:ar Tryz.prog 108 VC :=
 fl (ac Ra an) [.d 2 (.bool)] [(0,⟨[.d 0 (.sl 157 dG),.d 5 (.sl 157 dG),.d 6 (.int .i64),.d 7 (.int .i64)],ai (cW nF)⟩)] [] Tryz.f108 (lp [0] (sc dn sn))
def L5 (p1:Int):Option Nx :=
 cond (au p1 0) (
 none
 ) (
 let u1:=(aG .i64 p1 (aG .i64 0 0))
 cond (au 0 u1) (
 cond (S6 0 0) (
 cond (Ws 8 u1) (
 let u2:=(u0 d3 u1)
 cond (dI 0 0 u2) (
 some ((),(((NA u2 0),()),()))
 ) none
 ) none
 ) none
 ) (
 some ((),(([],()),()))
 )
 )
def Wh:Su:=⟨[.nil,.c false aK],[(false,gD)],true,.inl fun x=>L5 x.1.1⟩
theorem SD:ar Tryz.prog 193 Wh :=
 fq an Tryz.f193
def qX (t0:List EC) (t3:Int) (t9:List EC) (t10 t11:Int):Rd ((List EC)×Int×(List EC)×Int×Int×Unit) Unit :=
 cond (au t11 t10) (
 cond (a7 t11 t9) (
 let u1:=(aq .i64 t3 (ae (gt d53 t9 t11).1))
 cond (au u1 0) (
 none
 ) (
 some (.inl (t0,u1,t9,t10,(aq .i64 t11 1),()))
 )
 ) none
 ) (
 some (.inr (.inl (t0,t3,t9,t10,t11,())))
 )
def CF:=yA (ai (gi qX))
def rh (t6:List R3) (t25:List EC) (t26 t27:Int):Rd ((List R3)×(List EC)×Int×Int×Unit) Unit :=
 cond (au t27 t26) (
 cond (a7 t27 t25) (
 cond (cR 8 t6 (gt d53 t25 t27).1) (
 some (.inl ((lP t6 (gt d53 t25 t27).1),t25,t26,(aq .i64 t27 1),()))
 ) none
 ) none
 ) (
 some (.inr (.inl (t6,t25,t26,t27,())))
 )
def CE:=mJ (ai (cW rh))
def LQ (p0:List EC):Option Nx :=
 (CF p0 0 p0 (ae p0) 0).bind (Sum.elim (fun y1 =>
 (L5 y1.2.1).bind fun y2 =>
 (CE y2.2.1.1 y1.1 (ae y1.1) 0).bind (Sum.elim (fun y3 =>
 some ((),((y3.1,()),()))
 ) (fun y3 =>
 none
 ))
 ) (fun y1 =>
 none
 ))
def XI:Su:=⟨[.c false [.sl 53 gD]],[(false,gD)],true,.inl fun x=>LQ x.1.1⟩
theorem Rh:ar Tryz.prog 143 XI :=
 fl (ac SD an) [] [(0,⟨[.d 0 (.sl 53 gD),.d 3 (.int .i64),.d 9 (.sl 53 gD),.d 10 (.int .i64),.d 11 (.int .i64)],ai (gi qX)⟩),(2,⟨[.own 6 (.sl 3 aK),.d 25 (.sl 53 gD),.d 26 (.int .i64),.d 27 (.int .i64)],ai (cW rh)⟩)] [] Tryz.f143 (lp [0,2] (sc dn (sc dn sn)))
def nP (t3:Int) (t14:List R3) (t15 t16:Int) (b1:Int×Int×(List R3)×(List R3)×Unit):Rd (Int×(List R3)×Int×Int×(Int×Int×(List R3)×(List R3)×Unit)×Unit) Y1 :=
 cond (au t16 t15) (
 cond (a7 t16 t14) (
 (LF (gt d3 t14 t16).1).bind fun y1 =>
 cond (!y1.2.1.1) (
 some (.inr (.inr (false,())))
 ) (
 some (.inl (t3,t14,t15,(aq .i64 t16 1),b1,()))
 )
 ) none
 ) (
 some (.inr (.inl (t3,t14,t15,t16,b1,())))
 )
def IG:=yA (ai (gi nP))
def IB (p0:Int×Int×(List R3)×(List R3)×Unit):Option dZ :=
 (LQ [(p0.2.2.1,()),(p0.2.2.2.1,())]).bind fun y1 =>
 (IG (ae p0.2.2.1) y1.2.1.1 (ae y1.2.1.1) 0 p0).bind (Sum.elim (fun y2 =>
 (lX y2.2.2.2.2.1.1 1 1000).bind fun y3 =>
 cond y3.2.1.1 (
 (lX y2.1 1 8).bind fun y4 =>
 cond (cond y4.2.1.1 (ak (ae y2.2.2.2.2.1.2.2.2.1) y2.1) false) (
 (sK y2.2.2.2.2.1.2.1).bind fun y5 =>
 some ((),(y5.2.1,()))
 ) (
 some ((),((false,()),()))
 )
 ) (
 some ((),((false,()),()))
 )
 ) (fun y2 =>
 some ((),(y2,()))
 ))
def Vi:Su:=⟨[.c true [.int .i64,.int .i64,.sl 3 aK,.sl 3 aK]],[(false,[.bool])],true,.inl fun x=>IB x.1⟩
theorem TA:ar Tryz.prog 109 Vi :=
 fl (ac lM (ac Mu (ac J0 (ac Rh an)))) [.d 2 (.bool)] [(0,⟨[.d 3 (.int .i64),.own 14 (.sl 3 aK),.d 15 (.int .i64),.d 16 (.int .i64),.box 1 [(false,.int .i64),(false,.int .i64),(false,.sl 3 aK),(false,.sl 3 aK)]],ai (gi nP)⟩)] [] Tryz.f109 (lp [0] (sc dn sn))
def wH (p0:List UInt8) (p1:Int):Option dZ :=
 (sI p0).bind fun y1 =>
 some ((),(((cond y1.2.1.1 (ak (ae p0) p1) false),()),()))
def Wq:Su:=⟨[.c false [.str],.c false aK],[(false,[.bool])],true,.inl fun x=>wH x.1.1 x.2.1.1⟩
theorem I8:ar Tryz.prog 194 Wq :=
 fq (ac xf an) Tryz.f194
def J9 (p0:(List UInt8)×(List UInt8)×(List R5)×Unit):Option dZ :=
 (wH p0.1 6).bind fun y1 =>
 cond y1.2.1.1 (
 (wH p0.2.1 4).bind fun y2 =>
 cond y2.2.1.1 (
 (lX (ae p0.2.2.1) 1 200).bind fun y3 =>
 some ((),(y3.2.1,()))
 ) (
 some ((),((false,()),()))
 )
 ) (
 some ((),((false,()),()))
 )
def XW:Su:=⟨[.c true iy],[(false,[.bool])],true,.inl fun x=>J9 x.1⟩
theorem RZ:ar Tryz.prog 144 XW :=
 fq (ac lM (ac I8 an)) Tryz.f144
def P2 (p0:(List UInt8)×(List UInt8)×(List R5)×Unit) (p1 p2:(List UInt8)×Unit):Option dZ :=
 some ((),(((cond (bY p0.1 p1.1) (bY p0.2.1 p2.1) false),()),()))
def XF:Su:=⟨[.c true iy,.pt [.str],.pt [.str]],[(false,[.bool])],true,.inl fun x=>P2 x.1 x.2.1 x.2.2.1⟩
theorem R4:ar Tryz.prog 196 XF :=
 fq an Tryz.f196
def oR (t0:List di) (f1:Y6×Y6×Unit) (t7 t8:Int):Rd ((List di)×(Y6×Y6×Unit)×Int×Int×Unit) Y0 :=
 cond (au t8 t7) (
 cond (a7 t8 t0) (
 (P2 (gt d160 t0 t8) f1.1 f1.2.1).bind fun y1 =>
 cond y1.2.1.1 (
 some (.inr (.inr (t8,())))
 ) (
 some (.inl (t0,f1,t7,(aq .i64 t8 1),()))
 )
 ) none
 ) (
 some (.inr (.inl (t0,f1,t7,t8,())))
 )
def Gn:=mJ (ai (cW oR))
def Pt (p0:List di) (c1_0 c1_1:(List UInt8)×Unit):Option jX :=
 (Gn p0 (c1_0,c1_1,()) (ae p0) 0).bind (Sum.elim (fun y1 =>
 some ((),(((-1),()),()))
 ) (fun y1 =>
 some ((),(y1,()))
 ))
def Xo:Su:=⟨[.c false [.sl 160 cT],.fn 196 [.p [.str],.p [.str]]],[(false,aK)],true,.inl fun x=>Pt x.1.1 x.2.1.1 x.2.1.2.1⟩
theorem Tp:ar Tryz.prog 195 Xo :=
 fl (ac R4 an) [.d 4 (.int .i64)] [(0,⟨[.d 0 (.sl 160 cT),.fn 1 196 [.p [.str],.p [.str]],.d 7 (.int .i64),.d 8 (.int .i64)],ai (cW oR)⟩)] [] Tryz.f195 (lp [0] (sc dn sn))
def Lb (p0:List di) (p1 p2:List UInt8):Option jX :=
 (Pt p0 (p1,()) (p2,())).bind fun y1 =>
 some ((),(y1.2.1,()))
def W4:Su:=⟨[.c false [.sl 160 cT],.c false [.str],.c false [.str]],[(false,aK)],true,.inl fun x=>Lb x.1.1 x.2.1.1 x.2.2.1.1⟩
theorem Ru:ar Tryz.prog 145 W4 :=
 fq (ac Tp an) Tryz.f145
def oW (t0 t5:List di) (t6 t7:Int):Rd Uw Y1 :=
 cond (au t7 t6) (
 cond (a7 t7 t5) (
 let u1:=(gt d160 t5 t7)
 (J9 u1).bind fun y1 =>
 cond (!y1.2.1.1) (
 some (.inr (.inr (false,())))
 ) (
 (Lb t0 u1.1 u1.2.1).bind fun y2 =>
 cond (!(ak y2.2.1.1 t7)) (
 some (.inr (.inr (false,())))
 ) (
 some (.inl (t0,t5,t6,(aq .i64 t7 1),()))
 )
 )
 ) none
 ) (
 some (.inr (.inl (t0,t5,t6,t7,())))
 )
def HI:=mJ (ai (cW oW))
def KQ (p0:List di):Option dZ :=
 (HI p0 p0 (ae p0) 0).bind (Sum.elim (fun y1 =>
 some ((),(((bz (ae y1.1) 6),()),()))
 ) (fun y1 =>
 some ((),(y1,()))
 ))
def VT:Su:=⟨[.c false [.sl 160 cT]],[(false,[.bool])],true,.inl fun x=>KQ x.1.1⟩
theorem Tc:ar Tryz.prog 110 VT :=
 fl (ac RZ (ac Ru an)) [.d 2 (.bool)] [(0,⟨[.d 0 (.sl 160 cT),.d 5 (.sl 160 cT),.d 6 (.int .i64),.d 7 (.int .i64)],ai (cW oW)⟩)] [] Tryz.f110 (lp [0] (sc dn sn))
def HU (p0 p1:Int):Option jX :=
 let u1:=(EO 0 (E6 p1 4611686018427387904))
 let u2:=(EO 0 (E6 p0 4611686018427387904))
 cond (au (aG .i64 4611686018427387904 u1) u2) (
 some ((),((4611686018427387904,()),()))
 ) (
 some ((),(((aq .i64 u2 u1),()),()))
 )
def VM:Su:=⟨[.c false aK,.c false aK],[(false,aK)],true,.inl fun x=>HU x.1.1 x.2.1.1⟩
theorem Mz:ar Tryz.prog 111 VM :=
 fq an Tryz.f111
def nE (t3:Int) (t6:List dj) (t7 t8:Int):Rd (Int×(List dj)×Int×Int×Unit) Unit :=
 cond (au t8 t7) (
 cond (a7 t8 t6) (
 (HU t3 (gt d157 t6 t8).2.1).bind fun y1 =>
 some (.inl (y1.2.1.1,t6,t7,(aq .i64 t8 1),()))
 ) none
 ) (
 some (.inr (.inl (t3,t6,t7,t8,())))
 )
def Gx:=mJ (ai (cW nE))
def JK (p0:List dj):Option jX :=
 (Gx 0 p0 (ae p0) 0).bind (Sum.elim (fun y1 =>
 some ((),((y1.1,()),()))
 ) (fun y1 =>
 none
 ))
def VH:Su:=⟨[.c false [.sl 157 dG]],[(false,aK)],true,.inl fun x=>JK x.1.1⟩
theorem TM:ar Tryz.prog 112 VH :=
 fl (ac Mz an) [] [(0,⟨[.d 3 (.int .i64),.d 6 (.sl 157 dG),.d 7 (.int .i64),.d 8 (.int .i64)],ai (cW nE)⟩)] [] Tryz.f112 (lp [0] (sc dn sn))
def UR (p0:(List UInt8)×Int×Int×Int×Int×(List dj)×Int×Int×(List R3)×(List R3)×(List di)×Unit):Option dZ :=
 (qN p0.1).bind fun y1 =>
 cond y1.2.1.1 (
 (lX p0.2.1 0 9007199254740992).bind fun y2 =>
 cond y2.2.1.1 (
 (lX p0.2.2.2.1 0 1000).bind fun y3 =>
 cond y3.2.1.1 (
 (lX p0.2.2.2.2.1 0 9007199254740992).bind fun y4 =>
 cond y4.2.1.1 (
 (LF p0.2.2.1).bind fun y5 =>
 cond y5.2.1.1 (
 (Kv p0.2.2.2.2.2.1).bind fun y6 =>
 cond y6.2.1.1 (
 (IB (p0.2.2.2.2.2.2.1,p0.2.2.2.2.2.2.2.1,p0.2.2.2.2.2.2.2.2.1,p0.2.2.2.2.2.2.2.2.2.1,())).bind fun y7 =>
 cond y7.2.1.1 (
 (KQ p0.2.2.2.2.2.2.2.2.2.2.1).bind fun y8 =>
 cond y8.2.1.1 (
 (JK p0.2.2.2.2.2.1).bind fun y9 =>
 (HU p0.2.2.1 y9.2.1.1).bind fun y10 =>
 some ((),(((bz y10.2.1.1 p0.2.1),()),()))
 ) (
 some ((),((false,()),()))
 )
 ) (
 some ((),((false,()),()))
 )
 ) (
 some ((),((false,()),()))
 )
 ) (
 some ((),((false,()),()))
 )
 ) (
 some ((),((false,()),()))
 )
 ) (
 some ((),((false,()),()))
 )
 ) (
 some ((),((false,()),()))
 )
 ) (
 some ((),((false,()),()))
 )
def YH:Su:=⟨[.c true bw],[(false,[.bool])],true,.inl fun x=>UR x.1⟩
theorem Va:ar Tryz.prog 78 YH :=
 fq (ac lM (ac Mq (ac Mu (ac Ti (ac TA (ac Tc (ac Mz (ac TM an)))))))) Tryz.f78
def wD (t6:List dp) (t7 t8:Int) (b1:(List dp)×Unit):Rd ((List dp)×Int×Int×Y4×Unit) Y1 :=
 cond (au t8 t7) (
 cond (a7 t8 t6) (
 let u1:=(gt d92 t6 t8)
 (UR u1).bind fun y1 =>
 cond (!y1.2.1.1) (
 some (.inr (.inr (false,())))
 ) (
 cond (au 0 t8) (
 let u2:=(aG .i64 t8 1)
 cond (a7 u2 b1.1) (
 cond (O4 u1.1 (gt d92 b1.1 u2).1) (
 some (.inr (.inr (false,())))
 ) (
 some (.inl (t6,t7,(aq .i64 t8 1),b1,()))
 )
 ) none
 ) (
 some (.inl (t6,t7,(aq .i64 t8 1),b1,()))
 )
 )
 ) none
 ) (
 some (.inr (.inl (t6,t7,t8,b1,())))
 )
def Nh:=mJ (ai (cW wD))
def Sa (p0:(List dp)×Unit):Option dZ :=
 (Nh p0.1 (ae p0.1) 0 p0).bind (Sum.elim (fun y1 =>
 some ((),(((bz (ae y1.2.2.2.1.1) 6),()),()))
 ) (fun y1 =>
 some ((),(y1,()))
 ))
def Yw:Su:=⟨[.c true [.sl 92 bw]],[(false,[.bool])],true,.inl fun x=>Sa x.1⟩
theorem Vs:ar Tryz.prog 51 Yw :=
 fl (ac Va an) [.d 2 (.bool)] [(0,⟨[.d 6 (.sl 92 bw),.d 7 (.int .i64),.d 8 (.int .i64),.box 1 [(false,.sl 92 bw)]],ai (cW wD)⟩)] [] Tryz.f51 (lp [0] (sc dn sn))
def vJ (t0:List UInt8) (t3 t6 t7:Int):Rd ((List UInt8)×Int×Int×Int×Unit) Unit :=
 cond (au t7 t6) (
 cond (a7 t7 t0) (
 some (.inl (t0,(jI .u32 (AQ .u32 t3 (bN .u32 (dq t0 t7))) 16777619),t6,(aq .i64 t7 1),()))
 ) none
 ) (
 some (.inr (.inl (t0,t3,t6,t7,())))
 )
def MJ:=mJ (ai (cW vJ))
def UL (p0:List UInt8):Option jX :=
 (MJ p0 2166136261 (ae p0) 0).bind (Sum.elim (fun y1 =>
 some ((),(((bN .i64 y1.2.1),()),()))
 ) (fun y1 =>
 none
 ))
def Y7:Su:=⟨[.c false [.str]],[(false,aK)],true,.inl fun x=>UL x.1.1⟩
theorem WN:ar Tryz.prog 90 Y7 :=
 fl an [] [(0,⟨[.d 0 (.str),.d 3 (.int .u32),.d 6 (.int .i64),.d 7 (.int .i64)],ai (cW vJ)⟩)] [] Tryz.f90 (lp [0] (sc dn sn))
def QE (p0:List UInt8) (p1:Int):Option jX :=
 cond (au p1 1) (
 some ((),((0,()),()))
 ) (
 (UL p0).bind fun y1 =>
 cond (!(ak p1 0)) (
 some ((),(((gH y1.2.1.1 p1),()),()))
 ) none
 )
def YO:Su:=⟨[.c false [.str],.c false aK],[(false,aK)],true,.inl fun x=>QE x.1.1 x.2.1.1⟩
theorem RW:ar Tryz.prog 67 YO :=
 fq (ac WN an) Tryz.f67
def uI (t0:List gk) (t3:Int) (t7:List gk) (t8 t9:Int) (t19:List dp) (t20 t21:Int) (b4:Int×(List dp)×Unit):Rd ((List gk)×Int×(List gk)×Int×Int×(List dp)×Int×Int×Y8×Unit) Y1 :=
 cond (au t21 t20) (
 cond (a7 t21 t19) (
 (QE (gt d92 t19 t21).1 (ae t0)).bind fun y1 =>
 cond (!(ak y1.2.1.1 t3)) (
 some (.inr (.inr (false,())))
 ) (
 cond (au 0 t21) (
 let u1:=(aG .i64 t21 1)
 cond (a7 u1 b4.2.1) (
 cond (O4 (gt d92 t19 t21).1 (gt d92 b4.2.1 u1).1) (
 some (.inr (.inr (false,())))
 ) (
 some (.inl (t0,t3,t7,t8,t9,t19,t20,(aq .i64 t21 1),b4,()))
 )
 ) none
 ) (
 some (.inl (t0,t3,t7,t8,t9,t19,t20,(aq .i64 t21 1),b4,()))
 )
 )
 ) none
 ) (
 some (.inr (.inl (t0,t3,t7,t8,t9,t19,t20,t21,b4,())))
 )
def Nq:=TP (ai (CN uI))
def uw (t0 t7:List gk) (t8 t9:Int):Rd ((List gk)×(List gk)×Int×Int×Unit) Y1 :=
 cond (au t9 t8) (
 cond (a7 t9 t7) (
 let u1:=(gt d67 t7 t9)
 (lX u1.1 (-1) 11).bind fun y1 =>
 cond (!y1.2.1.1) (
 some (.inr (.inr (false,())))
 ) (
 (Nq t0 t9 t7 t8 t9 u1.2.1 (ae u1.2.1) 0 u1).bind (Sum.elim (fun y2 =>
 some (.inl (y2.1,y2.2.2.1,y2.2.2.2.1,(aq .i64 y2.2.2.2.2.1 1),()))
 ) (fun y2 =>
 some (.inr (.inr (y2.1,())))
 ))
 )
 ) none
 ) (
 some (.inr (.inl (t0,t7,t8,t9,())))
 )
def QD:=mJ (ai (cW uw))
def UN (p0:List gk):Option dZ :=
 (QD p0 p0 (ae p0) 0).bind (Sum.elim (fun y1 =>
 (lX (ae y1.1) 1 5).bind fun y2 =>
 cond y2.2.1.1 (
 (Oc y1.1).bind fun y3 =>
 (Sa y3.2.1).bind fun y4 =>
 some ((),(y4.2.1,()))
 ) (
 some ((),((false,()),()))
 )
 ) (fun y1 =>
 some ((),(y1,()))
 ))
def YR:Su:=⟨[.c false [.sl 67 de]],[(false,[.bool])],true,.inl fun x=>UN x.1.1⟩
theorem Xc:ar Tryz.prog 37 YR :=
 fl (ac lM (ac Yd (ac Vs (ac RW an)))) [.d 2 (.bool)] [(2,⟨[.d 0 (.sl 67 de),.d 3 (.int .i64),.d 7 (.sl 67 de),.d 8 (.int .i64),.d 9 (.int .i64),.d 19 (.sl 92 bw),.d 20 (.int .i64),.d 21 (.int .i64),.box 4 [(false,.int .i64),(false,.sl 92 bw)]],ai (CN uI)⟩),(0,⟨[.d 0 (.sl 67 de),.d 7 (.sl 67 de),.d 8 (.int .i64),.d 9 (.int .i64)],ai (cW uw)⟩)] [] Tryz.f37 (lp [0] (sc (lp [2] (sc dn sn)) sn))
def R8 (p0:Int):Option NZ :=
 (lX p0 0 5).bind fun y1 =>
 cond (!y1.2.1.1) (
 some ((),(([],()),()))
 ) (
 cond (a7 p0 [([114,101,97,100],()),([108,111,99,107],()),([119,111,114,107],()),([102,114,101,101],()),([115,101,110,100],()),([100,111,110,101],())]) (
 some ((),((gt d9 [([114,101,97,100],()),([108,111,99,107],()),([119,111,114,107],()),([102,114,101,101],()),([115,101,110,100],()),([100,111,110,101],())] p0),()))
 ) none
 )
def Zp:Su:=⟨[.c false aK],[(false,[.str])],true,.inl fun x=>R8 x.1.1⟩
theorem W5:ar Tryz.prog 69 Zp :=
 fq (ac lM an) Tryz.f69
def yJ (p0:List R5) (p1 p2:Int):Option (Unit×(((List R5)×Unit)×Y1×Unit)) :=
 let u1:=(ae p0)
 (lX p1 0 u1).bind fun y1 =>
 cond (cond (cond (!y1.2.1.1) true (au p2 0)) true (au (aG .i64 u1 p1) p2)) (
 some ((),(([],()),(false,()),()))
 ) (
 let u2:=(aq .i64 p1 p2)
 cond (dI p1 u2 p0) (
 some ((),(((sub p0 p1 u2),()),(true,()),()))
 ) none
 )
def Wy:Su:=⟨[.c false [.sl 5 fy],.c false aK,.c false aK],[(false,[.sl 5 fy]),(false,[.bool])],false,.inl fun x=>yJ x.1.1 x.2.1.1 x.2.2.1.1⟩
theorem Jt:ar Tryz.prog 223 Wy :=
 fq (ac lM an) Tryz.f223
def nY (t1 t2:Int) (t9:List R5) (t10:Bool) (t11 t27:List R5) (t28 t29:Int):Rd (Int×Int×(List R5)×Bool×(List R5)×(List R5)×Int×Int×Unit) Unit :=
 cond (au t29 t28) (
 cond (a7 t29 t27) (
 cond (cR 1 t11 [((aq .u8 48 (ic .u8 (gt d5 t27 t29).1 4)),()),((aq .u8 48 (zw .u8 (gt d5 t27 t29).1 15)),())]) (
 some (.inl (t1,t2,t9,t10,(lP t11 [((aq .u8 48 (ic .u8 (gt d5 t27 t29).1 4)),()),((aq .u8 48 (zw .u8 (gt d5 t27 t29).1 15)),())]),t27,t28,(aq .i64 t29 1),()))
 ) none
 ) none
 ) (
 some (.inr (.inl (t1,t2,t9,t10,t11,t27,t28,t29,())))
 )
def I5:=Qe (ai (xM nY))
def zu (p0:List R5) (p1 p2:Int):Option UH :=
 (lX p2 1 38).bind fun y1 =>
 cond (!y1.2.1.1) (
 some ((),(([],()),(0,()),(false,()),()))
 ) (
 (yJ p0 p1 (oM .i64 (aq .i64 p2 1) 2)).bind fun y2 =>
 (I5 p1 p2 y2.2.1.1 y2.2.2.1.1 [] y2.2.1.1 (ae y2.2.1.1) 0).bind (Sum.elim (fun y3 =>
 cond (!y3.2.2.2.1) (
 some ((),(([],()),(0,()),(false,()),()))
 ) (
 (sI (strOf y3.2.2.2.2.1)).bind fun y4 =>
 cond (!y4.2.1.1) (
 some ((),(([],()),(0,()),(false,()),()))
 ) (
 cond (ak (gH y3.2.1 2) 1) (
 cond (a7 0 y3.2.2.2.2.1) (
 cond (!(ak (gt d5 y3.2.2.2.2.1 0).1 48)) (
 some ((),(([],()),(0,()),(false,()),()))
 ) (
 let u1:=(ae y3.2.2.2.2.1)
 let u2:=(aG .i64 u1 y3.2.1)
 let u3:=(dI u2 u1 y3.2.2.2.2.1)
 cond u3 (
 some ((),(((strOf (sub y3.2.2.2.2.1 u2 u1)),()),((aq .i64 y3.1 (ae y3.2.2.1)),()),(true,()),()))
 ) none
 )
 ) none
 ) (
 let u1:=(ae y3.2.2.2.2.1)
 let u2:=(aG .i64 u1 y3.2.1)
 let u3:=(dI u2 u1 y3.2.2.2.2.1)
 cond u3 (
 some ((),(((strOf (sub y3.2.2.2.2.1 u2 u1)),()),((aq .i64 y3.1 (ae y3.2.2.1)),()),(true,()),()))
 ) none
 )
 )
 )
 ) (fun y3 =>
 none
 ))
 )
def XJ:Su:=⟨[.c false [.sl 5 fy],.c false aK,.c false aK],[(false,[.str]),(false,aK),(false,[.bool])],true,.inl fun x=>zu x.1.1 x.2.1.1 x.2.2.1.1⟩
theorem Ix:ar Tryz.prog 168 XJ :=
 fl (ac lM (ac xf (ac Jt an))) [] [(0,⟨[.d 1 (.int .i64),.d 2 (.int .i64),.d 9 (.sl 5 fy),.d 10 (.bool),.own 11 (.sl 5 fy),.d 27 (.sl 5 fy),.d 28 (.int .i64),.d 29 (.int .i64)],ai (xM nY)⟩)] [] Tryz.f168 (lp [0] (sc dn sn))
def re (t1:Int) (t7:List R5) (t9:List R3) (t10:Int):Rd (Int×(List R5)×(List R3)×Int×Unit) Unit :=
 cond (bz t10 64) (
 let u1:=(aG .i64 t10 1)
 let u2:=(oM .i64 u1 8)
 cond (a7 u2 t7) (
 let u3:=(gH u1 8)
 cond (bz 0 u3) (
 cond (!(ak (zw .u8 (gt d5 t7 u2).1 (ic .u8 128 u3)) 0)) (
 cond (cR 8 t9 [(t10,())]) (
 let u4:=(aq .i64 t10 1)
 some (.inl (t1,t7,(lP t9 [(t10,())]),u4,()))
 ) none
 ) (
 let u4:=(aq .i64 t10 1)
 some (.inl (t1,t7,t9,u4,()))
 )
 ) none
 ) none
 ) (
 some (.inr (.inl (t1,t7,t9,t10,())))
 )
def Gs:=mJ (ai (cW re))
def Ak (p0:List R5) (p1:Int):Option WR :=
 (yJ p0 p1 8).bind fun y1 =>
 cond (!y1.2.2.1.1) (
 some ((),(([],()),(0,()),(false,()),()))
 ) (
 (Gs p1 y1.2.1.1 [] 1).bind (Sum.elim (fun y2 =>
 some ((),((y2.2.2.1,()),((aq .i64 y2.1 8),()),(true,()),()))
 ) (fun y2 =>
 none
 ))
 )
def Wl:Su:=⟨[.c false [.sl 5 fy],.c false aK],[(false,gD),(false,aK),(false,[.bool])],true,.inl fun x=>Ak x.1.1 x.2.1.1⟩
theorem S1:ar Tryz.prog 169 Wl :=
 fl (ac Jt an) [] [(0,⟨[.d 1 (.int .i64),.d 7 (.sl 5 fy),.own 9 (.sl 3 aK),.d 10 (.int .i64)],ai (cW re)⟩)] [] Tryz.f169 (lp [0] (sc dn sn))
def Sq  : Option (Unit×(((List CC)×Unit)×Unit)) :=
 some ((),(([(2,3,19,()),(3,1,6,()),(4,1,12,()),(7,1,10,()),(11,1,6,()),(14,1,4,()),(37,2,12,()),(38,2,6,()),(39,2,2,()),(41,2,8,()),(48,5,60,()),(49,1,3,()),(54,5,60,()),(95,2,12,()),(102,4,20,()),(103,4,20,())],()),()))
def Xk:Su:=⟨[],[(false,[.sl 232 D9])],true,.inl fun x=>Sq ⟩
theorem QI:ar Tryz.prog 250 Xk :=
 fq an Tryz.f250
def qH (t0:Int) (t5:List CC) (t6 t7:Int) (b2:Int×Int×Int×Unit):Rd (Int×(List CC)×Int×Int×CC×Unit) (CC×Unit) :=
 cond (au t7 t6) (
 cond (a7 t7 t5) (
 let u1:=(gt d232 t5 t7)
 cond (ak u1.1 t0) (
 some (.inr (.inr (u1,())))
 ) (
 some (.inl (t0,t5,t6,(aq .i64 t7 1),b2,()))
 )
 ) none
 ) (
 some (.inr (.inl (t0,t5,t6,t7,b2,())))
 )
def F9:=yA (ai (gi qH))
def Ew (p0:Int):Option (Unit×(CC×Unit)) :=
 (Sq).bind fun y1 =>
 (F9 p0 y1.2.1.1 (ae y1.2.1.1) 0 (0,0,0,())).bind (Sum.elim (fun y2 =>
 some ((),((0,0,0,()),()))
 ) (fun y2 =>
 some ((),(y2.1,()))
 ))
def XH:Su:=⟨[.c false aK],[(true,D9)],true,.inl fun x=>Ew x.1.1⟩
theorem Ie:ar Tryz.prog 224 XH :=
 fl (ac QI an) [.box 2 [(false,.int .i64),(false,.int .i64),(false,.int .i64)]] [(0,⟨[.d 0 (.int .i64),.own 5 (.sl 232 D9),.d 6 (.int .i64),.d 7 (.int .i64),.box 2 [(false,.int .i64),(false,.int .i64),(false,.int .i64)]],ai (gi qH)⟩)] [] Tryz.f224 (lp [0] (sc dn sn))
def CD (p0:Int):Option jX :=
 (Ew p0).bind fun y1 =>
 some ((),((y1.2.1.2.1,()),()))
def V9:Su:=⟨[.c false aK],[(false,aK)],true,.inl fun x=>CD x.1.1⟩
theorem Iu:ar Tryz.prog 170 V9 :=
 fq (ac Ie an) Tryz.f170
def LW (p0:Int):Option jX :=
 (Ew p0).bind fun y1 =>
 some ((),((y1.2.1.2.2.1,()),()))
def UW:Su:=⟨[.c false aK],[(false,aK)],true,.inl fun x=>LW x.1.1⟩
theorem SB:ar Tryz.prog 225 UW :=
 fq (ac Ie an) Tryz.f225
def Ki (p0:Int):Option jX :=
 (CD p0).bind fun y1 =>
 cond (ak y1.2.1.1 5) (
 some ((),((3,()),()))
 ) (
 some ((),((2,()),()))
 )
def V5:Su:=⟨[.c false aK],[(false,aK)],true,.inl fun x=>Ki x.1.1⟩
theorem SA:ar Tryz.prog 227 V5 :=
 fq (ac Iu an) Tryz.f227
section
open Go.RowKit Go.Lib
theorem XN:Dy Tryz.prog 179 190 229:=by
 intro s b v w R R2 hd ha
 have e1:Enters Tryz.prog 190:=enters_of (fn:=Tryz.f190) (c:=ah Tryz.f190) (by kernel_rfl) (by kernel_rfl) (by kernel_rfl)
 have e2:Enters Tryz.prog 229:=enters_of (fn:=Tryz.f229) (c:=ah Tryz.f229) (by kernel_rfl) (by kernel_rfl) (by kernel_rfl)
 have hsz:s.size < 9223372036854775808∨9223372036854775808<=s.size:=Nat.lt_or_ge _ _
 cases b with
 | false =>
   go_enter Tryz.func179,Tryz.ntmps179
   go_wp2_with (go_at_call 190; refine hd.mono ?_; rintro e W1 ⟨rfl,hW⟩)
   go_ret2
   exact .inr ⟨by simp,rfl,hW⟩
 | true =>
   by_cases hs:s.size<=18
   . have hb:=ha rfl hs
     have h1:¬ (18:Int) < (s.size:Int):=by omega
     go_enter Tryz.func179,Tryz.ntmps179
     go_wp2_with (first
      | (go_at_call 190; refine hd.mono ?_; rintro e W1 ⟨rfl,hW⟩)
      | (go_at_call 229; refine (hb _ hW).mono ?_; rintro e W2 ⟨rfl,hW2⟩))
     go_ret2
     exact .inl ⟨by trivial,hs,rfl,hW2⟩
   . have h1:(18:Int) < (s.size:Int):=by omega
     go_enter Tryz.func179,Tryz.ntmps179
     go_wp2_with (go_at_call 190; refine hd.mono ?_; rintro e W1 ⟨rfl,hW⟩)
     go_ret2
     exact .inr ⟨by simp [hs],rfl,hW⟩
end
def Cv (p0:List UInt8):Option WA:=sZ sI p0
def Xl:Su:=⟨[.c false [.str]],[(false,aK),(false,[.bool])],true,.inl fun x=>Cv x.1.1⟩
theorem Mm:ar Tryz.prog 179 Xl:=Ez uO (gd:=sI) xf (fnd:=Tryz.f190) (cd:=ah Tryz.f190) (by kernel_rfl) (by kernel_rfl) (by kernel_rfl) rfl XN (fn:=Tryz.f179) (c:=ah Tryz.f179) (by kernel_rfl) (by kernel_rfl) (by kernel_rfl)
def Ev (p0:List R5) (p1 p2:Int):Option (Unit×(Y0×Y0×Y1×Unit)) :=
 (lX p2 2 3).bind fun y1 =>
 cond (!y1.2.1.1) (
 some ((),((0,()),(0,()),(false,()),()))
 ) (
 (zu p0 p1 p2).bind fun y2 =>
 cond (!y2.2.2.2.1.1) (
 some ((),((0,()),(0,()),(false,()),()))
 ) (
 (Cv y2.2.1.1).bind fun y3 =>
 some ((),(y3.2.1,y2.2.2.1,(true,()),()))
 )
 )
def X0:Su:=⟨[.c false [.sl 5 fy],.c false aK,.c false aK],[(false,aK),(false,aK),(false,[.bool])],true,.inl fun x=>Ev x.1.1 x.2.1.1 x.2.2.1.1⟩
theorem Tg:ar Tryz.prog 226 X0 :=
 fq (ac lM (ac Ix (ac Mm an))) Tryz.f226
def oD (t0:List UInt8) (t5 t6:Int):Rd Qi Y1 :=
 cond (au t6 t5) (
 cond (a7 t6 t0) (
 let u1:=(dq t0 t6)
 cond (au u1 32) (
 some (.inr (.inr (false,())))
 ) (
 cond (a7 t6 t0) (
 cond (au 126 u1) (
 some (.inr (.inr (false,())))
 ) (
 some (.inl (t0,t5,(aq .i64 t6 1),()))
 )
 ) none
 )
 ) none
 ) (
 some (.inr (.inl (t0,t5,t6,())))
 )
def Hu:=pJ (ai (fb oD))
def EL (p0:List UInt8):Option dZ :=
 (Hu p0 (ae p0) 0).bind (Sum.elim (fun y1 =>
 some ((),((true,()),()))
 ) (fun y1 =>
 some ((),(y1,()))
 ))
def XU:Su:=⟨[.c false [.str]],[(false,[.bool])],true,.inl fun x=>EL x.1.1⟩
theorem Rq:ar Tryz.prog 251 XU :=
 fl an [.d 2 (.bool)] [(0,⟨[.d 0 (.str),.d 5 (.int .i64),.d 6 (.int .i64)],ai (fb oD)⟩)] [] Tryz.f251 (lp [0] (sc dn sn))
def wR (p0:Int) (p1:List UInt8):Option dZ :=
 (Ew p0).bind fun y1 =>
 cond (ak y1.2.1.2.1 1) (
 let u1:=(sI p1)
 Option.bind u1 fun y2 =>
 let u2:=(ae p1)
 some ((),(((cond y2.2.1.1 (ak u2 y1.2.1.2.2.1) false),()),()))
 ) (
 cond (ak y1.2.1.2.1 2) (
 let u1:=(EL p1)
 Option.bind u1 fun y2 =>
 let u2:=(ae p1)
 some ((),(((cond y2.2.1.1 (ak u2 y1.2.1.2.2.1) false),()),()))
 ) (
 cond (ak y1.2.1.2.1 3) (
 let u1:=(sI p1)
 Option.bind u1 fun y2 =>
 cond y2.2.1.1 (
 let u2:=(ae p1)
 let u3:=(lX u2 1 y1.2.1.2.2.1)
 Option.bind u3 fun y3 =>
 some ((),(y3.2.1,()))
 ) (
 some ((),((false,()),()))
 )
 ) (
 cond (ak y1.2.1.2.1 4) (
 let u1:=(EL p1)
 Option.bind u1 fun y2 =>
 cond y2.2.1.1 (
 let u2:=(ae p1)
 let u3:=(lX u2 1 y1.2.1.2.2.1)
 Option.bind u3 fun y3 =>
 some ((),(y3.2.1,()))
 ) (
 some ((),((false,()),()))
 )
 ) (
 cond (ak y1.2.1.2.1 5) (
 let u1:=(EL p1)
 Option.bind u1 fun y2 =>
 cond y2.2.1.1 (
 let u2:=(ae p1)
 let u3:=(lX u2 1 y1.2.1.2.2.1)
 Option.bind u3 fun y3 =>
 some ((),(y3.2.1,()))
 ) (
 some ((),((false,()),()))
 )
 ) (
 some ((),((false,()),()))
 )
 )
 )
 )
 )
def XG:Su:=⟨[.c false aK,.c false [.str]],[(false,[.bool])],true,.inl fun x=>wR x.1.1 x.2.1.1⟩
theorem M5:ar Tryz.prog 228 XG :=
 fq (ac lM (ac xf (ac Ie (ac Rq an)))) Tryz.f228
def Gv (p0:List R5) (p1 p2:Int):Option UH :=
 (LW p2).bind fun y1 =>
 (CD p2).bind fun y2 =>
 cond (cond (cond (ak y2.2.1.1 3) true (ak y2.2.1.1 4)) true (ak y2.2.1.1 5)) (
 (Ki p2).bind fun y3 =>
 (Ev p0 p1 y3.2.1.1).bind fun y4 =>
 cond (!y4.2.2.2.1.1) (
 some ((),(([],()),(0,()),(false,()),()))
 ) (
 let u1:=(cond (ak y2.2.1.1 1) true (ak y2.2.1.1 3))
 cond u1 (
 (zu p0 y4.2.2.1.1 y4.2.1.1).bind fun y5 =>
 cond (!y5.2.2.2.1.1) (
 some ((),(([],()),(0,()),(false,()),()))
 ) (
 (wR p2 y5.2.1.1).bind fun y6 =>
 cond (!y6.2.1.1) (
 some ((),(([],()),(0,()),(false,()),()))
 ) (
 some ((),(y5.2.1,y5.2.2.1,(true,()),()))
 )
 )
 ) (
 (yJ p0 y4.2.2.1.1 y4.2.1.1).bind fun y5 =>
 cond (!y5.2.2.1.1) (
 some ((),(([],()),(0,()),(false,()),()))
 ) (
 let u2:=(strOf y5.2.1.1)
 (wR p2 u2).bind fun y6 =>
 cond (!y6.2.1.1) (
 some ((),(([],()),(0,()),(false,()),()))
 ) (
 some ((),((u2,()),((aq .i64 y4.2.2.1.1 y4.2.1.1),()),(true,()),()))
 )
 )
 )
 )
 ) (
 let u1:=(cond (ak y2.2.1.1 1) true (ak y2.2.1.1 3))
 cond u1 (
 (zu p0 p1 y1.2.1.1).bind fun y3 =>
 cond (!y3.2.2.2.1.1) (
 some ((),(([],()),(0,()),(false,()),()))
 ) (
 (wR p2 y3.2.1.1).bind fun y4 =>
 cond (!y4.2.1.1) (
 some ((),(([],()),(0,()),(false,()),()))
 ) (
 some ((),(y3.2.1,y3.2.2.1,(true,()),()))
 )
 )
 ) (
 (yJ p0 p1 y1.2.1.1).bind fun y3 =>
 cond (!y3.2.2.1.1) (
 some ((),(([],()),(0,()),(false,()),()))
 ) (
 let u2:=(strOf y3.2.1.1)
 (wR p2 u2).bind fun y4 =>
 cond (!y4.2.1.1) (
 some ((),(([],()),(0,()),(false,()),()))
 ) (
 some ((),((u2,()),((aq .i64 p1 y1.2.1.1),()),(true,()),()))
 )
 )
 )
 )
def V6:Su:=⟨[.c false [.sl 5 fy],.c false aK,.c false aK],[(false,[.str]),(false,aK),(false,[.bool])],true,.inl fun x=>Gv x.1.1 x.2.1.1 x.2.2.1.1⟩
theorem S8:ar Tryz.prog 171 V6 :=
 fq (ac Jt (ac Ix (ac Iu (ac SB (ac SA (ac Tg (ac M5 an))))))) Tryz.f171
def oL (t0:List R5) (t4:List UInt8) (t5:Int) (t8:List R3) (t9:Bool) (t41:List R3) (t42 t43:Int) (b2:(List UInt8)×(List iw)×Unit):Rd ((List R5)×(List UInt8)×Int×(List R3)×Bool×(List R3)×Int×Int×Di×Unit) Ux :=
 cond (au t43 t42) (
 cond (a7 t43 t41) (
 let u1:=(gt d3 t41 t43)
 cond (ak u1.1 1) (
 let u2:=(aq .i64 t43 1)
 some (.inl (t0,t4,t5,t8,true,t41,t42,u2,b2,()))
 ) (
 (CD u1.1).bind fun y1 =>
 cond (ak y1.2.1.1 0) (
 some (.inr (.inr (2,([],[],()),())))
 ) (
 cond (cR 8 t8 [u1]) (
 let u2:=(aq .i64 t43 1)
 some (.inl (t0,t4,t5,(lP t8 [u1]),t9,t41,t42,u2,b2,()))
 ) none
 )
 )
 ) none
 ) (
 some (.inr (.inl (t0,t4,t5,t8,t9,t41,t42,t43,b2,())))
 )
def II:=TP (ai (CN oL))
def oe (t0:List R5) (t4:List UInt8) (t5:Int) (t8 t76:List R3) (t77 t78:Int) (b2:(List UInt8)×(List iw)×Unit):Rd ((List R5)×(List UInt8)×Int×(List R3)×(List R3)×Int×Int×Di×Unit) Ux :=
 cond (au t78 t77) (
 cond (a7 t78 t76) (
 let u1:=(aq .i64 (gt d3 t76 t78).1 64)
 (CD u1).bind fun y1 =>
 cond (ak y1.2.1.1 0) (
 some (.inr (.inr (2,([],[],()),())))
 ) (
 cond (cR 8 t8 [(u1,())]) (
 some (.inl (t0,t4,t5,(lP t8 [(u1,())]),t76,t77,(aq .i64 t78 1),b2,()))
 ) none
 )
 ) none
 ) (
 some (.inr (.inl (t0,t4,t5,t8,t76,t77,t78,b2,())))
 )
def Jg:=Qe (ai (xM oe))
def oo (t0:List R5) (t5:Int) (t95:List R3) (t96 t97:Int) (b2 b15:(List UInt8)×(List iw)×Unit):Rd ((List R5)×Int×(List R3)×Int×Int×Di×Di×Unit) Ux :=
 cond (au t97 t96) (
 cond (a7 t97 t95) (
 (Gv t0 t5 (gt d3 t95 t97).1).bind fun y1 =>
 cond (!y1.2.2.2.1.1) (
 some (.inr (.inr (3,([],[],()),())))
 ) (
 cond (cR 24 b15.2.1 [((gt d3 t95 t97).1,y1.2.1.1,())]) (
 some (.inl (t0,y1.2.2.1.1,t95,t96,(aq .i64 t97 1),b2,(b15.1,(lP b15.2.1 [((gt d3 t95 t97).1,y1.2.1.1,())]),()),()))
 ) none
 )
 ) none
 ) (
 some (.inr (.inl (t0,t5,t95,t96,t97,b2,b15,())))
 )
def yn:=Ui (ai (GG oo))
def LK (p0:List R5):Option (Unit×(Di×Y0×Unit)) :=
 (zu p0 0 4).bind fun y1 =>
 cond (!y1.2.2.2.1.1) (
 some ((),(([],[],()),(1,()),()))
 ) (
 (Ak p0 y1.2.2.1.1).bind fun y2 =>
 cond (!y2.2.2.2.1.1) (
 some ((),(([],[],()),(2,()),()))
 ) (
 (II p0 y1.2.1.1 y2.2.2.1.1 [] false y2.2.1.1 (ae y2.2.1.1) 0 ([],[],())).bind (Sum.elim (fun y3 =>
 cond y3.2.2.2.2.1 (
 (Ak y3.1 y3.2.2.1).bind fun y4 =>
 let u1:=(ae y4.2.1.1)
 cond (cond (!y4.2.2.2.1.1) true (ak u1 0)) (
 some ((),(([],[],()),(2,()),()))
 ) (
 (Jg y3.1 y3.2.1 y4.2.2.1.1 y3.2.2.2.1 y4.2.1.1 u1 0 y3.2.2.2.2.2.2.2.2.1).bind (Sum.elim (fun y5 =>
 (yn y5.1 y5.2.2.1 y5.2.2.2.1 (ae y5.2.2.2.1) 0 y5.2.2.2.2.2.2.2.1 (y5.2.1,[],())).bind (Sum.elim (fun y6 =>
 cond (!(ak y6.2.1 (ae y6.1))) (
 some ((),(([],[],()),(4,()),()))
 ) (
 some ((),(y6.2.2.2.2.2.2.1,(0,()),()))
 )
 ) (fun y6 =>
 some ((),(y6.2.1,(y6.1,()),()))
 ))
 ) (fun y5 =>
 some ((),(y5.2.1,(y5.1,()),()))
 ))
 )
 ) (
 (yn y3.1 y3.2.2.1 y3.2.2.2.1 (ae y3.2.2.2.1) 0 y3.2.2.2.2.2.2.2.2.1 (y3.2.1,[],())).bind (Sum.elim (fun y4 =>
 cond (!(ak y4.2.1 (ae y4.1))) (
 some ((),(([],[],()),(4,()),()))
 ) (
 some ((),(y4.2.2.2.2.2.2.1,(0,()),()))
 )
 ) (fun y4 =>
 some ((),(y4.2.1,(y4.1,()),()))
 ))
 )
 ) (fun y3 =>
 some ((),(y3.2.1,(y3.1,()),()))
 ))
 )
 )
def VJ:Su:=⟨[.c false [.sl 5 fy]],[(true,[.str,.sl 178 dz]),(false,aK)],true,.inl fun x=>LK x.1.1⟩
theorem RF:ar Tryz.prog 126 VJ :=
 fl (ac Ix (ac S1 (ac Iu (ac S8 an)))) [.d 3 (.int .i64),.box 2 [(false,.str),(true,.sl 178 dz)]] [(0,⟨[.d 0 (.sl 5 fy),.d 4 (.str),.d 5 (.int .i64),.own 8 (.sl 3 aK),.d 9 (.bool),.own 41 (.sl 3 aK),.d 42 (.int .i64),.d 43 (.int .i64),.box 2 [(false,.str),(true,.sl 178 dz)]],ai (CN oL)⟩),(3,⟨[.d 0 (.sl 5 fy),.d 4 (.str),.d 5 (.int .i64),.own 8 (.sl 3 aK),.own 76 (.sl 3 aK),.d 77 (.int .i64),.d 78 (.int .i64),.box 2 [(false,.str),(true,.sl 178 dz)]],ai (xM oe)⟩),(5,⟨[.d 0 (.sl 5 fy),.d 5 (.int .i64),.own 95 (.sl 3 aK),.d 96 (.int .i64),.d 97 (.int .i64),.box 2 [(false,.str),(true,.sl 178 dz)],.box 15 [(false,.str),(true,.sl 178 dz)]],ai (GG oo)⟩)] [] Tryz.f126 (lp [0,3,5] (sc dn (sc dn (sc dn sn))))
def oV (t6:List iw) (t7 t8:Int) (b1:(List UInt8)×(List iw)×Unit):Rd ((List iw)×Int×Int×Di×Unit) Y1 :=
 cond (au t8 t7) (
 cond (a7 t8 t6) (
 let u1:=(gt d178 t6 t8)
 (wR u1.1 u1.2.1).bind fun y1 =>
 cond (!y1.2.1.1) (
 some (.inr (.inr (false,())))
 ) (
 cond (au 0 t8) (
 let u2:=(aG .i64 t8 1)
 cond (a7 u2 b1.2.1) (
 cond (bz u1.1 (gt d178 b1.2.1 u2).1) (
 some (.inr (.inr (false,())))
 ) (
 some (.inl (t6,t7,(aq .i64 t8 1),b1,()))
 )
 ) none
 ) (
 some (.inl (t6,t7,(aq .i64 t8 1),b1,()))
 )
 )
 ) none
 ) (
 some (.inr (.inl (t6,t7,t8,b1,())))
 )
def Ce:=mJ (ai (cW oV))
def KM (p0:(List UInt8)×(List iw)×Unit):Option dZ :=
 (Ce p0.2.1 (ae p0.2.1) 0 p0).bind (Sum.elim (fun y1 =>
 (wH y1.2.2.2.1.1 4).bind fun y2 =>
 some ((),(y2.2.1,()))
 ) (fun y1 =>
 some ((),(y1,()))
 ))
def U5:Su:=⟨[.c true [.str,.sl 178 dz]],[(false,[.bool])],true,.inl fun x=>KM x.1⟩
theorem QV:ar Tryz.prog 172 U5 :=
 fl (ac I8 (ac M5 an)) [.d 2 (.bool)] [(0,⟨[.d 6 (.sl 178 dz),.d 7 (.int .i64),.d 8 (.int .i64),.box 1 [(false,.str),(false,.sl 178 dz)]],ai (cW oV)⟩)] [] Tryz.f172 (lp [0] (sc dn sn))
def Ok (p0:List UInt8):Option dZ :=
 some ((),(((cond (cond (bY p0 [48,49,48,48]) true (bY p0 [48,50,48,48])) true (bY p0 [48,50,50,48])),()),()))
def Vy:Su:=⟨[.c false [.str]],[(false,[.bool])],true,.inl fun x=>Ok x.1.1⟩
theorem Sx:ar Tryz.prog 173 Vy :=
 fq an Tryz.f173
end
end Go.Av
