/- Part of a proof that the law FnExactWaitChain answers true for every input: the printed functions of this program and their plain laws. No conditions beyond the statement. -/
import Derived.Test.YtpgkhfcgbjangaaGreatDoorFw4
import Derived.Test.YtpgkhfcgbjangaaGreatDoorFw3
import Derived.WalkKit
import Derived.Lib.Walk
import Derived.Lib.SliceRun
import Derived.Shelf.Spec.SlicesInsert
import Derived.Test.YtpgkhfcgbjangaaGreatDoorProg
set_option maxRecDepth 100000
namespace Go.Av
open Go.Proofs
set_option maxHeartbeats 4000000
noncomputable section
def jx:List K:=[.str,.int .i64,.int .i64]
def aJ:List K:=[.int .i64]
def fK:List K:=[.int .u8]
def iU:List K:=[.str,.str,.sl 5 fK]
def j6:List K:=[.str,.int .i64,.int .i64,.int .i64,.int .i64,.sl 204 jx,.int .i64,.int .i64,.sl 3 aJ,.sl 3 aJ,.sl 206 iU]
def nH:List K:=[.int .i64,.sl 124 j6]
def gV:List K:=[.sl 5 fK,.int .i64,.sl 3 aJ,.int .i64,.int .i64,.int .i64,.int .i64,.int .i64,.sl 5 fK]
def dx:List K:=[.str,.int .i64,.int .i64]
def cU:List K:=[.str,.str,.sl 5 fK]
def bz:List K:=[.str,.int .i64,.int .i64,.int .i64,.int .i64,.sl 157 dx,.int .i64,.int .i64,.sl 3 aJ,.sl 3 aJ,.sl 160 cU]
def cN:List K:=[.int .i64,.sl 92 bz]
def dZ:List K:=[.sl 5 fK,.int .i64,.sl 3 aJ,.int .i64,.int .i64,.int .i64,.int .i64,.int .i64,.sl 5 fK]
def xA:List K:=[.str]
def dH:List K:=[.int .i64,.str]
def yC:List K:=[.str,.str,.str,.sl 3 aJ]
def fU:List K:=[.sl 3 aJ]
def DG:List K:=[.int .i64,.int .i64,.int .i64]
abbrev mK:=((List UInt8)×Int×Int×Unit)
def d204:mK:=([],0,0,())
abbrev R3:=(Int×Unit)
def d3:R3:=(0,())
abbrev R5:=(Int×Unit)
def d5:R5:=(0,())
abbrev lQ:=((List UInt8)×(List UInt8)×(List R5)×Unit)
def d206:lQ:=([],[],[],())
abbrev mu:=((List UInt8)×Int×Int×Int×Int×(List mK)×Int×Int×(List R3)×(List R3)×(List lQ)×Unit)
def d124:mu:=([],0,0,0,0,[],0,0,[],[],[],())
abbrev pT:=(Int×(List mu)×Unit)
def d84:pT:=(0,[],())
abbrev nS:=((List R5)×Int×(List R3)×Int×Int×Int×Int×Int×(List R5)×Unit)
def d86:nS:=([],0,[],0,0,0,0,0,[],())
abbrev cG:=((List UInt8)×Int×Int×Unit)
def d157:cG:=([],0,0,())
abbrev cw:=((List UInt8)×(List UInt8)×(List R5)×Unit)
def d160:cw:=([],[],[],())
abbrev di:=((List UInt8)×Int×Int×Int×Int×(List cG)×Int×Int×(List R3)×(List R3)×(List cw)×Unit)
def d92:di:=([],0,0,0,0,[],0,0,[],[],[],())
abbrev eS:=(Int×(List di)×Unit)
def d67:eS:=(0,[],())
abbrev iH:=((List R5)×Int×(List R3)×Int×Int×Int×Int×Int×(List R5)×Unit)
def d64:iH:=([],0,[],0,0,0,0,0,[],())
abbrev R9:=((List UInt8)×Unit)
def d9:R9:=([],())
abbrev iq:=(Int×(List UInt8)×Unit)
def d178:iq:=(0,[],())
abbrev EY:=((List UInt8)×(List UInt8)×(List UInt8)×(List R3)×Unit)
def d198:EY:=([],[],[],[],())
abbrev NB:=((List R3)×Unit)
def d53:NB:=([],())
abbrev Cy:=(Int×Int×Int×Unit)
def d232:Cy:=(0,0,0,())
def tt:List (Nat×TI):=[(2,⟨false,[.int .i64],0,8,[]⟩),
 (3,⟨false,[.int .i64],0,8,[]⟩),
 (4,⟨false,[.bool],0,1,[]⟩),
 (5,⟨false,[.int .u8],0,1,[]⟩),
 (6,⟨false,[.int .u8],0,1,[]⟩),
 (7,⟨true,[.int .i64,.int .i64,.bool,.int .u8],0,24,[(0,2),(1,3),(2,4),(3,6)]⟩),
 (8,⟨true,[.int .i64,.int .i64,.bool,.int .u8],0,24,[(0,2),(1,3),(2,4),(3,6)]⟩),
 (9,⟨false,[.str],0,16,[]⟩),
 (10,⟨false,[.str],0,16,[]⟩),
 (11,⟨false,[.str],0,16,[]⟩),
 (12,⟨false,[.int .u64],0,8,[]⟩),
 (13,⟨true,[.str,.int .u64],0,24,[(0,9),(1,12)]⟩),
 (14,⟨true,[.str,.int .u64],0,24,[(0,9),(1,12)]⟩),
 (21,⟨false,[.int .i32],0,4,[]⟩),
 (22,⟨false,[.sl 84 nH],84,24,[]⟩),
 (23,⟨false,[.sl 86 gV],86,24,[]⟩),
 (24,⟨true,[.sl 84 nH,.int .i64,.int .i64,.sl 86 gV],0,64,[(0,22),(1,3),(2,3),(3,23)]⟩),
 (25,⟨true,[.sl 84 nH,.int .i64,.int .i64,.sl 86 gV],0,64,[(0,22),(1,3),(2,3),(3,23)]⟩),
 (28,⟨false,[.sl 67 cN],67,24,[]⟩),
 (29,⟨false,[.sl 64 dZ],64,24,[]⟩),
 (30,⟨true,[.sl 67 cN,.int .i64,.int .i64,.sl 64 dZ],0,64,[(0,28),(1,3),(2,3),(3,29)]⟩),
 (31,⟨true,[.sl 67 cN,.int .i64,.int .i64,.sl 64 dZ],0,64,[(0,28),(1,3),(2,3),(3,29)]⟩),
 (37,⟨false,[.sl 124 j6],124,24,[]⟩),
 (38,⟨true,[.sl 124 j6],0,24,[(0,37)]⟩),
 (39,⟨true,[.sl 124 j6],0,24,[(0,37)]⟩),
 (40,⟨true,[.sl 124 j6,.int .i64,.sl 84 nH,.int .i64,.int .i64,.sl 86 gV],0,96,[(0,39),(1,3),(2,25)]⟩),
 (41,⟨true,[.sl 124 j6,.int .i64,.sl 84 nH,.int .i64,.int .i64,.sl 86 gV],0,96,[(0,39),(1,3),(2,25)]⟩),
 (44,⟨false,[.sl 92 bz],92,24,[]⟩),
 (45,⟨true,[.sl 92 bz],0,24,[(0,44)]⟩),
 (46,⟨true,[.sl 92 bz],0,24,[(0,44)]⟩),
 (47,⟨true,[.sl 92 bz,.int .i64,.sl 67 cN,.int .i64,.int .i64,.sl 64 dZ],0,96,[(0,46),(1,3),(2,31)]⟩),
 (48,⟨true,[.sl 92 bz,.int .i64,.sl 67 cN,.int .i64,.int .i64,.sl 64 dZ],0,96,[(0,46),(1,3),(2,31)]⟩),
 (53,⟨false,[.sl 3 aJ],3,24,[]⟩),
 (62,⟨false,[.sl 5 fK],5,24,[]⟩),
 (63,⟨true,[.sl 5 fK,.int .i64,.sl 3 aJ,.int .i64,.int .i64,.int .i64,.int .i64,.int .i64,.sl 5 fK],0,120,[(0,62),(1,3),(2,53),(3,3),(4,3),(5,3),(6,3),(7,3),(8,62)]⟩),
 (64,⟨true,[.sl 5 fK,.int .i64,.sl 3 aJ,.int .i64,.int .i64,.int .i64,.int .i64,.int .i64,.sl 5 fK],0,120,[(0,62),(1,3),(2,53),(3,3),(4,3),(5,3),(6,3),(7,3),(8,62)]⟩),
 (66,⟨true,[.int .i64,.sl 92 bz],0,32,[(0,3),(1,44)]⟩),
 (67,⟨true,[.int .i64,.sl 92 bz],0,32,[(0,3),(1,44)]⟩),
 (83,⟨true,[.int .i64,.sl 124 j6],0,32,[(0,3),(1,37)]⟩),
 (84,⟨true,[.int .i64,.sl 124 j6],0,32,[(0,3),(1,37)]⟩),
 (86,⟨true,[.sl 5 fK,.int .i64,.sl 3 aJ,.int .i64,.int .i64,.int .i64,.int .i64,.int .i64,.sl 5 fK],0,120,[(0,62),(1,3),(2,53),(3,3),(4,3),(5,3),(6,3),(7,3),(8,62)]⟩),
 (87,⟨false,[.sl 157 dx],157,24,[]⟩),
 (88,⟨true,[.int .i64,.int .i64,.sl 3 aJ,.sl 3 aJ],0,64,[(0,3),(1,3),(2,53),(3,53)]⟩),
 (89,⟨true,[.int .i64,.int .i64,.sl 3 aJ,.sl 3 aJ],0,64,[(0,3),(1,3),(2,53),(3,53)]⟩),
 (90,⟨false,[.sl 160 cU],160,24,[]⟩),
 (91,⟨true,[.str,.int .i64,.int .i64,.int .i64,.int .i64,.sl 157 dx,.int .i64,.int .i64,.sl 3 aJ,.sl 3 aJ,.sl 160 cU],0,160,[(0,9),(1,3),(2,3),(3,3),(4,3),(5,87),(6,89),(10,90)]⟩),
 (92,⟨true,[.str,.int .i64,.int .i64,.int .i64,.int .i64,.sl 157 dx,.int .i64,.int .i64,.sl 3 aJ,.sl 3 aJ,.sl 160 cU],0,160,[(0,9),(1,3),(2,3),(3,3),(4,3),(5,87),(6,89),(10,90)]⟩),
 (111,⟨false,[.sl 9 xA],9,24,[]⟩),
 (120,⟨false,[.sl 204 jx],204,24,[]⟩),
 (121,⟨true,[.int .i64,.int .i64,.sl 3 aJ,.sl 3 aJ],0,64,[(0,3),(1,3),(2,53),(3,53)]⟩),
 (122,⟨false,[.sl 206 iU],206,24,[]⟩),
 (123,⟨true,[.str,.int .i64,.int .i64,.int .i64,.int .i64,.sl 204 jx,.int .i64,.int .i64,.sl 3 aJ,.sl 3 aJ,.sl 206 iU],0,160,[(0,9),(1,3),(2,3),(3,3),(4,3),(5,120),(6,121),(10,122)]⟩),
 (124,⟨true,[.str,.int .i64,.int .i64,.int .i64,.int .i64,.sl 204 jx,.int .i64,.int .i64,.sl 3 aJ,.sl 3 aJ,.sl 206 iU],0,160,[(0,9),(1,3),(2,3),(3,3),(4,3),(5,120),(6,121),(10,122)]⟩),
 (137,⟨false,[.sl 178 dH],178,24,[]⟩),
 (138,⟨true,[.str,.sl 178 dH],0,40,[(0,9),(1,137)]⟩),
 (139,⟨true,[.str,.sl 178 dH],0,40,[(0,9),(1,137)]⟩),
 (142,⟨true,[.int .i64,.str,.str,.str,.str,.str,.int .i64,.int .i64],0,104,[(0,3),(1,9),(2,9),(3,9),(4,9),(5,9),(6,3),(7,3)]⟩),
 (143,⟨true,[.int .i64,.str,.str,.str,.str,.str,.int .i64,.int .i64],0,104,[(0,3),(1,9),(2,9),(3,9),(4,9),(5,9),(6,3),(7,3)]⟩),
 (146,⟨false,[.int .u32],0,4,[]⟩),
 (156,⟨true,[.str,.int .i64,.int .i64],0,32,[(0,9),(1,3),(2,3)]⟩),
 (157,⟨true,[.str,.int .i64,.int .i64],0,32,[(0,9),(1,3),(2,3)]⟩),
 (159,⟨true,[.str,.str,.sl 5 fK],0,56,[(0,9),(1,9),(2,62)]⟩),
 (160,⟨true,[.str,.str,.sl 5 fK],0,56,[(0,9),(1,9),(2,62)]⟩),
 (177,⟨true,[.int .i64,.str],0,24,[(0,3),(1,9)]⟩),
 (178,⟨true,[.int .i64,.str],0,24,[(0,3),(1,9)]⟩),
 (192,⟨false,[.int .u64],0,8,[]⟩),
 (196,⟨false,[.sl 198 yC],198,24,[]⟩),
 (197,⟨true,[.str,.str,.str,.sl 3 aJ],0,72,[(0,9),(1,9),(2,9),(3,53)]⟩),
 (198,⟨true,[.str,.str,.str,.sl 3 aJ],0,72,[(0,9),(1,9),(2,9),(3,53)]⟩),
 (204,⟨true,[.str,.int .i64,.int .i64],0,32,[(0,9),(1,3),(2,3)]⟩),
 (206,⟨true,[.str,.str,.sl 5 fK],0,56,[(0,9),(1,9),(2,62)]⟩),
 (209,⟨false,[.sl 53 fU],53,24,[]⟩),
 (219,⟨false,[.int .i64],0,8,[]⟩),
 (228,⟨false,[.int .u64],0,8,[]⟩),
 (231,⟨true,[.int .i64,.int .i64,.int .i64],0,24,[(0,3),(1,3),(2,3)]⟩),
 (232,⟨true,[.int .i64,.int .i64,.int .i64],0,24,[(0,3),(1,3),(2,3)]⟩),
 (246,⟨false,[.int .u64],0,8,[]⟩),
 (252,⟨false,[.sl 232 DG],232,24,[]⟩),
 (267,⟨false,[.int .i64],0,8,[]⟩),
 (287,⟨true,[.str],0,16,[(0,9)]⟩),
 (288,⟨true,[.str],0,16,[(0,9)]⟩),
 (293,⟨true,[.int .u8,.int .u8],0,2,[(0,5),(1,5)]⟩),
 (294,⟨true,[.int .u8,.int .u8],0,2,[(0,5),(1,5)]⟩),
 (312,⟨false,[.int .u8],0,1,[]⟩),
 (313,⟨false,[.int .u8],0,1,[]⟩),
 (315,⟨false,[.int .i32],0,4,[]⟩),
 (316,⟨false,[.int .i32],0,4,[]⟩)]
def E0:En:=⟨0,tt,fun _=>[],[],fun _=>none,[],fun _=>none⟩
theorem hT:bK Tryz.prog E0:=LH (by kernel_rfl)
theorem eR:Tryz.prog.follows .mixedOrders=true:=by kernel_rfl
theorem fl {f:Nat} {s:Su} {l:List (Nat×Su)} (hl:ql Tryz.prog l) (ρ:List SE) (los:List (Nat×Lo ρ)) (pins:List Nat) (fn:Func)
 (hlo:S1 Tryz.prog (GZ fn.ntmps tt l ρ los pins) (ai fn) (ai fn))
 (h : (Tryz.prog.funcs[f]?, (fn.name == "runtime.NumGoroutine"), fn.body.isSome) = (some fn, false, true) := by kernel_rfl)
 (ht:∀ x,(FQ (GZ fn.ntmps tt l ρ los pins) (ai fn) fn.results.toList s.ps s.rs s.fresh x).run=s.sI x:=by intro x; kernel_rfl):ar Tryz.prog f s:=by
 simp only [Prod.mk.injEq] at h
 exact ZY hT eR hl (fn:=fn) (by rw [h.1,h.2.1,h.2.2]) hlo ht
theorem fq {f:Nat} {s:Su} {l:List (Nat×Su)} (hl:ql Tryz.prog l) (fn:Func)
 (h : (Tryz.prog.funcs[f]?, (fn.name == "runtime.NumGoroutine"), fn.body.isSome, dF (fun _ => false) (ai fn)) = (some fn, false, true, []) := by kernel_rfl)
 (ht:∀ x,(FQ (GZ fn.ntmps tt l [] [] []) (ai fn) fn.results.toList s.ps s.rs s.fresh x).run=s.sI x:=by intro x; kernel_rfl):ar Tryz.prog f s:=by
 simp only [Prod.mk.injEq] at h
 exact ZY hT eR hl (fn:=fn) (by rw [h.1,h.2.1,h.2.2.1]) (lp (n:=fn.ntmps) (tt:=tt) (l:=l) (ρ:=[]) (los:=[]) (pins:=[]) [] sn h.2.2.2) ht
def nI:List UInt8:=[0,1,2,2,3,3,3,3,4,4,4,4,4,4,4,4,5,5,5,5,5,5,5,5,5,5,5,5,5,5,5,5,6,6,6,6,6,6,6,6,6,6,6,6,6,6,6,6,6,6,6,6,6,6,6,6,6,6,6,6,6,6,6,6,7,7,7,7,7,7,7,7,7,7,7,7,7,7,7,7,7,7,7,7,7,7,7,7,7,7,7,7,7,7,7,7,7,7,7,7,7,7,7,7,7,7,7,7,7,7,7,7,7,7,7,7,7,7,7,7,7,7,7,7,7,7,7,7,8,8,8,8,8,8,8,8,8,8,8,8,8,8,8,8,8,8,8,8,8,8,8,8,8,8,8,8,8,8,8,8,8,8,8,8,8,8,8,8,8,8,8,8,8,8,8,8,8,8,8,8,8,8,8,8,8,8,8,8,8,8,8,8,8,8,8,8,8,8,8,8,8,8,8,8,8,8,8,8,8,8,8,8,8,8,8,8,8,8,8,8,8,8,8,8,8,8,8,8,8,8,8,8,8,8,8,8,8,8,8,8,8,8,8,8,8,8,8,8,8,8,8,8,8,8,8,8]
abbrev Y0:=Int×Unit
abbrev Y1:=Bool×Unit
abbrev Y2:=(List R3)×Unit
abbrev Y4:=(List di)×Unit
abbrev Y7:=(List UInt8)×Unit
abbrev Y6:=Y0×Unit
abbrev Y9:=Int×(List di)×Unit
abbrev Uk:=(List UInt8)×Int×Unit
abbrev kf:=Unit×Y6
abbrev eo:=Unit×(Y1×Unit)
abbrev WV:=(List di)×Int×Int×Unit
abbrev XZ:=(List R3)×Int×Bool×Unit
abbrev RL:=(List UInt8)×Int×Int×Unit
abbrev DV:=(List UInt8)×(List iq)×Unit
abbrev T2:=Unit×(((List R9)×Unit)×Unit)
abbrev KF:=Unit×(Y2×Unit)
abbrev Zz:=(((List R9)×Unit)×Unit)×Unit
abbrev ZJ:=(Y2×Unit)×Unit
abbrev RP:=Unit×(Y4×Unit)
abbrev NU:=(Y4×Unit)×Unit
abbrev Wr:=Unit×(((List cw)×Unit)×Unit)
abbrev Oz:=Unit×(Y7×Unit)
abbrev Wk:=(List di)×Int×Unit×Int×Int×Unit
abbrev J8:=(List eS)×Int×Int×(List iH)×Unit
abbrev Ys:=Unit×(Y0×Y1×Unit)
abbrev VH:=(List cw)×(List cw)×Int×Int×Unit
abbrev Wc:=Int×DV×Unit
abbrev YI:=Unit×((Int×Int×(List R3)×(List R3)×Unit)×Unit)
abbrev ZP:=Unit×(Y2×Y0×Y1×Unit)
abbrev V6:=Unit×(Y7×Y0×Y1×Unit)
abbrev TJ:=Int×(List UInt8)×(List UInt8)×(List UInt8)×(List UInt8)×(List UInt8)×Int×Int×Unit
abbrev XL:=Unit×(di×Unit)
section
open Go.Shelf Go.RowKit Go.Lib
def sρ:Ren:=⟨fun | 129=>222 | 171=>275 | 172=>229 | 205=>274 | 243=>281 | 244=>252 | 245=>253 | 246=>287 | 247=>263 | 279=>264 | 280=>265 | 281=>266 | 282=>267 | 283=>289 | 284=>290 | 285=>291 | 286=>292 | 287=>272 | 316=>273 | 317=>294 | 318=>295 | 319=>296 | 320=>297 | 321=>279 | 322=>280 | 337=>298 | 338=>299 | n=>n,fun | 0=>0 | 2=>2 | 3=>3 | 4=>4 | 5=>5 | 9=>9 | 20=>20 | 21=>21 | 37=>62 | 46=>192 | 51=>146 | 53=>228 | 75=>235 | 76=>236 | 80=>305 | 85=>268 | 127=>285 | 143=>286 | 145=>288 | 167=>267 | 168=>270 | 171=>296 | 173=>298 | 175=>278 | 210=>281 | 212=>301 | 213=>302 | 232=>303 | 233=>304 | n=>n,fun | 15=>0 | 16=>1 | 17=>5 | 18=>6 | 19=>7 | n=>n⟩
theorem uv:LaysC.n172 Tryz.prog sρ:={ mixed:=by kernel_rfl,f129:=by kernel_rfl,f171:=by kernel_rfl,f172:=by kernel_rfl,f205:=by kernel_rfl,f243:=by kernel_rfl,f244:=by kernel_rfl,f245:=by kernel_rfl,f246:=by kernel_rfl,f247:=by kernel_rfl,f279:=by kernel_rfl,f280:=by kernel_rfl,f281:=by kernel_rfl,f282:=by kernel_rfl,f283:=by kernel_rfl,f284:=by kernel_rfl,f285:=by kernel_rfl,f286:=by kernel_rfl,f287:=by kernel_rfl,f316:=by kernel_rfl,f317:=by kernel_rfl,f318:=by kernel_rfl,f319:=by kernel_rfl,f320:=by kernel_rfl,f321:=by kernel_rfl,f322:=by kernel_rfl,f337:=by kernel_rfl,f338:=by kernel_rfl,t0:=by kernel_rfl,a0:=fun _=>by kernel_rfl,z0:=fun _=>by kernel_rfl,v0:=fun _=>by kernel_rfl,t2:=by kernel_rfl,a2:=fun _=>by kernel_rfl,z2:=fun _=>by kernel_rfl,v2:=fun _=>by kernel_rfl,t3:=by kernel_rfl,a3:=fun _=>by kernel_rfl,z3:=fun _=>by kernel_rfl,v3:=fun _=>by kernel_rfl,t4:=by kernel_rfl,a4:=fun _=>by kernel_rfl,z4:=fun _=>by kernel_rfl,v4:=fun _=>by kernel_rfl,t5:=by kernel_rfl,a5:=fun _=>by kernel_rfl,z5:=fun _=>by kernel_rfl,v5:=fun _=>by kernel_rfl,t9:=by kernel_rfl,a9:=fun _=>by kernel_rfl,z9:=fun _=>by kernel_rfl,v9:=fun _=>by kernel_rfl,t20:=by kernel_rfl,a20:=fun _=>by kernel_rfl,z20:=fun _=>by kernel_rfl,v20:=fun _=>by kernel_rfl,t21:=by kernel_rfl,a21:=fun _=>by kernel_rfl,z21:=fun _=>by kernel_rfl,v21:=fun _=>by kernel_rfl,t37:=by kernel_rfl,a37:=fun _=>by kernel_rfl,z37:=fun _=>by kernel_rfl,v37:=fun _=>by kernel_rfl,t46:=by kernel_rfl,a46:=fun _=>by kernel_rfl,z46:=fun _=>by kernel_rfl,v46:=fun _=>by kernel_rfl,t51:=by kernel_rfl,a51:=fun _=>by kernel_rfl,z51:=fun _=>by kernel_rfl,v51:=fun _=>by kernel_rfl,t53:=by kernel_rfl,a53:=fun _=>by kernel_rfl,z53:=fun _=>by kernel_rfl,v53:=fun _=>by kernel_rfl,t75:=by kernel_rfl,a75:=fun _=>by kernel_rfl,z75:=fun _=>by kernel_rfl,v75:=fun _=>by kernel_rfl,t76:=by kernel_rfl,a76:=fun _=>by kernel_rfl,z76:=fun _=>by kernel_rfl,v76:=fun _=>by kernel_rfl,t85:=by kernel_rfl,a85:=fun _=>by kernel_rfl,z85:=fun _=>by kernel_rfl,v85:=fun _=>by kernel_rfl,t127:=by kernel_rfl,a127:=fun _=>by kernel_rfl,z127:=fun _=>by kernel_rfl,v127:=fun _=>by kernel_rfl,t143:=by kernel_rfl,a143:=fun _=>by kernel_rfl,z143:=fun _=>by kernel_rfl,v143:=fun _=>by kernel_rfl,t145:=by kernel_rfl,a145:=fun _=>by kernel_rfl,z145:=fun _=>by kernel_rfl,v145:=fun _=>by kernel_rfl,t167:=by kernel_rfl,a167:=fun _=>by kernel_rfl,z167:=fun _=>by kernel_rfl,v167:=fun _=>by kernel_rfl,t168:=by kernel_rfl,a168:=fun _=>by kernel_rfl,z168:=fun _=>by kernel_rfl,v168:=fun _=>by kernel_rfl,t171:=by kernel_rfl,a171:=fun _=>by kernel_rfl,z171:=fun _=>by kernel_rfl,v171:=fun _=>by kernel_rfl,t173:=by kernel_rfl,a173:=fun _=>by kernel_rfl,z173:=fun _=>by kernel_rfl,v173:=fun _=>by kernel_rfl,t175:=by kernel_rfl,a175:=fun _=>by kernel_rfl,z175:=fun _=>by kernel_rfl,v175:=fun _=>by kernel_rfl,t210:=by kernel_rfl,a210:=fun _=>by kernel_rfl,z210:=fun _=>by kernel_rfl,v210:=fun _=>by kernel_rfl,t212:=by kernel_rfl,a212:=fun _=>by kernel_rfl,z212:=fun _=>by kernel_rfl,v212:=fun _=>by kernel_rfl,t213:=by kernel_rfl,a213:=fun _=>by kernel_rfl,z213:=fun _=>by kernel_rfl,t232:=by kernel_rfl,a232:=fun _=>by kernel_rfl,z232:=fun _=>by kernel_rfl,v232:=fun _=>by kernel_rfl,t233:=by kernel_rfl,a233:=fun _=>by kernel_rfl,z233:=fun _=>by kernel_rfl,v233:=fun _=>by kernel_rfl,g15:=by kernel_rfl,g16:=by kernel_rfl,g17:=by kernel_rfl,g18:=by kernel_rfl,g19:=by kernel_rfl,t80:=by kernel_rfl,a80:=fun _=>by kernel_rfl,z80:=fun _=>by kernel_rfl,v80:=fun _=>by kernel_rfl,i0:=by kernel_rfl,i2:=by kernel_rfl,i3:=by kernel_rfl,i4:=by kernel_rfl,i5:=by kernel_rfl,i9:=by kernel_rfl,i20:=by kernel_rfl,i21:=by kernel_rfl,i37:=by kernel_rfl,i46:=by kernel_rfl,i51:=by kernel_rfl,i53:=by kernel_rfl,i75:=by kernel_rfl,i76:=by kernel_rfl,i80:=by kernel_rfl,i85:=by kernel_rfl,i127:=by kernel_rfl,i143:=by kernel_rfl,i145:=by kernel_rfl,i167:=by kernel_rfl,i168:=by kernel_rfl,i171:=by kernel_rfl,i173:=by kernel_rfl,i175:=by kernel_rfl,i210:=by kernel_rfl,i212:=by kernel_rfl,i232:=by kernel_rfl,i233:=by kernel_rfl,m15:=by kernel_rfl,m16:=by kernel_rfl,m17:=by kernel_rfl,m18:=by kernel_rfl,m19:=by kernel_rfl,c0:=by kernel_rfl,c2:=by kernel_rfl,c3:=by kernel_rfl,c4:=by kernel_rfl,c5:=by kernel_rfl,c9:=by kernel_rfl,c20:=by kernel_rfl,c21:=by kernel_rfl,c37:=by kernel_rfl,c46:=by kernel_rfl,c51:=by kernel_rfl,c53:=by kernel_rfl,c75:=by kernel_rfl,c76:=by kernel_rfl,c80:=by kernel_rfl,c85:=by kernel_rfl,c127:=by kernel_rfl,c143:=by kernel_rfl,c145:=by kernel_rfl,c167:=by kernel_rfl,c168:=by kernel_rfl,c171:=by kernel_rfl,c173:=by kernel_rfl,c175:=by kernel_rfl,c210:=by kernel_rfl,c212:=by kernel_rfl,c213:=by kernel_rfl,c232:=by kernel_rfl,c233:=by kernel_rfl }
end
def M6 (p0:(List UInt8)×Int×Int×Unit) (p1:Int):Option kf :=
 let u1:=(aH .i64 p1 (ae p0.1))
 cond (au u1 0) (
 some ((),(((-1),()),()))
 ) (
 some ((),((u1,()),()))
 )
def WS:Su:=⟨[.c true jx,.c false aJ],[(false,aJ)],true,.inl fun x=>M6 x.1 x.2.1.1⟩
theorem Sr:ar Tryz.prog 183 WS :=
 fq an Tryz.f183
def pd (t0:List mK) (t1 t5:Int):Rd ((List mK)×Int×Int×Unit) Y0 :=
 cond (au t5 (ae t0)) (
 cond (aU t5 t0) (
 (M6 (gt d204 t0 t5) t1).bind fun y1 =>
 cond (au y1.2.1.1 0) (
 some (.inr (.inr ((-1),())))
 ) (
 some (.inl (t0,y1.2.1.1,(ak .i64 t5 1),()))
 )
 ) none
 ) (
 some (.inr (.inl (t0,t1,t5,())))
 )
def Jf:=lM (ah (dC pd))
def Lw (p0:List mK) (p1:Int):Option kf :=
 let u1:=(aH .i64 p1 (ae p0))
 cond (au u1 0) (
 some ((),(((-1),()),()))
 ) (
 (Jf p0 u1 0).bind (Sum.elim (fun y1 =>
 some ((),((y1.2.1,()),()))
 ) (fun y1 =>
 some ((),(y1,()))
 ))
 )
def XN:Su:=⟨[.c false [.sl 204 jx],.c false aJ],[(false,aJ)],true,.inl fun x=>Lw x.1.1 x.2.1.1⟩
theorem Th:ar Tryz.prog 130 XN :=
 fl (ac Sr an) [.d 4 (.int .i64)] [(0,⟨[.d 0 (.sl 204 jx),.d 1 (.int .i64),.d 5 (.int .i64)],ah (dC pd)⟩)] [] Tryz.f130 (lp [0] (sc cX sn))
def RD (p0:List R3) (p1:Int):Option kf :=
 let u1:=(aH .i64 p1 (ae p0))
 cond (au u1 0) (
 some ((),(((-1),()),()))
 ) (
 some ((),((u1,()),()))
 )
def s83:Su:=⟨[.c false fU,.c false aJ],[(false,aJ)],true,.inl fun x=>RD x.1.1 x.2.1.1⟩
theorem U2:ar Tryz.prog 83 s83 :=
 fq an Tryz.f83
def KL (p0:Int×Int×(List R3)×(List R3)×Unit) (p1:Int):Option kf :=
 (RD p0.2.2.1 p1).bind fun y1 =>
 cond (au y1.2.1.1 0) (
 some ((),(((-1),()),()))
 ) (
 (RD p0.2.2.2.1 y1.2.1.1).bind fun y2 =>
 cond (au y2.2.1.1 0) (
 some ((),(((-1),()),()))
 ) (
 some ((),(y2.2.1,()))
 )
 )
def YU:Su:=⟨[.c true [.int .i64,.int .i64,.sl 3 aJ,.sl 3 aJ],.c false aJ],[(false,aJ)],true,.inl fun x=>KL x.1 x.2.1.1⟩
theorem UJ:ar Tryz.prog 131 YU :=
 fq (ac U2 an) Tryz.f131
def RB (p0:List R5) (p1:Int):Option kf :=
 let u1:=(aH .i64 p1 (ae p0))
 cond (au u1 0) (
 some ((),(((-1),()),()))
 ) (
 some ((),((u1,()),()))
 )
def s82:Su:=⟨[.c false [.sl 5 fK],.c false aJ],[(false,aJ)],true,.inl fun x=>RB x.1.1 x.2.1.1⟩
theorem T6:ar Tryz.prog 82 s82 :=
 fq an Tryz.f82
def MD (p0:(List UInt8)×(List UInt8)×(List R5)×Unit) (p1:Int):Option kf :=
 let u1:=(aH .i64 p1 (ae p0.1))
 cond (au u1 0) (
 some ((),(((-1),()),()))
 ) (
 let u2:=(aH .i64 u1 (ae p0.2.1))
 cond (au u2 0) (
 some ((),(((-1),()),()))
 ) (
 (RB p0.2.2.1 u2).bind fun y1 =>
 cond (au y1.2.1.1 0) (
 some ((),(((-1),()),()))
 ) (
 some ((),(y1.2.1,()))
 )
 )
 )
def YF:Su:=⟨[.c true iU,.c false aJ],[(false,aJ)],true,.inl fun x=>MD x.1 x.2.1.1⟩
theorem U3:ar Tryz.prog 184 YF :=
 fq (ac T6 an) Tryz.f184
def pn (t0:List lQ) (t1 t5:Int):Rd ((List lQ)×Int×Int×Unit) Y0 :=
 cond (au t5 (ae t0)) (
 cond (aU t5 t0) (
 (MD (gt d206 t0 t5) t1).bind fun y1 =>
 cond (au y1.2.1.1 0) (
 some (.inr (.inr ((-1),())))
 ) (
 some (.inl (t0,y1.2.1.1,(ak .i64 t5 1),()))
 )
 ) none
 ) (
 some (.inr (.inl (t0,t1,t5,())))
 )
def IW:=lM (ah (dC pn))
def Mv (p0:List lQ) (p1:Int):Option kf :=
 let u1:=(aH .i64 p1 (ae p0))
 cond (au u1 0) (
 some ((),(((-1),()),()))
 ) (
 (IW p0 u1 0).bind (Sum.elim (fun y1 =>
 some ((),((y1.2.1,()),()))
 ) (fun y1 =>
 some ((),(y1,()))
 ))
 )
def Xi:Su:=⟨[.c false [.sl 206 iU],.c false aJ],[(false,aJ)],true,.inl fun x=>Mv x.1.1 x.2.1.1⟩
theorem RR:ar Tryz.prog 132 Xi :=
 fl (ac U3 an) [.d 4 (.int .i64)] [(0,⟨[.d 0 (.sl 206 iU),.d 1 (.int .i64),.d 5 (.int .i64)],ah (dC pn)⟩)] [] Tryz.f132 (lp [0] (sc cX sn))
def VT (p0:(List UInt8)×Int×Int×Int×Int×(List mK)×Int×Int×(List R3)×(List R3)×(List lQ)×Unit) (p1:Int):Option kf :=
 let u1:=(aH .i64 p1 (ae p0.1))
 cond (au u1 0) (
 some ((),(((-1),()),()))
 ) (
 (Lw p0.2.2.2.2.2.1 u1).bind fun y1 =>
 cond (au y1.2.1.1 0) (
 some ((),(((-1),()),()))
 ) (
 (KL (p0.2.2.2.2.2.2.1,p0.2.2.2.2.2.2.2.1,p0.2.2.2.2.2.2.2.2.1,p0.2.2.2.2.2.2.2.2.2.1,()) y1.2.1.1).bind fun y2 =>
 cond (au y2.2.1.1 0) (
 some ((),(((-1),()),()))
 ) (
 (Mv p0.2.2.2.2.2.2.2.2.2.2.1 y2.2.1.1).bind fun y3 =>
 cond (au y3.2.1.1 0) (
 some ((),(((-1),()),()))
 ) (
 some ((),(y3.2.1,()))
 )
 )
 )
 )
def s97:Su:=⟨[.c true j6,.c false aJ],[(false,aJ)],true,.inl fun x=>VT x.1 x.2.1.1⟩
theorem YN:ar Tryz.prog 97 s97 :=
 fq (ac Th (ac UJ (ac RR an))) Tryz.f97
def wk (t0:List mu) (t1 t5:Int):Rd ((List mu)×Int×Int×Unit) Y0 :=
 cond (au t5 (ae t0)) (
 cond (aU t5 t0) (
 (VT (gt d124 t0 t5) t1).bind fun y1 =>
 cond (au y1.2.1.1 0) (
 some (.inr (.inr ((-1),())))
 ) (
 some (.inl (t0,y1.2.1.1,(ak .i64 t5 1),()))
 )
 ) none
 ) (
 some (.inr (.inl (t0,t1,t5,())))
 )
def N6:=lM (ah (dC wk))
def Vx (p0:List mu) (p1:Int):Option kf :=
 let u1:=(aH .i64 p1 (ae p0))
 cond (au u1 0) (
 some ((),(((-1),()),()))
 ) (
 (N6 p0 u1 0).bind (Sum.elim (fun y1 =>
 some ((),((y1.2.1,()),()))
 ) (fun y1 =>
 some ((),(y1,()))
 ))
 )
def s75:Su:=⟨[.c false [.sl 124 j6],.c false aJ],[(false,aJ)],true,.inl fun x=>Vx x.1.1 x.2.1.1⟩
theorem ZD:ar Tryz.prog 75 s75 :=
 fl (ac YN an) [.d 4 (.int .i64)] [(0,⟨[.d 0 (.sl 124 j6),.d 1 (.int .i64),.d 5 (.int .i64)],ah (dC wk)⟩)] [] Tryz.f75 (lp [0] (sc cX sn))
def VC (p0:Int×(List mu)×Unit) (p1:Int):Option kf :=
 (Vx p0.2.1 p1).bind fun y1 =>
 cond (au y1.2.1.1 0) (
 some ((),(((-1),()),()))
 ) (
 some ((),(y1.2.1,()))
 )
def s57:Su:=⟨[.c true nH,.c false aJ],[(false,aJ)],true,.inl fun x=>VC x.1 x.2.1.1⟩
theorem WH:ar Tryz.prog 57 s57 :=
 fq (ac ZD an) Tryz.f57
def vZ (t0:List pT) (t1 t5:Int):Rd ((List pT)×Int×Int×Unit) Y0 :=
 cond (au t5 (ae t0)) (
 cond (aU t5 t0) (
 (VC (gt d84 t0 t5) t1).bind fun y1 =>
 cond (au y1.2.1.1 0) (
 some (.inr (.inr ((-1),())))
 ) (
 some (.inl (t0,y1.2.1.1,(ak .i64 t5 1),()))
 )
 ) none
 ) (
 some (.inr (.inl (t0,t1,t5,())))
 )
def Oi:=lM (ah (dC vZ))
def VE (p0:List pT) (p1:Int):Option kf :=
 let u1:=(aH .i64 p1 (ae p0))
 cond (au u1 0) (
 some ((),(((-1),()),()))
 ) (
 (Oi p0 u1 0).bind (Sum.elim (fun y1 =>
 some ((),((y1.2.1,()),()))
 ) (fun y1 =>
 some ((),(y1,()))
 ))
 )
def s28:Su:=⟨[.c false [.sl 84 nH],.c false aJ],[(false,aJ)],true,.inl fun x=>VE x.1.1 x.2.1.1⟩
theorem Zs:ar Tryz.prog 28 s28 :=
 fl (ac WH an) [.d 4 (.int .i64)] [(0,⟨[.d 0 (.sl 84 nH),.d 1 (.int .i64),.d 5 (.int .i64)],ah (dC vZ)⟩)] [] Tryz.f28 (lp [0] (sc cX sn))
def VW (p0:(List R5)×Int×(List R3)×Int×Int×Int×Int×Int×(List R5)×Unit) (p1:Int):Option kf :=
 (RB p0.1 p1).bind fun y1 =>
 cond (au y1.2.1.1 0) (
 some ((),(((-1),()),()))
 ) (
 (RD p0.2.2.1 y1.2.1.1).bind fun y2 =>
 cond (au y2.2.1.1 0) (
 some ((),(((-1),()),()))
 ) (
 (RB p0.2.2.2.2.2.2.2.2.1 y2.2.1.1).bind fun y3 =>
 cond (au y3.2.1.1 0) (
 some ((),(((-1),()),()))
 ) (
 some ((),(y3.2.1,()))
 )
 )
 )
def s58:Su:=⟨[.c true gV,.c false aJ],[(false,aJ)],true,.inl fun x=>VW x.1 x.2.1.1⟩
theorem Zp:ar Tryz.prog 58 s58 :=
 fq (ac U2 (ac T6 an)) Tryz.f58
def wI (t0:List nS) (t1 t5:Int):Rd ((List nS)×Int×Int×Unit) Y0 :=
 cond (au t5 (ae t0)) (
 cond (aU t5 t0) (
 (VW (gt d86 t0 t5) t1).bind fun y1 =>
 cond (au y1.2.1.1 0) (
 some (.inr (.inr ((-1),())))
 ) (
 some (.inl (t0,y1.2.1.1,(ak .i64 t5 1),()))
 )
 ) none
 ) (
 some (.inr (.inl (t0,t1,t5,())))
 )
def Ov:=lM (ah (dC wI))
def V7 (p0:List nS) (p1:Int):Option kf :=
 let u1:=(aH .i64 p1 (ae p0))
 cond (au u1 0) (
 some ((),(((-1),()),()))
 ) (
 (Ov p0 u1 0).bind (Sum.elim (fun y1 =>
 some ((),((y1.2.1,()),()))
 ) (fun y1 =>
 some ((),(y1,()))
 ))
 )
def s29:Su:=⟨[.c false [.sl 86 gV],.c false aJ],[(false,aJ)],true,.inl fun x=>V7 x.1.1 x.2.1.1⟩
theorem ZQ:ar Tryz.prog 29 s29 :=
 fl (ac Zp an) [.d 4 (.int .i64)] [(0,⟨[.d 0 (.sl 86 gV),.d 1 (.int .i64),.d 5 (.int .i64)],ah (dC wI)⟩)] [] Tryz.f29 (lp [0] (sc cX sn))
def g8 (p0:(List pT)×Int×Int×(List nS)×Unit) (p1:Int):Option kf :=
 (VE p0.1 p1).bind fun y1 =>
 cond (au y1.2.1.1 0) (
 some ((),(((-1),()),()))
 ) (
 (V7 p0.2.2.2.1 y1.2.1.1).bind fun y2 =>
 cond (au y2.2.1.1 0) (
 some ((),(((-1),()),()))
 ) (
 some ((),(y2.2.1,()))
 )
 )
def s8:Su:=⟨[.c true [.sl 84 nH,.int .i64,.int .i64,.sl 86 gV],.c false aJ],[(false,aJ)],true,.inl fun x=>g8 x.1 x.2.1.1⟩
theorem ok8:ar Tryz.prog 8 s8 :=
 fq (ac Zs (ac ZQ an)) Tryz.f8
def Lm (p0:(List UInt8)×Int×Int×Unit):Option (Unit×(RL×Unit)) :=
 some ((),(p0,()))
def WM:Su:=⟨[.c true jx],[(true,jx)],true,.inl fun x=>Lm x.1⟩
theorem Td:ar Tryz.prog 188 WM :=
 fq an Tryz.f188
def oS (t0:List mK) (t3:List cG) (t4:Int):Rd ((List mK)×(List cG)×Int×Unit) Unit :=
 cond (au t4 (ae t0)) (
 cond (aU t4 t0) (
 (Lm (gt d204 t0 t4)).bind fun y1 =>
 cond (aU t4 t3) (
 let u1:=(gt d157 t3 t4)
 let u2:=(jh t3 t4 (y1.2.1.1,u1.2.1,u1.2.2.1,()))
 let u3:=(gt d157 u2 t4)
 let u4:=(jh u2 t4 (u3.1,y1.2.1.2.1,u3.2.2.1,()))
 let u5:=(gt d157 u4 t4)
 some (.inl (t0,(jh u4 t4 (u5.1,u5.2.1,y1.2.1.2.2.1,())),(ak .i64 t4 1),()))
 ) none
 ) none
 ) (
 some (.inr (.inl (t0,t3,t4,())))
 )
def Jt:=lM (ah (dC oS))
def KS (p0:List mK):Option (Unit×(((List cG)×Unit)×Unit)) :=
 let u1:=(ae p0)
 cond (K3 32 u1) (
 (Jt p0 (uF d157 u1) 0).bind (Sum.elim (fun y1 =>
 some ((),((y1.2.1,()),()))
 ) (fun y1 =>
 none
 ))
 ) none
def Wo:Su:=⟨[.c false [.sl 204 jx]],[(false,[.sl 157 dx])],true,.inl fun x=>KS x.1.1⟩
theorem Uc:ar Tryz.prog 138 Wo :=
 fl (ac Td an) [] [(0,⟨[.d 0 (.sl 204 jx),.own 3 (.sl 157 dx),.d 4 (.int .i64)],ah (dC oS)⟩)] [] Tryz.f138 (lp [0] (sc cX sn))
def uK (t0 t3:List R3) (t4:Int):Rd ((List R3)×(List R3)×Int×Unit) Unit :=
 cond (au t4 (ae t0)) (
 cond (aU t4 t0) (
 cond (aU t4 t3) (
 some (.inl (t0,(jh t3 t4 (gt d3 t0 t4)),(ak .i64 t4 1),()))
 ) none
 ) none
 ) (
 some (.inr (.inl (t0,t3,t4,())))
 )
def NY:=lM (ah (dC uK))
def RG (p0:List R3):Option KF :=
 let u1:=(ae p0)
 cond (K3 8 u1) (
 (NY p0 (uF d3 u1) 0).bind (Sum.elim (fun y1 =>
 some ((),((y1.2.1,()),()))
 ) (fun y1 =>
 none
 ))
 ) none
def s89:Su:=⟨[.c false fU],[(false,fU)],true,.inl fun x=>RG x.1.1⟩
theorem Sw:ar Tryz.prog 89 s89 :=
 fl an [] [(0,⟨[.d 0 (.sl 3 aJ),.own 3 (.sl 3 aJ),.d 4 (.int .i64)],ah (dC uK)⟩)] [] Tryz.f89 (lp [0] (sc cX sn))
def KQ (p0:Int×Int×(List R3)×(List R3)×Unit):Option YI :=
 (RG p0.2.2.1).bind fun y1 =>
 (RG p0.2.2.2.1).bind fun y2 =>
 some ((),((p0.1,p0.2.1,y1.2.1.1,y2.2.1.1,()),()))
def Yv:Su:=⟨[.c true [.int .i64,.int .i64,.sl 3 aJ,.sl 3 aJ]],[(true,[.int .i64,.int .i64,.sl 3 aJ,.sl 3 aJ])],true,.inl fun x=>KQ x.1⟩
theorem UQ:ar Tryz.prog 139 Yv :=
 fq (ac Sw an) Tryz.f139
def wX (t0 t3:List R5) (t4:Int):Rd ((List R5)×(List R5)×Int×Unit) Unit :=
 cond (au t4 (ae t0)) (
 cond (aU t4 t0) (
 cond (aU t4 t3) (
 some (.inl (t0,(jh t3 t4 (gt d5 t0 t4)),(ak .i64 t4 1),()))
 ) none
 ) none
 ) (
 some (.inr (.inl (t0,t3,t4,())))
 )
def OD:=lM (ah (dC wX))
def RA (p0:List R5):Option (Unit×(((List R5)×Unit)×Unit)) :=
 let u1:=(ae p0)
 cond (K3 1 u1) (
 (OD p0 (uF d5 u1) 0).bind (Sum.elim (fun y1 =>
 some ((),((y1.2.1,()),()))
 ) (fun y1 =>
 none
 ))
 ) none
def s88:Su:=⟨[.c false [.sl 5 fK]],[(false,[.sl 5 fK])],true,.inl fun x=>RA x.1.1⟩
theorem SS:ar Tryz.prog 88 s88 :=
 fl an [] [(0,⟨[.d 0 (.sl 5 fK),.own 3 (.sl 5 fK),.d 4 (.int .i64)],ah (dC wX)⟩)] [] Tryz.f88 (lp [0] (sc cX sn))
def KW (p0:(List UInt8)×(List UInt8)×(List R5)×Unit):Option (Unit×(lQ×Unit)) :=
 (RA p0.2.2.1).bind fun y1 =>
 some ((),((p0.1,p0.2.1,y1.2.1.1,()),()))
def Wz:Su:=⟨[.c true iU],[(true,iU)],true,.inl fun x=>KW x.1⟩
theorem T7:ar Tryz.prog 189 Wz :=
 fq (ac SS an) Tryz.f189
def oX (t0:List lQ) (t3:List cw) (t4:Int):Rd ((List lQ)×(List cw)×Int×Unit) Unit :=
 cond (au t4 (ae t0)) (
 cond (aU t4 t0) (
 (KW (gt d206 t0 t4)).bind fun y1 =>
 cond (aU t4 t3) (
 let u1:=(gt d160 t3 t4)
 let u2:=(jh t3 t4 (y1.2.1.1,u1.2.1,u1.2.2.1,()))
 let u3:=(gt d160 u2 t4)
 let u4:=(jh u2 t4 (u3.1,y1.2.1.2.1,u3.2.2.1,()))
 let u5:=(gt d160 u4 t4)
 some (.inl (t0,(jh u4 t4 (u5.1,u5.2.1,y1.2.1.2.2.1,())),(ak .i64 t4 1),()))
 ) none
 ) none
 ) (
 some (.inr (.inl (t0,t3,t4,())))
 )
def IZ:=lM (ah (dC oX))
def Ma (p0:List lQ):Option Wr :=
 let u1:=(ae p0)
 cond (K3 56 u1) (
 (IZ p0 (uF d160 u1) 0).bind (Sum.elim (fun y1 =>
 some ((),((y1.2.1,()),()))
 ) (fun y1 =>
 none
 ))
 ) none
def Wq:Su:=⟨[.c false [.sl 206 iU]],[(false,[.sl 160 cU])],true,.inl fun x=>Ma x.1.1⟩
theorem RZ:ar Tryz.prog 140 Wq :=
 fl (ac T7 an) [] [(0,⟨[.d 0 (.sl 206 iU),.own 3 (.sl 160 cU),.d 4 (.int .i64)],ah (dC oX)⟩)] [] Tryz.f140 (lp [0] (sc cX sn))
def Mb (p0:(List UInt8)×Int×Int×Int×Int×(List mK)×Int×Int×(List R3)×(List R3)×(List lQ)×Unit):Option XL :=
 (KS p0.2.2.2.2.2.1).bind fun y1 =>
 (KQ (p0.2.2.2.2.2.2.1,p0.2.2.2.2.2.2.2.1,p0.2.2.2.2.2.2.2.2.1,p0.2.2.2.2.2.2.2.2.2.1,())).bind fun y2 =>
 (Ma p0.2.2.2.2.2.2.2.2.2.2.1).bind fun y3 =>
 some ((),((p0.1,p0.2.1,p0.2.2.1,p0.2.2.2.1,p0.2.2.2.2.1,y1.2.1.1,y2.2.1.1,y2.2.1.2.1,y2.2.1.2.2.1,y2.2.1.2.2.2.1,y3.2.1.1,()),()))
def WA:Su:=⟨[.c true j6],[(true,bz)],true,.inl fun x=>Mb x.1⟩
theorem SV:ar Tryz.prog 105 WA :=
 fq (ac Uc (ac UQ (ac RZ an))) Tryz.f105
def wV (t0:List mu) (t3:List di) (t4:Int):Rd ((List mu)×(List di)×Int×Unit) Unit :=
 cond (au t4 (ae t0)) (
 cond (aU t4 t0) (
 (Mb (gt d124 t0 t4)).bind fun y1 =>
 cond (aU t4 t3) (
 some (.inl (t0,(jh t3 t4 y1.2.1),(ak .i64 t4 1),()))
 ) none
 ) none
 ) (
 some (.inr (.inl (t0,t3,t4,())))
 )
def OW:=lM (ah (dC wV))
def VF (p0:List mu):Option RP :=
 let u1:=(ae p0)
 cond (K3 160 u1) (
 (OW p0 (uF d92 u1) 0).bind (Sum.elim (fun y1 =>
 some ((),((y1.2.1,()),()))
 ) (fun y1 =>
 none
 ))
 ) none
def s77:Su:=⟨[.c false [.sl 124 j6]],[(false,[.sl 92 bz])],true,.inl fun x=>VF x.1.1⟩
theorem Yk:ar Tryz.prog 77 s77 :=
 fl (ac SV an) [] [(0,⟨[.d 0 (.sl 124 j6),.own 3 (.sl 92 bz),.d 4 (.int .i64)],ah (dC wV)⟩)] [] Tryz.f77 (lp [0] (sc cX sn))
def VB (p0:Int×(List mu)×Unit):Option (Unit×(Y9×Unit)) :=
 (VF p0.2.1).bind fun y1 =>
 some ((),((p0.1,y1.2.1.1,()),()))
def s65:Su:=⟨[.c true nH],[(true,cN)],true,.inl fun x=>VB x.1⟩
theorem Zt:ar Tryz.prog 65 s65 :=
 fq (ac Yk an) Tryz.f65
def uw (t0:List pT) (t3:List eS) (t4:Int):Rd ((List pT)×(List eS)×Int×Unit) Unit :=
 cond (au t4 (ae t0)) (
 cond (aU t4 t0) (
 (VB (gt d84 t0 t4)).bind fun y1 =>
 cond (aU t4 t3) (
 let u1:=(jh t3 t4 (y1.2.1.1,(gt d67 t3 t4).2.1,()))
 some (.inl (t0,(jh u1 t4 ((gt d67 u1 t4).1,y1.2.1.2.1,())),(ak .i64 t4 1),()))
 ) none
 ) none
 ) (
 some (.inr (.inl (t0,t3,t4,())))
 )
def NN:=lM (ah (dC uw))
def VS (p0:List pT):Option (Unit×(((List eS)×Unit)×Unit)) :=
 let u1:=(ae p0)
 cond (K3 32 u1) (
 (NN p0 (uF d67 u1) 0).bind (Sum.elim (fun y1 =>
 some ((),((y1.2.1,()),()))
 ) (fun y1 =>
 none
 ))
 ) none
def s35:Su:=⟨[.c false [.sl 84 nH]],[(false,[.sl 67 cN])],true,.inl fun x=>VS x.1.1⟩
theorem WX:ar Tryz.prog 35 s35 :=
 fl (ac Zt an) [] [(0,⟨[.d 0 (.sl 84 nH),.own 3 (.sl 67 cN),.d 4 (.int .i64)],ah (dC uw)⟩)] [] Tryz.f35 (lp [0] (sc cX sn))
def VU (p0:(List R5)×Int×(List R3)×Int×Int×Int×Int×Int×(List R5)×Unit):Option (Unit×(nS×Unit)) :=
 (RA p0.1).bind fun y1 =>
 (RG p0.2.2.1).bind fun y2 =>
 (RA p0.2.2.2.2.2.2.2.2.1).bind fun y3 =>
 some ((),((y1.2.1.1,p0.2.1,y2.2.1.1,p0.2.2.2.1,p0.2.2.2.2.1,p0.2.2.2.2.2.1,p0.2.2.2.2.2.2.1,p0.2.2.2.2.2.2.2.1,y3.2.1.1,()),()))
def s66:Su:=⟨[.c true gV],[(true,gV)],true,.inl fun x=>VU x.1⟩
theorem WZ:ar Tryz.prog 66 s66 :=
 fq (ac Sw (ac SS an)) Tryz.f66
def wU (t0:List nS) (t3:List iH) (t4:Int):Rd ((List nS)×(List iH)×Int×Unit) Unit :=
 cond (au t4 (ae t0)) (
 cond (aU t4 t0) (
 (VU (gt d86 t0 t4)).bind fun y1 =>
 cond (aU t4 t3) (
 some (.inl (t0,(jh t3 t4 y1.2.1),(ak .i64 t4 1),()))
 ) none
 ) none
 ) (
 some (.inr (.inl (t0,t3,t4,())))
 )
def OR:=lM (ah (dC wU))
def Wd (p0:List nS):Option (Unit×(((List iH)×Unit)×Unit)) :=
 let u1:=(ae p0)
 cond (K3 120 u1) (
 (OR p0 (uF d64 u1) 0).bind (Sum.elim (fun y1 =>
 some ((),((y1.2.1,()),()))
 ) (fun y1 =>
 none
 ))
 ) none
def s36:Su:=⟨[.c false [.sl 86 gV]],[(false,[.sl 64 dZ])],true,.inl fun x=>Wd x.1.1⟩
theorem Yw:ar Tryz.prog 36 s36 :=
 fl (ac WZ an) [] [(0,⟨[.d 0 (.sl 86 gV),.own 3 (.sl 64 dZ),.d 4 (.int .i64)],ah (dC wU)⟩)] [] Tryz.f36 (lp [0] (sc cX sn))
def g10 (p0:(List pT)×Int×Int×(List nS)×Unit):Option (Unit×(J8×Unit)) :=
 (VS p0.1).bind fun y1 =>
 (Wd p0.2.2.2.1).bind fun y2 =>
 some ((),((y1.2.1.1,p0.2.1,p0.2.2.1,y2.2.1.1,()),()))
def s10:Su:=⟨[.c true [.sl 84 nH,.int .i64,.int .i64,.sl 86 gV]],[(true,[.sl 67 cN,.int .i64,.int .i64,.sl 64 dZ])],true,.inl fun x=>g10 x.1⟩
theorem W6:ar Tryz.prog 10 s10 :=
 fq (ac WX (ac Yw an)) Tryz.f10
def pU (p0 p1 p2:Int):Option eo :=
 some ((),(((cond (bD p1 p0) (bD p0 p2) false),()),()))
def s44:Su:=⟨[.c false aJ,.c false aJ,.c false aJ],[(false,[.bool])],true,.inl fun x=>pU x.1.1 x.2.1.1 x.2.2.1.1⟩
theorem nG:ar Tryz.prog 44 s44 :=
 fq an Tryz.f44
def G0 (p0:Int×Int×(List R3)×(List R3)×Unit):Option YI :=
 cond (cT 8 [] p0.2.2.1) (
 cond (cT 8 [] p0.2.2.2.1) (
 some ((),((p0.1,p0.2.1,(ll [] p0.2.2.1),(ll [] p0.2.2.2.1),()),()))
 ) none
 ) none
def Xv:Su:=⟨[.c true [.int .i64,.int .i64,.sl 3 aJ,.sl 3 aJ]],[(true,[.int .i64,.int .i64,.sl 3 aJ,.sl 3 aJ])],true,.inl fun x=>G0 x.1⟩
theorem Si:ar Tryz.prog 117 Xv :=
 fq an Tryz.f117
def o7 (t3 t7:List cw) (t8 t9:Int):Rd VH Unit :=
 cond (au t9 t8) (
 cond (aU t9 t7) (
 let u1:=(gt d160 t7 t9)
 cond (cT 1 [] u1.2.2.1) (
 cond (cT 56 t3 [(u1.1,u1.2.1,(ll [] u1.2.2.1),())]) (
 some (.inl ((ll t3 [(u1.1,u1.2.1,(ll [] u1.2.2.1),())]),t7,t8,(ak .i64 t9 1),()))
 ) none
 ) none
 ) none
 ) (
 some (.inr (.inl (t3,t7,t8,t9,())))
 )
def Kp:=nh (ah (dh o7))
def LI (p0:List cw):Option Wr :=
 (Kp [] p0 (ae p0) 0).bind (Sum.elim (fun y1 =>
 some ((),((y1.1,()),()))
 ) (fun y1 =>
 none
 ))
def ZB:Su:=⟨[.c false [.sl 160 cU]],[(false,[.sl 160 cU])],true,.inl fun x=>LI x.1.1⟩
theorem Up:ar Tryz.prog 118 ZB :=
 fl an [] [(0,⟨[.own 3 (.sl 160 cU),.d 7 (.sl 160 cU),.d 8 (.int .i64),.d 9 (.int .i64)],ah (dh o7)⟩)] [] Tryz.f118 (lp [0] (sc cX sn))
def V0 (p0:(List UInt8)×Int×Int×Int×Int×(List cG)×Int×Int×(List R3)×(List R3)×(List cw)×Unit):Option XL :=
 cond (cT 32 [] p0.2.2.2.2.2.1) (
 (G0 (p0.2.2.2.2.2.2.1,p0.2.2.2.2.2.2.2.1,p0.2.2.2.2.2.2.2.2.1,p0.2.2.2.2.2.2.2.2.2.1,())).bind fun y1 =>
 (LI p0.2.2.2.2.2.2.2.2.2.2.1).bind fun y2 =>
 some ((),((p0.1,p0.2.1,p0.2.2.1,p0.2.2.2.1,p0.2.2.2.2.1,(ll [] p0.2.2.2.2.2.1),y1.2.1.1,y1.2.1.2.1,y1.2.1.2.2.1,y1.2.1.2.2.2.1,y2.2.1.1,()),()))
 ) none
def ZX:Su:=⟨[.c true bz],[(true,bz)],true,.inl fun x=>V0 x.1⟩
theorem Rw:ar Tryz.prog 85 ZX :=
 fq (ac Si (ac Up an)) Tryz.f85
def wJ (t3:List di) (t8:Int) (t11:List eS) (t12 t13:Int) (t18:List di) (t19 t20:Int) (b2:(List di)×Unit) (b7:(List UInt8)×Int×Int×Int×Int×(List cG)×Int×Int×(List R3)×(List R3)×(List cw)×Unit):Rd ((List di)×Int×(List eS)×Int×Int×(List di)×Int×Int×Y4×di×Unit) Unit :=
 cond (au 0 t8) (
 let u1:=(aH .i64 t8 1)
 cond (aU u1 t3) (
 cond (!(PQ (gt d92 t3 u1).1 b7.1)) (
 some (.inl (t3,u1,t11,t12,t13,t18,t19,t20,b2,b7,()))
 ) (
 some (.inr (.inl (t3,t8,t11,t12,t13,t18,t19,t20,b2,b7,())))
 )
 ) none
 ) (
 some (.inr (.inl (t3,t8,t11,t12,t13,t18,t19,t20,b2,b7,())))
 )
def AK:=U8 (ah (AR wJ))
def su (t3:List di) (t11:List eS) (t12 t13:Int) (t18:List di) (t19 t20:Int) (b2:(List di)×Unit):Rd ((List di)×(List eS)×Int×Int×(List di)×Int×Int×Y4×Unit) Unit :=
 cond (au t20 t19) (
 cond (aU t20 t18) (
 (AK t3 (ae t3) t11 t12 t13 t18 t19 t20 b2 (gt d92 t18 t20)).bind (Sum.elim (fun y1 =>
 cond (dO 0 y1.2.1 y1.1) (
 cond (Tk 160 [] y1.1 y1.2.1) (
 (V0 y1.2.2.2.2.2.2.2.2.2.1).bind fun y2 =>
 let u1:=(ll [] (Nw y1.1 y1.2.1))
 cond (cT 160 u1 [y2.2.1]) (
 cond (Rs y1.2.1 y1.2.1) (
 let u2:=(ll u1 [y2.2.1])
 let u3:=(Zk y1.1 y1.2.1)
 cond (cT 160 u2 u3) (
 some (.inl ((ll u2 u3),y1.2.2.1,y1.2.2.2.1,y1.2.2.2.2.1,y1.2.2.2.2.2.1,y1.2.2.2.2.2.2.1,(ak .i64 y1.2.2.2.2.2.2.2.1 1),y1.2.2.2.2.2.2.2.2.1,()))
 ) none
 ) none
 ) none
 ) none
 ) none
 ) (fun y1 =>
 some (.inr (.inr ()))
 ))
 ) none
 ) (
 some (.inr (.inl (t3,t11,t12,t13,t18,t19,t20,b2,())))
 )
def D7:=RK (ah (yl su))
def sJ (t3:List di) (t11:List eS) (t12 t13:Int) (b2:(List di)×Unit):Rd ((List di)×(List eS)×Int×Int×Y4×Unit) Unit :=
 cond (au t13 t12) (
 cond (aU t13 t11) (
 (D7 t3 t11 t12 t13 (gt d67 t11 t13).2.1 (ae (gt d67 t11 t13).2.1) 0 b2).bind (Sum.elim (fun y1 =>
 some (.inl (y1.1,y1.2.1,y1.2.2.1,(ak .i64 y1.2.2.2.1 1),y1.2.2.2.2.2.2.2.1,()))
 ) (fun y1 =>
 some (.inr (.inr ()))
 ))
 ) none
 ) (
 some (.inr (.inl (t3,t11,t12,t13,b2,())))
 )
def Ed:=zz (ah (gz sJ))
def OQ (p0:List eS):Option RP :=
 (Ed [] p0 (ae p0) 0 ([],())).bind (Sum.elim (fun y1 =>
 some ((),((y1.1,()),()))
 ) (fun y1 =>
 none
 ))
def VG:Su:=⟨[.c false [.sl 67 cN]],[(true,[.sl 92 bz])],true,.inl fun x=>OQ x.1.1⟩
def uE:List SE:=[.own 3 (.sl 92 bz),.d 8 (.int .i64),.d 11 (.sl 67 cN),.d 12 (.int .i64),.d 13 (.int .i64),.d 18 (.sl 92 bz),.d 19 (.int .i64),.d 20 (.int .i64),.box 2 [(true,.sl 92 bz)],.box 7 [(false,.str),(false,.int .i64),(false,.int .i64),(false,.int .i64),(false,.int .i64),(false,.sl 157 dx),(false,.int .i64),(false,.int .i64),(false,.sl 3 aJ),(false,.sl 3 aJ),(false,.sl 160 cU)]]
def vj:List SE:=[.own 3 (.sl 92 bz),.d 11 (.sl 67 cN),.d 12 (.int .i64),.d 13 (.int .i64),.d 18 (.sl 92 bz),.d 19 (.int .i64),.d 20 (.int .i64),.box 2 [(true,.sl 92 bz)]]
def vF:List SE:=[.own 3 (.sl 92 bz),.d 11 (.sl 67 cN),.d 12 (.int .i64),.d 13 (.int .i64),.box 2 [(true,.sl 92 bz)]]
def QS:List SE:=[]
def Va:Nat->Option (Lo QS)
 | 4=>some ⟨uE,AR AK⟩
 | 2=>some ⟨vj,yl D7⟩
 | 0=>some ⟨vF,gz Ed⟩
 | _=>none
def IH:List (Nat×Su):=[(85,ZX)]
def AY:En:=⟨60,tt,je IH,QS,Va,[],fun _=>none⟩
def Ze:Nat->Option (St->Tr St)
 | 11=>some (u0 AY (fX (bf 11 (ai Tryz.f60)) 0).op 44 44 44 3 8 41 42 43 44 45 9)
 | 13=>some (BB AY 44 44 44 9 3 8 51 52 53 54 55)
 | _=>none
def H3:En:=⟨60,tt,je IH,QS,Va,[],Ze⟩
theorem Ts (x:bJ uE):(dj H3 4 uE (bb 4 (ai Tryz.f60)) x).run=AR wJ x:=by kernel_rfl
theorem T1 (x:bJ vj):(dj H3 2 vj (bb 2 (ai Tryz.f60)) x).run=yl su x:=by kernel_rfl
theorem Tg (x:bJ vF):(dj H3 0 vF (bb 0 (ai Tryz.f60)) x).run=gz sJ x:=by kernel_rfl
theorem t60 (x:PT VG.ps):(FQ H3 (ai Tryz.f60) Tryz.f60.results.toList VG.ps VG.rs true x).run=OQ x.1.1:=by kernel_rfl
theorem D3:dp Tryz.prog H3:=cY (l:=IH) ⟨Rw,trivial⟩
theorem Gq:dp Tryz.prog AY:=cY (l:=IH) ⟨Rw,trivial⟩
theorem PB:cP Tryz.prog H3 (bf 11 (ai Tryz.f60)) (u0 AY (fX (bf 11 (ai Tryz.f60)) 0).op 44 44 44 3 8 41 42 43 44 45 9) :=
 gy rfl rfl (Hu (E:=AY) (lv hT) Gq (cd:=(bf 11 (ai Tryz.f60))) (rid:=11) (o1:=fX (bf 11 (ai Tryz.f60)) 0) (o2:=fX (bf 11 (ai Tryz.f60)) 1) (o3:=fX (bf 11 (ai Tryz.f60)) 2) (o4:=fX (bf 11 (ai Tryz.f60)) 3) (o5:=fX (bf 11 (ai Tryz.f60)) 4) (o6:=fX (bf 11 (ai Tryz.f60)) 5) (c:=zT (fX (bf 11 (ai Tryz.f60)) 4)) (tys:=[])
  (by kernel_rfl) (by kernel_rfl) (by kernel_rfl) (by kernel_rfl) (by kernel_rfl) (by kernel_rfl) (by kernel_rfl) (by kernel_rfl) (by kernel_rfl) (by kernel_rfl) (by kernel_rfl) (by kernel_rfl) (by kernel_rfl) (by kernel_rfl) (by kernel_rfl) (by kernel_rfl) (by kernel_rfl) (by kernel_rfl) (by kernel_rfl) (by kernel_rfl) (by kernel_rfl))
theorem FU:dp Tryz.prog AY:=cY (l:=IH) ⟨Rw,trivial⟩
theorem Q0:cP Tryz.prog H3 (bf 13 (ai Tryz.f60)) (BB AY 44 44 44 9 3 8 51 52 53 54 55) :=
 gy rfl rfl (Mu (E:=AY) (lv hT) FU (cd:=(bf 13 (ai Tryz.f60))) (rid:=13) (o1:=fX (bf 13 (ai Tryz.f60)) 0) (o2:=fX (bf 13 (ai Tryz.f60)) 1) (o3:=fX (bf 13 (ai Tryz.f60)) 2) (o4:=fX (bf 13 (ai Tryz.f60)) 3) (o5:=fX (bf 13 (ai Tryz.f60)) 4) (o6:=fX (bf 13 (ai Tryz.f60)) 5) (c:=zT (fX (bf 13 (ai Tryz.f60)) 4)) (tys:=[])
  (by kernel_rfl) (by kernel_rfl) (by kernel_rfl) (by kernel_rfl) (by kernel_rfl) (by kernel_rfl) (by kernel_rfl) (by kernel_rfl) (by kernel_rfl) (by kernel_rfl) (by kernel_rfl) (by kernel_rfl) (by kernel_rfl) (by kernel_rfl) (by kernel_rfl) (by kernel_rfl) (by kernel_rfl) (by kernel_rfl) (by kernel_rfl) (by kernel_rfl) (by kernel_rfl) (by kernel_rfl))
theorem TM:cf Tryz.prog H3 4 (.loop (bb 4 (ai Tryz.f60))) ⟨uE,AR AK⟩ :=
 eD (lv hT) D3 eR (step:=fun (x:bJ uE)=>wJ x.1 x.2.1 x.2.2.1 x.2.2.2.1 x.2.2.2.2.1 x.2.2.2.2.2.1 x.2.2.2.2.2.2.1 x.2.2.2.2.2.2.2.1 x.2.2.2.2.2.2.2.2.1 x.2.2.2.2.2.2.2.2.2.1) Ts (ba [] (by kernel_rfl) trivial [] (by kernel_rfl) trivial)
theorem Uu:cf Tryz.prog H3 2 (.loop (bb 2 (ai Tryz.f60))) ⟨vj,yl D7⟩ :=
 eD (lv hT) D3 eR (step:=fun (x:bJ vj)=>su x.1 x.2.1 x.2.2.1 x.2.2.2.1 x.2.2.2.2.1 x.2.2.2.2.2.1 x.2.2.2.2.2.2.1 x.2.2.2.2.2.2.2.1) T1 (ba [(4,.loop (bb 4 (ai Tryz.f60)))] (by kernel_rfl) ⟨l5 rfl TM,trivial⟩ [(11,bf 11 (ai Tryz.f60)),(13,bf 13 (ai Tryz.f60))] (by kernel_rfl) ⟨xG rfl PB,xG rfl Q0,trivial⟩)
theorem TN:cf Tryz.prog H3 0 (.loop (bb 0 (ai Tryz.f60))) ⟨vF,gz Ed⟩ :=
 eD (lv hT) D3 eR (step:=fun (x:bJ vF)=>sJ x.1 x.2.1 x.2.2.1 x.2.2.2.1 x.2.2.2.2.1) Tg (ba [(2,.loop (bb 2 (ai Tryz.f60)))] (by kernel_rfl) ⟨l5 rfl Uu,trivial⟩ [] (by kernel_rfl) trivial)
theorem Zf:ar Tryz.prog 60 VG :=
 qL (E:=H3) (lv hT) D3 eR (fn:=Tryz.f60) (c:=(ai Tryz.f60)) (by kernel_rfl) (by kernel_rfl) (by kernel_rfl) rfl (ba [(0,.loop (bb 0 (ai Tryz.f60)))] (by kernel_rfl) ⟨l5 rfl TN,trivial⟩ [] (by kernel_rfl) trivial) fun x y h=>⟨y.1,fun _=>rfl,(t60 x).trans h⟩
def oK (t0:List UInt8) (t3:Int):Rd Uk Y1 :=
 cond (au t3 (ae t0)) (
 cond (aU t3 t0) (
 let u1:=(dy t0 t3)
 cond (au u1 48) (
 some (.inr (.inr (false,())))
 ) (
 cond (aU t3 t0) (
 cond (au 57 u1) (
 some (.inr (.inr (false,())))
 ) (
 some (.inl (t0,(ak .i64 t3 1),()))
 )
 ) none
 )
 ) none
 ) (
 some (.inr (.inl (t0,t3,())))
 )
def Ig:=OB (ah (wY oK))
def qe (p0:List UInt8):Option eo :=
 (Ig p0 0).bind (Sum.elim (fun y1 =>
 some ((),(((au 0 (ae y1.1)),()),()))
 ) (fun y1 =>
 some ((),(y1,()))
 ))
def Ws:Su:=⟨[.c false [.str]],[(false,[.bool])],true,.inl fun x=>qe x.1.1⟩
theorem sU:ar Tryz.prog 185 Ws :=
 fl an [.d 2 (.bool)] [(0,⟨[.d 0 (.str),.d 3 (.int .i64)],ah (wY oK)⟩)] [] Tryz.f185 (lp [0] (sc cX sn))
def rq (t0:List UInt8) (t3:Int) (t4:Bool) (t5:Int):Rd ((List UInt8)×Int×Bool×Int×Unit) Unit :=
 cond (bD 0 t5) (
 cond (aU t5 t0) (
 cond t4 (
 let u1:=(aH .i64 (bG .i64 (dy t0 t5)) 48)
 let u2:=(jY .i64 2 u1)
 cond (au 9 u2) (
 let u3:=(aH .i64 t5 1)
 some (.inl (t0,(fI (ak .i64 t3 (aH .i64 u2 9)) 10),(!t4),u3,()))
 ) (
 let u3:=(aH .i64 t5 1)
 some (.inl (t0,(fI (ak .i64 t3 u2) 10),(!t4),u3,()))
 )
 ) (
 let u1:=(aH .i64 (bG .i64 (dy t0 t5)) 48)
 let u2:=(aH .i64 t5 1)
 some (.inl (t0,(fI (ak .i64 t3 u1) 10),(!t4),u2,()))
 )
 ) none
 ) (
 some (.inr (.inl (t0,t3,t4,t5,())))
 )
def JV:=nh (ah (dh rq))
def Mj (p0:List UInt8):Option kf :=
 (qe p0).bind fun y1 =>
 cond (!y1.2.1.1) (
 some ((),(((-1),()),()))
 ) (
 (JV p0 0 true (aH .i64 (ae p0) 1)).bind (Sum.elim (fun y2 =>
 some ((),(((fI (aH .i64 10 y2.2.1) 10),()),()))
 ) (fun y2 =>
 none
 ))
 )
def XF:Su:=⟨[.c false [.str]],[(false,aJ)],true,.inl fun x=>Mj x.1.1⟩
theorem Sa:ar Tryz.prog 186 XF :=
 fl (ac sU an) [] [(0,⟨[.d 0 (.str),.d 3 (.int .i64),.d 4 (.bool),.d 5 (.int .i64)],ah (dh rq)⟩)] [] Tryz.f186 (lp [0] (sc cX sn))
def ME (p0:List UInt8):Option eo :=
 (qe p0).bind fun y1 =>
 let u1:=(ae p0)
 cond (cond (!y1.2.1.1) true (au u1 2)) (
 some ((),((false,()),()))
 ) (
 let u2:=(aH .i64 u1 1)
 cond (dO 0 u2 p0) (
 (Mj (sub p0 0 u2)).bind fun y2 =>
 cond (aU u2 p0) (
 some ((),(((aq y2.2.1.1 (aH .i64 (bG .i64 (dy p0 u2)) 48)),()),()))
 ) none
 ) none
 )
def XI:Su:=⟨[.c false [.str]],[(false,[.bool])],true,.inl fun x=>ME x.1.1⟩
theorem Uq:ar Tryz.prog 133 XI :=
 fq (ac sU (ac Sa an)) Tryz.f133
def Fh (p0:List UInt8):Option eo :=
 cond (bD (ae p0) 19) (
 (ME p0).bind fun y1 =>
 some ((),(y1.2.1,()))
 ) (
 some ((),((false,()),()))
 )
def s98:Su:=⟨[.c false [.str]],[(false,[.bool])],true,.inl fun x=>Fh x.1.1⟩
theorem Sm:ar Tryz.prog 98 s98 :=
 fq (ac Uq an) Tryz.f98
def Qa (p0:Int):Option eo :=
 some ((),(((cond (bD 0 p0) (bD p0 4611686018427387904) false),()),()))
def s99:Su:=⟨[.c false aJ],[(false,[.bool])],true,.inl fun x=>Qa x.1.1⟩
theorem Rg:ar Tryz.prog 99 s99 :=
 fq an Tryz.f99
def pw (t0:List UInt8) (t3:Int):Rd Uk Y1 :=
 cond (au t3 (ae t0)) (
 cond (aU t3 t0) (
 let u1:=(dy t0 t3)
 cond (au u1 48) (
 cond (aU t3 t0) (
 cond (au u1 97) (
 some (.inr (.inr (false,())))
 ) (
 cond (aU t3 t0) (
 cond (au 122 u1) (
 some (.inr (.inr (false,())))
 ) (
 some (.inl (t0,(ak .i64 t3 1),()))
 )
 ) none
 )
 ) none
 ) (
 cond (aU t3 t0) (
 cond (au 57 u1) (
 cond (aU t3 t0) (
 cond (au u1 97) (
 some (.inr (.inr (false,())))
 ) (
 cond (aU t3 t0) (
 cond (au 122 u1) (
 some (.inr (.inr (false,())))
 ) (
 some (.inl (t0,(ak .i64 t3 1),()))
 )
 ) none
 )
 ) none
 ) (
 some (.inl (t0,(ak .i64 t3 1),()))
 )
 ) none
 )
 ) none
 ) (
 some (.inr (.inl (t0,t3,())))
 )
def HO:=OB (ah (wY pw))
def Kc (p0:List UInt8):Option eo :=
 (HO p0 0).bind (Sum.elim (fun y1 =>
 (pU (ae y1.1) 1 6).bind fun y2 =>
 some ((),(y2.2.1,()))
 ) (fun y1 =>
 some ((),(y1,()))
 ))
def YE:Su:=⟨[.c false [.str]],[(false,[.bool])],true,.inl fun x=>Kc x.1.1⟩
theorem NI:ar Tryz.prog 187 YE :=
 fl (ac nG an) [.d 2 (.bool)] [(0,⟨[.d 0 (.str),.d 3 (.int .i64)],ah (wY pw)⟩)] [] Tryz.f187 (lp [0] (sc cX sn))
def GW (p0:Int):Option eo :=
 (pU p0 0 1000000000).bind fun y1 =>
 some ((),(y1.2.1,()))
def s31:Su:=⟨[.c false aJ],[(false,[.bool])],true,.inl fun x=>GW x.1.1⟩
theorem LF:ar Tryz.prog 31 s31 :=
 fq (ac nG an) Tryz.f31
def Lp (p0:(List UInt8)×Int×Int×Unit):Option eo :=
 (Kc p0.1).bind fun y1 =>
 cond y1.2.1.1 (
 (pU p0.2.1 1 9007199254740992).bind fun y2 =>
 cond y2.2.1.1 (
 (GW p0.2.2.1).bind fun y3 =>
 some ((),(y3.2.1,()))
 ) (
 some ((),((false,()),()))
 )
 ) (
 some ((),((false,()),()))
 )
def XM:Su:=⟨[.c true jx],[(false,[.bool])],true,.inl fun x=>Lp x.1⟩
theorem T8:ar Tryz.prog 134 XM :=
 fq (ac nG (ac NI (ac LF an))) Tryz.f134
def ob (t0 t5:List cG) (t6 t7:Int):Rd ((List cG)×(List cG)×Int×Int×Unit) Y1 :=
 cond (au t7 t6) (
 cond (aU t7 t5) (
 let u1:=(gt d157 t5 t7)
 (Lp u1).bind fun y1 =>
 cond (!y1.2.1.1) (
 some (.inr (.inr (false,())))
 ) (
 cond (au 0 t7) (
 let u2:=(aH .i64 t7 1)
 cond (aU u2 t0) (
 cond (!(kd (gt d157 t0 u2).1 u1.1)) (
 some (.inr (.inr (false,())))
 ) (
 some (.inl (t0,t5,t6,(ak .i64 t7 1),()))
 )
 ) none
 ) (
 some (.inl (t0,t5,t6,(ak .i64 t7 1),()))
 )
 )
 ) none
 ) (
 some (.inr (.inl (t0,t5,t6,t7,())))
 )
def JK:=nh (ah (dh ob))
def MY (p0:List cG):Option eo :=
 (JK p0 p0 (ae p0) 0).bind (Sum.elim (fun y1 =>
 some ((),(((bD (ae y1.1) 4),()),()))
 ) (fun y1 =>
 some ((),(y1,()))
 ))
def Wv:Su:=⟨[.c false [.sl 157 dx]],[(false,[.bool])],true,.inl fun x=>MY x.1.1⟩
theorem TK:ar Tryz.prog 100 Wv :=
 fl (ac T8 an) [.d 2 (.bool)] [(0,⟨[.d 0 (.sl 157 dx),.d 5 (.sl 157 dx),.d 6 (.int .i64),.d 7 (.int .i64)],ah (dh ob)⟩)] [] Tryz.f100 (lp [0] (sc cX sn))
def pC (t32 t33:Int) (b1:Int×Int×(List R3)×(List R3)×Unit):Rd (Int×Int×(Int×Int×(List R3)×(List R3)×Unit)×Unit) Y1 :=
 cond (au t33 t32) (
 cond (aU t33 b1.2.2.1) (
 (Qa (gt d3 b1.2.2.1 t33).1).bind fun y1 =>
 cond (!y1.2.1.1) (
 some (.inr (.inr (false,())))
 ) (
 cond (aU t33 b1.2.2.2.1) (
 (Qa (gt d3 b1.2.2.2.1 t33).1).bind fun y2 =>
 cond (!y2.2.1.1) (
 some (.inr (.inr (false,())))
 ) (
 some (.inl (t32,(ak .i64 t33 1),b1,()))
 )
 ) none
 )
 ) none
 ) (
 some (.inr (.inl (t32,t33,b1,())))
 )
def Ii:=lM (ah (dC pC))
def I2 (p0:Int×Int×(List R3)×(List R3)×Unit):Option eo :=
 (pU p0.1 1 1000).bind fun y1 =>
 cond (!y1.2.1.1) (
 some ((),((false,()),()))
 ) (
 let u1:=(ae p0.2.2.1)
 (pU u1 1 8).bind fun y2 =>
 cond (cond (!y2.2.1.1) true (!(aq (ae p0.2.2.2.1) u1))) (
 some ((),((false,()),()))
 ) (
 (GW p0.2.1).bind fun y3 =>
 cond (!y3.2.1.1) (
 some ((),((false,()),()))
 ) (
 (Ii u1 0 p0).bind (Sum.elim (fun y4 =>
 some ((),((true,()),()))
 ) (fun y4 =>
 some ((),(y4,()))
 ))
 )
 )
 )
def Xj:Su:=⟨[.c true [.int .i64,.int .i64,.sl 3 aJ,.sl 3 aJ]],[(false,[.bool])],true,.inl fun x=>I2 x.1⟩
theorem Vk:ar Tryz.prog 101 Xj :=
 fl (ac nG (ac Rg (ac LF an))) [.d 2 (.bool)] [(0,⟨[.d 32 (.int .i64),.d 33 (.int .i64),.box 1 [(false,.int .i64),(false,.int .i64),(false,.sl 3 aJ),(false,.sl 3 aJ)]],ah (dC pC)⟩)] [] Tryz.f101 (lp [0] (sc cX sn))
def Mg (p0:(List UInt8)×(List UInt8)×(List R5)×Unit):Option eo :=
 (qe p0.1).bind fun y1 =>
 cond (cond y1.2.1.1 (aq (ae p0.1) 6) false) (
 (qe p0.2.1).bind fun y2 =>
 cond (cond y2.2.1.1 (aq (ae p0.2.1) 4) false) (
 (pU (ae p0.2.2.1) 1 200).bind fun y3 =>
 some ((),(y3.2.1,()))
 ) (
 some ((),((false,()),()))
 )
 ) (
 some ((),((false,()),()))
 )
def ZI:Su:=⟨[.c true iU],[(false,[.bool])],true,.inl fun x=>Mg x.1⟩
theorem SH:ar Tryz.prog 135 ZI :=
 fq (ac nG (ac sU an)) Tryz.f135
def oL (t0 t7:List cw) (t8 t9:Int) (t19:List cw) (t20 t21:Int) (b4:(List UInt8)×(List UInt8)×(List R5)×Unit):Rd ((List cw)×(List cw)×Int×Int×(List cw)×Int×Int×lQ×Unit) Y1 :=
 cond (au t21 t20) (
 cond (aU t21 t19) (
 let u1:=(gt d160 t19 t21)
 cond (cond (cq u1.1 b4.1) (cq u1.2.1 b4.2.1) false) (
 some (.inr (.inr (false,())))
 ) (
 some (.inl (t0,t7,t8,t9,t19,t20,(ak .i64 t21 1),b4,()))
 )
 ) none
 ) (
 some (.inr (.inl (t0,t7,t8,t9,t19,t20,t21,b4,())))
 )
def J7:=RK (ah (yl oL))
def pQ (t0 t7:List cw) (t8 t9:Int):Rd VH Y1 :=
 cond (au t9 t8) (
 cond (aU t9 t7) (
 let u1:=(gt d160 t7 t9)
 (Mg u1).bind fun y1 =>
 cond (!y1.2.1.1) (
 some (.inr (.inr (false,())))
 ) (
 cond (dO 0 t9 t0) (
 let u2:=(sub t0 0 t9)
 (J7 t0 t7 t8 t9 u2 (ae u2) 0 u1).bind (Sum.elim (fun y2 =>
 some (.inl (y2.1,y2.2.1,y2.2.2.1,(ak .i64 y2.2.2.2.1 1),()))
 ) (fun y2 =>
 some (.inr (.inr (y2.1,())))
 ))
 ) none
 )
 ) none
 ) (
 some (.inr (.inl (t0,t7,t8,t9,())))
 )
def Iv:=nh (ah (dh pQ))
def K0 (p0:List cw):Option eo :=
 (Iv p0 p0 (ae p0) 0).bind (Sum.elim (fun y1 =>
 some ((),(((bD (ae y1.1) 6),()),()))
 ) (fun y1 =>
 some ((),(y1,()))
 ))
def ZR:Su:=⟨[.c false [.sl 160 cU]],[(false,[.bool])],true,.inl fun x=>K0 x.1.1⟩
theorem UW:ar Tryz.prog 102 ZR :=
 fl (ac SH an) [.d 2 (.bool)] [(2,⟨[.d 0 (.sl 160 cU),.d 7 (.sl 160 cU),.d 8 (.int .i64),.d 9 (.int .i64),.d 19 (.sl 160 cU),.d 20 (.int .i64),.d 21 (.int .i64),.box 4 [(false,.str),(false,.str),(false,.sl 5 fK)]],ah (yl oL)⟩),(0,⟨[.d 0 (.sl 160 cU),.d 7 (.sl 160 cU),.d 8 (.int .i64),.d 9 (.int .i64)],ah (dh pQ)⟩)] [] Tryz.f102 (lp [0] (sc (lp [2] (sc cX sn)) sn))
def J3 (p0 p1 p2:Int):Option kf :=
 cond (au p0 p1) (
 some ((),((p1,()),()))
 ) (
 cond (au p2 p0) (
 some ((),((p2,()),()))
 ) (
 some ((),((p0,()),()))
 )
 )
def Ww:Su:=⟨[.c false aJ,.c false aJ,.c false aJ],[(false,aJ)],true,.inl fun x=>J3 x.1.1 x.2.1.1 x.2.2.1.1⟩
theorem SX:ar Tryz.prog 137 Ww :=
 fq an Tryz.f137
def Pj (p0 p1:Int):Option Ys :=
 (Qa p0).bind fun y1 =>
 cond (!y1.2.1.1) (
 some ((),((0,()),(false,()),()))
 ) (
 (Qa p1).bind fun y2 =>
 cond (cond (!y2.2.1.1) true (au (aH .i64 4611686018427387904 p1) p0)) (
 some ((),((0,()),(false,()),()))
 ) (
 some ((),(((ak .i64 p0 p1),()),(true,()),()))
 )
 )
def YJ:Su:=⟨[.c false aJ,.c false aJ],[(false,aJ),(false,[.bool])],true,.inl fun x=>Pj x.1.1 x.2.1.1⟩
theorem SQ:ar Tryz.prog 136 YJ :=
 fq (ac Rg an) Tryz.f136
def Jr (p0 p1:Int):Option kf :=
 (J3 p0 0 4611686018427387904).bind fun y1 =>
 (J3 p1 0 4611686018427387904).bind fun y2 =>
 (Pj y1.2.1.1 y2.2.1.1).bind fun y3 =>
 cond (!y3.2.2.1.1) (
 some ((),((4611686018427387904,()),()))
 ) (
 some ((),(y3.2.1,()))
 )
def WJ:Su:=⟨[.c false aJ,.c false aJ],[(false,aJ)],true,.inl fun x=>Jr x.1.1 x.2.1.1⟩
theorem NF:ar Tryz.prog 103 WJ :=
 fq (ac SX (ac SQ an)) Tryz.f103
def pr (t3:Int) (t6:List cG) (t7 t8:Int):Rd (Int×(List cG)×Int×Int×Unit) Unit :=
 cond (au t8 t7) (
 cond (aU t8 t6) (
 (Jr t3 (gt d157 t6 t8).2.1).bind fun y1 =>
 some (.inl (y1.2.1.1,t6,t7,(ak .i64 t8 1),()))
 ) none
 ) (
 some (.inr (.inl (t3,t6,t7,t8,())))
 )
def IA:=nh (ah (dh pr))
def L8 (p0:List cG):Option kf :=
 (IA 0 p0 (ae p0) 0).bind (Sum.elim (fun y1 =>
 some ((),((y1.1,()),()))
 ) (fun y1 =>
 none
 ))
def ZE:Su:=⟨[.c false [.sl 157 dx]],[(false,aJ)],true,.inl fun x=>L8 x.1.1⟩
theorem Vh:ar Tryz.prog 104 ZE :=
 fl (ac NF an) [] [(0,⟨[.d 3 (.int .i64),.d 6 (.sl 157 dx),.d 7 (.int .i64),.d 8 (.int .i64)],ah (dh pr)⟩)] [] Tryz.f104 (lp [0] (sc cX sn))
def VX (p0:(List UInt8)×Int×Int×Int×Int×(List cG)×Int×Int×(List R3)×(List R3)×(List cw)×Unit):Option eo :=
 (Fh p0.1).bind fun y1 =>
 cond (!y1.2.1.1) (
 some ((),((false,()),()))
 ) (
 (pU p0.2.1 0 9007199254740992).bind fun y2 =>
 cond (!y2.2.1.1) (
 some ((),((false,()),()))
 ) (
 (pU p0.2.2.2.1 0 1000).bind fun y3 =>
 cond (!y3.2.1.1) (
 some ((),((false,()),()))
 ) (
 (pU p0.2.2.2.2.1 0 9007199254740992).bind fun y4 =>
 cond (!y4.2.1.1) (
 some ((),((false,()),()))
 ) (
 (Qa p0.2.2.1).bind fun y5 =>
 cond (!y5.2.1.1) (
 some ((),((false,()),()))
 ) (
 (MY p0.2.2.2.2.2.1).bind fun y6 =>
 cond y6.2.1.1 (
 (I2 (p0.2.2.2.2.2.2.1,p0.2.2.2.2.2.2.2.1,p0.2.2.2.2.2.2.2.2.1,p0.2.2.2.2.2.2.2.2.2.1,())).bind fun y7 =>
 cond y7.2.1.1 (
 (K0 p0.2.2.2.2.2.2.2.2.2.2.1).bind fun y8 =>
 cond y8.2.1.1 (
 (L8 p0.2.2.2.2.2.1).bind fun y9 =>
 (Jr p0.2.2.1 y9.2.1.1).bind fun y10 =>
 some ((),(((bD y10.2.1.1 p0.2.1),()),()))
 ) (
 some ((),((false,()),()))
 )
 ) (
 some ((),((false,()),()))
 )
 ) (
 some ((),((false,()),()))
 )
 )
 )
 )
 )
 )
def s76:Su:=⟨[.c true bz],[(false,[.bool])],true,.inl fun x=>VX x.1⟩
theorem YR:ar Tryz.prog 76 s76 :=
 fq (ac nG (ac Sm (ac Rg (ac TK (ac Vk (ac UW (ac NF (ac Vh an)))))))) Tryz.f76
def xi (t6:List di) (t7 t8:Int) (b1:(List di)×Unit):Rd ((List di)×Int×Int×Y4×Unit) Y1 :=
 cond (au t8 t7) (
 cond (aU t8 t6) (
 let u1:=(gt d92 t6 t8)
 (VX u1).bind fun y1 =>
 cond (!y1.2.1.1) (
 some (.inr (.inr (false,())))
 ) (
 cond (au 0 t8) (
 let u2:=(aH .i64 t8 1)
 cond (aU u2 b1.1) (
 cond (!(kd (gt d92 b1.1 u2).1 u1.1)) (
 some (.inr (.inr (false,())))
 ) (
 some (.inl (t6,t7,(ak .i64 t8 1),b1,()))
 )
 ) none
 ) (
 some (.inl (t6,t7,(ak .i64 t8 1),b1,()))
 )
 )
 ) none
 ) (
 some (.inr (.inl (t6,t7,t8,b1,())))
 )
def NC:=nh (ah (dh xi))
def U6 (p0:(List di)×Unit):Option eo :=
 (NC p0.1 (ae p0.1) 0 p0).bind (Sum.elim (fun y1 =>
 some ((),(((bD (ae y1.2.2.2.1.1) 6),()),()))
 ) (fun y1 =>
 some ((),(y1,()))
 ))
def s49:Su:=⟨[.c true [.sl 92 bz]],[(false,[.bool])],true,.inl fun x=>U6 x.1⟩
theorem Zw:ar Tryz.prog 49 s49 :=
 fl (ac YR an) [.d 2 (.bool)] [(0,⟨[.d 6 (.sl 92 bz),.d 7 (.int .i64),.d 8 (.int .i64),.box 1 [(false,.sl 92 bz)]],ah (dh xi)⟩)] [] Tryz.f49 (lp [0] (sc cX sn))
def w9 (t0:List UInt8) (t3 t4:Int):Rd RL Unit :=
 cond (au t4 (ae t0)) (
 cond (aU t4 t0) (
 some (.inl (t0,(zK .i64 (jY .i64 (Bm .i64 t3 (bG .i64 (dy t0 t4))) 16777619) 4294967295),(ak .i64 t4 1),()))
 ) none
 ) (
 some (.inr (.inl (t0,t3,t4,())))
 )
def Nl:=lM (ah (dC w9))
def Vw (p0:List UInt8):Option kf :=
 (Nl p0 2166136261 0).bind (Sum.elim (fun y1 =>
 some ((),((y1.2.1,()),()))
 ) (fun y1 =>
 none
 ))
def s84:Su:=⟨[.c false [.str]],[(false,aJ)],true,.inl fun x=>Vw x.1.1⟩
theorem XC:ar Tryz.prog 84 s84 :=
 fl an [] [(0,⟨[.d 0 (.str),.d 3 (.int .i64),.d 4 (.int .i64)],ah (dC w9)⟩)] [] Tryz.f84 (lp [0] (sc cX sn))
def Ny (p0:List UInt8) (p1:Int):Option kf :=
 cond (au p1 1) (
 some ((),((0,()),()))
 ) (
 (Vw p0).bind fun y1 =>
 cond (!(aq p1 0)) (
 some ((),(((fI y1.2.1.1 p1),()),()))
 ) none
 )
def s59:Su:=⟨[.c false [.str],.c false aJ],[(false,aJ)],true,.inl fun x=>Ny x.1.1 x.2.1.1⟩
theorem To:ar Tryz.prog 59 s59 :=
 fq (ac XC an) Tryz.f59
def vi (t0:List eS) (t3:Int) (t11:List eS) (t12 t13:Int) (t23:List di) (t24 t25:Int) (b4:Int×(List di)×Unit):Rd ((List eS)×Int×(List eS)×Int×Int×(List di)×Int×Int×Y9×Unit) Y1 :=
 cond (au t25 t24) (
 cond (aU t25 t23) (
 (Ny (gt d92 t23 t25).1 (ae t0)).bind fun y1 =>
 cond (!(aq y1.2.1.1 t3)) (
 some (.inr (.inr (false,())))
 ) (
 cond (au 0 t25) (
 let u1:=(aH .i64 t25 1)
 cond (aU u1 b4.2.1) (
 cond (!(kd (gt d92 b4.2.1 u1).1 (gt d92 t23 t25).1)) (
 some (.inr (.inr (false,())))
 ) (
 some (.inl (t0,t3,t11,t12,t13,t23,t24,(ak .i64 t25 1),b4,()))
 )
 ) none
 ) (
 some (.inl (t0,t3,t11,t12,t13,t23,t24,(ak .i64 t25 1),b4,()))
 )
 )
 ) none
 ) (
 some (.inr (.inl (t0,t3,t11,t12,t13,t23,t24,t25,b4,())))
 )
def Ox:=Sv (ah (C1 vi))
def wh (t0 t11:List eS) (t12 t13:Int):Rd ((List eS)×(List eS)×Int×Int×Unit) Y1 :=
 cond (au t13 t12) (
 cond (aU t13 t11) (
 let u1:=(gt d67 t11 t13)
 (pU u1.1 (-1) 11).bind fun y1 =>
 cond (!y1.2.1.1) (
 some (.inr (.inr (false,())))
 ) (
 (Ox t0 t13 t11 t12 t13 u1.2.1 (ae u1.2.1) 0 u1).bind (Sum.elim (fun y2 =>
 some (.inl (y2.1,y2.2.2.1,y2.2.2.2.1,(ak .i64 y2.2.2.2.2.1 1),()))
 ) (fun y2 =>
 some (.inr (.inr (y2.1,())))
 ))
 )
 ) none
 ) (
 some (.inr (.inl (t0,t11,t12,t13,())))
 )
def Sf:=nh (ah (dh wh))
def Vv (p0:List eS):Option eo :=
 let u1:=(ae p0)
 (pU u1 1 5).bind fun y1 =>
 cond (!y1.2.1.1) (
 some ((),((false,()),()))
 ) (
 (Sf p0 p0 u1 0).bind (Sum.elim (fun y2 =>
 (OQ y2.1).bind fun y3 =>
 (U6 y3.2.1).bind fun y4 =>
 some ((),(y4.2.1,()))
 ) (fun y2 =>
 some ((),(y2,()))
 ))
 )
def s30:Su:=⟨[.c false [.sl 67 cN]],[(false,[.bool])],true,.inl fun x=>Vv x.1.1⟩
theorem Xk:ar Tryz.prog 30 s30 :=
 fl (ac nG (ac Zf (ac Zw (ac To an)))) [.d 2 (.bool)] [(2,⟨[.d 0 (.sl 67 cN),.d 3 (.int .i64),.d 11 (.sl 67 cN),.d 12 (.int .i64),.d 13 (.int .i64),.d 23 (.sl 92 bz),.d 24 (.int .i64),.d 25 (.int .i64),.box 4 [(false,.int .i64),(false,.sl 92 bz)]],ah (C1 vi)⟩),(0,⟨[.d 0 (.sl 67 cN),.d 11 (.sl 67 cN),.d 12 (.int .i64),.d 13 (.int .i64)],ah (dh wh)⟩)] [] Tryz.f30 (lp [0] (sc (lp [2] (sc cX sn)) sn))
def wq (t1:Int) (t7:List R3) (t8 t9:Int):Rd (Int×(List R3)×Int×Int×Unit) Y1 :=
 cond (au t9 t8) (
 cond (aU t9 t7) (
 cond (aq (gt d3 t7 t9).1 t1) (
 some (.inr (.inr (true,())))
 ) (
 some (.inl (t1,t7,t8,(ak .i64 t9 1),()))
 )
 ) none
 ) (
 some (.inr (.inl (t1,t7,t8,t9,())))
 )
def TY:=nh (ah (dh wq))
def VR (p0:List R3) (p1:Int):Option eo :=
 (TY p1 p0 (ae p0) 0).bind (Sum.elim (fun y1 =>
 some ((),((false,()),()))
 ) (fun y1 =>
 some ((),(y1,()))
 ))
def s61:Su:=⟨[.c false fU,.c false aJ],[(false,[.bool])],true,.inl fun x=>VR x.1.1 x.2.1.1⟩
theorem Xx:ar Tryz.prog 61 s61 :=
 fl an [.d 4 (.bool)] [(0,⟨[.d 1 (.int .i64),.d 7 (.sl 3 aJ),.d 8 (.int .i64),.d 9 (.int .i64)],ah (dh wq)⟩)] [] Tryz.f61 (lp [0] (sc cX sn))
def xl (t1:Int) (t5:List R3) (t11:List iH) (t12 t13:Int) (t23:List R3) (t24 t25:Int):Rd (Int×(List R3)×(List iH)×Int×Int×(List R3)×Int×Int×Unit) Y1 :=
 cond (au t25 t24) (
 cond (aU t25 t23) (
 let u1:=(gt d3 t23 t25)
 cond (aq u1.1 (-1)) (
 let u2:=(ak .i64 t25 1)
 some (.inl (t1,t5,t11,t12,t13,t23,t24,u2,()))
 ) (
 cond (bD t1 u1.1) (
 some (.inr (.inr (false,())))
 ) (
 (VR t5 u1.1).bind fun y1 =>
 cond y1.2.1.1 (
 some (.inr (.inr (false,())))
 ) (
 cond (cT 8 t5 [u1]) (
 let u2:=(ak .i64 t25 1)
 some (.inl (t1,(ll t5 [u1]),t11,t12,t13,t23,t24,u2,()))
 ) none
 )
 )
 )
 ) none
 ) (
 some (.inr (.inl (t1,t5,t11,t12,t13,t23,t24,t25,())))
 )
def OI:=RK (ah (yl xl))
def uC (t1:Int) (t5:List R3) (t11:List iH) (t12 t13:Int):Rd (Int×(List R3)×(List iH)×Int×Int×Unit) Y1 :=
 cond (au t13 t12) (
 cond (aU t13 t11) (
 let u1:=(gt d64 t11 t13)
 (OI t1 t5 t11 t12 t13 [(u1.2.2.2.2.1,()),(u1.2.2.2.2.2.1,()),(u1.2.2.2.2.2.2.1,())] (ae [(u1.2.2.2.2.1,()),(u1.2.2.2.2.2.1,()),(u1.2.2.2.2.2.2.1,())]) 0).bind (Sum.elim (fun y1 =>
 some (.inl (y1.1,y1.2.1,y1.2.2.1,y1.2.2.2.1,(ak .i64 y1.2.2.2.2.1 1),()))
 ) (fun y1 =>
 some (.inr (.inr (y1.1,())))
 ))
 ) none
 ) (
 some (.inr (.inl (t1,t5,t11,t12,t13,())))
 )
def Uy:=zz (ah (gz uC))
def VN (p0:List iH) (p1:Int):Option eo :=
 (Uy p1 [] p0 (ae p0) 0).bind (Sum.elim (fun y1 =>
 some ((),((true,()),()))
 ) (fun y1 =>
 some ((),(y1,()))
 ))
def s32:Su:=⟨[.c false [.sl 64 dZ],.c false aJ],[(false,[.bool])],true,.inl fun x=>VN x.1.1 x.2.1.1⟩
theorem Yi:ar Tryz.prog 32 s32 :=
 fl (ac Xx an) [.d 4 (.bool)] [(2,⟨[.d 1 (.int .i64),.own 5 (.sl 3 aJ),.d 11 (.sl 64 dZ),.d 12 (.int .i64),.d 13 (.int .i64),.own 23 (.sl 3 aJ),.d 24 (.int .i64),.d 25 (.int .i64)],ah (yl xl)⟩),(0,⟨[.d 1 (.int .i64),.own 5 (.sl 3 aJ),.d 11 (.sl 64 dZ),.d 12 (.int .i64),.d 13 (.int .i64)],ah (gz uC)⟩)] [] Tryz.f32 (lp [0] (sc (lp [2] (sc cX sn)) sn))
def VD (p0:(List R5)×Int×(List R3)×Int×Int×Int×Int×Int×(List R5)×Unit):Option eo :=
 cond (aq p0.2.1 1) (
 let u1:=(ae p0.2.2.1)
 some ((),(((cond (bD 0 p0.2.2.2.1) (au p0.2.2.2.1 u1) false),()),()))
 ) (
 cond (aq p0.2.1 2) (
 let u1:=(ae p0.2.2.1)
 some ((),(((cond (aq p0.2.2.2.1 u1) (au 0 u1) false),()),()))
 ) (
 cond (aq p0.2.1 3) (
 let u1:=(ae p0.2.2.1)
 (pU p0.2.2.2.1 1 u1).bind fun y1 =>
 some ((),(y1.2.1,()))
 ) (
 some ((),(((aq p0.2.2.2.1 0),()),()))
 )
 )
 )
def s62:Su:=⟨[.c true gV],[(false,[.bool])],true,.inl fun x=>VD x.1⟩
theorem Wy:ar Tryz.prog 62 s62 :=
 fq (ac nG an) Tryz.f62
def od (t0:List R5) (t1 t2:Int) (t9:List UInt8) (t10:Int):Rd ((List R5)×Int×Int×(List UInt8)×Int×Unit) Unit :=
 cond (au t10 (ak .i64 t1 (l6 .i64 (ak .i64 t2 1) 2))) (
 cond (aU t10 t0) (
 cond (aU t10 t0) (
 let u1:=(bG .i64 (gt d5 t0 t10).1)
 let u2:=(strOf [((bG .u8 (ak .i64 48 (l6 .i64 u1 16))),()),((bG .u8 (ak .i64 48 (fI u1 16))),())])
 cond (Gi t9 u2) (
 some (.inl (t0,t1,t2,(N4 t9 u2),(ak .i64 t10 1),()))
 ) none
 ) none
 ) none
 ) (
 some (.inr (.inl (t0,t1,t2,t9,t10,())))
 )
def JW:=zz (ah (gz od))
def vr (p0:List R5) (p1 p2:Int):Option V6 :=
 let u1:=(ae p0)
 cond (cond (cond (cond (au p2 1) true (au 38 p2)) true (au p1 0)) true (au u1 p1)) (
 some ((),(([],()),(0,()),(false,()),()))
 ) (
 cond (au (aH .i64 u1 p1) (l6 .i64 (ak .i64 p2 1) 2)) (
 some ((),(([],()),(0,()),(false,()),()))
 ) (
 (JW p0 p1 p2 [] p1).bind (Sum.elim (fun y1 =>
 cond (aq (fI y1.2.2.1 2) 1) (
 cond (aU 0 y1.2.2.2.1) (
 cond (!(aq (dy y1.2.2.2.1 0) 48)) (
 some ((),(([],()),(0,()),(false,()),()))
 ) (
 let u2:=(ae y1.2.2.2.1)
 cond (dO 1 u2 y1.2.2.2.1) (
 let u3:=(sub y1.2.2.2.1 1 u2)
 (qe u3).bind fun y2 =>
 cond (!y2.2.1.1) (
 some ((),(([],()),(0,()),(false,()),()))
 ) (
 some ((),((u3,()),((ak .i64 y1.2.1 (l6 .i64 (ak .i64 y1.2.2.1 1) 2)),()),(true,()),()))
 )
 ) none
 )
 ) none
 ) (
 (qe y1.2.2.2.1).bind fun y2 =>
 cond (!y2.2.1.1) (
 some ((),(([],()),(0,()),(false,()),()))
 ) (
 some ((),((y1.2.2.2.1,()),((ak .i64 y1.2.1 (l6 .i64 (ak .i64 y1.2.2.1 1) 2)),()),(true,()),()))
 )
 )
 ) (fun y1 =>
 none
 ))
 )
 )
def XQ:Su:=⟨[.c false [.sl 5 fK],.c false aJ,.c false aJ],[(false,[.str]),(false,aJ),(false,[.bool])],true,.inl fun x=>vr x.1.1 x.2.1.1 x.2.2.1.1⟩
theorem Ip:ar Tryz.prog 149 XQ :=
 fl (ac sU an) [] [(0,⟨[.d 0 (.sl 5 fK),.d 1 (.int .i64),.d 2 (.int .i64),.d 9 (.str),.d 10 (.int .i64)],ah (gz od)⟩)] [] Tryz.f149 (lp [0] (sc cX sn))
def rZ (t0:List R5) (t1:Int) (t7:List R3) (t8:Int):Rd ((List R5)×Int×(List R3)×Int×Unit) Unit :=
 cond (bD t8 64) (
 let u1:=(aH .i64 t8 1)
 let u2:=(ak .i64 t1 (l6 .i64 u1 8))
 cond (aU u2 t0) (
 let u3:=(aH .i64 7 (fI u1 8))
 cond (bD 0 u3) (
 cond (aq (fI (iK .i64 (bG .i64 (gt d5 t0 u2).1) u3) 2) 1) (
 cond (cT 8 t7 [(t8,())]) (
 let u4:=(ak .i64 t8 1)
 some (.inl (t0,t1,(ll t7 [(t8,())]),u4,()))
 ) none
 ) (
 let u4:=(ak .i64 t8 1)
 some (.inl (t0,t1,t7,u4,()))
 )
 ) none
 ) none
 ) (
 some (.inr (.inl (t0,t1,t7,t8,())))
 )
def JY:=nh (ah (dh rZ))
def CH (p0:List R5) (p1:Int):Option ZP :=
 cond (cond (au p1 0) true (au (aH .i64 (ae p0) 8) p1)) (
 some ((),(([],()),(0,()),(false,()),()))
 ) (
 (JY p0 p1 [] 1).bind (Sum.elim (fun y1 =>
 some ((),((y1.2.2.1,()),((ak .i64 y1.2.1 8),()),(true,()),()))
 ) (fun y1 =>
 none
 ))
 )
def WB:Su:=⟨[.c false [.sl 5 fK],.c false aJ],[(false,fU),(false,aJ),(false,[.bool])],true,.inl fun x=>CH x.1.1 x.2.1.1⟩
theorem TP:ar Tryz.prog 199 WB :=
 fl an [] [(0,⟨[.d 0 (.sl 5 fK),.d 1 (.int .i64),.own 7 (.sl 3 aJ),.d 8 (.int .i64)],ah (dh rZ)⟩)] [] Tryz.f199 (lp [0] (sc cX sn))
def FW (p0:Int):Option kf :=
 cond (aq p0 3) (
 some ((),((1,()),()))
 ) (
 cond (aq p0 4) (
 some ((),((1,()),()))
 ) (
 cond (aq p0 7) (
 some ((),((1,()),()))
 ) (
 cond (aq p0 11) (
 some ((),((1,()),()))
 ) (
 cond (aq p0 14) (
 some ((),((1,()),()))
 ) (
 cond (aq p0 49) (
 some ((),((1,()),()))
 ) (
 cond (aq p0 37) (
 some ((),((2,()),()))
 ) (
 cond (aq p0 38) (
 some ((),((2,()),()))
 ) (
 cond (aq p0 39) (
 some ((),((2,()),()))
 ) (
 cond (aq p0 41) (
 some ((),((2,()),()))
 ) (
 cond (aq p0 95) (
 some ((),((2,()),()))
 ) (
 cond (aq p0 2) (
 some ((),((3,()),()))
 ) (
 cond (aq p0 102) (
 some ((),((4,()),()))
 ) (
 cond (aq p0 103) (
 some ((),((4,()),()))
 ) (
 cond (aq p0 48) (
 some ((),((5,()),()))
 ) (
 cond (aq p0 54) (
 some ((),((5,()),()))
 ) (
 some ((),((0,()),()))
 )
 )
 )
 )
 )
 )
 )
 )
 )
 )
 )
 )
 )
 )
 )
 )
def Yq:Su:=⟨[.c false aJ],[(false,aJ)],true,.inl fun x=>FW x.1.1⟩
theorem Hj:ar Tryz.prog 200 Yq :=
 fq an Tryz.f200
def oQ (t0:List R5) (t6:Int) (t8:List R3) (t9:Bool) (t28:List R3) (t29 t30:Int):Rd ((List R5)×Int×(List R3)×Bool×(List R3)×Int×Int×Unit) XZ :=
 cond (au t30 t29) (
 cond (aU t30 t28) (
 let u1:=(gt d3 t28 t30)
 cond (aq u1.1 1) (
 let u2:=(ak .i64 t30 1)
 some (.inl (t0,t6,t8,true,t28,t29,u2,()))
 ) (
 cond (cT 8 t8 [u1]) (
 let u2:=(ak .i64 t30 1)
 some (.inl (t0,t6,(ll t8 [u1]),t9,t28,t29,u2,()))
 ) none
 )
 ) none
 ) (
 some (.inr (.inl (t0,t6,t8,t9,t28,t29,t30,())))
 )
def Hi:=VI (ah (Hp oQ))
def oC (t8:List R3) (t13:Int) (t56:List R3) (t57 t58:Int):Rd ((List R3)×Int×(List R3)×Int×Int×Unit) XZ :=
 cond (au t58 t57) (
 cond (aU t58 t56) (
 cond (cT 8 t8 [((ak .i64 (gt d3 t56 t58).1 64),())]) (
 some (.inl ((ll t8 [((ak .i64 (gt d3 t56 t58).1 64),())]),t13,t56,t57,(ak .i64 t58 1),()))
 ) none
 ) none
 ) (
 some (.inr (.inl (t8,t13,t56,t57,t58,())))
 )
def HT:=zz (ah (gz oC))
def ph (t69:Unit) (t6:Int) (t8:List R3) (t70 t71:Int):Rd (Unit×Int×(List R3)×Int×Int×Unit) XZ :=
 cond (au t71 t70) (
 cond (aU t71 t8) (
 (FW (gt d3 t8 t71).1).bind fun y1 =>
 cond (aq y1.2.1.1 0) (
 some (.inr (.inr ([],0,false,())))
 ) (
 some (.inl ((),t6,t8,t70,(ak .i64 t71 1),()))
 )
 ) none
 ) (
 some (.inr (.inl ((),t6,t8,t70,t71,())))
 )
def CC:=zz (ah (gz ph))
def Iu (p0:List R5):Option ZP :=
 (CH p0 2).bind fun y1 =>
 cond (!y1.2.2.2.1.1) (
 some ((),(([],()),(0,()),(false,()),()))
 ) (
 (Hi p0 y1.2.2.1.1 [] false y1.2.1.1 (ae y1.2.1.1) 0).bind (Sum.elim (fun y2 =>
 cond y2.2.2.2.1 (
 (CH y2.1 y2.2.1).bind fun y3 =>
 let u1:=(ae y3.2.1.1)
 cond (cond (!y3.2.2.2.1.1) true (aq u1 0)) (
 some ((),(([],()),(0,()),(false,()),()))
 ) (
 (HT y2.2.2.1 y3.2.2.1.1 y3.2.1.1 u1 0).bind (Sum.elim (fun y4 =>
 (CC () y4.2.1 y4.1 (ae y4.1) 0).bind (Sum.elim (fun y5 =>
 some ((),((y5.2.2.1,()),(y5.2.1,()),(true,()),()))
 ) (fun y5 =>
 some ((),((y5.1,()),(y5.2.1,()),(y5.2.2.1,()),()))
 ))
 ) (fun y4 =>
 some ((),((y4.1,()),(y4.2.1,()),(y4.2.2.1,()),()))
 ))
 )
 ) (
 (CC () y2.2.1 y2.2.2.1 (ae y2.2.2.1) 0).bind (Sum.elim (fun y3 =>
 some ((),((y3.2.2.1,()),(y3.2.1,()),(true,()),()))
 ) (fun y3 =>
 some ((),((y3.1,()),(y3.2.1,()),(y3.2.2.1,()),()))
 ))
 )
 ) (fun y2 =>
 some ((),((y2.1,()),(y2.2.1,()),(y2.2.2.1,()),()))
 ))
 )
def YV:Su:=⟨[.c false [.sl 5 fK]],[(false,fU),(false,aJ),(false,[.bool])],true,.inl fun x=>Iu x.1.1⟩
theorem U1:ar Tryz.prog 150 YV :=
 fl (ac TP (ac Hj an)) [.own 2 (.sl 3 aJ),.d 3 (.int .i64),.d 4 (.bool)] [(0,⟨[.d 0 (.sl 5 fK),.d 6 (.int .i64),.own 8 (.sl 3 aJ),.d 9 (.bool),.own 28 (.sl 3 aJ),.d 29 (.int .i64),.d 30 (.int .i64)],ah (Hp oQ)⟩),(2,⟨[.own 8 (.sl 3 aJ),.d 13 (.int .i64),.own 56 (.sl 3 aJ),.d 57 (.int .i64),.d 58 (.int .i64)],ah (gz oC)⟩),(4,⟨[.al 69 8,.d 6 (.int .i64),.own 8 (.sl 3 aJ),.d 70 (.int .i64),.d 71 (.int .i64)],ah (gz ph)⟩)] [] Tryz.f150 (lp [0,2,4] (sc cX (sc cX (sc cX sn))))
def Hg (p0:Int):Option kf :=
 cond (aq p0 2) (
 some ((),((19,()),()))
 ) (
 cond (aq p0 3) (
 some ((),((6,()),()))
 ) (
 cond (aq p0 11) (
 some ((),((6,()),()))
 ) (
 cond (aq p0 38) (
 some ((),((6,()),()))
 ) (
 cond (aq p0 4) (
 some ((),((12,()),()))
 ) (
 cond (aq p0 37) (
 some ((),((12,()),()))
 ) (
 cond (aq p0 95) (
 some ((),((12,()),()))
 ) (
 cond (aq p0 7) (
 some ((),((10,()),()))
 ) (
 cond (aq p0 14) (
 some ((),((4,()),()))
 ) (
 cond (aq p0 39) (
 some ((),((2,()),()))
 ) (
 cond (aq p0 41) (
 some ((),((8,()),()))
 ) (
 cond (aq p0 49) (
 some ((),((3,()),()))
 ) (
 cond (aq p0 102) (
 some ((),((20,()),()))
 ) (
 cond (aq p0 103) (
 some ((),((20,()),()))
 ) (
 cond (aq p0 48) (
 some ((),((60,()),()))
 ) (
 cond (aq p0 54) (
 some ((),((60,()),()))
 ) (
 some ((),((0,()),()))
 )
 )
 )
 )
 )
 )
 )
 )
 )
 )
 )
 )
 )
 )
 )
 )
def Wj:Su:=⟨[.c false aJ],[(false,aJ)],true,.inl fun x=>Hg x.1.1⟩
theorem Of:ar Tryz.prog 201 Wj :=
 fq an Tryz.f201
def UI (p0:Int):Option kf :=
 cond (aq p0 3) (
 some ((),((2,()),()))
 ) (
 cond (aq p0 4) (
 some ((),((2,()),()))
 ) (
 cond (aq p0 5) (
 some ((),((3,()),()))
 ) (
 some ((),((0,()),()))
 )
 )
 )
def Zq:Su:=⟨[.c false aJ],[(false,aJ)],true,.inl fun x=>UI x.1.1⟩
theorem UL:ar Tryz.prog 202 Zq :=
 fq an Tryz.f202
def pO (t0:List UInt8) (t4 t5:Int):Rd RL Unit :=
 cond (au t5 (ae t0)) (
 cond (aU t5 t0) (
 some (.inl (t0,(aH .i64 (ak .i64 (jY .i64 t4 10) (bG .i64 (dy t0 t5))) 48),(ak .i64 t5 1),()))
 ) none
 ) (
 some (.inr (.inl (t0,t4,t5,())))
 )
def HE:=lM (ah (dC pO))
def tE (p0:List UInt8):Option Ys :=
 (qe p0).bind fun y1 =>
 cond (cond (!y1.2.1.1) true (au 18 (ae p0))) (
 some ((),((0,()),(false,()),()))
 ) (
 (HE p0 0 0).bind (Sum.elim (fun y2 =>
 some ((),((y2.2.1,()),(true,()),()))
 ) (fun y2 =>
 none
 ))
 )
def Za:Su:=⟨[.c false [.str]],[(false,aJ),(false,[.bool])],true,.inl fun x=>tE x.1.1⟩
theorem N5:ar Tryz.prog 159 Za :=
 fl (ac sU an) [] [(0,⟨[.d 0 (.str),.d 4 (.int .i64),.d 5 (.int .i64)],ah (dC pO)⟩)] [] Tryz.f159 (lp [0] (sc cX sn))
def Hb (p0:List R5) (p1 p2:Int):Option (Unit×(Y0×Y0×Y1×Unit)) :=
 cond (cond (!(aq p2 2)) (!(aq p2 3)) false) (
 some ((),((0,()),(0,()),(false,()),()))
 ) (
 (vr p0 p1 p2).bind fun y1 =>
 (tE y1.2.1.1).bind fun y2 =>
 some ((),(y2.2.1,y1.2.2.1,y1.2.2.2.1,()))
 )
def ZA:Su:=⟨[.c false [.sl 5 fK],.c false aJ,.c false aJ],[(false,aJ),(false,aJ),(false,[.bool])],true,.inl fun x=>Hb x.1.1 x.2.1.1 x.2.2.1.1⟩
theorem U4:ar Tryz.prog 203 ZA :=
 fq (ac Ip (ac N5 an)) Tryz.f203
def po (t0:List UInt8) (t3:Int):Rd Uk Y1 :=
 cond (au t3 (ae t0)) (
 cond (aU t3 t0) (
 let u1:=(dy t0 t3)
 cond (au u1 32) (
 some (.inr (.inr (false,())))
 ) (
 cond (aU t3 t0) (
 cond (au 126 u1) (
 some (.inr (.inr (false,())))
 ) (
 some (.inl (t0,(ak .i64 t3 1),()))
 )
 ) none
 )
 ) none
 ) (
 some (.inr (.inl (t0,t3,())))
 )
def JN:=OB (ah (wY po))
def zX (p0:List UInt8):Option eo :=
 (JN p0 0).bind (Sum.elim (fun y1 =>
 some ((),((true,()),()))
 ) (fun y1 =>
 some ((),(y1,()))
 ))
def Xt:Su:=⟨[.c false [.str]],[(false,[.bool])],true,.inl fun x=>zX x.1.1⟩
theorem Nz:ar Tryz.prog 204 Xt :=
 fl an [.d 2 (.bool)] [(0,⟨[.d 0 (.str),.d 3 (.int .i64)],ah (wY po)⟩)] [] Tryz.f204 (lp [0] (sc cX sn))
def Mw (p0:List R5) (p1 p2:Int):Option V6 :=
 (FW p2).bind fun y1 =>
 (Hg p2).bind fun y2 =>
 cond (cond (aq y1.2.1.1 0) true (au p1 0)) (
 some ((),(([],()),(0,()),(false,()),()))
 ) (
 let u1:=(UI y1.2.1.1)
 Option.bind u1 fun y3 =>
 cond (au 0 y3.2.1.1) (
 Option.bind u1 fun y4 =>
 (Hb p0 p1 y4.2.1.1).bind fun y5 =>
 cond (!y5.2.2.2.1.1) (
 some ((),(([],()),(0,()),(false,()),()))
 ) (
 (pU y5.2.1.1 1 y2.2.1.1).bind fun y6 =>
 cond (!y6.2.1.1) (
 some ((),(([],()),(0,()),(false,()),()))
 ) (
 let u2:=(cond (aq y1.2.1.1 1) true (aq y1.2.1.1 3))
 cond u2 (
 (vr p0 y5.2.2.1.1 y5.2.1.1).bind fun y7 =>
 some ((),(y7.2.1,y7.2.2.1,y7.2.2.2.1,()))
 ) (
 let u3:=(ae p0)
 cond (cond (au u3 y5.2.2.1.1) true (au (aH .i64 u3 y5.2.2.1.1) y5.2.1.1)) (
 some ((),(([],()),(0,()),(false,()),()))
 ) (
 let u4:=(ak .i64 y5.2.2.1.1 y5.2.1.1)
 let u5:=(dO y5.2.2.1.1 u4 p0)
 cond u5 (
 let u6:=(strOf (sub p0 y5.2.2.1.1 u4))
 (zX u6).bind fun y7 =>
 cond (!y7.2.1.1) (
 some ((),(([],()),(0,()),(false,()),()))
 ) (
 cond u5 (
 some ((),((u6,()),(u4,()),(true,()),()))
 ) none
 )
 ) none
 )
 )
 )
 )
 ) (
 let u2:=(cond (aq y1.2.1.1 1) true (aq y1.2.1.1 3))
 cond u2 (
 (vr p0 p1 y2.2.1.1).bind fun y4 =>
 some ((),(y4.2.1,y4.2.2.1,y4.2.2.2.1,()))
 ) (
 let u3:=(ae p0)
 cond (cond (au u3 p1) true (au (aH .i64 u3 p1) y2.2.1.1)) (
 some ((),(([],()),(0,()),(false,()),()))
 ) (
 let u4:=(ak .i64 p1 y2.2.1.1)
 let u5:=(dO p1 u4 p0)
 cond u5 (
 let u6:=(strOf (sub p0 p1 u4))
 (zX u6).bind fun y4 =>
 cond (!y4.2.1.1) (
 some ((),(([],()),(0,()),(false,()),()))
 ) (
 cond u5 (
 some ((),((u6,()),(u4,()),(true,()),()))
 ) none
 )
 ) none
 )
 )
 )
 )
def Xe:Su:=⟨[.c false [.sl 5 fK],.c false aJ,.c false aJ],[(false,[.str]),(false,aJ),(false,[.bool])],true,.inl fun x=>Mw x.1.1 x.2.1.1 x.2.2.1.1⟩
theorem Um:ar Tryz.prog 151 Xe :=
 fq (ac nG (ac Ip (ac Hj (ac Of (ac UL (ac U4 (ac Nz an))))))) Tryz.f151
def ot (t0:List R5) (t8:Int) (t35:List R3) (t36 t37:Int) (b2 b9:(List UInt8)×(List iq)×Unit):Rd ((List R5)×Int×(List R3)×Int×Int×DV×DV×Unit) Wc :=
 cond (au t37 t36) (
 cond (aU t37 t35) (
 (Mw t0 t8 (gt d3 t35 t37).1).bind fun y1 =>
 cond (!y1.2.2.2.1.1) (
 some (.inr (.inr (3,([],[],()),())))
 ) (
 cond (cT 24 b9.2.1 [((gt d3 t35 t37).1,y1.2.1.1,())]) (
 some (.inl (t0,y1.2.2.1.1,t35,t36,(ak .i64 t37 1),b2,(b9.1,(ll b9.2.1 [((gt d3 t35 t37).1,y1.2.1.1,())]),()),()))
 ) none
 )
 ) none
 ) (
 some (.inr (.inl (t0,t8,t35,t36,t37,b2,b9,())))
 )
def Jg:=VI (ah (Hp ot))
def Le (p0:List R5):Option (Unit×(DV×Y0×Unit)) :=
 (vr p0 0 4).bind fun y1 =>
 cond (!y1.2.2.2.1.1) (
 some ((),(([],[],()),(1,()),()))
 ) (
 (Iu p0).bind fun y2 =>
 cond (!y2.2.2.2.1.1) (
 some ((),(([],[],()),(2,()),()))
 ) (
 (Jg p0 y2.2.2.1.1 y2.2.1.1 (ae y2.2.1.1) 0 ([],[],()) (y1.2.1.1,[],())).bind (Sum.elim (fun y3 =>
 cond (!(aq y3.2.1 (ae y3.1))) (
 some ((),(([],[],()),(4,()),()))
 ) (
 some ((),(y3.2.2.2.2.2.2.1,(0,()),()))
 )
 ) (fun y3 =>
 some ((),(y3.2.1,(y3.1,()),()))
 ))
 )
 )
def YK:Su:=⟨[.c false [.sl 5 fK]],[(true,[.str,.sl 178 dH]),(false,aJ)],true,.inl fun x=>Le x.1.1⟩
theorem T3:ar Tryz.prog 119 YK :=
 fl (ac Ip (ac U1 (ac Um an))) [.d 3 (.int .i64),.box 2 [(false,.str),(true,.sl 178 dH)]] [(0,⟨[.d 0 (.sl 5 fK),.d 8 (.int .i64),.own 35 (.sl 3 aJ),.d 36 (.int .i64),.d 37 (.int .i64),.box 2 [(false,.str),(true,.sl 178 dH)],.box 9 [(false,.str),(true,.sl 178 dH)]],ah (Hp ot)⟩)] [] Tryz.f119 (lp [0] (sc cX sn))
def Lu (p0:Int) (p1:List UInt8):Option eo :=
 (Hg p0).bind fun y1 =>
 (FW p0).bind fun y2 =>
 cond (aq y2.2.1.1 1) (
 let u1:=(qe p1)
 Option.bind u1 fun y3 =>
 let u2:=(ae p1)
 some ((),(((cond y3.2.1.1 (aq u2 y1.2.1.1) false),()),()))
 ) (
 cond (aq y2.2.1.1 2) (
 let u1:=(zX p1)
 Option.bind u1 fun y3 =>
 let u2:=(ae p1)
 some ((),(((cond y3.2.1.1 (aq u2 y1.2.1.1) false),()),()))
 ) (
 cond (aq y2.2.1.1 3) (
 let u1:=(qe p1)
 Option.bind u1 fun y3 =>
 let u2:=(ae p1)
 some ((),(((cond y3.2.1.1 (bD u2 y1.2.1.1) false),()),()))
 ) (
 cond (aq y2.2.1.1 4) (
 let u1:=(zX p1)
 Option.bind u1 fun y3 =>
 cond y3.2.1.1 (
 let u2:=(ae p1)
 let u3:=(pU u2 1 y1.2.1.1)
 Option.bind u3 fun y4 =>
 some ((),(y4.2.1,()))
 ) (
 some ((),((false,()),()))
 )
 ) (
 cond (aq y2.2.1.1 5) (
 let u1:=(zX p1)
 Option.bind u1 fun y3 =>
 cond y3.2.1.1 (
 let u2:=(ae p1)
 let u3:=(pU u2 1 y1.2.1.1)
 Option.bind u3 fun y4 =>
 some ((),(y4.2.1,()))
 ) (
 some ((),((false,()),()))
 )
 ) (
 some ((),((false,()),()))
 )
 )
 )
 )
 )
def Y8:Su:=⟨[.c false aJ,.c false [.str]],[(false,[.bool])],true,.inl fun x=>Lu x.1.1 x.2.1.1⟩
theorem Tf:ar Tryz.prog 205 Y8 :=
 fq (ac nG (ac sU (ac Hj (ac Of (ac Nz an))))) Tryz.f205
def pH (t16:List iq) (t17 t18:Int) (b1:(List UInt8)×(List iq)×Unit):Rd ((List iq)×Int×Int×DV×Unit) Y1 :=
 cond (au t18 t17) (
 cond (aU t18 t16) (
 let u1:=(gt d178 t16 t18)
 (Lu u1.1 u1.2.1).bind fun y1 =>
 cond (!y1.2.1.1) (
 some (.inr (.inr (false,())))
 ) (
 cond (au 0 t18) (
 let u2:=(aH .i64 t18 1)
 cond (aU u2 b1.2.1) (
 cond (bD u1.1 (gt d178 b1.2.1 u2).1) (
 some (.inr (.inr (false,())))
 ) (
 some (.inl (t16,t17,(ak .i64 t18 1),b1,()))
 )
 ) none
 ) (
 some (.inl (t16,t17,(ak .i64 t18 1),b1,()))
 )
 )
 ) none
 ) (
 some (.inr (.inl (t16,t17,t18,b1,())))
 )
def CX:=nh (ah (dh pH))
def LC (p0:(List UInt8)×(List iq)×Unit):Option eo :=
 (qe p0.1).bind fun y1 =>
 cond (cond (!y1.2.1.1) true (!(aq (ae p0.1) 4))) (
 some ((),((false,()),()))
 ) (
 (CX p0.2.1 (ae p0.2.1) 0 p0).bind (Sum.elim (fun y2 =>
 some ((),((true,()),()))
 ) (fun y2 =>
 some ((),(y2,()))
 ))
 )
def Y5:Su:=⟨[.c true [.str,.sl 178 dH]],[(false,[.bool])],true,.inl fun x=>LC x.1⟩
theorem S2:ar Tryz.prog 152 Y5 :=
 fl (ac sU (ac Tf an)) [.d 2 (.bool)] [(0,⟨[.d 16 (.sl 178 dH),.d 17 (.int .i64),.d 18 (.int .i64),.box 1 [(false,.str),(false,.sl 178 dH)]],ah (dh pH)⟩)] [] Tryz.f152 (lp [0] (sc cX sn))
def Pq (p0:List UInt8):Option eo :=
 some ((),(((cond (cond (cq p0 [48,49,48,48]) true (cq p0 [48,50,48,48])) true (cq p0 [48,50,50,48])),()),()))
def WW:Su:=⟨[.c false [.str]],[(false,[.bool])],true,.inl fun x=>Pq x.1.1⟩
theorem UC:ar Tryz.prog 153 WW :=
 fq an Tryz.f153
def oe (t1:Int) (t9:List iq) (t10 t11:Int):Rd (Int×(List iq)×Int×Int×Unit) ((List UInt8)×Bool×Unit) :=
 cond (au t11 t10) (
 cond (aU t11 t9) (
 let u1:=(gt d178 t9 t11)
 cond (aq u1.1 t1) (
 some (.inr (.inr (u1.2.1,true,())))
 ) (
 some (.inl (t1,t9,t10,(ak .i64 t11 1),()))
 )
 ) none
 ) (
 some (.inr (.inl (t1,t9,t10,t11,())))
 )
def J1:=nh (ah (dh oe))
def j3 (p0:(List UInt8)×(List iq)×Unit) (p1:Int):Option (Unit×(Y7×Y1×Unit)) :=
 (J1 p1 p0.2.1 (ae p0.2.1) 0).bind (Sum.elim (fun y1 =>
 some ((),(([],()),(false,()),()))
 ) (fun y1 =>
 some ((),((y1.1,()),(y1.2.1,()),()))
 ))
def XV:Su:=⟨[.c true [.str,.sl 178 dH],.c false aJ],[(false,[.str]),(false,[.bool])],true,.inl fun x=>j3 x.1 x.2.1.1⟩
theorem Sy:ar Tryz.prog 154 XV :=
 fl an [.d 4 (.str),.d 5 (.bool)] [(0,⟨[.d 1 (.int .i64),.d 9 (.sl 178 dH),.d 10 (.int .i64),.d 11 (.int .i64)],ah (dh oe)⟩)] [] Tryz.f154 (lp [0] (sc cX sn))
def AZ (p0:Int):Option eo :=
 (pU p0 1 8).bind fun y1 =>
 some ((),(y1.2.1,()))
def YO:Su:=⟨[.c false aJ],[(false,[.bool])],true,.inl fun x=>AZ x.1.1⟩
theorem EP:ar Tryz.prog 208 YO :=
 fq (ac nG an) Tryz.f208
def Sq  : Option T2 :=
 some ((),(([([],()),([48,49,48,48],()),([48,49,48,48],()),([48,50,50,48],()),([48,50,50,48],()),([48,50,50,48],()),([48,50,48,48],()),([48,49,48,48],()),([48,50,48,48],())],()),()))
def WE:Su:=⟨[],[(false,[.sl 9 xA])],true,.inl fun x=>Sq ⟩
theorem SN:ar Tryz.prog 241 WE :=
 fq an Tryz.f241
def GK (p0:Int):Option Oz :=
 (AZ p0).bind fun y1 =>
 cond (!y1.2.1.1) (
 some ((),(([],()),()))
 ) (
 (Sq).bind fun y2 =>
 cond (aU p0 y2.2.1.1) (
 some ((),((gt d9 y2.2.1.1 p0),()))
 ) none
 )
def Wn:Su:=⟨[.c false aJ],[(false,[.str])],true,.inl fun x=>GK x.1.1⟩
theorem NX:ar Tryz.prog 206 Wn :=
 fq (ac EP (ac SN an)) Tryz.f206
def TA  : Option T2 :=
 some ((),(([([],()),([48,48],()),([48,50],()),([48,49],()),([48,48],()),([50,48],()),([52,48],()),([51,49],()),([57,48],())],()),()))
def Ye:Su:=⟨[],[(false,[.sl 9 xA])],true,.inl fun x=>TA ⟩
theorem Ui:ar Tryz.prog 242 Ye :=
 fq an Tryz.f242
def P7 (p0:Int):Option Oz :=
 (AZ p0).bind fun y1 =>
 cond (!y1.2.1.1) (
 some ((),(([],()),()))
 ) (
 (TA).bind fun y2 =>
 cond (aU p0 y2.2.1.1) (
 some ((),((gt d9 y2.2.1.1 p0),()))
 ) none
 )
def Yo:Su:=⟨[.c false aJ],[(false,[.str])],true,.inl fun x=>P7 x.1.1⟩
theorem Tp:ar Tryz.prog 207 Yo :=
 fq (ac EP (ac Ui an)) Tryz.f207
def wF (t0 t1:List UInt8) (t5:Int):Rd ((List UInt8)×(List UInt8)×Int×Unit) Y0 :=
 cond (bD t5 8) (
 (GK t5).bind fun y1 =>
 cond (cq y1.2.1.1 t0) (
 (P7 t5).bind fun y2 =>
 cond (dO 0 2 t1) (
 cond (cq y2.2.1.1 (sub t1 0 2)) (
 some (.inr (.inr (t5,())))
 ) (
 some (.inl (t0,t1,(ak .i64 t5 1),()))
 )
 ) none
 ) (
 some (.inl (t0,t1,(ak .i64 t5 1),()))
 )
 ) (
 some (.inr (.inl (t0,t1,t5,())))
 )
def I5:=lM (ah (dC wF))
def Jd (p0 p1:List UInt8):Option kf :=
 (I5 p0 p1 1).bind (Sum.elim (fun y1 =>
 some ((),((0,()),()))
 ) (fun y1 =>
 some ((),(y1,()))
 ))
def Yl:Su:=⟨[.c false [.str],.c false [.str]],[(false,aJ)],true,.inl fun x=>Jd x.1.1 x.2.1.1⟩
theorem TX:ar Tryz.prog 155 Yl :=
 fl (ac NX (ac Tp an)) [.d 4 (.int .i64)] [(0,⟨[.d 0 (.str),.d 1 (.str),.d 5 (.int .i64)],ah (dC wF)⟩)] [] Tryz.f155 (lp [0] (sc cX sn))
def Gn (p0:Int):Option eo :=
 (AZ p0).bind fun y1 =>
 some ((),(((cond y1.2.1.1 (au p0 7) false),()),()))
def Zi:Su:=⟨[.c false aJ],[(false,[.bool])],true,.inl fun x=>Gn x.1.1⟩
theorem OJ:ar Tryz.prog 156 Zi :=
 fq (ac EP an) Tryz.f156
def zr (t0:List UInt8) (t3:Int):Rd Uk Unit :=
 cond (au 0 t3) (
 let u1:=(aH .i64 t3 1)
 cond (aU u1 t0) (
 cond (aq (dy t0 u1) 32) (
 some (.inl (t0,u1,()))
 ) (
 some (.inr (.inl (t0,t3,())))
 )
 ) none
 ) (
 some (.inr (.inl (t0,t3,())))
 )
def Hc:=OB (ah (wY zr))
def Lh (p0:List UInt8):Option Oz :=
 (Hc p0 (ae p0)).bind (Sum.elim (fun y1 =>
 cond (dO 0 y1.2.1 y1.1) (
 some ((),(((sub y1.1 0 y1.2.1),()),()))
 ) none
 ) (fun y1 =>
 none
 ))
def XE:Su:=⟨[.c false [.str]],[(false,[.str])],true,.inl fun x=>Lh x.1.1⟩
theorem SA:ar Tryz.prog 157 XE :=
 fl an [] [(0,⟨[.d 0 (.str),.d 3 (.int .i64)],ah (wY zr)⟩)] [] Tryz.f157 (lp [0] (sc cX sn))
def By (p0:Int):Option eo :=
 (pU p0 1 4).bind fun y1 =>
 some ((),(y1.2.1,()))
def ZU:Su:=⟨[.c false aJ],[(false,[.bool])],true,.inl fun x=>By x.1.1⟩
theorem OT:ar Tryz.prog 158 ZU :=
 fq (ac nG an) Tryz.f158
def kK (p0:Int×(List UInt8)×(List UInt8)×(List UInt8)×(List UInt8)×(List UInt8)×Int×Int×Unit):Option eo :=
 (AZ p0.1).bind fun y1 =>
 cond (!y1.2.1.1) (
 some ((),((false,()),()))
 ) (
 (GK p0.1).bind fun y2 =>
 cond (!(cq p0.2.2.2.2.2.1 y2.2.1.1)) (
 some ((),((false,()),()))
 ) (
 (Fh p0.2.1).bind fun y3 =>
 cond (!y3.2.1.1) (
 some ((),((false,()),()))
 ) (
 (qe p0.2.2.2.2.1).bind fun y4 =>
 cond (cond (!y4.2.1.1) true (!(aq (ae p0.2.2.2.2.1) 6))) (
 some ((),((false,()),()))
 ) (
 let u1:=(Gn p0.1)
 Option.bind u1 fun y5 =>
 cond y5.2.1.1 (
 (Kc p0.2.2.2.1).bind fun y6 =>
 cond (!y6.2.1.1) (
 some ((),((false,()),()))
 ) (
 Option.bind u1 fun y7 =>
 cond (cond (!y7.2.1.1) (!(cq p0.2.2.2.1 [])) false) (
 some ((),((false,()),()))
 ) (
 let u2:=(By p0.1)
 Option.bind u2 fun y8 =>
 cond y8.2.1.1 (
 let u3:=(pU p0.2.2.2.2.2.2.1 0 999999999999)
 Option.bind u3 fun y9 =>
 cond (!y9.2.1.1) (
 some ((),((false,()),()))
 ) (
 Option.bind u2 fun y10 =>
 cond (cond (!y10.2.1.1) (!(aq p0.2.2.2.2.2.2.1 0)) false) (
 some ((),((false,()),()))
 ) (
 cond (aq p0.1 1) (
 let u4:=(pU p0.2.2.2.2.2.2.2.1 0 9999)
 Option.bind u4 fun y11 =>
 cond (!y11.2.1.1) (
 some ((),((false,()),()))
 ) (
 let u5:=(cond (!(aq p0.1 1)) (!(aq p0.2.2.2.2.2.2.2.1 0)) false)
 cond u5 (
 some ((),((false,()),()))
 ) (
 cond (aq p0.1 6) (
 let u6:=(Fh p0.2.2.1)
 Option.bind u6 fun y12 =>
 cond y12.2.1.1 (
 some ((),((true,()),()))
 ) (
 some ((),(((cond (!(aq p0.1 6)) (cq p0.2.2.1 []) false),()),()))
 )
 ) (
 some ((),(((cond (!(aq p0.1 6)) (cq p0.2.2.1 []) false),()),()))
 )
 )
 )
 ) (
 let u4:=(cond (!(aq p0.1 1)) (!(aq p0.2.2.2.2.2.2.2.1 0)) false)
 cond u4 (
 some ((),((false,()),()))
 ) (
 cond (aq p0.1 6) (
 let u5:=(Fh p0.2.2.1)
 Option.bind u5 fun y11 =>
 cond y11.2.1.1 (
 some ((),((true,()),()))
 ) (
 some ((),(((cond (!(aq p0.1 6)) (cq p0.2.2.1 []) false),()),()))
 )
 ) (
 some ((),(((cond (!(aq p0.1 6)) (cq p0.2.2.1 []) false),()),()))
 )
 )
 )
 )
 )
 ) (
 Option.bind u2 fun y9 =>
 let u3:=(cond (!y9.2.1.1) (!(aq p0.2.2.2.2.2.2.1 0)) false)
 cond u3 (
 some ((),((false,()),()))
 ) (
 cond (aq p0.1 1) (
 let u4:=(pU p0.2.2.2.2.2.2.2.1 0 9999)
 Option.bind u4 fun y10 =>
 cond (!y10.2.1.1) (
 some ((),((false,()),()))
 ) (
 let u5:=(cond (!(aq p0.1 1)) (!(aq p0.2.2.2.2.2.2.2.1 0)) false)
 cond u5 (
 some ((),((false,()),()))
 ) (
 cond (aq p0.1 6) (
 let u6:=(Fh p0.2.2.1)
 Option.bind u6 fun y11 =>
 cond y11.2.1.1 (
 some ((),((true,()),()))
 ) (
 some ((),(((cond (!(aq p0.1 6)) (cq p0.2.2.1 []) false),()),()))
 )
 ) (
 some ((),(((cond (!(aq p0.1 6)) (cq p0.2.2.1 []) false),()),()))
 )
 )
 )
 ) (
 let u4:=(cond (!(aq p0.1 1)) (!(aq p0.2.2.2.2.2.2.2.1 0)) false)
 cond u4 (
 some ((),((false,()),()))
 ) (
 cond (aq p0.1 6) (
 let u5:=(Fh p0.2.2.1)
 Option.bind u5 fun y10 =>
 cond y10.2.1.1 (
 some ((),((true,()),()))
 ) (
 some ((),(((cond (!(aq p0.1 6)) (cq p0.2.2.1 []) false),()),()))
 )
 ) (
 some ((),(((cond (!(aq p0.1 6)) (cq p0.2.2.1 []) false),()),()))
 )
 )
 )
 )
 )
 )
 )
 ) (
 Option.bind u1 fun y6 =>
 cond (cond (!y6.2.1.1) (!(cq p0.2.2.2.1 [])) false) (
 some ((),((false,()),()))
 ) (
 let u2:=(By p0.1)
 Option.bind u2 fun y7 =>
 cond y7.2.1.1 (
 let u3:=(pU p0.2.2.2.2.2.2.1 0 999999999999)
 Option.bind u3 fun y8 =>
 cond (!y8.2.1.1) (
 some ((),((false,()),()))
 ) (
 Option.bind u2 fun y9 =>
 let u4:=(cond (!y9.2.1.1) (!(aq p0.2.2.2.2.2.2.1 0)) false)
 cond u4 (
 some ((),((false,()),()))
 ) (
 cond (aq p0.1 1) (
 let u5:=(pU p0.2.2.2.2.2.2.2.1 0 9999)
 Option.bind u5 fun y10 =>
 cond (!y10.2.1.1) (
 some ((),((false,()),()))
 ) (
 let u6:=(cond (!(aq p0.1 1)) (!(aq p0.2.2.2.2.2.2.2.1 0)) false)
 cond u6 (
 some ((),((false,()),()))
 ) (
 cond (aq p0.1 6) (
 let u7:=(Fh p0.2.2.1)
 Option.bind u7 fun y11 =>
 cond y11.2.1.1 (
 some ((),((true,()),()))
 ) (
 some ((),(((cond (!(aq p0.1 6)) (cq p0.2.2.1 []) false),()),()))
 )
 ) (
 some ((),(((cond (!(aq p0.1 6)) (cq p0.2.2.1 []) false),()),()))
 )
 )
 )
 ) (
 let u5:=(cond (!(aq p0.1 1)) (!(aq p0.2.2.2.2.2.2.2.1 0)) false)
 cond u5 (
 some ((),((false,()),()))
 ) (
 cond (aq p0.1 6) (
 let u6:=(Fh p0.2.2.1)
 Option.bind u6 fun y10 =>
 cond y10.2.1.1 (
 some ((),((true,()),()))
 ) (
 some ((),(((cond (!(aq p0.1 6)) (cq p0.2.2.1 []) false),()),()))
 )
 ) (
 some ((),(((cond (!(aq p0.1 6)) (cq p0.2.2.1 []) false),()),()))
 )
 )
 )
 )
 )
 ) (
 Option.bind u2 fun y8 =>
 cond (cond (!y8.2.1.1) (!(aq p0.2.2.2.2.2.2.1 0)) false) (
 some ((),((false,()),()))
 ) (
 cond (aq p0.1 1) (
 let u3:=(pU p0.2.2.2.2.2.2.2.1 0 9999)
 Option.bind u3 fun y9 =>
 cond (!y9.2.1.1) (
 some ((),((false,()),()))
 ) (
 let u4:=(cond (!(aq p0.1 1)) (!(aq p0.2.2.2.2.2.2.2.1 0)) false)
 cond u4 (
 some ((),((false,()),()))
 ) (
 cond (aq p0.1 6) (
 let u5:=(Fh p0.2.2.1)
 Option.bind u5 fun y10 =>
 cond y10.2.1.1 (
 some ((),((true,()),()))
 ) (
 some ((),(((cond (!(aq p0.1 6)) (cq p0.2.2.1 []) false),()),()))
 )
 ) (
 some ((),(((cond (!(aq p0.1 6)) (cq p0.2.2.1 []) false),()),()))
 )
 )
 )
 ) (
 let u3:=(cond (!(aq p0.1 1)) (!(aq p0.2.2.2.2.2.2.2.1 0)) false)
 cond u3 (
 some ((),((false,()),()))
 ) (
 cond (aq p0.1 6) (
 let u4:=(Fh p0.2.2.1)
 Option.bind u4 fun y9 =>
 cond y9.2.1.1 (
 some ((),((true,()),()))
 ) (
 some ((),(((cond (!(aq p0.1 6)) (cq p0.2.2.1 []) false),()),()))
 )
 ) (
 some ((),(((cond (!(aq p0.1 6)) (cq p0.2.2.1 []) false),()),()))
 )
 )
 )
 )
 )
 )
 )
 )
 )
 )
 )
def Wl:Su:=⟨[.c true [.int .i64,.str,.str,.str,.str,.str,.int .i64,.int .i64]],[(false,[.bool])],true,.inl fun x=>kK x.1⟩
theorem RY:ar Tryz.prog 160 Wl :=
 fq (ac nG (ac sU (ac Sm (ac NI (ac EP (ac NX (ac OJ (ac OT an)))))))) Tryz.f160
def KK (p0:(List UInt8)×(List iq)×Unit):Option (Unit×(TJ×Y0×Unit)) :=
 (LC p0).bind fun y1 =>
 cond (!y1.2.1.1) (
 some ((),((0,[],[],[],[],[],0,0,()),(1,()),()))
 ) (
 (Pq p0.1).bind fun y2 =>
 cond (!y2.2.1.1) (
 some ((),((0,[],[],[],[],[],0,0,()),(2,()),()))
 ) (
 (j3 p0 3).bind fun y3 =>
 cond (!y3.2.2.1.1) (
 some ((),((0,[],[],[],[],[],0,0,()),(1,()),()))
 ) (
 (Jd p0.1 y3.2.1.1).bind fun y4 =>
 (j3 p0 2).bind fun y5 =>
 (j3 p0 11).bind fun y6 =>
 (Gn y4.2.1.1).bind fun y7 =>
 cond y7.2.1.1 (
 (j3 p0 38).bind fun y8 =>
 (Lh y8.2.1.1).bind fun y9 =>
 let u1:=(By y4.2.1.1)
 Option.bind u1 fun y10 =>
 cond y10.2.1.1 (
 let u2:=(j3 p0 4)
 Option.bind u2 fun y11 =>
 let u3:=(tE y11.2.1.1)
 Option.bind u3 fun y12 =>
 cond (aq y4.2.1.1 1) (
 let u4:=(j3 p0 14)
 Option.bind u4 fun y13 =>
 (tE y13.2.1.1).bind fun y14 =>
 cond (aq y4.2.1.1 6) (
 let u5:=(j3 p0 103)
 Option.bind u5 fun y15 =>
 let u6:=(cond y3.2.2.1.1 y11.2.2.1.1 false)
 cond (!(cond u6 y13.2.2.1.1 false)) (
 some ((),((0,[],[],[],[],[],0,0,()),(1,()),()))
 ) (
 (kK (y4.2.1.1,y5.2.1.1,y15.2.1.1,y9.2.1.1,y6.2.1.1,p0.1,y12.2.1.1,y14.2.1.1,())).bind fun y16 =>
 cond (!y16.2.1.1) (
 some ((),((0,[],[],[],[],[],0,0,()),(1,()),()))
 ) (
 some ((),((y4.2.1.1,y5.2.1.1,y15.2.1.1,y9.2.1.1,y6.2.1.1,p0.1,y12.2.1.1,y14.2.1.1,()),(0,()),()))
 )
 )
 ) (
 let u5:=(cond y3.2.2.1.1 y11.2.2.1.1 false)
 cond (!(cond u5 y13.2.2.1.1 false)) (
 some ((),((0,[],[],[],[],[],0,0,()),(1,()),()))
 ) (
 (kK (y4.2.1.1,y5.2.1.1,[],y9.2.1.1,y6.2.1.1,p0.1,y12.2.1.1,y14.2.1.1,())).bind fun y15 =>
 cond (!y15.2.1.1) (
 some ((),((0,[],[],[],[],[],0,0,()),(1,()),()))
 ) (
 some ((),((y4.2.1.1,y5.2.1.1,[],y9.2.1.1,y6.2.1.1,p0.1,y12.2.1.1,y14.2.1.1,()),(0,()),()))
 )
 )
 )
 ) (
 cond (aq y4.2.1.1 6) (
 let u4:=(j3 p0 103)
 Option.bind u4 fun y13 =>
 let u5:=(cond y3.2.2.1.1 y11.2.2.1.1 false)
 cond (!u5) (
 some ((),((0,[],[],[],[],[],0,0,()),(1,()),()))
 ) (
 (kK (y4.2.1.1,y5.2.1.1,y13.2.1.1,y9.2.1.1,y6.2.1.1,p0.1,y12.2.1.1,0,())).bind fun y14 =>
 cond (!y14.2.1.1) (
 some ((),((0,[],[],[],[],[],0,0,()),(1,()),()))
 ) (
 some ((),((y4.2.1.1,y5.2.1.1,y13.2.1.1,y9.2.1.1,y6.2.1.1,p0.1,y12.2.1.1,0,()),(0,()),()))
 )
 )
 ) (
 let u4:=(cond y3.2.2.1.1 y11.2.2.1.1 false)
 cond (!u4) (
 some ((),((0,[],[],[],[],[],0,0,()),(1,()),()))
 ) (
 (kK (y4.2.1.1,y5.2.1.1,[],y9.2.1.1,y6.2.1.1,p0.1,y12.2.1.1,0,())).bind fun y13 =>
 cond (!y13.2.1.1) (
 some ((),((0,[],[],[],[],[],0,0,()),(1,()),()))
 ) (
 some ((),((y4.2.1.1,y5.2.1.1,[],y9.2.1.1,y6.2.1.1,p0.1,y12.2.1.1,0,()),(0,()),()))
 )
 )
 )
 )
 ) (
 cond (aq y4.2.1.1 1) (
 let u2:=(j3 p0 14)
 Option.bind u2 fun y11 =>
 let u3:=(tE y11.2.1.1)
 Option.bind u3 fun y12 =>
 cond (aq y4.2.1.1 6) (
 let u4:=(j3 p0 103)
 Option.bind u4 fun y13 =>
 let u5:=(cond y3.2.2.1.1 y11.2.2.1.1 false)
 cond (!u5) (
 some ((),((0,[],[],[],[],[],0,0,()),(1,()),()))
 ) (
 (kK (y4.2.1.1,y5.2.1.1,y13.2.1.1,y9.2.1.1,y6.2.1.1,p0.1,0,y12.2.1.1,())).bind fun y14 =>
 cond (!y14.2.1.1) (
 some ((),((0,[],[],[],[],[],0,0,()),(1,()),()))
 ) (
 some ((),((y4.2.1.1,y5.2.1.1,y13.2.1.1,y9.2.1.1,y6.2.1.1,p0.1,0,y12.2.1.1,()),(0,()),()))
 )
 )
 ) (
 let u4:=(cond y3.2.2.1.1 y11.2.2.1.1 false)
 cond (!u4) (
 some ((),((0,[],[],[],[],[],0,0,()),(1,()),()))
 ) (
 (kK (y4.2.1.1,y5.2.1.1,[],y9.2.1.1,y6.2.1.1,p0.1,0,y12.2.1.1,())).bind fun y13 =>
 cond (!y13.2.1.1) (
 some ((),((0,[],[],[],[],[],0,0,()),(1,()),()))
 ) (
 some ((),((y4.2.1.1,y5.2.1.1,[],y9.2.1.1,y6.2.1.1,p0.1,0,y12.2.1.1,()),(0,()),()))
 )
 )
 )
 ) (
 cond (aq y4.2.1.1 6) (
 let u2:=(j3 p0 103)
 Option.bind u2 fun y11 =>
 cond (!y3.2.2.1.1) (
 some ((),((0,[],[],[],[],[],0,0,()),(1,()),()))
 ) (
 (kK (y4.2.1.1,y5.2.1.1,y11.2.1.1,y9.2.1.1,y6.2.1.1,p0.1,0,0,())).bind fun y12 =>
 cond (!y12.2.1.1) (
 some ((),((0,[],[],[],[],[],0,0,()),(1,()),()))
 ) (
 some ((),((y4.2.1.1,y5.2.1.1,y11.2.1.1,y9.2.1.1,y6.2.1.1,p0.1,0,0,()),(0,()),()))
 )
 )
 ) (
 cond (!y3.2.2.1.1) (
 some ((),((0,[],[],[],[],[],0,0,()),(1,()),()))
 ) (
 (kK (y4.2.1.1,y5.2.1.1,[],y9.2.1.1,y6.2.1.1,p0.1,0,0,())).bind fun y11 =>
 cond (!y11.2.1.1) (
 some ((),((0,[],[],[],[],[],0,0,()),(1,()),()))
 ) (
 some ((),((y4.2.1.1,y5.2.1.1,[],y9.2.1.1,y6.2.1.1,p0.1,0,0,()),(0,()),()))
 )
 )
 )
 )
 )
 ) (
 let u1:=(By y4.2.1.1)
 Option.bind u1 fun y8 =>
 cond y8.2.1.1 (
 let u2:=(j3 p0 4)
 Option.bind u2 fun y9 =>
 let u3:=(tE y9.2.1.1)
 Option.bind u3 fun y10 =>
 cond (aq y4.2.1.1 1) (
 let u4:=(j3 p0 14)
 Option.bind u4 fun y11 =>
 let u5:=(tE y11.2.1.1)
 Option.bind u5 fun y12 =>
 cond (aq y4.2.1.1 6) (
 let u6:=(j3 p0 103)
 Option.bind u6 fun y13 =>
 let u7:=(cond y3.2.2.1.1 y9.2.2.1.1 false)
 cond (!(cond u7 y11.2.2.1.1 false)) (
 some ((),((0,[],[],[],[],[],0,0,()),(1,()),()))
 ) (
 (kK (y4.2.1.1,y5.2.1.1,y13.2.1.1,[],y6.2.1.1,p0.1,y10.2.1.1,y12.2.1.1,())).bind fun y14 =>
 cond (!y14.2.1.1) (
 some ((),((0,[],[],[],[],[],0,0,()),(1,()),()))
 ) (
 some ((),((y4.2.1.1,y5.2.1.1,y13.2.1.1,[],y6.2.1.1,p0.1,y10.2.1.1,y12.2.1.1,()),(0,()),()))
 )
 )
 ) (
 let u6:=(cond y3.2.2.1.1 y9.2.2.1.1 false)
 cond (!(cond u6 y11.2.2.1.1 false)) (
 some ((),((0,[],[],[],[],[],0,0,()),(1,()),()))
 ) (
 (kK (y4.2.1.1,y5.2.1.1,[],[],y6.2.1.1,p0.1,y10.2.1.1,y12.2.1.1,())).bind fun y13 =>
 cond (!y13.2.1.1) (
 some ((),((0,[],[],[],[],[],0,0,()),(1,()),()))
 ) (
 some ((),((y4.2.1.1,y5.2.1.1,[],[],y6.2.1.1,p0.1,y10.2.1.1,y12.2.1.1,()),(0,()),()))
 )
 )
 )
 ) (
 cond (aq y4.2.1.1 6) (
 let u4:=(j3 p0 103)
 Option.bind u4 fun y11 =>
 let u5:=(cond y3.2.2.1.1 y9.2.2.1.1 false)
 cond (!u5) (
 some ((),((0,[],[],[],[],[],0,0,()),(1,()),()))
 ) (
 (kK (y4.2.1.1,y5.2.1.1,y11.2.1.1,[],y6.2.1.1,p0.1,y10.2.1.1,0,())).bind fun y12 =>
 cond (!y12.2.1.1) (
 some ((),((0,[],[],[],[],[],0,0,()),(1,()),()))
 ) (
 some ((),((y4.2.1.1,y5.2.1.1,y11.2.1.1,[],y6.2.1.1,p0.1,y10.2.1.1,0,()),(0,()),()))
 )
 )
 ) (
 let u4:=(cond y3.2.2.1.1 y9.2.2.1.1 false)
 cond (!u4) (
 some ((),((0,[],[],[],[],[],0,0,()),(1,()),()))
 ) (
 (kK (y4.2.1.1,y5.2.1.1,[],[],y6.2.1.1,p0.1,y10.2.1.1,0,())).bind fun y11 =>
 cond (!y11.2.1.1) (
 some ((),((0,[],[],[],[],[],0,0,()),(1,()),()))
 ) (
 some ((),((y4.2.1.1,y5.2.1.1,[],[],y6.2.1.1,p0.1,y10.2.1.1,0,()),(0,()),()))
 )
 )
 )
 )
 ) (
 cond (aq y4.2.1.1 1) (
 let u2:=(j3 p0 14)
 Option.bind u2 fun y9 =>
 let u3:=(tE y9.2.1.1)
 Option.bind u3 fun y10 =>
 cond (aq y4.2.1.1 6) (
 let u4:=(j3 p0 103)
 Option.bind u4 fun y11 =>
 let u5:=(cond y3.2.2.1.1 y9.2.2.1.1 false)
 cond (!u5) (
 some ((),((0,[],[],[],[],[],0,0,()),(1,()),()))
 ) (
 (kK (y4.2.1.1,y5.2.1.1,y11.2.1.1,[],y6.2.1.1,p0.1,0,y10.2.1.1,())).bind fun y12 =>
 cond (!y12.2.1.1) (
 some ((),((0,[],[],[],[],[],0,0,()),(1,()),()))
 ) (
 some ((),((y4.2.1.1,y5.2.1.1,y11.2.1.1,[],y6.2.1.1,p0.1,0,y10.2.1.1,()),(0,()),()))
 )
 )
 ) (
 let u4:=(cond y3.2.2.1.1 y9.2.2.1.1 false)
 cond (!u4) (
 some ((),((0,[],[],[],[],[],0,0,()),(1,()),()))
 ) (
 (kK (y4.2.1.1,y5.2.1.1,[],[],y6.2.1.1,p0.1,0,y10.2.1.1,())).bind fun y11 =>
 cond (!y11.2.1.1) (
 some ((),((0,[],[],[],[],[],0,0,()),(1,()),()))
 ) (
 some ((),((y4.2.1.1,y5.2.1.1,[],[],y6.2.1.1,p0.1,0,y10.2.1.1,()),(0,()),()))
 )
 )
 )
 ) (
 cond (aq y4.2.1.1 6) (
 let u2:=(j3 p0 103)
 Option.bind u2 fun y9 =>
 cond (!y3.2.2.1.1) (
 some ((),((0,[],[],[],[],[],0,0,()),(1,()),()))
 ) (
 (kK (y4.2.1.1,y5.2.1.1,y9.2.1.1,[],y6.2.1.1,p0.1,0,0,())).bind fun y10 =>
 cond (!y10.2.1.1) (
 some ((),((0,[],[],[],[],[],0,0,()),(1,()),()))
 ) (
 some ((),((y4.2.1.1,y5.2.1.1,y9.2.1.1,[],y6.2.1.1,p0.1,0,0,()),(0,()),()))
 )
 )
 ) (
 cond (!y3.2.2.1.1) (
 some ((),((0,[],[],[],[],[],0,0,()),(1,()),()))
 ) (
 (kK (y4.2.1.1,y5.2.1.1,[],[],y6.2.1.1,p0.1,0,0,())).bind fun y9 =>
 cond (!y9.2.1.1) (
 some ((),((0,[],[],[],[],[],0,0,()),(1,()),()))
 ) (
 some ((),((y4.2.1.1,y5.2.1.1,[],[],y6.2.1.1,p0.1,0,0,()),(0,()),()))
 )
 )
 )
 )
 )
 )
 )
 )
 )
def Xq:Su:=⟨[.c true [.str,.sl 178 dH]],[(true,[.int .i64,.str,.str,.str,.str,.str,.int .i64,.int .i64]),(false,aJ)],true,.inl fun x=>KK x.1⟩
theorem UE:ar Tryz.prog 120 Xq :=
 fq (ac N5 (ac S2 (ac UC (ac Sy (ac TX (ac OJ (ac SA (ac OT (ac RY an))))))))) Tryz.f120
def V8 (p0:List R5):Option T2 :=
 (Le p0).bind fun y1 =>
 cond (!(aq y1.2.2.1.1 0)) (
 some ((),(([],()),()))
 ) (
 (KK y1.2.1).bind fun y2 =>
 cond (!(aq y2.2.2.1.1 0)) (
 some ((),(([],()),()))
 ) (
 cond (cond (!(aq y2.2.1.1 6)) true (cq y2.2.1.2.2.1 y2.2.1.2.1)) (
 some ((),(([(y2.2.1.2.1,())],()),()))
 ) (
 cond (kd y2.2.1.2.2.1 y2.2.1.2.1) (
 some ((),(([(y2.2.1.2.2.1,()),(y2.2.1.2.1,())],()),()))
 ) (
 some ((),(([(y2.2.1.2.1,()),(y2.2.1.2.2.1,())],()),()))
 )
 )
 )
 )
def s87:Su:=⟨[.c false [.sl 5 fK]],[(false,[.sl 9 xA])],true,.inl fun x=>V8 x.1.1⟩
theorem Xz:ar Tryz.prog 87 s87 :=
 fq (ac T3 (ac UE an)) Tryz.f87
def JP (t1:Int) (t5:List R3) (t8 t9:Int) (t12:List R9) (t13 t14:Int):Rd (Int×(List R3)×Int×Int×(List R9)×Int×Int×Unit) Unit :=
 cond (au t9 (ae t5)) (
 cond (aU t9 t5) (
 cond (au (gt d3 t5 t9).1 t8) (
 some (.inl (t1,t5,t8,(ak .i64 t9 1),t12,t13,t14,()))
 ) (
 some (.inr (.inl (t1,t5,t8,t9,t12,t13,t14,())))
 )
 ) none
 ) (
 some (.inr (.inl (t1,t5,t8,t9,t12,t13,t14,())))
 )
def yo:=VI (ah (Hp JP))
def sH (t1:Int) (t5:List R3) (t12:List R9) (t13 t14:Int):Rd (Int×(List R3)×(List R9)×Int×Int×Unit) Unit :=
 cond (au t14 t13) (
 cond (aU t14 t12) (
 (Ny (gt d9 t12 t14).1 t1).bind fun y1 =>
 (yo t1 t5 y1.2.1.1 0 t12 t13 t14).bind (Sum.elim (fun y2 =>
 let u1:=(ae y2.2.1)
 cond (au y2.2.2.2.1 u1) (
 cond (aU y2.2.2.2.1 y2.2.1) (
 cond (aq (gt d3 y2.2.1 y2.2.2.2.1).1 y2.2.2.1) (
 let u2:=(ak .i64 y2.2.2.2.2.2.2.1 1)
 some (.inl (y2.1,y2.2.1,y2.2.2.2.2.1,y2.2.2.2.2.2.1,u2,()))
 ) (
 let u2:=(dO 0 y2.2.2.2.1 y2.2.1)
 cond u2 (
 let u3:=(Nw y2.2.1 y2.2.2.2.1)
 let u4:=(cT 8 [] u3)
 cond u4 (
 let u5:=(ll [] u3)
 let u6:=(cT 8 u5 [(y2.2.2.1,())])
 cond u6 (
 let u7:=(dO y2.2.2.2.1 u1 y2.2.1)
 cond u7 (
 let u8:=(ll u5 [(y2.2.2.1,())])
 let u9:=(sub y2.2.1 y2.2.2.2.1 u1)
 let u10:=(cT 8 u8 u9)
 cond u10 (
 let u11:=(ak .i64 y2.2.2.2.2.2.2.1 1)
 some (.inl (y2.1,(ll u8 u9),y2.2.2.2.2.1,y2.2.2.2.2.2.1,u11,()))
 ) none
 ) none
 ) none
 ) none
 ) none
 )
 ) none
 ) (
 let u2:=(dO 0 y2.2.2.2.1 y2.2.1)
 cond u2 (
 let u3:=(Nw y2.2.1 y2.2.2.2.1)
 let u4:=(cT 8 [] u3)
 cond u4 (
 let u5:=(ll [] u3)
 let u6:=(cT 8 u5 [(y2.2.2.1,())])
 cond u6 (
 let u7:=(dO y2.2.2.2.1 u1 y2.2.1)
 cond u7 (
 let u8:=(ll u5 [(y2.2.2.1,())])
 let u9:=(sub y2.2.1 y2.2.2.2.1 u1)
 let u10:=(cT 8 u8 u9)
 cond u10 (
 let u11:=(ak .i64 y2.2.2.2.2.2.2.1 1)
 some (.inl (y2.1,(ll u8 u9),y2.2.2.2.2.1,y2.2.2.2.2.2.1,u11,()))
 ) none
 ) none
 ) none
 ) none
 ) none
 )
 ) (fun y2 =>
 some (.inr (.inr ()))
 ))
 ) none
 ) (
 some (.inr (.inl (t1,t5,t12,t13,t14,())))
 )
def D1:=zz (ah (gz sH))
def V3 (p0:List R9) (p1:Int):Option KF :=
 (D1 p1 [] p0 (ae p0) 0).bind (Sum.elim (fun y1 =>
 some ((),((y1.2.1,()),()))
 ) (fun y1 =>
 none
 ))
def s86:Su:=⟨[.c false [.sl 9 xA],.c false aJ],[(false,fU)],true,.inl fun x=>V3 x.1.1 x.2.1.1⟩
theorem ZK:ar Tryz.prog 86 s86 :=
 fl (ac To an) [] [(2,⟨[.d 1 (.int .i64),.own 5 (.sl 3 aJ),.d 8 (.int .i64),.d 9 (.int .i64),.d 12 (.sl 9 xA),.d 13 (.int .i64),.d 14 (.int .i64)],ah (Hp JP)⟩),(0,⟨[.d 1 (.int .i64),.own 5 (.sl 3 aJ),.d 12 (.sl 9 xA),.d 13 (.int .i64),.d 14 (.int .i64)],ah (gz sH)⟩)] [] Tryz.f86 (lp [0] (sc (lp [2] (sc cX sn)) sn))
def V2 (p0:(List R5)×Int×(List R3)×Int×Int×Int×Int×Int×(List R5)×Unit) (p1:Int):Option KF :=
 (V8 p0.1).bind fun y1 =>
 (V3 y1.2.1.1 p1).bind fun y2 =>
 some ((),(y2.2.1,()))
def s64:Su:=⟨[.c true gV,.c false aJ],[(false,fU)],true,.inl fun x=>V2 x.1 x.2.1.1⟩
theorem X3:ar Tryz.prog 64 s64 :=
 fq (ac Xz (ac ZK an)) Tryz.f64
def wM (t0 t1:List R3) (t12 t13:Int):Rd ((List R3)×(List R3)×Int×Int×Unit) Y1 :=
 cond (au t13 t12) (
 cond (aU t13 t0) (
 cond (aU t13 t1) (
 cond (!(aq (gt d3 t0 t13).1 (gt d3 t1 t13).1)) (
 some (.inr (.inr (false,())))
 ) (
 some (.inl (t0,t1,t12,(ak .i64 t13 1),()))
 )
 ) none
 ) none
 ) (
 some (.inr (.inl (t0,t1,t12,t13,())))
 )
def UO:=nh (ah (dh wM))
def V9 (p0 p1:List R3):Option eo :=
 let u1:=(ae p0)
 cond (!(aq u1 (ae p1))) (
 some ((),((false,()),()))
 ) (
 (UO p0 p1 u1 0).bind (Sum.elim (fun y1 =>
 some ((),((true,()),()))
 ) (fun y1 =>
 some ((),(y1,()))
 ))
 )
def s63:Su:=⟨[.c false fU,.c false fU],[(false,[.bool])],true,.inl fun x=>V9 x.1.1 x.2.1.1⟩
theorem WT:ar Tryz.prog 63 s63 :=
 fl an [.d 4 (.bool)] [(0,⟨[.d 0 (.sl 3 aJ),.d 1 (.sl 3 aJ),.d 12 (.int .i64),.d 13 (.int .i64)],ah (dh wM)⟩)] [] Tryz.f63 (lp [0] (sc cX sn))
def VM (p0:(List R5)×Int×(List R3)×Int×Int×Int×Int×Int×(List R5)×Unit) (p1:Int):Option eo :=
 (pU p1 1 5).bind fun y1 =>
 let u1:=(ae p0.2.2.2.2.2.2.2.2.1)
 cond (cond (cond (!y1.2.1.1) true (au 300 (ae p0.1))) true (au 200 u1)) (
 some ((),((false,()),()))
 ) (
 (GW p0.2.2.2.2.1).bind fun y2 =>
 cond (!y2.2.1.1) (
 some ((),((false,()),()))
 ) (
 (GW p0.2.2.2.2.2.2.2.1).bind fun y3 =>
 cond (!y3.2.1.1) (
 some ((),((false,()),()))
 ) (
 (pU p0.2.1 0 5).bind fun y4 =>
 cond (!y4.2.1.1) (
 some ((),((false,()),()))
 ) (
 (VD p0).bind fun y5 =>
 cond (!y5.2.1.1) (
 some ((),((false,()),()))
 ) (
 cond (cond (aq p0.2.1 0) (au 0 (ae p0.2.2.1)) false) (
 some ((),((false,()),()))
 ) (
 cond (!(aq p0.2.1 0)) (
 (V2 p0 p1).bind fun y6 =>
 (V9 p0.2.2.1 y6.2.1.1).bind fun y7 =>
 cond (!y7.2.1.1) (
 some ((),((false,()),()))
 ) (
 cond (bD p0.2.1 2) (
 some ((),(((cond (cond (cond (aq p0.2.2.2.2.2.1 (-1)) (aq p0.2.2.2.2.2.2.1 (-1)) false) (aq p0.2.2.2.2.2.2.2.1 0) false) (aq u1 0) false),()),()))
 ) (
 let u2:=(GW p0.2.2.2.2.2.1)
 Option.bind u2 fun y8 =>
 cond (cond (!y8.2.1.1) true (au p0.2.2.2.2.2.1 p0.2.2.2.2.1)) (
 some ((),((false,()),()))
 ) (
 cond (aq p0.2.1 5) (
 let u3:=(GW p0.2.2.2.2.2.2.1)
 Option.bind u3 fun y9 =>
 some ((),(((cond y9.2.1.1 (bD p0.2.2.2.2.2.1 p0.2.2.2.2.2.2.1) false),()),()))
 ) (
 some ((),(((aq p0.2.2.2.2.2.2.1 (-1)),()),()))
 )
 )
 )
 )
 ) (
 cond (bD p0.2.1 2) (
 some ((),(((cond (cond (cond (aq p0.2.2.2.2.2.1 (-1)) (aq p0.2.2.2.2.2.2.1 (-1)) false) (aq p0.2.2.2.2.2.2.2.1 0) false) (aq u1 0) false),()),()))
 ) (
 let u2:=(GW p0.2.2.2.2.2.1)
 Option.bind u2 fun y6 =>
 cond (cond (!y6.2.1.1) true (au p0.2.2.2.2.2.1 p0.2.2.2.2.1)) (
 some ((),((false,()),()))
 ) (
 cond (aq p0.2.1 5) (
 let u3:=(GW p0.2.2.2.2.2.2.1)
 Option.bind u3 fun y7 =>
 some ((),(((cond y7.2.1.1 (bD p0.2.2.2.2.2.1 p0.2.2.2.2.2.2.1) false),()),()))
 ) (
 some ((),(((aq p0.2.2.2.2.2.2.1 (-1)),()),()))
 )
 )
 )
 )
 )
 )
 )
 )
 )
 )
def Z9:Su:=⟨[.c true gV,.c false aJ],[(false,[.bool])],true,.inl fun x=>VM x.1 x.2.1.1⟩
theorem XG:ar Tryz.prog 33 Z9 :=
 fq (ac nG (ac LF (ac Wy (ac X3 (ac WT an))))) Tryz.f33
def uU (t1 t5:Int) (b2:(List R5)×Int×(List R3)×Int×Int×Int×Int×Int×(List R5)×Unit):Rd (Int×Int×nS×Unit) Y1 :=
 cond (cond (au t5 b2.2.2.2.1) (au t5 (ae b2.2.2.1)) false) (
 cond (aU t5 b2.2.2.1) (
 cond (aq (gt d3 b2.2.2.1 t5).1 t1) (
 some (.inr (.inr (true,())))
 ) (
 some (.inl (t1,(ak .i64 t5 1),b2,()))
 )
 ) none
 ) (
 some (.inr (.inl (t1,t5,b2,())))
 )
def Vf:=lM (ah (dC uU))
def VJ (p0:(List R5)×Int×(List R3)×Int×Int×Int×Int×Int×(List R5)×Unit) (p1:Int):Option eo :=
 (Vf p1 0 p0).bind (Sum.elim (fun y1 =>
 some ((),((false,()),()))
 ) (fun y1 =>
 some ((),(y1,()))
 ))
def s34:Su:=⟨[.c true gV,.c false aJ],[(false,[.bool])],true,.inl fun x=>VJ x.1 x.2.1.1⟩
theorem Ym:ar Tryz.prog 34 s34 :=
 fl an [.d 4 (.bool)] [(0,⟨[.d 1 (.int .i64),.d 5 (.int .i64),.box 2 [(false,.sl 5 fK),(false,.int .i64),(false,.sl 3 aJ),(false,.int .i64),(false,.int .i64),(false,.int .i64),(false,.int .i64),(false,.int .i64),(false,.sl 5 fK)]],ah (dC uU)⟩)] [] Tryz.f34 (lp [0] (sc cX sn))
def C9 (t40:List iH) (t41 t42:Int) (b1:(List eS)×Int×Int×(List iH)×Unit):Rd ((List iH)×Int×Int×J8×Unit) Y1 :=
 cond (au t42 t41) (
 cond (aU t42 t40) (
 let u1:=(gt d64 t40 t42)
 (VM u1 (ae b1.1)).bind fun y1 =>
 cond (cond (!y1.2.1.1) true (au b1.2.1 u1.2.2.2.2.2.2.2.1)) (
 some (.inr (.inr (false,())))
 ) (
 some (.inl (t40,t41,(ak .i64 t42 1),b1,()))
 )
 ) none
 ) (
 some (.inr (.inl (t40,t41,t42,b1,())))
 )
def Pw:=nh (ah (dh C9))
def Dd (t5:Int) (t61:List eS) (t62 t63:Int) (t75:List iH) (t76 t77:Int) (b1:(List eS)×Int×Int×(List iH)×Unit) (b6:Int×(List di)×Unit):Rd (Int×(List eS)×Int×Int×(List iH)×Int×Int×J8×Y9×Unit) Y1 :=
 cond (au t77 t76) (
 cond (aU t77 t75) (
 (VJ (gt d64 t75 t77) t5).bind fun y1 =>
 cond (!(Qf y1.2.1.1 (aq b6.1 t77))) (
 some (.inr (.inr (false,())))
 ) (
 some (.inl (t5,t61,t62,t63,t75,t76,(ak .i64 t77 1),b1,b6,()))
 )
 ) none
 ) (
 some (.inr (.inl (t5,t61,t62,t63,t75,t76,t77,b1,b6,())))
 )
def Ud:=Sv (ah (C1 Dd))
def C4 (t61:List eS) (t62 t63:Int) (b1:(List eS)×Int×Int×(List iH)×Unit):Rd ((List eS)×Int×Int×J8×Unit) Y1 :=
 cond (au t63 t62) (
 cond (aU t63 t61) (
 let u1:=(ae b1.2.2.2.1)
 let u2:=(gt d67 t61 t63)
 cond (bD u1 u2.1) (
 some (.inr (.inr (false,())))
 ) (
 (Ud t63 t61 t62 t63 b1.2.2.2.1 u1 0 b1 u2).bind (Sum.elim (fun y1 =>
 some (.inl (y1.2.1,y1.2.2.1,(ak .i64 y1.2.2.2.1 1),y1.2.2.2.2.2.2.2.1,()))
 ) (fun y1 =>
 some (.inr (.inr (y1.1,())))
 ))
 )
 ) none
 ) (
 some (.inr (.inl (t61,t62,t63,b1,())))
 )
def SM:=nh (ah (dh C4))
def g9 (p0:(List eS)×Int×Int×(List iH)×Unit):Option eo :=
 (Vv p0.1).bind fun y1 =>
 cond (!y1.2.1.1) (
 some ((),((false,()),()))
 ) (
 (GW p0.2.1).bind fun y2 =>
 cond (!y2.2.1.1) (
 some ((),((false,()),()))
 ) (
 (GW p0.2.2.1).bind fun y3 =>
 let u1:=(ae p0.2.2.2.1)
 cond (cond (!y3.2.1.1) true (au 12 u1)) (
 some ((),((false,()),()))
 ) (
 (VN p0.2.2.2.1 p0.2.2.1).bind fun y4 =>
 cond (!y4.2.1.1) (
 some ((),((false,()),()))
 ) (
 (Pw p0.2.2.2.1 u1 0 p0).bind (Sum.elim (fun y5 =>
 (SM y5.2.2.2.1.1 (ae y5.2.2.2.1.1) 0 y5.2.2.2.1).bind (Sum.elim (fun y6 =>
 some ((),((true,()),()))
 ) (fun y6 =>
 some ((),(y6,()))
 ))
 ) (fun y5 =>
 some ((),(y5,()))
 ))
 )
 )
 )
 )
def s9:Su:=⟨[.c true [.sl 67 cN,.int .i64,.int .i64,.sl 64 dZ]],[(false,[.bool])],true,.inl fun x=>g9 x.1⟩
theorem ok9:ar Tryz.prog 9 s9 :=
 fl (ac LF (ac Xk (ac Yi (ac XG (ac Ym an))))) [.d 2 (.bool)] [(0,⟨[.d 40 (.sl 64 dZ),.d 41 (.int .i64),.d 42 (.int .i64),.box 1 [(false,.sl 67 cN),(false,.int .i64),(false,.int .i64),(false,.sl 64 dZ)]],ah (dh C9)⟩),(4,⟨[.d 5 (.int .i64),.d 61 (.sl 67 cN),.d 62 (.int .i64),.d 63 (.int .i64),.d 75 (.sl 64 dZ),.d 76 (.int .i64),.d 77 (.int .i64),.box 1 [(false,.sl 67 cN),(false,.int .i64),(false,.int .i64),(false,.sl 64 dZ)],.box 6 [(false,.int .i64),(false,.sl 92 bz)]],ah (C1 Dd)⟩),(2,⟨[.d 61 (.sl 67 cN),.d 62 (.int .i64),.d 63 (.int .i64),.box 1 [(false,.sl 67 cN),(false,.int .i64),(false,.int .i64),(false,.sl 64 dZ)]],ah (dh C4)⟩)] [] Tryz.f9 (lp [0,2] (sc cX (sc (lp [4] (sc cX sn)) sn)))
def VY (p0:(List R5)×Int×(List R3)×Int×Int×Int×Int×Int×(List R5)×Unit):Option kf :=
 cond (!(aq p0.2.1 1)) (
 some ((),(((-1),()),()))
 ) (
 (pU p0.2.2.2.1 0 (aH .i64 (ae p0.2.2.1) 1)).bind fun y1 =>
 cond (!y1.2.1.1) (
 some ((),(((-1),()),()))
 ) (
 cond (aU p0.2.2.2.1 p0.2.2.1) (
 some ((),((gt d3 p0.2.2.1 p0.2.2.2.1),()))
 ) none
 )
 )
def s45:Su:=⟨[.c true gV],[(false,aJ)],true,.inl fun x=>VY x.1⟩
theorem Yn:ar Tryz.prog 45 s45 :=
 fq (ac nG an) Tryz.f45
def g13 (p0:(List eS)×Int×Int×(List iH)×Unit) (p1:Int):Option kf :=
 (g9 p0).bind fun y1 =>
 cond (!y1.2.1.1) (
 some ((),(((-1),()),()))
 ) (
 (pU p1 0 (aH .i64 (ae p0.2.2.2.1) 1)).bind fun y2 =>
 cond (!y2.2.1.1) (
 some ((),(((-1),()),()))
 ) (
 cond (aU p1 p0.2.2.2.1) (
 (VY (gt d64 p0.2.2.2.1 p1)).bind fun y3 =>
 cond (au y3.2.1.1 0) (
 some ((),(((-1),()),()))
 ) (
 cond (aU y3.2.1.1 p0.1) (
 some ((),(((gt d67 p0.1 y3.2.1.1).1,()),()))
 ) none
 )
 ) none
 )
 )
def s13:Su:=⟨[.c true [.sl 67 cN,.int .i64,.int .i64,.sl 64 dZ],.c false aJ],[(false,aJ)],true,.inl fun x=>g13 x.1 x.2.1.1⟩
theorem XR:ar Tryz.prog 13 s13 :=
 fq (ac nG (ac ok9 (ac Yn an))) Tryz.f13
def sZ (t5:List R3) (t6:Int) (b2:(List eS)×Int×Int×(List iH)×Unit):Rd ((List R3)×Int×J8×Unit) Unit :=
 cond (cond (bD 0 t6) (au (ae t5) 12) false) (
 cond (cT 8 t5 [(t6,())]) (
 (g13 b2 t6).bind fun y1 =>
 some (.inl ((ll t5 [(t6,())]),y1.2.1.1,b2,()))
 ) none
 ) (
 some (.inr (.inl (t5,t6,b2,())))
 )
def Oo:=lM (ah (dC sZ))
def g22 (p0:(List eS)×Int×Int×(List iH)×Unit) (p1:Int):Option KF :=
 (g13 p0 p1).bind fun y1 =>
 (Oo [] y1.2.1.1 p0).bind (Sum.elim (fun y2 =>
 some ((),((y2.1,()),()))
 ) (fun y2 =>
 none
 ))
def Z8:Su:=⟨[.c true [.sl 67 cN,.int .i64,.int .i64,.sl 64 dZ],.c false aJ],[(false,fU)],true,.inl fun x=>g22 x.1 x.2.1.1⟩
theorem YC:ar Tryz.prog 22 Z8 :=
 fl (ac XR an) [] [(0,⟨[.own 5 (.sl 3 aJ),.d 6 (.int .i64),.box 2 [(false,.sl 67 cN),(false,.int .i64),(false,.int .i64),(false,.sl 64 dZ)]],ah (dC sZ)⟩)] [] Tryz.f22 (lp [0] (sc cX sn))
def mA (p0 p1 p2:Int):Option eo :=
 some ((),(((cond (bD p1 p0) (bD p0 p2) false),()),()))
def s46:Su:=⟨[.c false aJ,.c false aJ,.c false aJ],[(false,[.bool])],true,.inl fun x=>mA x.1.1 x.2.1.1 x.2.2.1.1⟩
theorem l8:ar Tryz.prog 46 s46 :=
 fq an Tryz.f46
def Qi (p0 p1:(List UInt8)×Int×Int×Int×Int×(List cG)×Int×Int×(List R3)×(List R3)×(List cw)×Unit):Option kf :=
 cond (kd p0.1 p1.1) (
 some ((),(((-1),()),()))
 ) (
 cond (!(PQ p0.1 p1.1)) (
 some ((),((1,()),()))
 ) (
 some ((),((0,()),()))
 )
 )
def WY:Su:=⟨[.c true bz,.c true bz],[(false,aJ)],true,.inl fun x=>Qi x.1 x.2.1⟩
theorem Ij:ar Tryz.prog 93 WY :=
 fq an Tryz.f93
def om (t0:List di) (t1 t2:Int) (f3:Unit) (t8 t9:Int):Rd ((List di)×Int×Int×Unit×Int×Int×Unit) Unit :=
 cond (au t1 t9) (
 cond (aU t9 t0) (
 let u1:=(aH .i64 t9 1)
 cond (aU u1 t0) (
 (Qi (gt d92 t0 t9) (gt d92 t0 u1)).bind fun y1 =>
 cond (au y1.2.1.1 0) (
 cond (aU u1 t0) (
 cond (aU t9 t0) (
 cond (Aw t9 t0 t9) (
 cond (Aw u1 t0 u1) (
 some (.inl ((GX d92 t0 t9 u1),t1,t2,(),t8,u1,()))
 ) none
 ) none
 ) none
 ) none
 ) (
 some (.inr (.inl (t0,t1,t2,(),t8,t9,())))
 )
 ) none
 ) none
 ) (
 some (.inr (.inl (t0,t1,t2,(),t8,t9,())))
 )
def zA:=S8 (ah (D2 om))
def lu (t0:List di) (t1 t2:Int) (f3:Unit) (t8:Int):Rd ((List di)×Int×Int×Unit×Int×Unit) Unit :=
 cond (au t8 t2) (
 (zA t0 t1 t2 () t8 t8).bind (Sum.elim (fun y1 =>
 some (.inl (y1.1,y1.2.1,y1.2.2.1,(),(ak .i64 y1.2.2.2.2.1 1),()))
 ) (fun y1 =>
 some (.inr (.inr ()))
 ))
 ) (
 some (.inr (.inl (t0,t1,t2,(),t8,())))
 )
def pR:=zz (ah (gz lu))
def GG (p0:List di) (p1 p2:Int):Option NU :=
 (pR p0 p1 p2 () (ak .i64 p1 1)).bind (Sum.elim (fun y1 =>
 some (((y1.1,()),()),())
 ) (fun y1 =>
 none
 ))
def KZ:Su:=⟨[.io false [.sl 92 bz],.c false aJ,.c false aJ,.fn 93 []],[],true,.inl fun x=>GG x.1.1 x.2.1.1 x.2.2.1.1⟩
def qh:List SE:=[.own 0 (.sl 92 bz),.d 1 (.int .i64),.d 2 (.int .i64),.fn 3 93 [],.d 8 (.int .i64),.d 9 (.int .i64)]
def qI:List SE:=[.own 0 (.sl 92 bz),.d 1 (.int .i64),.d 2 (.int .i64),.fn 3 93 [],.d 8 (.int .i64)]
def HL:List SE:=[]
def Oq:Nat->Option (Lo HL)
 | 2=>some ⟨qh,D2 zA⟩
 | 0=>some ⟨qI,gz pR⟩
 | _=>none
def Ek:List (Nat×Su):=[(93,WY)]
def Er:En:=⟨53,tt,je Ek,HL,Oq,[0],fun _=>none⟩
def Vs:Nat->Option (St->Tr St)
 | 6=>some (swapT Er (opsOf (bf 6 (ai Tryz.f164))) [9] [(14,2),(14,3),(14,4)] 14 9 13)
 | _=>none
def Bi:En:=⟨53,tt,je Ek,HL,Oq,[0],Vs⟩
theorem Ph (x:bJ qh):(dj Bi 2 qh (bb 2 (ai Tryz.f164)) x).run=D2 om x:=by kernel_rfl
theorem Pz (x:bJ qI):(dj Bi 0 qI (bb 0 (ai Tryz.f164)) x).run=gz lu x:=by kernel_rfl
theorem t164 (x:PT KZ.ps):(FQ Bi (ai Tryz.f164) Tryz.f164.results.toList KZ.ps KZ.rs true x).run=GG x.1.1 x.2.1.1 x.2.2.1.1:=by kernel_rfl
theorem DC:dp Tryz.prog Bi:=cY (l:=Ek) ⟨Ij,trivial⟩
theorem Fp:dp Tryz.prog Er:=cY (l:=Ek) ⟨Ij,trivial⟩
theorem Rv:cP Tryz.prog Bi (bf 6 (ai Tryz.f164)) (swapT Er (opsOf (bf 6 (ai Tryz.f164))) [9] [(14,2),(14,3),(14,4)] 14 9 13) :=
 gy rfl rfl (tV (E:=Er) (lv hT) Fp eR (c:=(bf 6 (ai Tryz.f164))) (id:=6) (by kernel_rfl))
theorem P0:cf Tryz.prog Bi 2 (.loop (bb 2 (ai Tryz.f164))) ⟨qh,D2 zA⟩ :=
 eD (lv hT) DC eR (step:=fun (x:bJ qh)=>om x.1 x.2.1 x.2.2.1 x.2.2.2.1 x.2.2.2.2.1 x.2.2.2.2.2.1) Ph (ba [] (by kernel_rfl) trivial [(6,bf 6 (ai Tryz.f164))] (by kernel_rfl) ⟨xG rfl Rv,trivial⟩)
theorem Pm:cf Tryz.prog Bi 0 (.loop (bb 0 (ai Tryz.f164))) ⟨qI,gz pR⟩ :=
 eD (lv hT) DC eR (step:=fun (x:bJ qI)=>lu x.1 x.2.1 x.2.2.1 x.2.2.2.1 x.2.2.2.2.1) Pz (ba [(2,.loop (bb 2 (ai Tryz.f164)))] (by kernel_rfl) ⟨l5 rfl P0,trivial⟩ [] (by kernel_rfl) trivial)
theorem Vd:ar Tryz.prog 164 KZ :=
 qL (E:=Bi) (lv hT) DC eR (fn:=Tryz.f164) (c:=(ai Tryz.f164)) (by kernel_rfl) (by kernel_rfl) (by kernel_rfl) rfl (ba [(0,.loop (bb 0 (ai Tryz.f164)))] (by kernel_rfl) ⟨l5 rfl Pm,trivial⟩ [] (by kernel_rfl) trivial) fun x y h=>⟨y.1,fun _=>rfl,(t164 x).trans h⟩
def px (t0:List di) (t1 t2 t3 t10:Int):Rd ((List di)×Int×Int×Int×Int×Unit) Unit :=
 cond (au t10 t3) (
 let u1:=(ak .i64 t2 t10)
 cond (aU u1 t0) (
 let u2:=(ak .i64 t1 t10)
 cond (aU u2 t0) (
 cond (Aw u2 t0 u2) (
 cond (Aw u1 t0 u1) (
 some (.inl ((GX d92 t0 u2 u1),t1,t2,t3,(ak .i64 t10 1),()))
 ) none
 ) none
 ) none
 ) none
 ) (
 some (.inr (.inl (t0,t1,t2,t3,t10,())))
 )
def xp:=zz (ah (gz px))
def zE (p0:List di) (p1 p2 p3:Int):Option NU :=
 (xp p0 p1 p2 p3 0).bind (Sum.elim (fun y1 =>
 some (((y1.1,()),()),())
 ) (fun y1 =>
 none
 ))
def LL:Su:=⟨[.io false [.sl 92 bz],.c false aJ,.c false aJ,.c false aJ,.fn 93 []],[],true,.inl fun x=>zE x.1.1 x.2.1.1 x.2.2.1.1 x.2.2.2.1.1⟩
def qE:List SE:=[.own 0 (.sl 92 bz),.d 1 (.int .i64),.d 2 (.int .i64),.d 3 (.int .i64),.d 10 (.int .i64)]
def HQ:List SE:=[]
def Oh:Nat->Option (Lo HQ)
 | 0=>some ⟨qE,gz xp⟩
 | _=>none
def El:List (Nat×Su):=[]
def DU:En:=⟨38,tt,je El,HQ,Oh,[0],fun _=>none⟩
def SZ:Nat->Option (St->Tr St)
 | 3=>some (swapT DU (opsOf (bf 3 (ai Tryz.f243))) [2,10] [(20,4),(20,5),(20,6),(20,7)] 20 13 19)
 | _=>none
def FG:En:=⟨38,tt,je El,HQ,Oh,[0],SZ⟩
theorem QG (x:bJ qE):(dj FG 0 qE (bb 0 (ai Tryz.f243)) x).run=gz px x:=by kernel_rfl
theorem t243 (x:PT LL.ps):(FQ FG (ai Tryz.f243) Tryz.f243.results.toList LL.ps LL.rs true x).run=zE x.1.1 x.2.1.1 x.2.2.1.1 x.2.2.2.1.1:=by kernel_rfl
theorem Iq:dp Tryz.prog FG:=cY (l:=El) trivial
theorem E5:dp Tryz.prog DU:=cY (l:=El) trivial
theorem Qw:cP Tryz.prog FG (bf 3 (ai Tryz.f243)) (swapT DU (opsOf (bf 3 (ai Tryz.f243))) [2,10] [(20,4),(20,5),(20,6),(20,7)] 20 13 19) :=
 gy rfl rfl (tV (E:=DU) (lv hT) E5 eR (c:=(bf 3 (ai Tryz.f243))) (id:=3) (by kernel_rfl))
theorem P9:cf Tryz.prog FG 0 (.loop (bb 0 (ai Tryz.f243))) ⟨qE,gz xp⟩ :=
 eD (lv hT) Iq eR (step:=fun (x:bJ qE)=>px x.1 x.2.1 x.2.2.1 x.2.2.2.1 x.2.2.2.2.1) QG (ba [] (by kernel_rfl) trivial [(3,bf 3 (ai Tryz.f243))] (by kernel_rfl) ⟨xG rfl Qw,trivial⟩)
theorem S3:ar Tryz.prog 243 LL :=
 qL (E:=FG) (lv hT) Iq eR (fn:=Tryz.f243) (c:=(ai Tryz.f243)) (by kernel_rfl) (by kernel_rfl) (by kernel_rfl) rfl (ba [(0,.loop (bb 0 (ai Tryz.f243)))] (by kernel_rfl) ⟨l5 rfl P9,trivial⟩ [] (by kernel_rfl) trivial) fun x y h=>⟨y.1,fun _=>rfl,(t243 x).trans h⟩
def mO (t0:List di) (t2:Int) (f4:Unit) (t10 t11:Int):Rd Wk Unit :=
 cond (!(aq t10 t11)) (
 cond (au t11 t10) (
 let u1:=(aH .i64 t2 t10)
 (zE t0 u1 t2 t11).bind fun y1 =>
 some (.inl (y1.1.1.1,t2,(),(aH .i64 t10 t11),t11,()))
 ) (
 let u1:=(aH .i64 t2 t10)
 (zE t0 u1 (aH .i64 (ak .i64 t2 t11) t10) t10).bind fun y1 =>
 some (.inl (y1.1.1.1,t2,(),t10,(aH .i64 t11 t10),()))
 )
 ) (
 some (.inr (.inl (t0,t2,(),t10,t11,())))
 )
def JZ:=zz (ah (gz mO))
def zW (p0:List di) (p1 p2 p3:Int):Option NU :=
 (JZ p0 p2 () (aH .i64 p2 p1) (aH .i64 p3 p2)).bind (Sum.elim (fun y1 =>
 (zE y1.1 (aH .i64 y1.2.1 y1.2.2.2.1) y1.2.1 y1.2.2.2.1).bind fun y2 =>
 some ((y2.1.1,()),())
 ) (fun y1 =>
 none
 ))
def UB:Su:=⟨[.io false [.sl 92 bz],.c false aJ,.c false aJ,.c false aJ,.fn 93 []],[],true,.inl fun x=>zW x.1.1 x.2.1.1 x.2.2.1.1 x.2.2.2.1.1⟩
theorem JR:ar Tryz.prog 211 UB :=
 fl (ac S3 an) [] [(0,⟨[.own 0 (.sl 92 bz),.d 2 (.int .i64),.fn 4 93 [],.d 10 (.int .i64),.d 11 (.int .i64)],ah (gz mO)⟩)] [0] Tryz.f211 (lp [0] (sc cX sn))
-- REC 165
def mT (t0:List di) (t1:Int) (f4:Unit) (t10 t11:Int):Rd Wk Unit :=
 cond (au t10 t11) (
 let u1:=(bG .i64 (iK .u64 (bG .u64 (ak .i64 t10 t11)) 1))
 cond (aU u1 t0) (
 cond (aU t1 t0) (
 (Qi (gt d92 t0 u1) (gt d92 t0 t1)).bind fun y1 =>
 cond (au y1.2.1.1 0) (
 some (.inl (t0,t1,(),(ak .i64 u1 1),t11,()))
 ) (
 some (.inl (t0,t1,(),t10,u1,()))
 )
 ) none
 ) none
 ) (
 some (.inr (.inl (t0,t1,(),t10,t11,())))
 )
def uG:=zz (ah (gz mT))
def nX (t0:List di) (t10 t13:Int):Rd WV Unit :=
 cond (au t13 (aH .i64 t10 1)) (
 let u1:=(ak .i64 t13 1)
 cond (aU u1 t0) (
 cond (aU t13 t0) (
 cond (Aw t13 t0 t13) (
 cond (Aw u1 t0 u1) (
 some (.inl ((GX d92 t0 t13 u1),t10,u1,()))
 ) none
 ) none
 ) none
 ) none
 ) (
 some (.inr (.inl (t0,t10,t13,())))
 )
def vC:=lM (ah (dC nX))
def mY (t0:List di) (t2:Int) (f4:Unit) (t14 t15:Int):Rd Wk Unit :=
 cond (au t14 t15) (
 cond (aU t2 t0) (
 let u1:=(bG .i64 (iK .u64 (bG .u64 (ak .i64 t14 t15)) 1))
 cond (aU u1 t0) (
 (Qi (gt d92 t0 t2) (gt d92 t0 u1)).bind fun y1 =>
 cond (!(au y1.2.1.1 0)) (
 some (.inl (t0,t2,(),(ak .i64 u1 1),t15,()))
 ) (
 some (.inl (t0,t2,(),t14,u1,()))
 )
 ) none
 ) none
 ) (
 some (.inr (.inl (t0,t2,(),t14,t15,())))
 )
def wT:=zz (ah (gz mY))
def oI (t0:List di) (t14 t17:Int):Rd WV Unit :=
 cond (au t14 t17) (
 let u1:=(aH .i64 t17 1)
 cond (aU u1 t0) (
 cond (aU t17 t0) (
 cond (Aw t17 t0 t17) (
 cond (Aw u1 t0 u1) (
 some (.inl ((GX d92 t0 t17 u1),t14,u1,()))
 ) none
 ) none
 ) none
 ) none
 ) (
 some (.inr (.inl (t0,t14,t17,())))
 )
def uA:=lM (ah (dC oI))
def mF (t0:List di) (t1 t2 t3:Int) (f4:Unit) (t18 t19 t20 t21 t22:Int):Rd ((List di)×Int×Int×Int×Unit×Int×Int×Int×Int×Int×Unit) Unit :=
 cond (au t20 t21) (
 let u1:=(bG .i64 (iK .u64 (bG .u64 (ak .i64 t20 t21)) 1))
 let u2:=(aH .i64 t22 u1)
 cond (aU u2 t0) (
 cond (aU u1 t0) (
 (Qi (gt d92 t0 u2) (gt d92 t0 u1)).bind fun y1 =>
 cond (!(au y1.2.1.1 0)) (
 some (.inl (t0,t1,t2,t3,(),t18,t19,(ak .i64 u1 1),t21,t22,()))
 ) (
 some (.inl (t0,t1,t2,t3,(),t18,t19,t20,u1,t22,()))
 )
 ) none
 ) none
 ) (
 some (.inr (.inl (t0,t1,t2,t3,(),t18,t19,t20,t21,t22,())))
 )
def lE:=U8 (ah (AR mF))
def eZ (n:Nat):(List di)->Int->Int->Int->Option NU:=Nat.rec (motive:=fun _=>(List di)->Int->Int->Int->Option NU) (fun _ _ _ _=>none) (fun _ mI=>fun p0 p1 p2 p3 =>
 cond (aq (aH .i64 p2 p1) 1) (
 (uG p0 p1 () p2 p3).bind (Sum.elim (fun y1 =>
 (vC y1.1 y1.2.2.2.1 y1.2.1).bind (Sum.elim (fun y2 =>
 some (((y2.1,()),()),())
 ) (fun y2 =>
 none
 ))
 ) (fun y1 =>
 none
 ))
 ) (
 cond (aq (aH .i64 p3 p2) 1) (
 (wT p0 p2 () p1 p2).bind (Sum.elim (fun y1 =>
 (uA y1.1 y1.2.2.2.1 y1.2.1).bind (Sum.elim (fun y2 =>
 some (((y2.1,()),()),())
 ) (fun y2 =>
 none
 ))
 ) (fun y1 =>
 none
 ))
 ) (
 let u1:=(bG .i64 (iK .u64 (bG .u64 (ak .i64 p1 p3)) 1))
 cond (au u1 p2) (
 let u2:=(ak .i64 u1 p2)
 let u3:=(aH .i64 u2 1)
 (lE p0 p1 p2 p3 () u1 u2 (aH .i64 u2 p3) u1 u3).bind (Sum.elim (fun y1 =>
 let u4:=(aH .i64 y1.2.2.2.2.2.2.1 y1.2.2.2.2.2.2.2.1)
 let u5:=(cond (au y1.2.2.2.2.2.2.2.1 y1.2.2.1) (au y1.2.2.1 u4) false)
 cond u5 (
 let u6:=(zW y1.1 y1.2.2.2.2.2.2.2.1 y1.2.2.1 u4)
 Option.bind u6 fun y2 =>
 let u7:=(cond (au y1.2.1 y1.2.2.2.2.2.2.2.1) (au y1.2.2.2.2.2.2.2.1 y1.2.2.2.2.2.1) false)
 cond u7 (
 let u8:=(mI y2.1.1.1 y1.2.1 y1.2.2.2.2.2.2.2.1 y1.2.2.2.2.2.1)
 Option.bind u8 fun y3 =>
 let u9:=(cond (au y1.2.2.2.2.2.1 u4) (au u4 y1.2.2.2.1) false)
 cond u9 (
 let u10:=(mI y3.1.1.1 y1.2.2.2.2.2.1 u4 y1.2.2.2.1)
 Option.bind u10 fun y4 =>
 some ((y4.1.1,()),())
 ) (
 some ((y3.1.1,()),())
 )
 ) (
 let u8:=(cond (au y1.2.2.2.2.2.1 u4) (au u4 y1.2.2.2.1) false)
 cond u8 (
 let u9:=(mI y2.1.1.1 y1.2.2.2.2.2.1 u4 y1.2.2.2.1)
 Option.bind u9 fun y3 =>
 some ((y3.1.1,()),())
 ) (
 some ((y2.1.1,()),())
 )
 )
 ) (
 let u6:=(cond (au y1.2.1 y1.2.2.2.2.2.2.2.1) (au y1.2.2.2.2.2.2.2.1 y1.2.2.2.2.2.1) false)
 cond u6 (
 let u7:=(mI y1.1 y1.2.1 y1.2.2.2.2.2.2.2.1 y1.2.2.2.2.2.1)
 Option.bind u7 fun y2 =>
 let u8:=(cond (au y1.2.2.2.2.2.1 u4) (au u4 y1.2.2.2.1) false)
 cond u8 (
 let u9:=(mI y2.1.1.1 y1.2.2.2.2.2.1 u4 y1.2.2.2.1)
 Option.bind u9 fun y3 =>
 some ((y3.1.1,()),())
 ) (
 some ((y2.1.1,()),())
 )
 ) (
 let u7:=(cond (au y1.2.2.2.2.2.1 u4) (au u4 y1.2.2.2.1) false)
 cond u7 (
 let u8:=(mI y1.1 y1.2.2.2.2.2.1 u4 y1.2.2.2.1)
 Option.bind u8 fun y2 =>
 some ((y2.1.1,()),())
 ) (
 some (((y1.1,()),()),())
 )
 )
 )
 ) (fun y1 =>
 none
 ))
 ) (
 let u2:=(ak .i64 u1 p2)
 let u3:=(aH .i64 u2 1)
 (lE p0 p1 p2 p3 () u1 u2 p1 p2 u3).bind (Sum.elim (fun y1 =>
 let u4:=(aH .i64 y1.2.2.2.2.2.2.1 y1.2.2.2.2.2.2.2.1)
 let u5:=(cond (au y1.2.2.2.2.2.2.2.1 y1.2.2.1) (au y1.2.2.1 u4) false)
 cond u5 (
 let u6:=(zW y1.1 y1.2.2.2.2.2.2.2.1 y1.2.2.1 u4)
 Option.bind u6 fun y2 =>
 let u7:=(cond (au y1.2.1 y1.2.2.2.2.2.2.2.1) (au y1.2.2.2.2.2.2.2.1 y1.2.2.2.2.2.1) false)
 cond u7 (
 let u8:=(mI y2.1.1.1 y1.2.1 y1.2.2.2.2.2.2.2.1 y1.2.2.2.2.2.1)
 Option.bind u8 fun y3 =>
 let u9:=(cond (au y1.2.2.2.2.2.1 u4) (au u4 y1.2.2.2.1) false)
 cond u9 (
 let u10:=(mI y3.1.1.1 y1.2.2.2.2.2.1 u4 y1.2.2.2.1)
 Option.bind u10 fun y4 =>
 some ((y4.1.1,()),())
 ) (
 some ((y3.1.1,()),())
 )
 ) (
 let u8:=(cond (au y1.2.2.2.2.2.1 u4) (au u4 y1.2.2.2.1) false)
 cond u8 (
 let u9:=(mI y2.1.1.1 y1.2.2.2.2.2.1 u4 y1.2.2.2.1)
 Option.bind u9 fun y3 =>
 some ((y3.1.1,()),())
 ) (
 some ((y2.1.1,()),())
 )
 )
 ) (
 let u6:=(cond (au y1.2.1 y1.2.2.2.2.2.2.2.1) (au y1.2.2.2.2.2.2.2.1 y1.2.2.2.2.2.1) false)
 cond u6 (
 let u7:=(mI y1.1 y1.2.1 y1.2.2.2.2.2.2.2.1 y1.2.2.2.2.2.1)
 Option.bind u7 fun y2 =>
 let u8:=(cond (au y1.2.2.2.2.2.1 u4) (au u4 y1.2.2.2.1) false)
 cond u8 (
 let u9:=(mI y2.1.1.1 y1.2.2.2.2.2.1 u4 y1.2.2.2.1)
 Option.bind u9 fun y3 =>
 some ((y3.1.1,()),())
 ) (
 some ((y2.1.1,()),())
 )
 ) (
 let u7:=(cond (au y1.2.2.2.2.2.1 u4) (au u4 y1.2.2.2.1) false)
 cond u7 (
 let u8:=(mI y1.1 y1.2.2.2.2.2.1 u4 y1.2.2.2.1)
 Option.bind u8 fun y2 =>
 some ((y2.1.1,()),())
 ) (
 some (((y1.1,()),()),())
 )
 )
 )
 ) (fun y1 =>
 none
 ))
 )
 )
 )) n
theorem oa (n:Nat) (p0:(List di)) (p1:Int) (p2:Int) (p3:Int):eZ (n + 1) p0 p1 p2 p3 =
 cond (aq (aH .i64 p2 p1) 1) (
  (uG p0 p1 () p2 p3).bind (Sum.elim (fun y1 =>
    (vC y1.1 y1.2.2.2.1 y1.2.1).bind (Sum.elim (fun y2 =>
      some (((y2.1,()),()),())
    ) (fun y2 =>
     none
    ))
  ) (fun y1 =>
   none
  ))
 ) (
  cond (aq (aH .i64 p3 p2) 1) (
   (wT p0 p2 () p1 p2).bind (Sum.elim (fun y1 =>
     (uA y1.1 y1.2.2.2.1 y1.2.1).bind (Sum.elim (fun y2 =>
       some (((y2.1,()),()),())
     ) (fun y2 =>
      none
     ))
   ) (fun y1 =>
    none
   ))
  ) (
   let u1:=(bG .i64 (iK .u64 (bG .u64 (ak .i64 p1 p3)) 1))
   cond (au u1 p2) (
    let u2:=(ak .i64 u1 p2)
    let u3:=(aH .i64 u2 1)
    (lE p0 p1 p2 p3 () u1 u2 (aH .i64 u2 p3) u1 u3).bind (Sum.elim (fun y1 =>
      let u4:=(aH .i64 y1.2.2.2.2.2.2.1 y1.2.2.2.2.2.2.2.1)
      let u5:=(cond (au y1.2.2.2.2.2.2.2.1 y1.2.2.1) (au y1.2.2.1 u4) false)
      cond u5 (
       let u6:=(zW y1.1 y1.2.2.2.2.2.2.2.1 y1.2.2.1 u4)
       Option.bind u6 fun y2 =>
       let u7:=(cond (au y1.2.1 y1.2.2.2.2.2.2.2.1) (au y1.2.2.2.2.2.2.2.1 y1.2.2.2.2.2.1) false)
       cond u7 (
        let u8:=(eZ n y2.1.1.1 y1.2.1 y1.2.2.2.2.2.2.2.1 y1.2.2.2.2.2.1)
        Option.bind u8 fun y3 =>
        let u9:=(cond (au y1.2.2.2.2.2.1 u4) (au u4 y1.2.2.2.1) false)
        cond u9 (
         let u10:=(eZ n y3.1.1.1 y1.2.2.2.2.2.1 u4 y1.2.2.2.1)
         Option.bind u10 fun y4 =>
         some ((y4.1.1,()),())
        ) (
         some ((y3.1.1,()),())
        )
       ) (
        let u8:=(cond (au y1.2.2.2.2.2.1 u4) (au u4 y1.2.2.2.1) false)
        cond u8 (
         let u9:=(eZ n y2.1.1.1 y1.2.2.2.2.2.1 u4 y1.2.2.2.1)
         Option.bind u9 fun y3 =>
         some ((y3.1.1,()),())
        ) (
         some ((y2.1.1,()),())
        )
       )
      ) (
       let u6:=(cond (au y1.2.1 y1.2.2.2.2.2.2.2.1) (au y1.2.2.2.2.2.2.2.1 y1.2.2.2.2.2.1) false)
       cond u6 (
        let u7:=(eZ n y1.1 y1.2.1 y1.2.2.2.2.2.2.2.1 y1.2.2.2.2.2.1)
        Option.bind u7 fun y2 =>
        let u8:=(cond (au y1.2.2.2.2.2.1 u4) (au u4 y1.2.2.2.1) false)
        cond u8 (
         let u9:=(eZ n y2.1.1.1 y1.2.2.2.2.2.1 u4 y1.2.2.2.1)
         Option.bind u9 fun y3 =>
         some ((y3.1.1,()),())
        ) (
         some ((y2.1.1,()),())
        )
       ) (
        let u7:=(cond (au y1.2.2.2.2.2.1 u4) (au u4 y1.2.2.2.1) false)
        cond u7 (
         let u8:=(eZ n y1.1 y1.2.2.2.2.2.1 u4 y1.2.2.2.1)
         Option.bind u8 fun y2 =>
         some ((y2.1.1,()),())
        ) (
         some (((y1.1,()),()),())
        )
       )
      )
    ) (fun y1 =>
     none
    ))
   ) (
    let u2:=(ak .i64 u1 p2)
    let u3:=(aH .i64 u2 1)
    (lE p0 p1 p2 p3 () u1 u2 p1 p2 u3).bind (Sum.elim (fun y1 =>
      let u4:=(aH .i64 y1.2.2.2.2.2.2.1 y1.2.2.2.2.2.2.2.1)
      let u5:=(cond (au y1.2.2.2.2.2.2.2.1 y1.2.2.1) (au y1.2.2.1 u4) false)
      cond u5 (
       let u6:=(zW y1.1 y1.2.2.2.2.2.2.2.1 y1.2.2.1 u4)
       Option.bind u6 fun y2 =>
       let u7:=(cond (au y1.2.1 y1.2.2.2.2.2.2.2.1) (au y1.2.2.2.2.2.2.2.1 y1.2.2.2.2.2.1) false)
       cond u7 (
        let u8:=(eZ n y2.1.1.1 y1.2.1 y1.2.2.2.2.2.2.2.1 y1.2.2.2.2.2.1)
        Option.bind u8 fun y3 =>
        let u9:=(cond (au y1.2.2.2.2.2.1 u4) (au u4 y1.2.2.2.1) false)
        cond u9 (
         let u10:=(eZ n y3.1.1.1 y1.2.2.2.2.2.1 u4 y1.2.2.2.1)
         Option.bind u10 fun y4 =>
         some ((y4.1.1,()),())
        ) (
         some ((y3.1.1,()),())
        )
       ) (
        let u8:=(cond (au y1.2.2.2.2.2.1 u4) (au u4 y1.2.2.2.1) false)
        cond u8 (
         let u9:=(eZ n y2.1.1.1 y1.2.2.2.2.2.1 u4 y1.2.2.2.1)
         Option.bind u9 fun y3 =>
         some ((y3.1.1,()),())
        ) (
         some ((y2.1.1,()),())
        )
       )
      ) (
       let u6:=(cond (au y1.2.1 y1.2.2.2.2.2.2.2.1) (au y1.2.2.2.2.2.2.2.1 y1.2.2.2.2.2.1) false)
       cond u6 (
        let u7:=(eZ n y1.1 y1.2.1 y1.2.2.2.2.2.2.2.1 y1.2.2.2.2.2.1)
        Option.bind u7 fun y2 =>
        let u8:=(cond (au y1.2.2.2.2.2.1 u4) (au u4 y1.2.2.2.1) false)
        cond u8 (
         let u9:=(eZ n y2.1.1.1 y1.2.2.2.2.2.1 u4 y1.2.2.2.1)
         Option.bind u9 fun y3 =>
         some ((y3.1.1,()),())
        ) (
         some ((y2.1.1,()),())
        )
       ) (
        let u7:=(cond (au y1.2.2.2.2.2.1 u4) (au u4 y1.2.2.2.1) false)
        cond u7 (
         let u8:=(eZ n y1.1 y1.2.2.2.2.2.1 u4 y1.2.2.2.1)
         Option.bind u8 fun y2 =>
         some ((y2.1.1,()),())
        ) (
         some (((y1.1,()),()),())
        )
       )
      )
    ) (fun y1 =>
     none
    ))
   )
  )
 ):=rfl
def mI (p0:List di) (p1 p2 p3:Int):Option NU:=CA fun n=>eZ n p0 p1 p2 p3
def jG (n:Nat):Su:=⟨[.io false [.sl 92 bz],.c false aJ,.c false aJ,.c false aJ,.fn 93 []],[],true,.inl fun x=>eZ n x.1.1 x.2.1.1 x.2.2.1.1 x.2.2.2.1.1⟩
def HX:Su:=⟨[.io false [.sl 92 bz],.c false aJ,.c false aJ,.c false aJ,.fn 93 []],[],true,.inl fun x=>mI x.1.1 x.2.1.1 x.2.2.1.1 x.2.2.2.1.1⟩
def qO:List SE:=[.own 0 (.sl 92 bz),.d 1 (.int .i64),.fn 4 93 [],.d 10 (.int .i64),.d 11 (.int .i64)]
def qR:List SE:=[.own 0 (.sl 92 bz),.d 10 (.int .i64),.d 13 (.int .i64)]
def qq:List SE:=[.own 0 (.sl 92 bz),.d 2 (.int .i64),.fn 4 93 [],.d 14 (.int .i64),.d 15 (.int .i64)]
def qQ:List SE:=[.own 0 (.sl 92 bz),.d 14 (.int .i64),.d 17 (.int .i64)]
def qp:List SE:=[.own 0 (.sl 92 bz),.d 1 (.int .i64),.d 2 (.int .i64),.d 3 (.int .i64),.fn 4 93 [],.d 18 (.int .i64),.d 19 (.int .i64),.d 20 (.int .i64),.d 21 (.int .i64),.d 22 (.int .i64)]
def Ir:List SE:=[]
def OO:Nat->Option (Lo Ir)
 | 0=>some ⟨qO,gz uG⟩
 | 2=>some ⟨qR,dC vC⟩
 | 4=>some ⟨qq,gz wT⟩
 | 6=>some ⟨qQ,dC uA⟩
 | 8=>some ⟨qp,AR lE⟩
 | _=>none
def Bh (n:Nat):List (Nat×Su):=[(93,WY),(165,(jG n)),(211,UB)]
def th (n:Nat):En:=⟨220,tt,je (Bh n),Ir,OO,[0],fun _=>none⟩
def Se (n:Nat):Nat->Option (St->Tr St)
 | 11=>some (swapT (th n) (opsOf (bf 11 (ai Tryz.f165))) [13] [(14,2),(14,3),(14,4)] 14 9 13)
 | 23=>some (swapT (th n) (opsOf (bf 23 (ai Tryz.f165))) [17] [(14,2),(14,3),(14,4)] 14 9 13)
 | _=>none
def oh (n:Nat):En:=⟨220,tt,je (Bh n),Ir,OO,[0],(Se n)⟩
theorem Qb (n:Nat) (x:bJ qO):(dj (oh n) 0 qO (bb 0 (ai Tryz.f165)) x).run=gz mT x:=by kernel_rfl
theorem PC (n:Nat) (x:bJ qR):(dj (oh n) 2 qR (bb 2 (ai Tryz.f165)) x).run=dC nX x:=by kernel_rfl
theorem Ps (n:Nat) (x:bJ qq):(dj (oh n) 4 qq (bb 4 (ai Tryz.f165)) x).run=gz mY x:=by kernel_rfl
theorem P2 (n:Nat) (x:bJ qQ):(dj (oh n) 6 qQ (bb 6 (ai Tryz.f165)) x).run=dC oI x:=by kernel_rfl
theorem PU (n:Nat) (x:bJ qp):(dj (oh n) 8 qp (bb 8 (ai Tryz.f165)) x).run=AR mF x:=by kernel_rfl
theorem t165 (n:Nat) (x:PT (jG (n + 1)).ps):(FQ (oh n) (ai Tryz.f165) Tryz.f165.results.toList (jG (n + 1)).ps (jG (n + 1)).rs true x).run=eZ (n + 1) x.1.1 x.2.1.1 x.2.2.1.1 x.2.2.2.1.1:=by kernel_rfl
theorem rh (n:Nat) (hn:ar Tryz.prog 165 (jG n)):dp Tryz.prog (oh n):=cY (l:=(Bh n)) ⟨Ij,hn,JR,trivial⟩
theorem DA (n:Nat) (hn:ar Tryz.prog 165 (jG n)):dp Tryz.prog (th n):=cY (l:=(Bh n)) ⟨Ij,hn,JR,trivial⟩
theorem K8 (n:Nat) (hn:ar Tryz.prog 165 (jG n)):cP Tryz.prog (oh n) (bf 11 (ai Tryz.f165)) (swapT (th n) (opsOf (bf 11 (ai Tryz.f165))) [13] [(14,2),(14,3),(14,4)] 14 9 13) :=
 gy rfl rfl (tV (E:=(th n)) (lv hT) (DA n hn) eR (c:=(bf 11 (ai Tryz.f165))) (id:=11) (by kernel_rfl))
theorem Dh (n:Nat) (hn:ar Tryz.prog 165 (jG n)):dp Tryz.prog (th n):=cY (l:=(Bh n)) ⟨Ij,hn,JR,trivial⟩
theorem L7 (n:Nat) (hn:ar Tryz.prog 165 (jG n)):cP Tryz.prog (oh n) (bf 23 (ai Tryz.f165)) (swapT (th n) (opsOf (bf 23 (ai Tryz.f165))) [17] [(14,2),(14,3),(14,4)] 14 9 13) :=
 gy rfl rfl (tV (E:=(th n)) (lv hT) (Dh n hn) eR (c:=(bf 23 (ai Tryz.f165))) (id:=23) (by kernel_rfl))
theorem Qz (n:Nat) (hn:ar Tryz.prog 165 (jG n)):cf Tryz.prog (oh n) 0 (.loop (bb 0 (ai Tryz.f165))) ⟨qO,gz uG⟩ :=
 eD (lv hT) (rh n hn) eR (step:=fun (x:bJ qO)=>mT x.1 x.2.1 x.2.2.1 x.2.2.2.1 x.2.2.2.2.1) (Qb n) (ba [] (by kernel_rfl) trivial [] (by kernel_rfl) trivial)
theorem PY (n:Nat) (hn:ar Tryz.prog 165 (jG n)):cf Tryz.prog (oh n) 2 (.loop (bb 2 (ai Tryz.f165))) ⟨qR,dC vC⟩ :=
 eD (lv hT) (rh n hn) eR (step:=fun (x:bJ qR)=>nX x.1 x.2.1 x.2.2.1) (PC n) (ba [] (by kernel_rfl) trivial [(11,bf 11 (ai Tryz.f165))] (by kernel_rfl) ⟨xG rfl (K8 n hn),trivial⟩)
theorem PR (n:Nat) (hn:ar Tryz.prog 165 (jG n)):cf Tryz.prog (oh n) 4 (.loop (bb 4 (ai Tryz.f165))) ⟨qq,gz wT⟩ :=
 eD (lv hT) (rh n hn) eR (step:=fun (x:bJ qq)=>mY x.1 x.2.1 x.2.2.1 x.2.2.2.1 x.2.2.2.2.1) (Ps n) (ba [] (by kernel_rfl) trivial [] (by kernel_rfl) trivial)
theorem Qu (n:Nat) (hn:ar Tryz.prog 165 (jG n)):cf Tryz.prog (oh n) 6 (.loop (bb 6 (ai Tryz.f165))) ⟨qQ,dC uA⟩ :=
 eD (lv hT) (rh n hn) eR (step:=fun (x:bJ qQ)=>oI x.1 x.2.1 x.2.2.1) (P2 n) (ba [] (by kernel_rfl) trivial [(23,bf 23 (ai Tryz.f165))] (by kernel_rfl) ⟨xG rfl (L7 n hn),trivial⟩)
theorem Re (n:Nat) (hn:ar Tryz.prog 165 (jG n)):cf Tryz.prog (oh n) 8 (.loop (bb 8 (ai Tryz.f165))) ⟨qp,AR lE⟩ :=
 eD (lv hT) (rh n hn) eR (step:=fun (x:bJ qp)=>mF x.1 x.2.1 x.2.2.1 x.2.2.2.1 x.2.2.2.2.1 x.2.2.2.2.2.1 x.2.2.2.2.2.2.1 x.2.2.2.2.2.2.2.1 x.2.2.2.2.2.2.2.2.1 x.2.2.2.2.2.2.2.2.2.1) (PU n) (ba [] (by kernel_rfl) trivial [] (by kernel_rfl) trivial)
theorem JE:∀ n,ar Tryz.prog 165 (jG n)
 | 0=>ar.zero fun _=>rfl
 | n + 1=>have hn:=JE n
 qL (E:=(oh n)) (lv hT) (rh n hn) eR (fn:=Tryz.f165) (c:=(ai Tryz.f165)) (by kernel_rfl) (by kernel_rfl) (by kernel_rfl) rfl (ba [(0,.loop (bb 0 (ai Tryz.f165))),(2,.loop (bb 2 (ai Tryz.f165))),(4,.loop (bb 4 (ai Tryz.f165))),(6,.loop (bb 6 (ai Tryz.f165))),(8,.loop (bb 8 (ai Tryz.f165)))] (by kernel_rfl) ⟨l5 rfl (Qz n hn),l5 rfl (PY n hn),l5 rfl (PR n hn),l5 rfl (Qu n hn),l5 rfl (Re n hn),trivial⟩ [] (by kernel_rfl) trivial) fun x y h=>⟨y.1,fun _=>rfl,((t165 n) x).trans h⟩
theorem T5:ar Tryz.prog 165 HX:=ar.fix (ps:=HX.ps) (rs:=HX.rs) (fr:=HX.fresh) (G:=fun n (x:PT HX.ps)=>eZ n x.1.1 x.2.1.1 x.2.2.1.1 x.2.2.2.1.1) JE
def rC (t0:List di) (t1:Int) (f2:Unit) (t6 t7 t8:Int):Rd ((List di)×Int×Unit×Int×Int×Int×Unit) Unit :=
 cond (bD t8 t1) (
 (GG t0 t7 t8).bind fun y1 =>
 some (.inl (y1.1.1.1,t1,(),t6,t8,(ak .i64 t8 t6),()))
 ) (
 some (.inr (.inl (t0,t1,(),t6,t7,t8,())))
 )
def Di:=S8 (ah (D2 rC))
def rT (t0:List di) (t1:Int) (f2:Unit) (t6 t7 t8:Int):Rd ((List di)×Int×Unit×Int×Int×Int×Unit) Unit :=
 cond (bD t8 t1) (
 (mI t0 t7 (ak .i64 t7 t6) t8).bind fun y1 =>
 some (.inl (y1.1.1.1,t1,(),t6,t8,(ak .i64 t8 (jY .i64 2 t6)),()))
 ) (
 some (.inr (.inl (t0,t1,(),t6,t7,t8,())))
 )
def zw:=S8 (ah (D2 rT))
def rr (t0:List di) (t1:Int) (f2:Unit) (t6:Int):Rd ((List di)×Int×Unit×Int×Unit) Unit :=
 cond (au t6 t1) (
 (zw t0 t1 () t6 0 (jY .i64 2 t6)).bind (Sum.elim (fun y1 =>
 let u1:=(ak .i64 y1.2.2.2.2.1 y1.2.2.2.1)
 cond (au u1 y1.2.1) (
 (mI y1.1 y1.2.2.2.2.1 u1 y1.2.1).bind fun y2 =>
 let u2:=(jY .i64 y1.2.2.2.1 2)
 some (.inl (y2.1.1.1,y1.2.1,(),u2,()))
 ) (
 let u2:=(jY .i64 y1.2.2.2.1 2)
 some (.inl (y1.1,y1.2.1,(),u2,()))
 )
 ) (fun y1 =>
 some (.inr (.inr ()))
 ))
 ) (
 some (.inr (.inl (t0,t1,(),t6,())))
 )
def Db:=nh (ah (dh rr))
def Pe (p0:List di) (p1:Int):Option NU :=
 (Di p0 p1 () 20 0 20).bind (Sum.elim (fun y1 =>
 (GG y1.1 y1.2.2.2.2.1 y1.2.1).bind fun y2 =>
 (Db y2.1.1.1 y1.2.1 () y1.2.2.2.1).bind (Sum.elim (fun y3 =>
 some (((y3.1,()),()),())
 ) (fun y3 =>
 none
 ))
 ) (fun y1 =>
 none
 ))
def WI:Su:=⟨[.io false [.sl 92 bz],.c false aJ,.fn 93 []],[],true,.inl fun x=>Pe x.1.1 x.2.1.1⟩
theorem Ty:ar Tryz.prog 123 WI :=
 fl (ac Vd (ac T5 an)) [] [(0,⟨[.own 0 (.sl 92 bz),.d 1 (.int .i64),.fn 2 93 [],.d 6 (.int .i64),.d 7 (.int .i64),.d 8 (.int .i64)],ah (D2 rC)⟩),(4,⟨[.own 0 (.sl 92 bz),.d 1 (.int .i64),.fn 2 93 [],.d 6 (.int .i64),.d 7 (.int .i64),.d 8 (.int .i64)],ah (D2 rT)⟩),(2,⟨[.own 0 (.sl 92 bz),.d 1 (.int .i64),.fn 2 93 [],.d 6 (.int .i64)],ah (dh rr)⟩)] [0] Tryz.f123 (lp [0,2] (sc cX (sc (lp [4] (sc cX sn)) sn)))
def VA (p0:List di):Option NU :=
 (Pe p0 (ae p0)).bind fun y1 =>
 some ((y1.1.1,()),())
def s92:Su:=⟨[.io false [.sl 92 bz],.fn 93 []],[],true,.inl fun x=>VA x.1.1⟩
theorem W9:ar Tryz.prog 92 s92 :=
 fl (ac Ty an) [] [] [0] Tryz.f92 cX
def Ki (p0:List cG):Option (Unit×((List cG)×Unit)×Unit):=cond (cT 32 ([]:List cG) p0) (some ((),((p0,()),()))) none
def F9:Su:=⟨[.c false [.sl 157 dx]],[(false,[.sl 157 dx])],true,.inl fun x=>Ki x.1.1⟩
def PE:En:=⟨8,tt,je [],[],fun _=>none,[],fun _=>none⟩
def OG (x:PT F9.ps):St:=⟨[(2,.v .nil),(0,.v (.d (.sl 157 dx) x.1.1))],[]⟩
theorem t161 (x:PT F9.ps) (b:Bool):((cH PE (.seq (de (dT (de (ai Tryz.f161)))) (de (de (ai Tryz.f161)))) (((OG x).az 3 (.v (.d (.sl 157 dx) x.1.1),none)).az 4 (.v (.d .bool b),none))).bind (A8 PE Tryz.f161.results.toList F9.ps F9.rs F9.fresh)).run =
 cond b (some ((),(([],()),()))) (Ki x.1.1):=by kernel_rfl
theorem SB:ar Tryz.prog 161 F9 :=
 Dw (E:=PE) (lv hT) (cY (l:=[]) trivial) eR (fn:=Tryz.f161) (c0:=dT (ai Tryz.f161)) (cc:=de (dT (de (ai Tryz.f161)))) (c3:=de (de (ai Tryz.f161))) (id:=Jz (dT (dT (de (ai Tryz.f161)))))
  (o1:=fX (dT (dT (de (ai Tryz.f161)))) 0) (o2:=fX (dT (dT (de (ai Tryz.f161)))) 1) (by kernel_rfl) (by kernel_rfl) (by kernel_rfl) rfl
  (bw (fun _=>rfl) _ (by kernel_rfl)) (bw (fun _=>rfl) _ (by kernel_rfl)) (bw (fun _=>rfl) _ (by kernel_rfl)) (t0:=0) (t3:=3) (t4:=4) (ty:=87) (ty':=87) (e:=157) (e':=157) (by':=24) (fl:=[]) (ks:=dx) (by kernel_rfl) (by kernel_rfl) (by kernel_rfl) (by kernel_rfl) (by kernel_rfl) (by kernel_rfl) (by kernel_rfl) (by kernel_rfl) (by kernel_rfl)
  OG (fun x=>x.1.1) (fun x=>by kernel_rfl) (fun x=>by kernel_rfl) fun x y hy b hb=>by
   refine ⟨y.1,fun _=>rfl,?_⟩
   rw [t161]
   have hy:Ki x.1.1=some y:=hy
   cases b with
   | false=>exact hy
   | true =>
     have he:x.1.1=([]:List cG):=hb rfl
     rw [he] at hy
     exact hy
def Gu (p0:List R3):Option (Unit×Y2×Unit):=cond (cT 8 ([]:List R3) p0) (some ((),((p0,()),()))) none
def F8:Su:=⟨[.c false fU],[(false,fU)],true,.inl fun x=>Gu x.1.1⟩
def Q5:En:=⟨8,tt,je [],[],fun _=>none,[],fun _=>none⟩
def ND (x:PT F8.ps):St:=⟨[(2,.v .nil),(0,.v (.d (.sl 3 aJ) x.1.1))],[]⟩
theorem t209 (x:PT F8.ps) (b:Bool):((cH Q5 (.seq (de (dT (de (ai Tryz.f209)))) (de (de (ai Tryz.f209)))) (((ND x).az 3 (.v (.d (.sl 3 aJ) x.1.1),none)).az 4 (.v (.d .bool b),none))).bind (A8 Q5 Tryz.f209.results.toList F8.ps F8.rs F8.fresh)).run =
 cond b (some ((),(([],()),()))) (Gu x.1.1):=by kernel_rfl
theorem Ue:ar Tryz.prog 209 F8 :=
 Dw (E:=Q5) (lv hT) (cY (l:=[]) trivial) eR (fn:=Tryz.f209) (c0:=dT (ai Tryz.f209)) (cc:=de (dT (de (ai Tryz.f209)))) (c3:=de (de (ai Tryz.f209))) (id:=Jz (dT (dT (de (ai Tryz.f209)))))
  (o1:=fX (dT (dT (de (ai Tryz.f209)))) 0) (o2:=fX (dT (dT (de (ai Tryz.f209)))) 1) (by kernel_rfl) (by kernel_rfl) (by kernel_rfl) rfl
  (bw (fun _=>rfl) _ (by kernel_rfl)) (bw (fun _=>rfl) _ (by kernel_rfl)) (bw (fun _=>rfl) _ (by kernel_rfl)) (t0:=0) (t3:=3) (t4:=4) (ty:=53) (ty':=53) (e:=3) (e':=3) (by':=24) (fl:=[]) (ks:=aJ) (by kernel_rfl) (by kernel_rfl) (by kernel_rfl) (by kernel_rfl) (by kernel_rfl) (by kernel_rfl) (by kernel_rfl) (by kernel_rfl) (by kernel_rfl)
  ND (fun x=>x.1.1) (fun x=>by kernel_rfl) (fun x=>by kernel_rfl) fun x y hy b hb=>by
   refine ⟨y.1,fun _=>rfl,?_⟩
   rw [t209]
   have hy:Gu x.1.1=some y:=hy
   cases b with
   | false=>exact hy
   | true =>
     have he:x.1.1=([]:List R3):=hb rfl
     rw [he] at hy
     exact hy
def KB (p0:Int×Int×(List R3)×(List R3)×Unit):Option YI :=
 (Gu p0.2.2.1).bind fun y1 =>
 (Gu p0.2.2.2.1).bind fun y2 =>
 some ((),((p0.1,p0.2.1,y1.2.1.1,y2.2.1.1,()),()))
def Xg:Su:=⟨[.c true [.int .i64,.int .i64,.sl 3 aJ,.sl 3 aJ]],[(true,[.int .i64,.int .i64,.sl 3 aJ,.sl 3 aJ])],true,.inl fun x=>KB x.1⟩
theorem Ub:ar Tryz.prog 162 Xg :=
 fq (ac Ue an) Tryz.f162
def G7 (p0:List R5):Option (Unit×((List R5)×Unit)×Unit):=cond (cT 1 ([]:List R5) p0) (some ((),((p0,()),()))) none
def Fa:Su:=⟨[.c false [.sl 5 fK]],[(false,[.sl 5 fK])],true,.inl fun x=>G7 x.1.1⟩
def Qy:En:=⟨8,tt,je [],[],fun _=>none,[],fun _=>none⟩
def NO (x:PT Fa.ps):St:=⟨[(2,.v .nil),(0,.v (.d (.sl 5 fK) x.1.1))],[]⟩
theorem t210 (x:PT Fa.ps) (b:Bool):((cH Qy (.seq (de (dT (de (ai Tryz.f210)))) (de (de (ai Tryz.f210)))) (((NO x).az 3 (.v (.d (.sl 5 fK) x.1.1),none)).az 4 (.v (.d .bool b),none))).bind (A8 Qy Tryz.f210.results.toList Fa.ps Fa.rs Fa.fresh)).run =
 cond b (some ((),(([],()),()))) (G7 x.1.1):=by kernel_rfl
theorem Uo:ar Tryz.prog 210 Fa :=
 Dw (E:=Qy) (lv hT) (cY (l:=[]) trivial) eR (fn:=Tryz.f210) (c0:=dT (ai Tryz.f210)) (cc:=de (dT (de (ai Tryz.f210)))) (c3:=de (de (ai Tryz.f210))) (id:=Jz (dT (dT (de (ai Tryz.f210)))))
  (o1:=fX (dT (dT (de (ai Tryz.f210)))) 0) (o2:=fX (dT (dT (de (ai Tryz.f210)))) 1) (by kernel_rfl) (by kernel_rfl) (by kernel_rfl) rfl
  (bw (fun _=>rfl) _ (by kernel_rfl)) (bw (fun _=>rfl) _ (by kernel_rfl)) (bw (fun _=>rfl) _ (by kernel_rfl)) (t0:=0) (t3:=3) (t4:=4) (ty:=62) (ty':=62) (e:=5) (e':=5) (by':=24) (fl:=[]) (ks:=fK) (by kernel_rfl) (by kernel_rfl) (by kernel_rfl) (by kernel_rfl) (by kernel_rfl) (by kernel_rfl) (by kernel_rfl) (by kernel_rfl) (by kernel_rfl)
  NO (fun x=>x.1.1) (fun x=>by kernel_rfl) (fun x=>by kernel_rfl) fun x y hy b hb=>by
   refine ⟨y.1,fun _=>rfl,?_⟩
   rw [t210]
   have hy:G7 x.1.1=some y:=hy
   cases b with
   | false=>exact hy
   | true =>
     have he:x.1.1=([]:List R5):=hb rfl
     rw [he] at hy
     exact hy
def pk (t3 t7:List cw) (t8 t9:Int):Rd VH Unit :=
 cond (au t9 t8) (
 cond (aU t9 t7) (
 let u1:=(gt d160 t7 t9)
 (G7 u1.2.2.1).bind fun y1 =>
 cond (cT 56 t3 [(u1.1,u1.2.1,y1.2.1.1,())]) (
 some (.inl ((ll t3 [(u1.1,u1.2.1,y1.2.1.1,())]),t7,t8,(ak .i64 t9 1),()))
 ) none
 ) none
 ) (
 some (.inr (.inl (t3,t7,t8,t9,())))
 )
def II:=nh (ah (dh pk))
def Lx (p0:List cw):Option Wr :=
 (II [] p0 (ae p0) 0).bind (Sum.elim (fun y1 =>
 some ((),((y1.1,()),()))
 ) (fun y1 =>
 none
 ))
def W0:Su:=⟨[.c false [.sl 160 cU]],[(false,[.sl 160 cU])],true,.inl fun x=>Lx x.1.1⟩
theorem Tc:ar Tryz.prog 163 W0 :=
 fl (ac Uo an) [] [(0,⟨[.own 3 (.sl 160 cU),.d 7 (.sl 160 cU),.d 8 (.int .i64),.d 9 (.int .i64)],ah (dh pk)⟩)] [] Tryz.f163 (lp [0] (sc cX sn))
def MT (p0:(List UInt8)×Int×Int×Int×Int×(List cG)×Int×Int×(List R3)×(List R3)×(List cw)×Unit):Option XL :=
 (Ki p0.2.2.2.2.2.1).bind fun y1 =>
 (KB (p0.2.2.2.2.2.2.1,p0.2.2.2.2.2.2.2.1,p0.2.2.2.2.2.2.2.2.1,p0.2.2.2.2.2.2.2.2.2.1,())).bind fun y2 =>
 (Lx p0.2.2.2.2.2.2.2.2.2.2.1).bind fun y3 =>
 some ((),((p0.1,p0.2.1,p0.2.2.1,p0.2.2.2.1,p0.2.2.2.2.1,y1.2.1.1,y2.2.1.1,y2.2.1.2.1,y2.2.1.2.2.1,y2.2.1.2.2.2.1,y3.2.1.1,()),()))
def XS:Su:=⟨[.c true bz],[(true,bz)],true,.inl fun x=>MT x.1⟩
theorem TD:ar Tryz.prog 122 XS :=
 fq (ac SB (ac Ub (ac Tc an))) Tryz.f122
def oZ (f1:Unit) (t10:List di) (t11 t12:Int) (b4 b5:(List di)×Unit):Rd (Unit×(List di)×Int×Int×Y4×Y4×Unit) Unit :=
 cond (au t12 t11) (
 cond (aU t12 t10) (
 (MT (gt d92 t10 t12)).bind fun y1 =>
 cond (cT 160 b5.1 [y1.2.1]) (
 some (.inl ((),t10,t11,(ak .i64 t12 1),b4,((ll b5.1 [y1.2.1]),()),()))
 ) none
 ) none
 ) (
 some (.inr (.inl ((),t10,t11,t12,b4,b5,())))
 )
def Kz:=S8 (ah (D2 oZ))
def QR (p0:(List di)×Unit):Option RP :=
 (Kz () p0.1 (ae p0.1) 0 ([],()) ([],())).bind (Sum.elim (fun y1 =>
 some ((),(y1.2.2.2.2.2.1,()))
 ) (fun y1 =>
 none
 ))
def ZT:Su:=⟨[.c true [.sl 92 bz],.fn 122 []],[(true,[.sl 92 bz])],true,.inl fun x=>QR x.1⟩
theorem R4:ar Tryz.prog 121 ZT :=
 fl (ac TD an) [] [(0,⟨[.fn 1 122 [],.d 10 (.sl 92 bz),.d 11 (.int .i64),.d 12 (.int .i64),.box 4 [(true,.sl 92 bz)],.box 5 [(true,.sl 92 bz)]],ah (D2 oZ)⟩)] [] Tryz.f121 (lp [0] (sc cX sn))
def V1 (p0:(List di)×Unit):Option RP :=
 (QR p0).bind fun y1 =>
 some ((),(y1.2.1,()))
def s91:Su:=⟨[.c true [.sl 92 bz]],[(true,[.sl 92 bz])],true,.inl fun x=>V1 x.1⟩
theorem Zg:ar Tryz.prog 91 s91 :=
 fq (ac R4 an) Tryz.f91
def wg (t7:List eS) (t8 t9:Int) (b2 b3:(List di)×Unit):Rd ((List eS)×Int×Int×Y4×Y4×Unit) Unit :=
 cond (au t9 t8) (
 cond (aU t9 t7) (
 (V1 ((gt d67 t7 t9).2.1,())).bind fun y1 =>
 cond (cT 160 b3.1 y1.2.1.1) (
 some (.inl (t7,t8,(ak .i64 t9 1),b2,((ll b3.1 y1.2.1.1),()),()))
 ) none
 ) none
 ) (
 some (.inr (.inl (t7,t8,t9,b2,b3,())))
 )
def NH:=zz (ah (gz wg))
def P6 (p0:List eS):Option RP :=
 (NH p0 (ae p0) 0 ([],()) ([],())).bind (Sum.elim (fun y1 =>
 (VA y1.2.2.2.2.1.1).bind fun y2 =>
 some ((),(y2.1.1,()))
 ) (fun y1 =>
 none
 ))
def s68:Su:=⟨[.c false [.sl 67 cN]],[(true,[.sl 92 bz])],true,.inl fun x=>P6 x.1.1⟩
theorem Xd:ar Tryz.prog 68 s68 :=
 fl (ac W9 (ac Zg an)) [] [(0,⟨[.d 7 (.sl 67 cN),.d 8 (.int .i64),.d 9 (.int .i64),.box 2 [(true,.sl 92 bz)],.box 3 [(true,.sl 92 bz)]],ah (gz wg)⟩)] [] Tryz.f68 (lp [0] (sc cX sn))
def pF (t0:List UInt8) (t5 t6:Int):Rd RL Y1 :=
 cond (au t6 t5) (
 cond (aU t6 t0) (
 let u1:=(dy t0 t6)
 cond (au u1 48) (
 some (.inr (.inr (false,())))
 ) (
 cond (aU t6 t0) (
 cond (au 57 u1) (
 some (.inr (.inr (false,())))
 ) (
 some (.inl (t0,t5,(ak .i64 t6 1),()))
 )
 ) none
 )
 ) none
 ) (
 some (.inr (.inl (t0,t5,t6,())))
 )
def G6:=lM (ah (dC pF))
def tF (p0:List UInt8):Option eo :=
 (G6 p0 (ae p0) 0).bind (Sum.elim (fun y1 =>
 some ((),(((!(cq y1.1 [])),()),()))
 ) (fun y1 =>
 some ((),(y1,()))
 ))
def X6:Su:=⟨[.c false [.str]],[(false,[.bool])],true,.inl fun x=>tF x.1.1⟩
theorem yg:ar Tryz.prog 190 X6 :=
 fl an [.d 2 (.bool)] [(0,⟨[.d 0 (.str),.d 5 (.int .i64),.d 6 (.int .i64)],ah (dC pF)⟩)] [] Tryz.f190 (lp [0] (sc cX sn))
def sa (t0:List UInt8) (t3:Int) (t4:Bool) (t5:Int):Rd ((List UInt8)×Int×Bool×Int×Unit) Unit :=
 cond (bD 0 t5) (
 cond (aU t5 t0) (
 cond t4 (
 let u1:=(bG .i64 (aH .u8 (dy t0 t5) 48))
 let u2:=(jY .i64 u1 2)
 cond (au 9 u2) (
 let u3:=(aH .i64 t5 1)
 some (.inl (t0,(ak .i64 t3 (aH .i64 u2 9)),(!t4),u3,()))
 ) (
 let u3:=(aH .i64 t5 1)
 some (.inl (t0,(ak .i64 t3 u2),(!t4),u3,()))
 )
 ) (
 let u1:=(bG .i64 (aH .u8 (dy t0 t5) 48))
 let u2:=(aH .i64 t5 1)
 some (.inl (t0,(ak .i64 t3 u1),(!t4),u2,()))
 )
 ) none
 ) (
 some (.inr (.inl (t0,t3,t4,t5,())))
 )
def IN:=nh (ah (dh sa))
def MQ (p0:List UInt8):Option kf :=
 (tF p0).bind fun y1 =>
 cond (!y1.2.1.1) (
 some ((),(((-1),()),()))
 ) (
 (IN p0 0 true (aH .i64 (ae p0) 1)).bind (Sum.elim (fun y2 =>
 some ((),(((fI (aH .i64 10 (fI y2.2.1 10)) 10),()),()))
 ) (fun y2 =>
 none
 ))
 )
def Yx:Su:=⟨[.c false [.str]],[(false,aJ)],true,.inl fun x=>MQ x.1.1⟩
theorem TQ:ar Tryz.prog 191 Yx :=
 fl (ac yg an) [] [(0,⟨[.d 0 (.str),.d 3 (.int .i64),.d 4 (.bool),.d 5 (.int .i64)],ah (dh sa)⟩)] [] Tryz.f191 (lp [0] (sc cX sn))
def MZ (p0:List UInt8):Option eo :=
 let u1:=(aH .i64 (ae p0) 1)
 cond (bD 1 u1) (
 (tF p0).bind fun y1 =>
 cond y1.2.1.1 (
 cond (dO 0 u1 p0) (
 (MQ (sub p0 0 u1)).bind fun y2 =>
 cond (aU u1 p0) (
 some ((),(((aq y2.2.1.1 (bG .i64 (aH .u8 (dy p0 u1) 48))),()),()))
 ) none
 ) none
 ) (
 some ((),((false,()),()))
 )
 ) (
 some ((),((false,()),()))
 )
def YX:Su:=⟨[.c false [.str]],[(false,[.bool])],true,.inl fun x=>MZ x.1.1⟩
theorem Vc:ar Tryz.prog 141 YX :=
 fq (ac yg (ac TQ an)) Tryz.f141
def rU (p0:List UInt8):Option eo :=
 cond (bD (ae p0) 19) (
 (MZ p0).bind fun y1 =>
 some ((),(y1.2.1,()))
 ) (
 some ((),((false,()),()))
 )
def YS:Su:=⟨[.c false [.str]],[(false,[.bool])],true,.inl fun x=>rU x.1.1⟩
theorem NA:ar Tryz.prog 106 YS :=
 fq (ac Vc an) Tryz.f106
def LN (p0:Int):Option eo :=
 (mA p0 0 4611686018427387904).bind fun y1 =>
 some ((),(y1.2.1,()))
def XA:Su:=⟨[.c false aJ],[(false,[.bool])],true,.inl fun x=>LN x.1.1⟩
theorem OV:ar Tryz.prog 107 XA :=
 fq (ac l8 an) Tryz.f107
def oU (t0:List UInt8) (t5 t6:Int):Rd RL Y1 :=
 cond (au t6 t5) (
 cond (aU t6 t0) (
 let u1:=(dy t0 t6)
 cond (au u1 48) (
 cond (aU t6 t0) (
 cond (au u1 97) (
 some (.inr (.inr (false,())))
 ) (
 cond (aU t6 t0) (
 cond (au 122 u1) (
 some (.inr (.inr (false,())))
 ) (
 some (.inl (t0,t5,(ak .i64 t6 1),()))
 )
 ) none
 )
 ) none
 ) (
 cond (aU t6 t0) (
 cond (au 57 u1) (
 cond (aU t6 t0) (
 cond (au u1 97) (
 some (.inr (.inr (false,())))
 ) (
 cond (aU t6 t0) (
 cond (au 122 u1) (
 some (.inr (.inr (false,())))
 ) (
 some (.inl (t0,t5,(ak .i64 t6 1),()))
 )
 ) none
 )
 ) none
 ) (
 some (.inl (t0,t5,(ak .i64 t6 1),()))
 )
 ) none
 )
 ) none
 ) (
 some (.inr (.inl (t0,t5,t6,())))
 )
def Hd:=lM (ah (dC oU))
def Kn (p0:List UInt8):Option eo :=
 (Hd p0 (ae p0) 0).bind (Sum.elim (fun y1 =>
 (mA (ae y1.1) 1 6).bind fun y2 =>
 some ((),(y2.2.1,()))
 ) (fun y1 =>
 some ((),(y1,()))
 ))
def Wm:Su:=⟨[.c false [.str]],[(false,[.bool])],true,.inl fun x=>Kn x.1.1⟩
theorem Oc:ar Tryz.prog 192 Wm :=
 fl (ac l8 an) [.d 2 (.bool)] [(0,⟨[.d 0 (.str),.d 5 (.int .i64),.d 6 (.int .i64)],ah (dC oU)⟩)] [] Tryz.f192 (lp [0] (sc cX sn))
def uh (p0:Int):Option eo :=
 (mA p0 0 1000000000).bind fun y1 =>
 some ((),(y1.2.1,()))
def s38:Su:=⟨[.c false aJ],[(false,[.bool])],true,.inl fun x=>uh x.1.1⟩
theorem Ld:ar Tryz.prog 38 s38 :=
 fq (ac l8 an) Tryz.f38
def Mm (p0:(List UInt8)×Int×Int×Unit):Option eo :=
 (Kn p0.1).bind fun y1 =>
 cond y1.2.1.1 (
 (mA p0.2.1 1 9007199254740992).bind fun y2 =>
 cond y2.2.1.1 (
 (uh p0.2.2.1).bind fun y3 =>
 some ((),(y3.2.1,()))
 ) (
 some ((),((false,()),()))
 )
 ) (
 some ((),((false,()),()))
 )
def YQ:Su:=⟨[.c true jx],[(false,[.bool])],true,.inl fun x=>Mm x.1⟩
theorem UF:ar Tryz.prog 142 YQ :=
 fq (ac l8 (ac Oc (ac Ld an))) Tryz.f142
def pE (t0 t5:List cG) (t6 t7:Int):Rd ((List cG)×(List cG)×Int×Int×Unit) Y1 :=
 cond (au t7 t6) (
 cond (aU t7 t5) (
 let u1:=(gt d157 t5 t7)
 (Mm u1).bind fun y1 =>
 cond (!y1.2.1.1) (
 some (.inr (.inr (false,())))
 ) (
 cond (au 0 t7) (
 let u2:=(aH .i64 t7 1)
 cond (aU u2 t0) (
 cond (PQ u1.1 (gt d157 t0 u2).1) (
 some (.inr (.inr (false,())))
 ) (
 some (.inl (t0,t5,t6,(ak .i64 t7 1),()))
 )
 ) none
 ) (
 some (.inl (t0,t5,t6,(ak .i64 t7 1),()))
 )
 )
 ) none
 ) (
 some (.inr (.inl (t0,t5,t6,t7,())))
 )
def HN:=nh (ah (dh pE))
def MW (p0:List cG):Option eo :=
 (HN p0 p0 (ae p0) 0).bind (Sum.elim (fun y1 =>
 some ((),(((bD (ae y1.1) 4),()),()))
 ) (fun y1 =>
 some ((),(y1,()))
 ))
def YG:Su:=⟨[.c false [.sl 157 dx]],[(false,[.bool])],true,.inl fun x=>MW x.1.1⟩
theorem Un:ar Tryz.prog 108 YG :=
 fl (ac UF an) [.d 2 (.bool)] [(0,⟨[.d 0 (.sl 157 dx),.d 5 (.sl 157 dx),.d 6 (.int .i64),.d 7 (.int .i64)],ah (dh pE)⟩)] [] Tryz.f108 (lp [0] (sc cX sn))
def MC (p1:Int):Option KF :=
 cond (au p1 0) (
 none
 ) (
 let u1:=(aH .i64 p1 (aH .i64 0 0))
 cond (au 0 u1) (
 cond (Ur 0 0) (
 cond (Y3 8 u1) (
 let u2:=(uF d3 u1)
 cond (dO 0 0 u2) (
 some ((),(((Nw u2 0),()),()))
 ) none
 ) none
 ) none
 ) (
 some ((),(([],()),()))
 )
 )
def W8:Su:=⟨[.nil,.c false aJ],[(false,fU)],true,.inl fun x=>MC x.1.1⟩
theorem T4:ar Tryz.prog 193 W8 :=
 fq an Tryz.f193
def ri (t0:List NB) (t3:Int) (t9:List NB) (t10 t11:Int):Rd ((List NB)×Int×(List NB)×Int×Int×Unit) Unit :=
 cond (au t11 t10) (
 cond (aU t11 t9) (
 let u1:=(ak .i64 t3 (ae (gt d53 t9 t11).1))
 cond (au u1 0) (
 none
 ) (
 some (.inl (t0,u1,t9,t10,(ak .i64 t11 1),()))
 )
 ) none
 ) (
 some (.inr (.inl (t0,t3,t9,t10,t11,())))
 )
def Df:=zz (ah (gz ri))
def sg (t6:List R3) (t25:List NB) (t26 t27:Int):Rd ((List R3)×(List NB)×Int×Int×Unit) Unit :=
 cond (au t27 t26) (
 cond (aU t27 t25) (
 cond (cT 8 t6 (gt d53 t25 t27).1) (
 some (.inl ((ll t6 (gt d53 t25 t27).1),t25,t26,(ak .i64 t27 1),()))
 ) none
 ) none
 ) (
 some (.inr (.inl (t6,t25,t26,t27,())))
 )
def Du:=nh (ah (dh sg))
def KN (p0:List NB):Option KF :=
 (Df p0 0 p0 (ae p0) 0).bind (Sum.elim (fun y1 =>
 (MC y1.2.1).bind fun y2 =>
 (Du y2.2.1.1 y1.1 (ae y1.1) 0).bind (Sum.elim (fun y3 =>
 some ((),((y3.1,()),()))
 ) (fun y3 =>
 none
 ))
 ) (fun y1 =>
 none
 ))
def XO:Su:=⟨[.c false [.sl 53 fU]],[(false,fU)],true,.inl fun x=>KN x.1.1⟩
theorem UR:ar Tryz.prog 143 XO :=
 fl (ac T4 an) [] [(0,⟨[.d 0 (.sl 53 fU),.d 3 (.int .i64),.d 9 (.sl 53 fU),.d 10 (.int .i64),.d 11 (.int .i64)],ah (gz ri)⟩),(2,⟨[.own 6 (.sl 3 aJ),.d 25 (.sl 53 fU),.d 26 (.int .i64),.d 27 (.int .i64)],ah (dh sg)⟩)] [] Tryz.f143 (lp [0,2] (sc cX (sc cX sn)))
def py (t3:Int) (t14:List R3) (t15 t16:Int) (b1:Int×Int×(List R3)×(List R3)×Unit):Rd (Int×(List R3)×Int×Int×(Int×Int×(List R3)×(List R3)×Unit)×Unit) Y1 :=
 cond (au t16 t15) (
 cond (aU t16 t14) (
 (LN (gt d3 t14 t16).1).bind fun y1 =>
 cond (!y1.2.1.1) (
 some (.inr (.inr (false,())))
 ) (
 some (.inl (t3,t14,t15,(ak .i64 t16 1),b1,()))
 )
 ) none
 ) (
 some (.inr (.inl (t3,t14,t15,t16,b1,())))
 )
def JU:=zz (ah (gz py))
def G9 (p0:Int×Int×(List R3)×(List R3)×Unit):Option eo :=
 (KN [(p0.2.2.1,()),(p0.2.2.2.1,())]).bind fun y1 =>
 (JU (ae p0.2.2.1) y1.2.1.1 (ae y1.2.1.1) 0 p0).bind (Sum.elim (fun y2 =>
 (mA y2.2.2.2.2.1.1 1 1000).bind fun y3 =>
 cond y3.2.1.1 (
 (mA y2.1 1 8).bind fun y4 =>
 cond (cond y4.2.1.1 (aq (ae y2.2.2.2.2.1.2.2.2.1) y2.1) false) (
 (uh y2.2.2.2.2.1.2.1).bind fun y5 =>
 some ((),(y5.2.1,()))
 ) (
 some ((),((false,()),()))
 )
 ) (
 some ((),((false,()),()))
 )
 ) (fun y2 =>
 some ((),(y2,()))
 ))
def Xp:Su:=⟨[.c true [.int .i64,.int .i64,.sl 3 aJ,.sl 3 aJ]],[(false,[.bool])],true,.inl fun x=>G9 x.1⟩
theorem Vq:ar Tryz.prog 109 Xp :=
 fl (ac l8 (ac OV (ac Ld (ac UR an)))) [.d 2 (.bool)] [(0,⟨[.d 3 (.int .i64),.own 14 (.sl 3 aJ),.d 15 (.int .i64),.d 16 (.int .i64),.box 1 [(false,.int .i64),(false,.int .i64),(false,.sl 3 aJ),(false,.sl 3 aJ)]],ah (gz py)⟩)] [] Tryz.f109 (lp [0] (sc cX sn))
def vq (p0:List UInt8) (p1:Int):Option eo :=
 (tF p0).bind fun y1 =>
 some ((),(((cond y1.2.1.1 (aq (ae p0) p1) false),()),()))
def XX:Su:=⟨[.c false [.str],.c false aJ],[(false,[.bool])],true,.inl fun x=>vq x.1.1 x.2.1.1⟩
theorem HB:ar Tryz.prog 194 XX :=
 fq (ac yg an) Tryz.f194
def Nh (p0:(List UInt8)×(List UInt8)×(List R5)×Unit):Option eo :=
 (vq p0.1 6).bind fun y1 =>
 cond y1.2.1.1 (
 (vq p0.2.1 4).bind fun y2 =>
 cond y2.2.1.1 (
 (mA (ae p0.2.2.1) 1 200).bind fun y3 =>
 some ((),(y3.2.1,()))
 ) (
 some ((),((false,()),()))
 )
 ) (
 some ((),((false,()),()))
 )
def YW:Su:=⟨[.c true iU],[(false,[.bool])],true,.inl fun x=>Nh x.1⟩
theorem Tq:ar Tryz.prog 144 YW :=
 fq (ac l8 (ac HB an)) Tryz.f144
def Rq (p0:(List UInt8)×(List UInt8)×(List R5)×Unit) (p1 p2:(List UInt8)×Unit):Option eo :=
 some ((),(((cond (cq p0.1 p1.1) (cq p0.2.1 p2.1) false),()),()))
def Zj:Su:=⟨[.c true iU,.pt [.str],.pt [.str]],[(false,[.bool])],true,.inl fun x=>Rq x.1 x.2.1 x.2.2.1⟩
theorem RM:ar Tryz.prog 196 Zj :=
 fq an Tryz.f196
def o8 (t0:List cw) (f1:Y7×Y7×Unit) (t7 t8:Int):Rd ((List cw)×(Y7×Y7×Unit)×Int×Int×Unit) Y0 :=
 cond (au t8 t7) (
 cond (aU t8 t0) (
 (Rq (gt d160 t0 t8) f1.1 f1.2.1).bind fun y1 =>
 cond y1.2.1.1 (
 some (.inr (.inr (t8,())))
 ) (
 some (.inl (t0,f1,t7,(ak .i64 t8 1),()))
 )
 ) none
 ) (
 some (.inr (.inl (t0,f1,t7,t8,())))
 )
def JT:=nh (ah (dh o8))
def PD (p0:List cw) (c1_0 c1_1:(List UInt8)×Unit):Option kf :=
 (JT p0 (c1_0,c1_1,()) (ae p0) 0).bind (Sum.elim (fun y1 =>
 some ((),(((-1),()),()))
 ) (fun y1 =>
 some ((),(y1,()))
 ))
def Yz:Su:=⟨[.c false [.sl 160 cU],.fn 196 [.p [.str],.p [.str]]],[(false,aJ)],true,.inl fun x=>PD x.1.1 x.2.1.1 x.2.1.2.1⟩
theorem UD:ar Tryz.prog 195 Yz :=
 fl (ac RM an) [.d 4 (.int .i64)] [(0,⟨[.d 0 (.sl 160 cU),.fn 1 196 [.p [.str],.p [.str]],.d 7 (.int .i64),.d 8 (.int .i64)],ah (dh o8)⟩)] [] Tryz.f195 (lp [0] (sc cX sn))
def KT (p0:List cw) (p1 p2:List UInt8):Option kf :=
 (PD p0 (p1,()) (p2,())).bind fun y1 =>
 some ((),(y1.2.1,()))
def WR:Su:=⟨[.c false [.sl 160 cU],.c false [.str],.c false [.str]],[(false,aJ)],true,.inl fun x=>KT x.1.1 x.2.1.1 x.2.2.1.1⟩
theorem Vl:ar Tryz.prog 145 WR :=
 fq (ac UD an) Tryz.f145
def nT (t0 t5:List cw) (t6 t7:Int):Rd VH Y1 :=
 cond (au t7 t6) (
 cond (aU t7 t5) (
 let u1:=(gt d160 t5 t7)
 (Nh u1).bind fun y1 =>
 cond (!y1.2.1.1) (
 some (.inr (.inr (false,())))
 ) (
 (KT t0 u1.1 u1.2.1).bind fun y2 =>
 cond (!(aq y2.2.1.1 t7)) (
 some (.inr (.inr (false,())))
 ) (
 some (.inl (t0,t5,t6,(ak .i64 t7 1),()))
 )
 )
 ) none
 ) (
 some (.inr (.inl (t0,t5,t6,t7,())))
 )
def H8:=nh (ah (dh nT))
def LV (p0:List cw):Option eo :=
 (H8 p0 p0 (ae p0) 0).bind (Sum.elim (fun y1 =>
 some ((),(((bD (ae y1.1) 6),()),()))
 ) (fun y1 =>
 some ((),(y1,()))
 ))
def X7:Su:=⟨[.c false [.sl 160 cU]],[(false,[.bool])],true,.inl fun x=>LV x.1.1⟩
theorem Tv:ar Tryz.prog 110 X7 :=
 fl (ac Tq (ac Vl an)) [.d 2 (.bool)] [(0,⟨[.d 0 (.sl 160 cU),.d 5 (.sl 160 cU),.d 6 (.int .i64),.d 7 (.int .i64)],ah (dh nT)⟩)] [] Tryz.f110 (lp [0] (sc cX sn))
def I4 (p0 p1:Int):Option kf :=
 let u1:=(Fx 0 (Gb p1 4611686018427387904))
 let u2:=(Fx 0 (Gb p0 4611686018427387904))
 cond (au (aH .i64 4611686018427387904 u1) u2) (
 some ((),((4611686018427387904,()),()))
 ) (
 some ((),(((ak .i64 u2 u1),()),()))
 )
def ZV:Su:=⟨[.c false aJ,.c false aJ],[(false,aJ)],true,.inl fun x=>I4 x.1.1 x.2.1.1⟩
theorem N0:ar Tryz.prog 111 ZV :=
 fq an Tryz.f111
def oN (t3:Int) (t6:List cG) (t7 t8:Int):Rd (Int×(List cG)×Int×Int×Unit) Unit :=
 cond (au t8 t7) (
 cond (aU t8 t6) (
 (I4 t3 (gt d157 t6 t8).2.1).bind fun y1 =>
 some (.inl (y1.2.1.1,t6,t7,(ak .i64 t8 1),()))
 ) none
 ) (
 some (.inr (.inl (t3,t6,t7,t8,())))
 )
def Jw:=nh (ah (dh oN))
def MG (p0:List cG):Option kf :=
 (Jw 0 p0 (ae p0) 0).bind (Sum.elim (fun y1 =>
 some ((),((y1.1,()),()))
 ) (fun y1 =>
 none
 ))
def ZM:Su:=⟨[.c false [.sl 157 dx]],[(false,aJ)],true,.inl fun x=>MG x.1.1⟩
theorem SO:ar Tryz.prog 112 ZM :=
 fl (ac N0 an) [] [(0,⟨[.d 3 (.int .i64),.d 6 (.sl 157 dx),.d 7 (.int .i64),.d 8 (.int .i64)],ah (dh oN)⟩)] [] Tryz.f112 (lp [0] (sc cX sn))
def Vy (p0:(List UInt8)×Int×Int×Int×Int×(List cG)×Int×Int×(List R3)×(List R3)×(List cw)×Unit):Option eo :=
 (rU p0.1).bind fun y1 =>
 cond y1.2.1.1 (
 (mA p0.2.1 0 9007199254740992).bind fun y2 =>
 cond y2.2.1.1 (
 (mA p0.2.2.2.1 0 1000).bind fun y3 =>
 cond y3.2.1.1 (
 (mA p0.2.2.2.2.1 0 9007199254740992).bind fun y4 =>
 cond y4.2.1.1 (
 (LN p0.2.2.1).bind fun y5 =>
 cond y5.2.1.1 (
 (MW p0.2.2.2.2.2.1).bind fun y6 =>
 cond y6.2.1.1 (
 (G9 (p0.2.2.2.2.2.2.1,p0.2.2.2.2.2.2.2.1,p0.2.2.2.2.2.2.2.2.1,p0.2.2.2.2.2.2.2.2.2.1,())).bind fun y7 =>
 cond y7.2.1.1 (
 (LV p0.2.2.2.2.2.2.2.2.2.2.1).bind fun y8 =>
 cond y8.2.1.1 (
 (MG p0.2.2.2.2.2.1).bind fun y9 =>
 (I4 p0.2.2.1 y9.2.1.1).bind fun y10 =>
 some ((),(((bD y10.2.1.1 p0.2.1),()),()))
 ) (
 some ((),((false,()),()))
 )
 ) (
 some ((),((false,()),()))
 )
 ) (
 some ((),((false,()),()))
 )
 ) (
 some ((),((false,()),()))
 )
 ) (
 some ((),((false,()),()))
 )
 ) (
 some ((),((false,()),()))
 )
 ) (
 some ((),((false,()),()))
 )
 ) (
 some ((),((false,()),()))
 )
def s78:Su:=⟨[.c true bz],[(false,[.bool])],true,.inl fun x=>Vy x.1⟩
theorem WO:ar Tryz.prog 78 s78 :=
 fq (ac l8 (ac NA (ac OV (ac Un (ac Vq (ac Tv (ac N0 (ac SO an)))))))) Tryz.f78
def wO (t6:List di) (t7 t8:Int) (b1:(List di)×Unit):Rd ((List di)×Int×Int×Y4×Unit) Y1 :=
 cond (au t8 t7) (
 cond (aU t8 t6) (
 let u1:=(gt d92 t6 t8)
 (Vy u1).bind fun y1 =>
 cond (!y1.2.1.1) (
 some (.inr (.inr (false,())))
 ) (
 cond (au 0 t8) (
 let u2:=(aH .i64 t8 1)
 cond (aU u2 b1.1) (
 cond (PQ u1.1 (gt d92 b1.1 u2).1) (
 some (.inr (.inr (false,())))
 ) (
 some (.inl (t6,t7,(ak .i64 t8 1),b1,()))
 )
 ) none
 ) (
 some (.inl (t6,t7,(ak .i64 t8 1),b1,()))
 )
 )
 ) none
 ) (
 some (.inr (.inl (t6,t7,t8,b1,())))
 )
def NW:=nh (ah (dh wO))
def T9 (p0:(List di)×Unit):Option eo :=
 (NW p0.1 (ae p0.1) 0 p0).bind (Sum.elim (fun y1 =>
 some ((),(((bD (ae y1.2.2.2.1.1) 6),()),()))
 ) (fun y1 =>
 some ((),(y1,()))
 ))
def s51:Su:=⟨[.c true [.sl 92 bz]],[(false,[.bool])],true,.inl fun x=>T9 x.1⟩
theorem Zu:ar Tryz.prog 51 s51 :=
 fl (ac WO an) [.d 2 (.bool)] [(0,⟨[.d 6 (.sl 92 bz),.d 7 (.int .i64),.d 8 (.int .i64),.box 1 [(false,.sl 92 bz)]],ah (dh wO)⟩)] [] Tryz.f51 (lp [0] (sc cX sn))
def wP (t0:List UInt8) (t3 t6 t7:Int):Rd ((List UInt8)×Int×Int×Int×Unit) Unit :=
 cond (au t7 t6) (
 cond (aU t7 t0) (
 some (.inl (t0,(jY .u32 (Bm .u32 t3 (bG .u32 (dy t0 t7))) 16777619),t6,(ak .i64 t7 1),()))
 ) none
 ) (
 some (.inr (.inl (t0,t3,t6,t7,())))
 )
def Np:=nh (ah (dh wP))
def Vu (p0:List UInt8):Option kf :=
 (Np p0 2166136261 (ae p0) 0).bind (Sum.elim (fun y1 =>
 some ((),(((bG .i64 y1.2.1),()),()))
 ) (fun y1 =>
 none
 ))
def s90:Su:=⟨[.c false [.str]],[(false,aJ)],true,.inl fun x=>Vu x.1.1⟩
theorem X4:ar Tryz.prog 90 s90 :=
 fl an [] [(0,⟨[.d 0 (.str),.d 3 (.int .u32),.d 6 (.int .i64),.d 7 (.int .i64)],ah (dh wP)⟩)] [] Tryz.f90 (lp [0] (sc cX sn))
def SK (p0:List UInt8) (p1:Int):Option kf :=
 cond (au p1 1) (
 some ((),((0,()),()))
 ) (
 (Vu p0).bind fun y1 =>
 cond (!(aq p1 0)) (
 some ((),(((fI y1.2.1.1 p1),()),()))
 ) none
 )
def s67:Su:=⟨[.c false [.str],.c false aJ],[(false,aJ)],true,.inl fun x=>SK x.1.1 x.2.1.1⟩
theorem SJ:ar Tryz.prog 67 s67 :=
 fq (ac X4 an) Tryz.f67
def xg (t0:List eS) (t3:Int) (t7:List eS) (t8 t9:Int) (t19:List di) (t20 t21:Int) (b4:Int×(List di)×Unit):Rd ((List eS)×Int×(List eS)×Int×Int×(List di)×Int×Int×Y9×Unit) Y1 :=
 cond (au t21 t20) (
 cond (aU t21 t19) (
 (SK (gt d92 t19 t21).1 (ae t0)).bind fun y1 =>
 cond (!(aq y1.2.1.1 t3)) (
 some (.inr (.inr (false,())))
 ) (
 cond (au 0 t21) (
 let u1:=(aH .i64 t21 1)
 cond (aU u1 b4.2.1) (
 cond (PQ (gt d92 t19 t21).1 (gt d92 b4.2.1 u1).1) (
 some (.inr (.inr (false,())))
 ) (
 some (.inl (t0,t3,t7,t8,t9,t19,t20,(ak .i64 t21 1),b4,()))
 )
 ) none
 ) (
 some (.inl (t0,t3,t7,t8,t9,t19,t20,(ak .i64 t21 1),b4,()))
 )
 )
 ) none
 ) (
 some (.inr (.inl (t0,t3,t7,t8,t9,t19,t20,t21,b4,())))
 )
def Og:=Sv (ah (C1 xg))
def xa (t0 t7:List eS) (t8 t9:Int):Rd ((List eS)×(List eS)×Int×Int×Unit) Y1 :=
 cond (au t9 t8) (
 cond (aU t9 t7) (
 let u1:=(gt d67 t7 t9)
 (mA u1.1 (-1) 11).bind fun y1 =>
 cond (!y1.2.1.1) (
 some (.inr (.inr (false,())))
 ) (
 (Og t0 t9 t7 t8 t9 u1.2.1 (ae u1.2.1) 0 u1).bind (Sum.elim (fun y2 =>
 some (.inl (y2.1,y2.2.2.1,y2.2.2.2.1,(ak .i64 y2.2.2.2.2.1 1),()))
 ) (fun y2 =>
 some (.inr (.inr (y2.1,())))
 ))
 )
 ) none
 ) (
 some (.inr (.inl (t0,t7,t8,t9,())))
 )
def R7:=nh (ah (dh xa))
def Wh (p0:List eS):Option eo :=
 (R7 p0 p0 (ae p0) 0).bind (Sum.elim (fun y1 =>
 (mA (ae y1.1) 1 5).bind fun y2 =>
 cond y2.2.1.1 (
 (P6 y1.1).bind fun y3 =>
 (T9 y3.2.1).bind fun y4 =>
 some ((),(y4.2.1,()))
 ) (
 some ((),((false,()),()))
 )
 ) (fun y1 =>
 some ((),(y1,()))
 ))
def s37:Su:=⟨[.c false [.sl 67 cN]],[(false,[.bool])],true,.inl fun x=>Wh x.1.1⟩
theorem YM:ar Tryz.prog 37 s37 :=
 fl (ac l8 (ac Xd (ac Zu (ac SJ an)))) [.d 2 (.bool)] [(2,⟨[.d 0 (.sl 67 cN),.d 3 (.int .i64),.d 7 (.sl 67 cN),.d 8 (.int .i64),.d 9 (.int .i64),.d 19 (.sl 92 bz),.d 20 (.int .i64),.d 21 (.int .i64),.box 4 [(false,.int .i64),(false,.sl 92 bz)]],ah (C1 xg)⟩),(0,⟨[.d 0 (.sl 67 cN),.d 7 (.sl 67 cN),.d 8 (.int .i64),.d 9 (.int .i64)],ah (dh xa)⟩)] [] Tryz.f37 (lp [0] (sc (lp [2] (sc cX sn)) sn))
def Ul (p0:Int):Option Oz :=
 (mA p0 0 5).bind fun y1 =>
 cond (!y1.2.1.1) (
 some ((),(([],()),()))
 ) (
 cond (aU p0 [([114,101,97,100],()),([108,111,99,107],()),([119,111,114,107],()),([102,114,101,101],()),([115,101,110,100],()),([100,111,110,101],())]) (
 some ((),((gt d9 [([114,101,97,100],()),([108,111,99,107],()),([119,111,114,107],()),([102,114,101,101],()),([115,101,110,100],()),([100,111,110,101],())] p0),()))
 ) none
 )
def s69:Su:=⟨[.c false aJ],[(false,[.str])],true,.inl fun x=>Ul x.1.1⟩
theorem Xy:ar Tryz.prog 69 s69 :=
 fq (ac l8 an) Tryz.f69
def Al (p0:List R5) (p1 p2:Int):Option (Unit×(((List R5)×Unit)×Y1×Unit)) :=
 let u1:=(ae p0)
 (mA p1 0 u1).bind fun y1 =>
 cond (cond (cond (!y1.2.1.1) true (au p2 0)) true (au (aH .i64 u1 p1) p2)) (
 some ((),(([],()),(false,()),()))
 ) (
 let u2:=(ak .i64 p1 p2)
 cond (dO p1 u2 p0) (
 some ((),(((sub p0 p1 u2),()),(true,()),()))
 ) none
 )
def ZF:Su:=⟨[.c false [.sl 5 fK],.c false aJ,.c false aJ],[(false,[.sl 5 fK]),(false,[.bool])],false,.inl fun x=>Al x.1.1 x.2.1.1 x.2.2.1.1⟩
theorem Hh:ar Tryz.prog 223 ZF :=
 fq (ac l8 an) Tryz.f223
def oV (t1 t2:Int) (t9:List R5) (t10:Bool) (t11 t27:List R5) (t28 t29:Int):Rd (Int×Int×(List R5)×Bool×(List R5)×(List R5)×Int×Int×Unit) Unit :=
 cond (au t29 t28) (
 cond (aU t29 t27) (
 cond (cT 1 t11 [((ak .u8 48 (iK .u8 (gt d5 t27 t29).1 4)),()),((ak .u8 48 (zK .u8 (gt d5 t27 t29).1 15)),())]) (
 some (.inl (t1,t2,t9,t10,(ll t11 [((ak .u8 48 (iK .u8 (gt d5 t27 t29).1 4)),()),((ak .u8 48 (zK .u8 (gt d5 t27 t29).1 15)),())]),t27,t28,(ak .i64 t29 1),()))
 ) none
 ) none
 ) (
 some (.inr (.inl (t1,t2,t9,t10,t11,t27,t28,t29,())))
 )
def IT:=RK (ah (yl oV))
def yO (p0:List R5) (p1 p2:Int):Option V6 :=
 (mA p2 1 38).bind fun y1 =>
 cond (!y1.2.1.1) (
 some ((),(([],()),(0,()),(false,()),()))
 ) (
 (Al p0 p1 (l6 .i64 (ak .i64 p2 1) 2)).bind fun y2 =>
 (IT p1 p2 y2.2.1.1 y2.2.2.1.1 [] y2.2.1.1 (ae y2.2.1.1) 0).bind (Sum.elim (fun y3 =>
 cond (!y3.2.2.2.1) (
 some ((),(([],()),(0,()),(false,()),()))
 ) (
 (tF (strOf y3.2.2.2.2.1)).bind fun y4 =>
 cond (!y4.2.1.1) (
 some ((),(([],()),(0,()),(false,()),()))
 ) (
 cond (aq (fI y3.2.1 2) 1) (
 cond (aU 0 y3.2.2.2.2.1) (
 cond (!(aq (gt d5 y3.2.2.2.2.1 0).1 48)) (
 some ((),(([],()),(0,()),(false,()),()))
 ) (
 let u1:=(ae y3.2.2.2.2.1)
 let u2:=(aH .i64 u1 y3.2.1)
 let u3:=(dO u2 u1 y3.2.2.2.2.1)
 cond u3 (
 some ((),(((strOf (sub y3.2.2.2.2.1 u2 u1)),()),((ak .i64 y3.1 (ae y3.2.2.1)),()),(true,()),()))
 ) none
 )
 ) none
 ) (
 let u1:=(ae y3.2.2.2.2.1)
 let u2:=(aH .i64 u1 y3.2.1)
 let u3:=(dO u2 u1 y3.2.2.2.2.1)
 cond u3 (
 some ((),(((strOf (sub y3.2.2.2.2.1 u2 u1)),()),((ak .i64 y3.1 (ae y3.2.2.1)),()),(true,()),()))
 ) none
 )
 )
 )
 ) (fun y3 =>
 none
 ))
 )
def Xa:Su:=⟨[.c false [.sl 5 fK],.c false aJ,.c false aJ],[(false,[.str]),(false,aJ),(false,[.bool])],true,.inl fun x=>yO x.1.1 x.2.1.1 x.2.2.1.1⟩
theorem IF:ar Tryz.prog 168 Xa :=
 fl (ac l8 (ac yg (ac Hh an))) [] [(0,⟨[.d 1 (.int .i64),.d 2 (.int .i64),.d 9 (.sl 5 fK),.d 10 (.bool),.own 11 (.sl 5 fK),.d 27 (.sl 5 fK),.d 28 (.int .i64),.d 29 (.int .i64)],ah (yl oV)⟩)] [] Tryz.f168 (lp [0] (sc cX sn))
def sf (t1:Int) (t7:List R5) (t9:List R3) (t10:Int):Rd (Int×(List R5)×(List R3)×Int×Unit) Unit :=
 cond (bD t10 64) (
 let u1:=(aH .i64 t10 1)
 let u2:=(l6 .i64 u1 8)
 cond (aU u2 t7) (
 let u3:=(fI u1 8)
 cond (bD 0 u3) (
 cond (!(aq (zK .u8 (gt d5 t7 u2).1 (iK .u8 128 u3)) 0)) (
 cond (cT 8 t9 [(t10,())]) (
 let u4:=(ak .i64 t10 1)
 some (.inl (t1,t7,(ll t9 [(t10,())]),u4,()))
 ) none
 ) (
 let u4:=(ak .i64 t10 1)
 some (.inl (t1,t7,t9,u4,()))
 )
 ) none
 ) none
 ) (
 some (.inr (.inl (t1,t7,t9,t10,())))
 )
def Jp:=nh (ah (dh sf))
def AM (p0:List R5) (p1:Int):Option ZP :=
 (Al p0 p1 8).bind fun y1 =>
 cond (!y1.2.2.1.1) (
 some ((),(([],()),(0,()),(false,()),()))
 ) (
 (Jp p1 y1.2.1.1 [] 1).bind (Sum.elim (fun y2 =>
 some ((),((y2.2.2.1,()),((ak .i64 y2.1 8),()),(true,()),()))
 ) (fun y2 =>
 none
 ))
 )
def Xw:Su:=⟨[.c false [.sl 5 fK],.c false aJ],[(false,fU),(false,aJ),(false,[.bool])],true,.inl fun x=>AM x.1.1 x.2.1.1⟩
theorem So:ar Tryz.prog 169 Xw :=
 fl (ac Hh an) [] [(0,⟨[.d 1 (.int .i64),.d 7 (.sl 5 fK),.own 9 (.sl 3 aJ),.d 10 (.int .i64)],ah (dh sf)⟩)] [] Tryz.f169 (lp [0] (sc cX sn))
def RW  : Option (Unit×(((List Cy)×Unit)×Unit)) :=
 some ((),(([(2,3,19,()),(3,1,6,()),(4,1,12,()),(7,1,10,()),(11,1,6,()),(14,1,4,()),(37,2,12,()),(38,2,6,()),(39,2,2,()),(41,2,8,()),(48,5,60,()),(49,1,3,()),(54,5,60,()),(95,2,12,()),(102,4,20,()),(103,4,20,())],()),()))
def WG:Su:=⟨[],[(false,[.sl 232 DG])],true,.inl fun x=>RW ⟩
theorem Ta:ar Tryz.prog 250 WG :=
 fq an Tryz.f250
def sd (t0:Int) (t5:List Cy) (t6 t7:Int) (b2:Int×Int×Int×Unit):Rd (Int×(List Cy)×Int×Int×Cy×Unit) (Cy×Unit) :=
 cond (au t7 t6) (
 cond (aU t7 t5) (
 let u1:=(gt d232 t5 t7)
 cond (aq u1.1 t0) (
 some (.inr (.inr (u1,())))
 ) (
 some (.inl (t0,t5,t6,(ak .i64 t7 1),b2,()))
 )
 ) none
 ) (
 some (.inr (.inl (t0,t5,t6,t7,b2,())))
 )
def Hk:=zz (ah (gz sd))
def GA (p0:Int):Option (Unit×(Cy×Unit)) :=
 (RW).bind fun y1 =>
 (Hk p0 y1.2.1.1 (ae y1.2.1.1) 0 (0,0,0,())).bind (Sum.elim (fun y2 =>
 some ((),((0,0,0,()),()))
 ) (fun y2 =>
 some ((),(y2.1,()))
 ))
def WQ:Su:=⟨[.c false aJ],[(true,DG)],true,.inl fun x=>GA x.1.1⟩
theorem Is:ar Tryz.prog 224 WQ :=
 fl (ac Ta an) [.box 2 [(false,.int .i64),(false,.int .i64),(false,.int .i64)]] [(0,⟨[.d 0 (.int .i64),.own 5 (.sl 232 DG),.d 6 (.int .i64),.d 7 (.int .i64),.box 2 [(false,.int .i64),(false,.int .i64),(false,.int .i64)]],ah (gz sd)⟩)] [] Tryz.f224 (lp [0] (sc cX sn))
def Dk (p0:Int):Option kf :=
 (GA p0).bind fun y1 =>
 some ((),((y1.2.1.2.1,()),()))
def Wp:Su:=⟨[.c false aJ],[(false,aJ)],true,.inl fun x=>Dk x.1.1⟩
theorem H7:ar Tryz.prog 170 Wp :=
 fq (ac Is an) Tryz.f170
def Mi (p0:Int):Option kf :=
 (GA p0).bind fun y1 =>
 some ((),((y1.2.1.2.2.1,()),()))
def ZG:Su:=⟨[.c false aJ],[(false,aJ)],true,.inl fun x=>Mi x.1.1⟩
theorem US:ar Tryz.prog 225 ZG :=
 fq (ac Is an) Tryz.f225
def M4 (p0:Int):Option kf :=
 (Dk p0).bind fun y1 =>
 cond (aq y1.2.1.1 5) (
 some ((),((3,()),()))
 ) (
 some ((),((2,()),()))
 )
def WU:Su:=⟨[.c false aJ],[(false,aJ)],true,.inl fun x=>M4 x.1.1⟩
theorem R8:ar Tryz.prog 227 WU :=
 fq (ac H7 an) Tryz.f227
section
open Go.RowKit Go.Lib
theorem ZC:Eo Tryz.prog 179 190 229:=by
 intro s b v w R R2 hd ha
 have e1:Enters Tryz.prog 190:=enters_of (fn:=Tryz.f190) (c:=ai Tryz.f190) (by kernel_rfl) (by kernel_rfl) (by kernel_rfl)
 have e2:Enters Tryz.prog 229:=enters_of (fn:=Tryz.f229) (c:=ai Tryz.f229) (by kernel_rfl) (by kernel_rfl) (by kernel_rfl)
 have hsz:s.size < 9223372036854775808∨9223372036854775808<=s.size:=Nat.lt_or_ge _ _
 cases b with
 | false =>
   go_enter Tryz.func179,Tryz.ntmps179
   go_wp2_with (go_at_call 190; refine hd.mono ?_; rintro e W1 ⟨rfl,hW⟩)
   go_ret2
   exact .inr ⟨by simp,rfl,hW⟩
 | true =>
   by_cases hs:s.size<=18
   . have hb:=ha rfl hs
     have h1:¬ (18:Int) < (s.size:Int):=by omega
     go_enter Tryz.func179,Tryz.ntmps179
     go_wp2_with (first
      | (go_at_call 190; refine hd.mono ?_; rintro e W1 ⟨rfl,hW⟩)
      | (go_at_call 229; refine (hb _ hW).mono ?_; rintro e W2 ⟨rfl,hW2⟩))
     go_ret2
     exact .inl ⟨by trivial,hs,rfl,hW2⟩
   . have h1:(18:Int) < (s.size:Int):=by omega
     go_enter Tryz.func179,Tryz.ntmps179
     go_wp2_with (go_at_call 190; refine hd.mono ?_; rintro e W1 ⟨rfl,hW⟩)
     go_ret2
     exact .inr ⟨by simp [hs],rfl,hW⟩
end
def CK (p0:List UInt8):Option Ys:=tL tF p0
def ZL:Su:=⟨[.c false [.str]],[(false,aJ),(false,[.bool])],true,.inl fun x=>CK x.1.1⟩
theorem Nu:ar Tryz.prog 179 ZL:=FD uv (gd:=tF) yg (fnd:=Tryz.f190) (cd:=ai Tryz.f190) (by kernel_rfl) (by kernel_rfl) (by kernel_rfl) rfl ZC (fn:=Tryz.f179) (c:=ai Tryz.f179) (by kernel_rfl) (by kernel_rfl) (by kernel_rfl)
def Fy (p0:List R5) (p1 p2:Int):Option (Unit×(Y0×Y0×Y1×Unit)) :=
 (mA p2 2 3).bind fun y1 =>
 cond (!y1.2.1.1) (
 some ((),((0,()),(0,()),(false,()),()))
 ) (
 (yO p0 p1 p2).bind fun y2 =>
 cond (!y2.2.2.2.1.1) (
 some ((),((0,()),(0,()),(false,()),()))
 ) (
 (CK y2.2.1.1).bind fun y3 =>
 some ((),(y3.2.1,y2.2.2.1,(true,()),()))
 )
 )
def Yt:Su:=⟨[.c false [.sl 5 fK],.c false aJ,.c false aJ],[(false,aJ),(false,aJ),(false,[.bool])],true,.inl fun x=>Fy x.1.1 x.2.1.1 x.2.2.1.1⟩
theorem Vt:ar Tryz.prog 226 Yt :=
 fq (ac l8 (ac IF (ac Nu an))) Tryz.f226
def oW (t0:List UInt8) (t5 t6:Int):Rd RL Y1 :=
 cond (au t6 t5) (
 cond (aU t6 t0) (
 let u1:=(dy t0 t6)
 cond (au u1 32) (
 some (.inr (.inr (false,())))
 ) (
 cond (aU t6 t0) (
 cond (au 126 u1) (
 some (.inr (.inr (false,())))
 ) (
 some (.inl (t0,t5,(ak .i64 t6 1),()))
 )
 ) none
 )
 ) none
 ) (
 some (.inr (.inl (t0,t5,t6,())))
 )
def Kh:=lM (ah (dC oW))
def FT (p0:List UInt8):Option eo :=
 (Kh p0 (ae p0) 0).bind (Sum.elim (fun y1 =>
 some ((),((true,()),()))
 ) (fun y1 =>
 some ((),(y1,()))
 ))
def Yg:Su:=⟨[.c false [.str]],[(false,[.bool])],true,.inl fun x=>FT x.1.1⟩
theorem Sk:ar Tryz.prog 251 Yg :=
 fl an [.d 2 (.bool)] [(0,⟨[.d 0 (.str),.d 5 (.int .i64),.d 6 (.int .i64)],ah (dC oW)⟩)] [] Tryz.f251 (lp [0] (sc cX sn))
def xH (p0:Int) (p1:List UInt8):Option eo :=
 (GA p0).bind fun y1 =>
 cond (aq y1.2.1.2.1 1) (
 let u1:=(tF p1)
 Option.bind u1 fun y2 =>
 let u2:=(ae p1)
 some ((),(((cond y2.2.1.1 (aq u2 y1.2.1.2.2.1) false),()),()))
 ) (
 cond (aq y1.2.1.2.1 2) (
 let u1:=(FT p1)
 Option.bind u1 fun y2 =>
 let u2:=(ae p1)
 some ((),(((cond y2.2.1.1 (aq u2 y1.2.1.2.2.1) false),()),()))
 ) (
 cond (aq y1.2.1.2.1 3) (
 let u1:=(tF p1)
 Option.bind u1 fun y2 =>
 cond y2.2.1.1 (
 let u2:=(ae p1)
 let u3:=(mA u2 1 y1.2.1.2.2.1)
 Option.bind u3 fun y3 =>
 some ((),(y3.2.1,()))
 ) (
 some ((),((false,()),()))
 )
 ) (
 cond (aq y1.2.1.2.1 4) (
 let u1:=(FT p1)
 Option.bind u1 fun y2 =>
 cond y2.2.1.1 (
 let u2:=(ae p1)
 let u3:=(mA u2 1 y1.2.1.2.2.1)
 Option.bind u3 fun y3 =>
 some ((),(y3.2.1,()))
 ) (
 some ((),((false,()),()))
 )
 ) (
 cond (aq y1.2.1.2.1 5) (
 let u1:=(FT p1)
 Option.bind u1 fun y2 =>
 cond y2.2.1.1 (
 let u2:=(ae p1)
 let u3:=(mA u2 1 y1.2.1.2.2.1)
 Option.bind u3 fun y3 =>
 some ((),(y3.2.1,()))
 ) (
 some ((),((false,()),()))
 )
 ) (
 some ((),((false,()),()))
 )
 )
 )
 )
 )
def Wt:Su:=⟨[.c false aJ,.c false [.str]],[(false,[.bool])],true,.inl fun x=>xH x.1.1 x.2.1.1⟩
theorem NG:ar Tryz.prog 228 Wt :=
 fq (ac l8 (ac yg (ac Is (ac Sk an)))) Tryz.f228
def Jc (p0:List R5) (p1 p2:Int):Option V6 :=
 (Mi p2).bind fun y1 =>
 (Dk p2).bind fun y2 =>
 cond (cond (cond (aq y2.2.1.1 3) true (aq y2.2.1.1 4)) true (aq y2.2.1.1 5)) (
 (M4 p2).bind fun y3 =>
 (Fy p0 p1 y3.2.1.1).bind fun y4 =>
 cond (!y4.2.2.2.1.1) (
 some ((),(([],()),(0,()),(false,()),()))
 ) (
 let u1:=(cond (aq y2.2.1.1 1) true (aq y2.2.1.1 3))
 cond u1 (
 (yO p0 y4.2.2.1.1 y4.2.1.1).bind fun y5 =>
 cond (!y5.2.2.2.1.1) (
 some ((),(([],()),(0,()),(false,()),()))
 ) (
 (xH p2 y5.2.1.1).bind fun y6 =>
 cond (!y6.2.1.1) (
 some ((),(([],()),(0,()),(false,()),()))
 ) (
 some ((),(y5.2.1,y5.2.2.1,(true,()),()))
 )
 )
 ) (
 (Al p0 y4.2.2.1.1 y4.2.1.1).bind fun y5 =>
 cond (!y5.2.2.1.1) (
 some ((),(([],()),(0,()),(false,()),()))
 ) (
 let u2:=(strOf y5.2.1.1)
 (xH p2 u2).bind fun y6 =>
 cond (!y6.2.1.1) (
 some ((),(([],()),(0,()),(false,()),()))
 ) (
 some ((),((u2,()),((ak .i64 y4.2.2.1.1 y4.2.1.1),()),(true,()),()))
 )
 )
 )
 )
 ) (
 let u1:=(cond (aq y2.2.1.1 1) true (aq y2.2.1.1 3))
 cond u1 (
 (yO p0 p1 y1.2.1.1).bind fun y3 =>
 cond (!y3.2.2.2.1.1) (
 some ((),(([],()),(0,()),(false,()),()))
 ) (
 (xH p2 y3.2.1.1).bind fun y4 =>
 cond (!y4.2.1.1) (
 some ((),(([],()),(0,()),(false,()),()))
 ) (
 some ((),(y3.2.1,y3.2.2.1,(true,()),()))
 )
 )
 ) (
 (Al p0 p1 y1.2.1.1).bind fun y3 =>
 cond (!y3.2.2.1.1) (
 some ((),(([],()),(0,()),(false,()),()))
 ) (
 let u2:=(strOf y3.2.1.1)
 (xH p2 u2).bind fun y4 =>
 cond (!y4.2.1.1) (
 some ((),(([],()),(0,()),(false,()),()))
 ) (
 some ((),((u2,()),((ak .i64 p1 y1.2.1.1),()),(true,()),()))
 )
 )
 )
 )
def Zh:Su:=⟨[.c false [.sl 5 fK],.c false aJ,.c false aJ],[(false,[.str]),(false,aJ),(false,[.bool])],true,.inl fun x=>Jc x.1.1 x.2.1.1 x.2.2.1.1⟩
theorem Vo:ar Tryz.prog 171 Zh :=
 fq (ac Hh (ac IF (ac H7 (ac US (ac R8 (ac Vt (ac NG an))))))) Tryz.f171
def oE (t0:List R5) (t4:List UInt8) (t5:Int) (t8:List R3) (t9:Bool) (t41:List R3) (t42 t43:Int) (b2:(List UInt8)×(List iq)×Unit):Rd ((List R5)×(List UInt8)×Int×(List R3)×Bool×(List R3)×Int×Int×DV×Unit) Wc :=
 cond (au t43 t42) (
 cond (aU t43 t41) (
 let u1:=(gt d3 t41 t43)
 cond (aq u1.1 1) (
 let u2:=(ak .i64 t43 1)
 some (.inl (t0,t4,t5,t8,true,t41,t42,u2,b2,()))
 ) (
 (Dk u1.1).bind fun y1 =>
 cond (aq y1.2.1.1 0) (
 some (.inr (.inr (2,([],[],()),())))
 ) (
 cond (cT 8 t8 [u1]) (
 let u2:=(ak .i64 t43 1)
 some (.inl (t0,t4,t5,(ll t8 [u1]),t9,t41,t42,u2,b2,()))
 ) none
 )
 )
 ) none
 ) (
 some (.inr (.inl (t0,t4,t5,t8,t9,t41,t42,t43,b2,())))
 )
def JA:=Sv (ah (C1 oE))
def nV (t0:List R5) (t4:List UInt8) (t5:Int) (t8 t76:List R3) (t77 t78:Int) (b2:(List UInt8)×(List iq)×Unit):Rd ((List R5)×(List UInt8)×Int×(List R3)×(List R3)×Int×Int×DV×Unit) Wc :=
 cond (au t78 t77) (
 cond (aU t78 t76) (
 let u1:=(ak .i64 (gt d3 t76 t78).1 64)
 (Dk u1).bind fun y1 =>
 cond (aq y1.2.1.1 0) (
 some (.inr (.inr (2,([],[],()),())))
 ) (
 cond (cT 8 t8 [(u1,())]) (
 some (.inl (t0,t4,t5,(ll t8 [(u1,())]),t76,t77,(ak .i64 t78 1),b2,()))
 ) none
 )
 ) none
 ) (
 some (.inr (.inl (t0,t4,t5,t8,t76,t77,t78,b2,())))
 )
def Hq:=RK (ah (yl nV))
def pS (t0:List R5) (t5:Int) (t95:List R3) (t96 t97:Int) (b2 b15:(List UInt8)×(List iq)×Unit):Rd ((List R5)×Int×(List R3)×Int×Int×DV×DV×Unit) Wc :=
 cond (au t97 t96) (
 cond (aU t97 t95) (
 (Jc t0 t5 (gt d3 t95 t97).1).bind fun y1 =>
 cond (!y1.2.2.2.1.1) (
 some (.inr (.inr (3,([],[],()),())))
 ) (
 cond (cT 24 b15.2.1 [((gt d3 t95 t97).1,y1.2.1.1,())]) (
 some (.inl (t0,y1.2.2.1.1,t95,t96,(ak .i64 t97 1),b2,(b15.1,(ll b15.2.1 [((gt d3 t95 t97).1,y1.2.1.1,())]),()),()))
 ) none
 )
 ) none
 ) (
 some (.inr (.inl (t0,t5,t95,t96,t97,b2,b15,())))
 )
def zI:=VI (ah (Hp pS))
def Nb (p0:List R5):Option (Unit×(DV×Y0×Unit)) :=
 (yO p0 0 4).bind fun y1 =>
 cond (!y1.2.2.2.1.1) (
 some ((),(([],[],()),(1,()),()))
 ) (
 (AM p0 y1.2.2.1.1).bind fun y2 =>
 cond (!y2.2.2.2.1.1) (
 some ((),(([],[],()),(2,()),()))
 ) (
 (JA p0 y1.2.1.1 y2.2.2.1.1 [] false y2.2.1.1 (ae y2.2.1.1) 0 ([],[],())).bind (Sum.elim (fun y3 =>
 cond y3.2.2.2.2.1 (
 (AM y3.1 y3.2.2.1).bind fun y4 =>
 let u1:=(ae y4.2.1.1)
 cond (cond (!y4.2.2.2.1.1) true (aq u1 0)) (
 some ((),(([],[],()),(2,()),()))
 ) (
 (Hq y3.1 y3.2.1 y4.2.2.1.1 y3.2.2.2.1 y4.2.1.1 u1 0 y3.2.2.2.2.2.2.2.2.1).bind (Sum.elim (fun y5 =>
 (zI y5.1 y5.2.2.1 y5.2.2.2.1 (ae y5.2.2.2.1) 0 y5.2.2.2.2.2.2.2.1 (y5.2.1,[],())).bind (Sum.elim (fun y6 =>
 cond (!(aq y6.2.1 (ae y6.1))) (
 some ((),(([],[],()),(4,()),()))
 ) (
 some ((),(y6.2.2.2.2.2.2.1,(0,()),()))
 )
 ) (fun y6 =>
 some ((),(y6.2.1,(y6.1,()),()))
 ))
 ) (fun y5 =>
 some ((),(y5.2.1,(y5.1,()),()))
 ))
 )
 ) (
 (zI y3.1 y3.2.2.1 y3.2.2.2.1 (ae y3.2.2.2.1) 0 y3.2.2.2.2.2.2.2.2.1 (y3.2.1,[],())).bind (Sum.elim (fun y4 =>
 cond (!(aq y4.2.1 (ae y4.1))) (
 some ((),(([],[],()),(4,()),()))
 ) (
 some ((),(y4.2.2.2.2.2.2.1,(0,()),()))
 )
 ) (fun y4 =>
 some ((),(y4.2.1,(y4.1,()),()))
 ))
 )
 ) (fun y3 =>
 some ((),(y3.2.1,(y3.1,()),()))
 ))
 )
 )
def Zn:Su:=⟨[.c false [.sl 5 fK]],[(true,[.str,.sl 178 dH]),(false,aJ)],true,.inl fun x=>Nb x.1.1⟩
theorem TC:ar Tryz.prog 126 Zn :=
 fl (ac IF (ac So (ac H7 (ac Vo an)))) [.d 3 (.int .i64),.box 2 [(false,.str),(true,.sl 178 dH)]] [(0,⟨[.d 0 (.sl 5 fK),.d 4 (.str),.d 5 (.int .i64),.own 8 (.sl 3 aJ),.d 9 (.bool),.own 41 (.sl 3 aJ),.d 42 (.int .i64),.d 43 (.int .i64),.box 2 [(false,.str),(true,.sl 178 dH)]],ah (C1 oE)⟩),(3,⟨[.d 0 (.sl 5 fK),.d 4 (.str),.d 5 (.int .i64),.own 8 (.sl 3 aJ),.own 76 (.sl 3 aJ),.d 77 (.int .i64),.d 78 (.int .i64),.box 2 [(false,.str),(true,.sl 178 dH)]],ah (yl nV)⟩),(5,⟨[.d 0 (.sl 5 fK),.d 5 (.int .i64),.own 95 (.sl 3 aJ),.d 96 (.int .i64),.d 97 (.int .i64),.box 2 [(false,.str),(true,.sl 178 dH)],.box 15 [(false,.str),(true,.sl 178 dH)]],ah (Hp pS)⟩)] [] Tryz.f126 (lp [0,3,5] (sc cX (sc cX (sc cX sn))))
def pG (t6:List iq) (t7 t8:Int) (b1:(List UInt8)×(List iq)×Unit):Rd ((List iq)×Int×Int×DV×Unit) Y1 :=
 cond (au t8 t7) (
 cond (aU t8 t6) (
 let u1:=(gt d178 t6 t8)
 (xH u1.1 u1.2.1).bind fun y1 =>
 cond (!y1.2.1.1) (
 some (.inr (.inr (false,())))
 ) (
 cond (au 0 t8) (
 let u2:=(aH .i64 t8 1)
 cond (aU u2 b1.2.1) (
 cond (bD u1.1 (gt d178 b1.2.1 u2).1) (
 some (.inr (.inr (false,())))
 ) (
 some (.inl (t6,t7,(ak .i64 t8 1),b1,()))
 )
 ) none
 ) (
 some (.inl (t6,t7,(ak .i64 t8 1),b1,()))
 )
 )
 ) none
 ) (
 some (.inr (.inl (t6,t7,t8,b1,())))
 )
def C3:=nh (ah (dh pG))
def MJ (p0:(List UInt8)×(List iq)×Unit):Option eo :=
 (C3 p0.2.1 (ae p0.2.1) 0 p0).bind (Sum.elim (fun y1 =>
 (vq y1.2.2.2.1.1 4).bind fun y2 =>
 some ((),(y2.2.1,()))
 ) (fun y1 =>
 some ((),(y1,()))
 ))
def Yu:Su:=⟨[.c true [.str,.sl 178 dH]],[(false,[.bool])],true,.inl fun x=>MJ x.1⟩
theorem Tz:ar Tryz.prog 172 Yu :=
 fl (ac HB (ac NG an)) [.d 2 (.bool)] [(0,⟨[.d 6 (.sl 178 dH),.d 7 (.int .i64),.d 8 (.int .i64),.box 1 [(false,.str),(false,.sl 178 dH)]],ah (dh pG)⟩)] [] Tryz.f172 (lp [0] (sc cX sn))
end
end Go.Av
