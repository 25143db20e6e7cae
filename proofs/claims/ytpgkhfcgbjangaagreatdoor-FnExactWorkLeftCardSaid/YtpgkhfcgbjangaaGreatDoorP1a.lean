/- Part of a proof that the law FnExactWorkLeft answers true for every input: the printed functions of this program and their plain laws. No conditions beyond the statement. -/
import Derived.Test.YtpgkhfcgbjangaaGreatDoorFw4
import Derived.Test.YtpgkhfcgbjangaaGreatDoorFw3
import Derived.WalkKit
import Derived.Lib.Walk
import Derived.Lib.SliceRun
import Derived.Shelf.Spec.SlicesInsert
import Derived.Test.YtpgkhfcgbjangaaGreatDoorProg
set_option maxRecDepth 100000
namespace Go.Av
open Go.Proofs
set_option maxHeartbeats 4000000
noncomputable section
def iZ:List K:=[.str,.int .i64,.int .i64]
def aK:List K:=[.int .i64]
def fz:List K:=[.int .u8]
def iD:List K:=[.str,.str,.sl 5 fz]
def jU:List K:=[.str,.int .i64,.int .i64,.int .i64,.int .i64,.sl 204 iZ,.int .i64,.int .i64,.sl 3 aK,.sl 3 aK,.sl 206 iD]
def nc:List K:=[.int .i64,.sl 124 jU]
def gG:List K:=[.sl 5 fz,.int .i64,.sl 3 aK,.int .i64,.int .i64,.int .i64,.int .i64,.int .i64,.sl 5 fz]
def dH:List K:=[.str,.int .i64,.int .i64]
def cV:List K:=[.str,.str,.sl 5 fz]
def bw:List K:=[.str,.int .i64,.int .i64,.int .i64,.int .i64,.sl 157 dH,.int .i64,.int .i64,.sl 3 aK,.sl 3 aK,.sl 160 cV]
def cT:List K:=[.int .i64,.sl 92 bw]
def eo:List K:=[.sl 5 fz,.int .i64,.sl 3 aK,.int .i64,.int .i64,.int .i64,.int .i64,.int .i64,.sl 5 fz]
def wN:List K:=[.str]
def dv:List K:=[.int .i64,.str]
def xx:List K:=[.str,.str,.str,.sl 3 aK]
def gD:List K:=[.sl 3 aK]
def Du:List K:=[.int .i64,.int .i64,.int .i64]
abbrev mB:=((List UInt8)×Int×Int×Unit)
def d204:mB:=([],0,0,())
abbrev R3:=(Int×Unit)
def d3:R3:=(0,())
abbrev R5:=(Int×Unit)
def d5:R5:=(0,())
abbrev kZ:=((List UInt8)×(List UInt8)×(List R5)×Unit)
def d206:kZ:=([],[],[],())
abbrev lX:=((List UInt8)×Int×Int×Int×Int×(List mB)×Int×Int×(List R3)×(List R3)×(List kZ)×Unit)
def d124:lX:=([],0,0,0,0,[],0,0,[],[],[],())
abbrev sH:=(Int×(List lX)×Unit)
def d84:sH:=(0,[],())
abbrev rn:=((List R5)×Int×(List R3)×Int×Int×Int×Int×Int×(List R5)×Unit)
def d86:rn:=([],0,[],0,0,0,0,0,[],())
abbrev dj:=((List UInt8)×Int×Int×Unit)
def d157:dj:=([],0,0,())
abbrev dh:=((List UInt8)×(List UInt8)×(List R5)×Unit)
def d160:dh:=([],[],[],())
abbrev dn:=((List UInt8)×Int×Int×Int×Int×(List dj)×Int×Int×(List R3)×(List R3)×(List dh)×Unit)
def d92:dn:=([],0,0,0,0,[],0,0,[],[],[],())
abbrev gf:=(Int×(List dn)×Unit)
def d67:gf:=(0,[],())
abbrev jH:=((List R5)×Int×(List R3)×Int×Int×Int×Int×Int×(List R5)×Unit)
def d64:jH:=([],0,[],0,0,0,0,0,[],())
abbrev R9:=((List UInt8)×Unit)
def d9:R9:=([],())
abbrev ir:=(Int×(List UInt8)×Unit)
def d178:ir:=(0,[],())
abbrev E1:=((List UInt8)×(List UInt8)×(List UInt8)×(List R3)×Unit)
def d198:E1:=([],[],[],[],())
abbrev FJ:=((List R3)×Unit)
def d53:FJ:=([],())
abbrev BW:=(Int×Int×Int×Unit)
def d232:BW:=(0,0,0,())
def tt:List (Nat×TI):=[(2,⟨false,[.int .i64],0,8,[]⟩),
 (3,⟨false,[.int .i64],0,8,[]⟩),
 (4,⟨false,[.bool],0,1,[]⟩),
 (5,⟨false,[.int .u8],0,1,[]⟩),
 (6,⟨false,[.int .u8],0,1,[]⟩),
 (7,⟨true,[.int .i64,.int .i64,.bool,.int .u8],0,24,[(0,2),(1,3),(2,4),(3,6)]⟩),
 (8,⟨true,[.int .i64,.int .i64,.bool,.int .u8],0,24,[(0,2),(1,3),(2,4),(3,6)]⟩),
 (9,⟨false,[.str],0,16,[]⟩),
 (10,⟨false,[.str],0,16,[]⟩),
 (11,⟨false,[.str],0,16,[]⟩),
 (12,⟨false,[.int .u64],0,8,[]⟩),
 (13,⟨true,[.str,.int .u64],0,24,[(0,9),(1,12)]⟩),
 (14,⟨true,[.str,.int .u64],0,24,[(0,9),(1,12)]⟩),
 (21,⟨false,[.int .i32],0,4,[]⟩),
 (22,⟨false,[.sl 84 nc],84,24,[]⟩),
 (23,⟨false,[.sl 86 gG],86,24,[]⟩),
 (24,⟨true,[.sl 84 nc,.int .i64,.int .i64,.sl 86 gG],0,64,[(0,22),(1,3),(2,3),(3,23)]⟩),
 (25,⟨true,[.sl 84 nc,.int .i64,.int .i64,.sl 86 gG],0,64,[(0,22),(1,3),(2,3),(3,23)]⟩),
 (28,⟨false,[.sl 67 cT],67,24,[]⟩),
 (29,⟨false,[.sl 64 eo],64,24,[]⟩),
 (30,⟨true,[.sl 67 cT,.int .i64,.int .i64,.sl 64 eo],0,64,[(0,28),(1,3),(2,3),(3,29)]⟩),
 (31,⟨true,[.sl 67 cT,.int .i64,.int .i64,.sl 64 eo],0,64,[(0,28),(1,3),(2,3),(3,29)]⟩),
 (37,⟨false,[.sl 124 jU],124,24,[]⟩),
 (38,⟨true,[.sl 124 jU],0,24,[(0,37)]⟩),
 (39,⟨true,[.sl 124 jU],0,24,[(0,37)]⟩),
 (40,⟨true,[.sl 124 jU,.int .i64,.sl 84 nc,.int .i64,.int .i64,.sl 86 gG],0,96,[(0,39),(1,3),(2,25)]⟩),
 (41,⟨true,[.sl 124 jU,.int .i64,.sl 84 nc,.int .i64,.int .i64,.sl 86 gG],0,96,[(0,39),(1,3),(2,25)]⟩),
 (44,⟨false,[.sl 92 bw],92,24,[]⟩),
 (45,⟨true,[.sl 92 bw],0,24,[(0,44)]⟩),
 (46,⟨true,[.sl 92 bw],0,24,[(0,44)]⟩),
 (47,⟨true,[.sl 92 bw,.int .i64,.sl 67 cT,.int .i64,.int .i64,.sl 64 eo],0,96,[(0,46),(1,3),(2,31)]⟩),
 (48,⟨true,[.sl 92 bw,.int .i64,.sl 67 cT,.int .i64,.int .i64,.sl 64 eo],0,96,[(0,46),(1,3),(2,31)]⟩),
 (53,⟨false,[.sl 3 aK],3,24,[]⟩),
 (62,⟨false,[.sl 5 fz],5,24,[]⟩),
 (63,⟨true,[.sl 5 fz,.int .i64,.sl 3 aK,.int .i64,.int .i64,.int .i64,.int .i64,.int .i64,.sl 5 fz],0,120,[(0,62),(1,3),(2,53),(3,3),(4,3),(5,3),(6,3),(7,3),(8,62)]⟩),
 (64,⟨true,[.sl 5 fz,.int .i64,.sl 3 aK,.int .i64,.int .i64,.int .i64,.int .i64,.int .i64,.sl 5 fz],0,120,[(0,62),(1,3),(2,53),(3,3),(4,3),(5,3),(6,3),(7,3),(8,62)]⟩),
 (66,⟨true,[.int .i64,.sl 92 bw],0,32,[(0,3),(1,44)]⟩),
 (67,⟨true,[.int .i64,.sl 92 bw],0,32,[(0,3),(1,44)]⟩),
 (83,⟨true,[.int .i64,.sl 124 jU],0,32,[(0,3),(1,37)]⟩),
 (84,⟨true,[.int .i64,.sl 124 jU],0,32,[(0,3),(1,37)]⟩),
 (86,⟨true,[.sl 5 fz,.int .i64,.sl 3 aK,.int .i64,.int .i64,.int .i64,.int .i64,.int .i64,.sl 5 fz],0,120,[(0,62),(1,3),(2,53),(3,3),(4,3),(5,3),(6,3),(7,3),(8,62)]⟩),
 (87,⟨false,[.sl 157 dH],157,24,[]⟩),
 (88,⟨true,[.int .i64,.int .i64,.sl 3 aK,.sl 3 aK],0,64,[(0,3),(1,3),(2,53),(3,53)]⟩),
 (89,⟨true,[.int .i64,.int .i64,.sl 3 aK,.sl 3 aK],0,64,[(0,3),(1,3),(2,53),(3,53)]⟩),
 (90,⟨false,[.sl 160 cV],160,24,[]⟩),
 (91,⟨true,[.str,.int .i64,.int .i64,.int .i64,.int .i64,.sl 157 dH,.int .i64,.int .i64,.sl 3 aK,.sl 3 aK,.sl 160 cV],0,160,[(0,9),(1,3),(2,3),(3,3),(4,3),(5,87),(6,89),(10,90)]⟩),
 (92,⟨true,[.str,.int .i64,.int .i64,.int .i64,.int .i64,.sl 157 dH,.int .i64,.int .i64,.sl 3 aK,.sl 3 aK,.sl 160 cV],0,160,[(0,9),(1,3),(2,3),(3,3),(4,3),(5,87),(6,89),(10,90)]⟩),
 (111,⟨false,[.sl 9 wN],9,24,[]⟩),
 (120,⟨false,[.sl 204 iZ],204,24,[]⟩),
 (121,⟨true,[.int .i64,.int .i64,.sl 3 aK,.sl 3 aK],0,64,[(0,3),(1,3),(2,53),(3,53)]⟩),
 (122,⟨false,[.sl 206 iD],206,24,[]⟩),
 (123,⟨true,[.str,.int .i64,.int .i64,.int .i64,.int .i64,.sl 204 iZ,.int .i64,.int .i64,.sl 3 aK,.sl 3 aK,.sl 206 iD],0,160,[(0,9),(1,3),(2,3),(3,3),(4,3),(5,120),(6,121),(10,122)]⟩),
 (124,⟨true,[.str,.int .i64,.int .i64,.int .i64,.int .i64,.sl 204 iZ,.int .i64,.int .i64,.sl 3 aK,.sl 3 aK,.sl 206 iD],0,160,[(0,9),(1,3),(2,3),(3,3),(4,3),(5,120),(6,121),(10,122)]⟩),
 (137,⟨false,[.sl 178 dv],178,24,[]⟩),
 (138,⟨true,[.str,.sl 178 dv],0,40,[(0,9),(1,137)]⟩),
 (139,⟨true,[.str,.sl 178 dv],0,40,[(0,9),(1,137)]⟩),
 (142,⟨true,[.int .i64,.str,.str,.str,.str,.str,.int .i64,.int .i64],0,104,[(0,3),(1,9),(2,9),(3,9),(4,9),(5,9),(6,3),(7,3)]⟩),
 (143,⟨true,[.int .i64,.str,.str,.str,.str,.str,.int .i64,.int .i64],0,104,[(0,3),(1,9),(2,9),(3,9),(4,9),(5,9),(6,3),(7,3)]⟩),
 (146,⟨false,[.int .u32],0,4,[]⟩),
 (156,⟨true,[.str,.int .i64,.int .i64],0,32,[(0,9),(1,3),(2,3)]⟩),
 (157,⟨true,[.str,.int .i64,.int .i64],0,32,[(0,9),(1,3),(2,3)]⟩),
 (159,⟨true,[.str,.str,.sl 5 fz],0,56,[(0,9),(1,9),(2,62)]⟩),
 (160,⟨true,[.str,.str,.sl 5 fz],0,56,[(0,9),(1,9),(2,62)]⟩),
 (177,⟨true,[.int .i64,.str],0,24,[(0,3),(1,9)]⟩),
 (178,⟨true,[.int .i64,.str],0,24,[(0,3),(1,9)]⟩),
 (192,⟨false,[.int .u64],0,8,[]⟩),
 (196,⟨false,[.sl 198 xx],198,24,[]⟩),
 (197,⟨true,[.str,.str,.str,.sl 3 aK],0,72,[(0,9),(1,9),(2,9),(3,53)]⟩),
 (198,⟨true,[.str,.str,.str,.sl 3 aK],0,72,[(0,9),(1,9),(2,9),(3,53)]⟩),
 (204,⟨true,[.str,.int .i64,.int .i64],0,32,[(0,9),(1,3),(2,3)]⟩),
 (206,⟨true,[.str,.str,.sl 5 fz],0,56,[(0,9),(1,9),(2,62)]⟩),
 (209,⟨false,[.sl 53 gD],53,24,[]⟩),
 (219,⟨false,[.int .i64],0,8,[]⟩),
 (228,⟨false,[.int .u64],0,8,[]⟩),
 (231,⟨true,[.int .i64,.int .i64,.int .i64],0,24,[(0,3),(1,3),(2,3)]⟩),
 (232,⟨true,[.int .i64,.int .i64,.int .i64],0,24,[(0,3),(1,3),(2,3)]⟩),
 (246,⟨false,[.int .u64],0,8,[]⟩),
 (252,⟨false,[.sl 232 Du],232,24,[]⟩),
 (267,⟨false,[.int .i64],0,8,[]⟩),
 (287,⟨true,[.str],0,16,[(0,9)]⟩),
 (288,⟨true,[.str],0,16,[(0,9)]⟩),
 (293,⟨true,[.int .u8,.int .u8],0,2,[(0,5),(1,5)]⟩),
 (294,⟨true,[.int .u8,.int .u8],0,2,[(0,5),(1,5)]⟩),
 (312,⟨false,[.int .u8],0,1,[]⟩),
 (313,⟨false,[.int .u8],0,1,[]⟩),
 (315,⟨false,[.int .i32],0,4,[]⟩),
 (316,⟨false,[.int .i32],0,4,[]⟩)]
def E0:En:=⟨0,tt,fun _=>[],[],fun _=>none,[],fun _=>none⟩
theorem hT:bG Tryz.prog E0:=Lh (by kernel_rfl)
theorem eG:Tryz.prog.follows .mixedOrders=true:=by kernel_rfl
theorem fl {f:Nat} {s:Su} {l:List (Nat×Su)} (hl:pG Tryz.prog l) (ρ:List SE) (los:List (Nat×Lo ρ)) (pins:List Nat) (fn:Func)
 (hlo:SH Tryz.prog (FY fn.ntmps tt l ρ los pins) (ah fn) (ah fn))
 (h : (Tryz.prog.funcs[f]?, (fn.name == "runtime.NumGoroutine"), fn.body.isSome) = (some fn, false, true) := by kernel_rfl)
 (ht:∀ x,(EK (FY fn.ntmps tt l ρ los pins) (ah fn) fn.results.toList s.ps s.rs s.fresh x).run=s.rS x:=by intro x; kernel_rfl):ar Tryz.prog f s:=by
 simp only [Prod.mk.injEq] at h
 exact Yf hT eG hl (fn:=fn) (by rw [h.1,h.2.1,h.2.2]) hlo ht
theorem fq {f:Nat} {s:Su} {l:List (Nat×Su)} (hl:pG Tryz.prog l) (fn:Func)
 (h : (Tryz.prog.funcs[f]?, (fn.name == "runtime.NumGoroutine"), fn.body.isSome, dq (fun _ => false) (ah fn)) = (some fn, false, true, []) := by kernel_rfl)
 (ht:∀ x,(EK (FY fn.ntmps tt l [] [] []) (ah fn) fn.results.toList s.ps s.rs s.fresh x).run=s.rS x:=by intro x; kernel_rfl):ar Tryz.prog f s:=by
 simp only [Prod.mk.injEq] at h
 exact Yf hT eG hl (fn:=fn) (by rw [h.1,h.2.1,h.2.2.1]) (lp (n:=fn.ntmps) (tt:=tt) (l:=l) (ρ:=[]) (los:=[]) (pins:=[]) [] sn h.2.2.2) ht
def nf:List UInt8:=[0,1,2,2,3,3,3,3,4,4,4,4,4,4,4,4,5,5,5,5,5,5,5,5,5,5,5,5,5,5,5,5,6,6,6,6,6,6,6,6,6,6,6,6,6,6,6,6,6,6,6,6,6,6,6,6,6,6,6,6,6,6,6,6,7,7,7,7,7,7,7,7,7,7,7,7,7,7,7,7,7,7,7,7,7,7,7,7,7,7,7,7,7,7,7,7,7,7,7,7,7,7,7,7,7,7,7,7,7,7,7,7,7,7,7,7,7,7,7,7,7,7,7,7,7,7,7,7,8,8,8,8,8,8,8,8,8,8,8,8,8,8,8,8,8,8,8,8,8,8,8,8,8,8,8,8,8,8,8,8,8,8,8,8,8,8,8,8,8,8,8,8,8,8,8,8,8,8,8,8,8,8,8,8,8,8,8,8,8,8,8,8,8,8,8,8,8,8,8,8,8,8,8,8,8,8,8,8,8,8,8,8,8,8,8,8,8,8,8,8,8,8,8,8,8,8,8,8,8,8,8,8,8,8,8,8,8,8,8,8,8,8,8,8,8,8,8,8,8,8,8,8,8,8,8,8]
abbrev Y0:=Int×Unit
abbrev Y1:=Bool×Unit
abbrev Y4:=(List dn)×Unit
abbrev Y6:=(List UInt8)×Unit
abbrev Y8:=Int×(List dn)×Unit
abbrev SK:=(List UInt8)×Int×Unit
abbrev j5:=Unit×(Y0×Unit)
abbrev dZ:=Unit×(Y1×Unit)
abbrev V4:=(List R3)×Int×Bool×Unit
abbrev Qe:=(List UInt8)×Int×Int×Unit
abbrev DJ:=(List UInt8)×(List ir)×Unit
abbrev Re:=Unit×(((List R9)×Unit)×Unit)
abbrev Mf:=Unit×(FJ×Unit)
abbrev Xm:=(((List R9)×Unit)×Unit)×Unit
abbrev XA:=(FJ×Unit)×Unit
abbrev Sx:=Unit×(Y4×Unit)
abbrev NI:=(Y4×Unit)×Unit
abbrev Xd:=Unit×(((List dh)×Unit)×Unit)
abbrev Oy:=Unit×(Y6×Unit)
abbrev VW:=(List dn)×Int×Unit×Int×Int×Unit
abbrev JE:=(List gf)×Int×Int×(List jH)×Unit
abbrev Wf:=Unit×(Y0×Y1×Unit)
abbrev Uj:=(List dh)×(List dh)×Int×Int×Unit
abbrev UM:=Int×DJ×Unit
abbrev XY:=Unit×((Int×Int×(List R3)×(List R3)×Unit)×Unit)
abbrev XH:=Unit×(FJ×Y0×Y1×Unit)
abbrev Um:=Unit×(Y6×Y0×Y1×Unit)
abbrev S1:=Int×(List UInt8)×(List UInt8)×(List UInt8)×(List UInt8)×(List UInt8)×Int×Int×Unit
abbrev Vq:=Unit×(dn×Unit)
section
open Go.Shelf Go.RowKit Go.Lib
def sρ:Ren:=⟨fun | 129=>222 | 171=>275 | 172=>229 | 205=>274 | 243=>281 | 244=>252 | 245=>253 | 246=>287 | 247=>263 | 279=>264 | 280=>265 | 281=>266 | 282=>267 | 283=>289 | 284=>290 | 285=>291 | 286=>292 | 287=>272 | 316=>273 | 317=>294 | 318=>295 | 319=>296 | 320=>297 | 321=>279 | 322=>280 | 337=>298 | 338=>299 | n=>n,fun | 0=>0 | 2=>2 | 3=>3 | 4=>4 | 5=>5 | 9=>9 | 20=>20 | 21=>21 | 37=>62 | 46=>192 | 51=>146 | 53=>228 | 75=>235 | 76=>236 | 80=>305 | 85=>268 | 127=>285 | 143=>286 | 145=>288 | 167=>267 | 168=>270 | 171=>296 | 173=>298 | 175=>278 | 210=>281 | 212=>301 | 213=>302 | 232=>303 | 233=>304 | n=>n,fun | 15=>0 | 16=>1 | 17=>5 | 18=>6 | 19=>7 | n=>n⟩
theorem wa:LaysC.n172 Tryz.prog sρ:={ mixed:=by kernel_rfl,f129:=by kernel_rfl,f171:=by kernel_rfl,f172:=by kernel_rfl,f205:=by kernel_rfl,f243:=by kernel_rfl,f244:=by kernel_rfl,f245:=by kernel_rfl,f246:=by kernel_rfl,f247:=by kernel_rfl,f279:=by kernel_rfl,f280:=by kernel_rfl,f281:=by kernel_rfl,f282:=by kernel_rfl,f283:=by kernel_rfl,f284:=by kernel_rfl,f285:=by kernel_rfl,f286:=by kernel_rfl,f287:=by kernel_rfl,f316:=by kernel_rfl,f317:=by kernel_rfl,f318:=by kernel_rfl,f319:=by kernel_rfl,f320:=by kernel_rfl,f321:=by kernel_rfl,f322:=by kernel_rfl,f337:=by kernel_rfl,f338:=by kernel_rfl,t0:=by kernel_rfl,a0:=fun _=>by kernel_rfl,z0:=fun _=>by kernel_rfl,v0:=fun _=>by kernel_rfl,t2:=by kernel_rfl,a2:=fun _=>by kernel_rfl,z2:=fun _=>by kernel_rfl,v2:=fun _=>by kernel_rfl,t3:=by kernel_rfl,a3:=fun _=>by kernel_rfl,z3:=fun _=>by kernel_rfl,v3:=fun _=>by kernel_rfl,t4:=by kernel_rfl,a4:=fun _=>by kernel_rfl,z4:=fun _=>by kernel_rfl,v4:=fun _=>by kernel_rfl,t5:=by kernel_rfl,a5:=fun _=>by kernel_rfl,z5:=fun _=>by kernel_rfl,v5:=fun _=>by kernel_rfl,t9:=by kernel_rfl,a9:=fun _=>by kernel_rfl,z9:=fun _=>by kernel_rfl,v9:=fun _=>by kernel_rfl,t20:=by kernel_rfl,a20:=fun _=>by kernel_rfl,z20:=fun _=>by kernel_rfl,v20:=fun _=>by kernel_rfl,t21:=by kernel_rfl,a21:=fun _=>by kernel_rfl,z21:=fun _=>by kernel_rfl,v21:=fun _=>by kernel_rfl,t37:=by kernel_rfl,a37:=fun _=>by kernel_rfl,z37:=fun _=>by kernel_rfl,v37:=fun _=>by kernel_rfl,t46:=by kernel_rfl,a46:=fun _=>by kernel_rfl,z46:=fun _=>by kernel_rfl,v46:=fun _=>by kernel_rfl,t51:=by kernel_rfl,a51:=fun _=>by kernel_rfl,z51:=fun _=>by kernel_rfl,v51:=fun _=>by kernel_rfl,t53:=by kernel_rfl,a53:=fun _=>by kernel_rfl,z53:=fun _=>by kernel_rfl,v53:=fun _=>by kernel_rfl,t75:=by kernel_rfl,a75:=fun _=>by kernel_rfl,z75:=fun _=>by kernel_rfl,v75:=fun _=>by kernel_rfl,t76:=by kernel_rfl,a76:=fun _=>by kernel_rfl,z76:=fun _=>by kernel_rfl,v76:=fun _=>by kernel_rfl,t85:=by kernel_rfl,a85:=fun _=>by kernel_rfl,z85:=fun _=>by kernel_rfl,v85:=fun _=>by kernel_rfl,t127:=by kernel_rfl,a127:=fun _=>by kernel_rfl,z127:=fun _=>by kernel_rfl,v127:=fun _=>by kernel_rfl,t143:=by kernel_rfl,a143:=fun _=>by kernel_rfl,z143:=fun _=>by kernel_rfl,v143:=fun _=>by kernel_rfl,t145:=by kernel_rfl,a145:=fun _=>by kernel_rfl,z145:=fun _=>by kernel_rfl,v145:=fun _=>by kernel_rfl,t167:=by kernel_rfl,a167:=fun _=>by kernel_rfl,z167:=fun _=>by kernel_rfl,v167:=fun _=>by kernel_rfl,t168:=by kernel_rfl,a168:=fun _=>by kernel_rfl,z168:=fun _=>by kernel_rfl,v168:=fun _=>by kernel_rfl,t171:=by kernel_rfl,a171:=fun _=>by kernel_rfl,z171:=fun _=>by kernel_rfl,v171:=fun _=>by kernel_rfl,t173:=by kernel_rfl,a173:=fun _=>by kernel_rfl,z173:=fun _=>by kernel_rfl,v173:=fun _=>by kernel_rfl,t175:=by kernel_rfl,a175:=fun _=>by kernel_rfl,z175:=fun _=>by kernel_rfl,v175:=fun _=>by kernel_rfl,t210:=by kernel_rfl,a210:=fun _=>by kernel_rfl,z210:=fun _=>by kernel_rfl,v210:=fun _=>by kernel_rfl,t212:=by kernel_rfl,a212:=fun _=>by kernel_rfl,z212:=fun _=>by kernel_rfl,v212:=fun _=>by kernel_rfl,t213:=by kernel_rfl,a213:=fun _=>by kernel_rfl,z213:=fun _=>by kernel_rfl,t232:=by kernel_rfl,a232:=fun _=>by kernel_rfl,z232:=fun _=>by kernel_rfl,v232:=fun _=>by kernel_rfl,t233:=by kernel_rfl,a233:=fun _=>by kernel_rfl,z233:=fun _=>by kernel_rfl,v233:=fun _=>by kernel_rfl,g15:=by kernel_rfl,g16:=by kernel_rfl,g17:=by kernel_rfl,g18:=by kernel_rfl,g19:=by kernel_rfl,t80:=by kernel_rfl,a80:=fun _=>by kernel_rfl,z80:=fun _=>by kernel_rfl,v80:=fun _=>by kernel_rfl,i0:=by kernel_rfl,i2:=by kernel_rfl,i3:=by kernel_rfl,i4:=by kernel_rfl,i5:=by kernel_rfl,i9:=by kernel_rfl,i20:=by kernel_rfl,i21:=by kernel_rfl,i37:=by kernel_rfl,i46:=by kernel_rfl,i51:=by kernel_rfl,i53:=by kernel_rfl,i75:=by kernel_rfl,i76:=by kernel_rfl,i80:=by kernel_rfl,i85:=by kernel_rfl,i127:=by kernel_rfl,i143:=by kernel_rfl,i145:=by kernel_rfl,i167:=by kernel_rfl,i168:=by kernel_rfl,i171:=by kernel_rfl,i173:=by kernel_rfl,i175:=by kernel_rfl,i210:=by kernel_rfl,i212:=by kernel_rfl,i232:=by kernel_rfl,i233:=by kernel_rfl,m15:=by kernel_rfl,m16:=by kernel_rfl,m17:=by kernel_rfl,m18:=by kernel_rfl,m19:=by kernel_rfl,c0:=by kernel_rfl,c2:=by kernel_rfl,c3:=by kernel_rfl,c4:=by kernel_rfl,c5:=by kernel_rfl,c9:=by kernel_rfl,c20:=by kernel_rfl,c21:=by kernel_rfl,c37:=by kernel_rfl,c46:=by kernel_rfl,c51:=by kernel_rfl,c53:=by kernel_rfl,c75:=by kernel_rfl,c76:=by kernel_rfl,c80:=by kernel_rfl,c85:=by kernel_rfl,c127:=by kernel_rfl,c143:=by kernel_rfl,c145:=by kernel_rfl,c167:=by kernel_rfl,c168:=by kernel_rfl,c171:=by kernel_rfl,c173:=by kernel_rfl,c175:=by kernel_rfl,c210:=by kernel_rfl,c212:=by kernel_rfl,c213:=by kernel_rfl,c232:=by kernel_rfl,c233:=by kernel_rfl }
end
def JS (p0:(List UInt8)×Int×Int×Unit) (p1:Int):Option j5 :=
 let u1:=(aH .i64 p1 (ae p0.1))
 cond (au u1 0) (
 some ((),(((-1),()),()))
 ) (
 some ((),((u1,()),()))
 )
def Vd:Su:=⟨[.c true iZ,.c false aK],[(false,aK)],true,.inl fun x=>JS x.1 x.2.1.1⟩
theorem Sv:ar Tryz.prog 183 Vd :=
 fq an Tryz.f183
def pf (t0:List mB) (t1 t5:Int):Rd ((List mB)×Int×Int×Unit) Y0 :=
 cond (au t5 (ae t0)) (
 cond (a7 t5 t0) (
 (JS (gt d204 t0 t5) t1).bind fun y1 =>
 cond (au y1.2.1.1 0) (
 some (.inr (.inr ((-1),())))
 ) (
 some (.inl (t0,y1.2.1.1,(aq .i64 t5 1),()))
 )
 ) none
 ) (
 some (.inr (.inl (t0,t1,t5,())))
 )
def H9:=qd (ai (fc pf))
def KX (p0:List mB) (p1:Int):Option j5 :=
 let u1:=(aH .i64 p1 (ae p0))
 cond (au u1 0) (
 some ((),(((-1),()),()))
 ) (
 (H9 p0 u1 0).bind (Sum.elim (fun y1 =>
 some ((),((y1.2.1,()),()))
 ) (fun y1 =>
 some ((),(y1,()))
 ))
 )
def Wl:Su:=⟨[.c false [.sl 204 iZ],.c false aK],[(false,aK)],true,.inl fun x=>KX x.1.1 x.2.1.1⟩
theorem TX:ar Tryz.prog 130 Wl :=
 fl (ac Sv an) [.d 4 (.int .i64)] [(0,⟨[.d 0 (.sl 204 iZ),.d 1 (.int .i64),.d 5 (.int .i64)],ai (fc pf)⟩)] [] Tryz.f130 (lp [0] (sc di sn))
def Qd (p0:List R3) (p1:Int):Option j5 :=
 let u1:=(aH .i64 p1 (ae p0))
 cond (au u1 0) (
 some ((),(((-1),()),()))
 ) (
 some ((),((u1,()),()))
 )
def Zg:Su:=⟨[.c false gD,.c false aK],[(false,aK)],true,.inl fun x=>Qd x.1.1 x.2.1.1⟩
theorem Tm:ar Tryz.prog 83 Zg :=
 fq an Tryz.f83
def LL (p0:Int×Int×(List R3)×(List R3)×Unit) (p1:Int):Option j5 :=
 (Qd p0.2.2.1 p1).bind fun y1 =>
 cond (au y1.2.1.1 0) (
 some ((),(((-1),()),()))
 ) (
 (Qd p0.2.2.2.1 y1.2.1.1).bind fun y2 =>
 cond (au y2.2.1.1 0) (
 some ((),(((-1),()),()))
 ) (
 some ((),(y2.2.1,()))
 )
 )
def VC:Su:=⟨[.c true [.int .i64,.int .i64,.sl 3 aK,.sl 3 aK],.c false aK],[(false,aK)],true,.inl fun x=>LL x.1 x.2.1.1⟩
theorem Qo:ar Tryz.prog 131 VC :=
 fq (ac Tm an) Tryz.f131
def Qa (p0:List R5) (p1:Int):Option j5 :=
 let u1:=(aH .i64 p1 (ae p0))
 cond (au u1 0) (
 some ((),(((-1),()),()))
 ) (
 some ((),((u1,()),()))
 )
def YS:Su:=⟨[.c false [.sl 5 fz],.c false aK],[(false,aK)],true,.inl fun x=>Qa x.1.1 x.2.1.1⟩
theorem QG:ar Tryz.prog 82 YS :=
 fq an Tryz.f82
def KH (p0:(List UInt8)×(List UInt8)×(List R5)×Unit) (p1:Int):Option j5 :=
 let u1:=(aH .i64 p1 (ae p0.1))
 cond (au u1 0) (
 some ((),(((-1),()),()))
 ) (
 let u2:=(aH .i64 u1 (ae p0.2.1))
 cond (au u2 0) (
 some ((),(((-1),()),()))
 ) (
 (Qa p0.2.2.1 u2).bind fun y1 =>
 cond (au y1.2.1.1 0) (
 some ((),(((-1),()),()))
 ) (
 some ((),(y1.2.1,()))
 )
 )
 )
def VI:Su:=⟨[.c true iD,.c false aK],[(false,aK)],true,.inl fun x=>KH x.1 x.2.1.1⟩
theorem Tj:ar Tryz.prog 184 VI :=
 fq (ac QG an) Tryz.f184
def nL (t0:List kZ) (t1 t5:Int):Rd ((List kZ)×Int×Int×Unit) Y0 :=
 cond (au t5 (ae t0)) (
 cond (a7 t5 t0) (
 (KH (gt d206 t0 t5) t1).bind fun y1 =>
 cond (au y1.2.1.1 0) (
 some (.inr (.inr ((-1),())))
 ) (
 some (.inl (t0,y1.2.1.1,(aq .i64 t5 1),()))
 )
 ) none
 ) (
 some (.inr (.inl (t0,t1,t5,())))
 )
def I0:=qd (ai (fc nL))
def LD (p0:List kZ) (p1:Int):Option j5 :=
 let u1:=(aH .i64 p1 (ae p0))
 cond (au u1 0) (
 some ((),(((-1),()),()))
 ) (
 (I0 p0 u1 0).bind (Sum.elim (fun y1 =>
 some ((),((y1.2.1,()),()))
 ) (fun y1 =>
 some ((),(y1,()))
 ))
 )
def Wv:Su:=⟨[.c false [.sl 206 iD],.c false aK],[(false,aK)],true,.inl fun x=>LD x.1.1 x.2.1.1⟩
theorem SX:ar Tryz.prog 132 Wv :=
 fl (ac Tj an) [.d 4 (.int .i64)] [(0,⟨[.d 0 (.sl 206 iD),.d 1 (.int .i64),.d 5 (.int .i64)],ai (fc nL)⟩)] [] Tryz.f132 (lp [0] (sc di sn))
def UF (p0:(List UInt8)×Int×Int×Int×Int×(List mB)×Int×Int×(List R3)×(List R3)×(List kZ)×Unit) (p1:Int):Option j5 :=
 let u1:=(aH .i64 p1 (ae p0.1))
 cond (au u1 0) (
 some ((),(((-1),()),()))
 ) (
 (KX p0.2.2.2.2.2.1 u1).bind fun y1 =>
 cond (au y1.2.1.1 0) (
 some ((),(((-1),()),()))
 ) (
 (LL (p0.2.2.2.2.2.2.1,p0.2.2.2.2.2.2.2.1,p0.2.2.2.2.2.2.2.2.1,p0.2.2.2.2.2.2.2.2.2.1,()) y1.2.1.1).bind fun y2 =>
 cond (au y2.2.1.1 0) (
 some ((),(((-1),()),()))
 ) (
 (LD p0.2.2.2.2.2.2.2.2.2.2.1 y2.2.1.1).bind fun y3 =>
 cond (au y3.2.1.1 0) (
 some ((),(((-1),()),()))
 ) (
 some ((),(y3.2.1,()))
 )
 )
 )
 )
def Zf:Su:=⟨[.c true jU,.c false aK],[(false,aK)],true,.inl fun x=>UF x.1 x.2.1.1⟩
theorem Xk:ar Tryz.prog 97 Zf :=
 fq (ac TX (ac Qo (ac SX an))) Tryz.f97
def vq (t0:List lX) (t1 t5:Int):Rd ((List lX)×Int×Int×Unit) Y0 :=
 cond (au t5 (ae t0)) (
 cond (a7 t5 t0) (
 (UF (gt d124 t0 t5) t1).bind fun y1 =>
 cond (au y1.2.1.1 0) (
 some (.inr (.inr ((-1),())))
 ) (
 some (.inl (t0,y1.2.1.1,(aq .i64 t5 1),()))
 )
 ) none
 ) (
 some (.inr (.inl (t0,t1,t5,())))
 )
def Mm:=qd (ai (fc vq))
def Uh (p0:List lX) (p1:Int):Option j5 :=
 let u1:=(aH .i64 p1 (ae p0))
 cond (au u1 0) (
 some ((),(((-1),()),()))
 ) (
 (Mm p0 u1 0).bind (Sum.elim (fun y1 =>
 some ((),((y1.2.1,()),()))
 ) (fun y1 =>
 some ((),(y1,()))
 ))
 )
def Y9:Su:=⟨[.c false [.sl 124 jU],.c false aK],[(false,aK)],true,.inl fun x=>Uh x.1.1 x.2.1.1⟩
theorem Wr:ar Tryz.prog 75 Y9 :=
 fl (ac Xk an) [.d 4 (.int .i64)] [(0,⟨[.d 0 (.sl 124 jU),.d 1 (.int .i64),.d 5 (.int .i64)],ai (fc vq)⟩)] [] Tryz.f75 (lp [0] (sc di sn))
def US (p0:Int×(List lX)×Unit) (p1:Int):Option j5 :=
 (Uh p0.2.1 p1).bind fun y1 =>
 cond (au y1.2.1.1 0) (
 some ((),(((-1),()),()))
 ) (
 some ((),(y1.2.1,()))
 )
def YR:Su:=⟨[.c true nc,.c false aK],[(false,aK)],true,.inl fun x=>US x.1 x.2.1.1⟩
theorem Wt:ar Tryz.prog 57 YR :=
 fq (ac Wr an) Tryz.f57
def uz (t0:List sH) (t1 t5:Int):Rd ((List sH)×Int×Int×Unit) Y0 :=
 cond (au t5 (ae t0)) (
 cond (a7 t5 t0) (
 (US (gt d84 t0 t5) t1).bind fun y1 =>
 cond (au y1.2.1.1 0) (
 some (.inr (.inr ((-1),())))
 ) (
 some (.inl (t0,y1.2.1.1,(aq .i64 t5 1),()))
 )
 ) none
 ) (
 some (.inr (.inl (t0,t1,t5,())))
 )
def Md:=qd (ai (fc uz))
def UX (p0:List sH) (p1:Int):Option j5 :=
 let u1:=(aH .i64 p1 (ae p0))
 cond (au u1 0) (
 some ((),(((-1),()),()))
 ) (
 (Md p0 u1 0).bind (Sum.elim (fun y1 =>
 some ((),((y1.2.1,()),()))
 ) (fun y1 =>
 some ((),(y1,()))
 ))
 )
def Yo:Su:=⟨[.c false [.sl 84 nc],.c false aK],[(false,aK)],true,.inl fun x=>UX x.1.1 x.2.1.1⟩
theorem Yb:ar Tryz.prog 28 Yo :=
 fl (ac Wt an) [.d 4 (.int .i64)] [(0,⟨[.d 0 (.sl 84 nc),.d 1 (.int .i64),.d 5 (.int .i64)],ai (fc uz)⟩)] [] Tryz.f28 (lp [0] (sc di sn))
def UQ (p0:(List R5)×Int×(List R3)×Int×Int×Int×Int×Int×(List R5)×Unit) (p1:Int):Option j5 :=
 (Qa p0.1 p1).bind fun y1 =>
 cond (au y1.2.1.1 0) (
 some ((),(((-1),()),()))
 ) (
 (Qd p0.2.2.1 y1.2.1.1).bind fun y2 =>
 cond (au y2.2.1.1 0) (
 some ((),(((-1),()),()))
 ) (
 (Qa p0.2.2.2.2.2.2.2.2.1 y2.2.1.1).bind fun y3 =>
 cond (au y3.2.1.1 0) (
 some ((),(((-1),()),()))
 ) (
 some ((),(y3.2.1,()))
 )
 )
 )
def YZ:Su:=⟨[.c true gG,.c false aK],[(false,aK)],true,.inl fun x=>UQ x.1 x.2.1.1⟩
theorem WM:ar Tryz.prog 58 YZ :=
 fq (ac Tm (ac QG an)) Tryz.f58
def vM (t0:List rn) (t1 t5:Int):Rd ((List rn)×Int×Int×Unit) Y0 :=
 cond (au t5 (ae t0)) (
 cond (a7 t5 t0) (
 (UQ (gt d86 t0 t5) t1).bind fun y1 =>
 cond (au y1.2.1.1 0) (
 some (.inr (.inr ((-1),())))
 ) (
 some (.inl (t0,y1.2.1.1,(aq .i64 t5 1),()))
 )
 ) none
 ) (
 some (.inr (.inl (t0,t1,t5,())))
 )
def MW:=qd (ai (fc vM))
def UA (p0:List rn) (p1:Int):Option j5 :=
 let u1:=(aH .i64 p1 (ae p0))
 cond (au u1 0) (
 some ((),(((-1),()),()))
 ) (
 (MW p0 u1 0).bind (Sum.elim (fun y1 =>
 some ((),((y1.2.1,()),()))
 ) (fun y1 =>
 some ((),(y1,()))
 ))
 )
def Zk:Su:=⟨[.c false [.sl 86 gG],.c false aK],[(false,aK)],true,.inl fun x=>UA x.1.1 x.2.1.1⟩
theorem W8:ar Tryz.prog 29 Zk :=
 fl (ac WM an) [.d 4 (.int .i64)] [(0,⟨[.d 0 (.sl 86 gG),.d 1 (.int .i64),.d 5 (.int .i64)],ai (fc vM)⟩)] [] Tryz.f29 (lp [0] (sc di sn))
def g8 (p0:(List sH)×Int×Int×(List rn)×Unit) (p1:Int):Option j5 :=
 (UX p0.1 p1).bind fun y1 =>
 cond (au y1.2.1.1 0) (
 some ((),(((-1),()),()))
 ) (
 (UA p0.2.2.2.1 y1.2.1.1).bind fun y2 =>
 cond (au y2.2.1.1 0) (
 some ((),(((-1),()),()))
 ) (
 some ((),(y2.2.1,()))
 )
 )
def s8:Su:=⟨[.c true [.sl 84 nc,.int .i64,.int .i64,.sl 86 gG],.c false aK],[(false,aK)],true,.inl fun x=>g8 x.1 x.2.1.1⟩
theorem Yl:ar Tryz.prog 8 s8 :=
 fq (ac Yb (ac W8 an)) Tryz.f8
def JU (p0:(List UInt8)×Int×Int×Unit):Option (Unit×(Qe×Unit)) :=
 some ((),(p0,()))
def U1:Su:=⟨[.c true iZ],[(true,iZ)],true,.inl fun x=>JU x.1⟩
theorem Q2:ar Tryz.prog 188 U1 :=
 fq an Tryz.f188
def nw (t0:List mB) (t3:List dj) (t4:Int):Rd ((List mB)×(List dj)×Int×Unit) Unit :=
 cond (au t4 (ae t0)) (
 cond (a7 t4 t0) (
 (JU (gt d204 t0 t4)).bind fun y1 =>
 cond (a7 t4 t3) (
 let u1:=(gt d157 t3 t4)
 let u2:=(zD t3 t4 (y1.2.1.1,u1.2.1,u1.2.2.1,()))
 let u3:=(gt d157 u2 t4)
 let u4:=(zD u2 t4 (u3.1,y1.2.1.2.1,u3.2.2.1,()))
 let u5:=(gt d157 u4 t4)
 some (.inl (t0,(zD u4 t4 (u5.1,u5.2.1,y1.2.1.2.2.1,())),(aq .i64 t4 1),()))
 ) none
 ) none
 ) (
 some (.inr (.inl (t0,t3,t4,())))
 )
def HY:=qd (ai (fc nw))
def Ld (p0:List mB):Option (Unit×(((List dj)×Unit)×Unit)) :=
 let u1:=(ae p0)
 cond (LB 32 u1) (
 (HY p0 (vJ d157 u1) 0).bind (Sum.elim (fun y1 =>
 some ((),((y1.2.1,()),()))
 ) (fun y1 =>
 none
 ))
 ) none
def Xl:Su:=⟨[.c false [.sl 204 iZ]],[(false,[.sl 157 dH])],true,.inl fun x=>Ld x.1.1⟩
theorem Qx:ar Tryz.prog 138 Xl :=
 fl (ac Q2 an) [] [(0,⟨[.d 0 (.sl 204 iZ),.own 3 (.sl 157 dH),.d 4 (.int .i64)],ai (fc nw)⟩)] [] Tryz.f138 (lp [0] (sc di sn))
def uO (t0 t3:List R3) (t4:Int):Rd ((List R3)×(List R3)×Int×Unit) Unit :=
 cond (au t4 (ae t0)) (
 cond (a7 t4 t0) (
 cond (a7 t4 t3) (
 some (.inl (t0,(zD t3 t4 (gt d3 t0 t4)),(aq .i64 t4 1),()))
 ) none
 ) none
 ) (
 some (.inr (.inl (t0,t3,t4,())))
 )
def MQ:=qd (ai (fc uO))
def Qg (p0:List R3):Option Mf :=
 let u1:=(ae p0)
 cond (LB 8 u1) (
 (MQ p0 (vJ d3 u1) 0).bind (Sum.elim (fun y1 =>
 some ((),((y1.2.1,()),()))
 ) (fun y1 =>
 none
 ))
 ) none
def Yj:Su:=⟨[.c false gD],[(false,gD)],true,.inl fun x=>Qg x.1.1⟩
theorem TD:ar Tryz.prog 89 Yj :=
 fl an [] [(0,⟨[.d 0 (.sl 3 aK),.own 3 (.sl 3 aK),.d 4 (.int .i64)],ai (fc uO)⟩)] [] Tryz.f89 (lp [0] (sc di sn))
def KI (p0:Int×Int×(List R3)×(List R3)×Unit):Option XY :=
 (Qg p0.2.2.1).bind fun y1 =>
 (Qg p0.2.2.2.1).bind fun y2 =>
 some ((),((p0.1,p0.2.1,y1.2.1.1,y2.2.1.1,()),()))
def VF:Su:=⟨[.c true [.int .i64,.int .i64,.sl 3 aK,.sl 3 aK]],[(true,[.int .i64,.int .i64,.sl 3 aK,.sl 3 aK])],true,.inl fun x=>KI x.1⟩
theorem SD:ar Tryz.prog 139 VF :=
 fq (ac TD an) Tryz.f139
def wE (t0 t3:List R5) (t4:Int):Rd ((List R5)×(List R5)×Int×Unit) Unit :=
 cond (au t4 (ae t0)) (
 cond (a7 t4 t0) (
 cond (a7 t4 t3) (
 some (.inl (t0,(zD t3 t4 (gt d5 t0 t4)),(aq .i64 t4 1),()))
 ) none
 ) none
 ) (
 some (.inr (.inl (t0,t3,t4,())))
 )
def NA:=qd (ai (fc wE))
def Qb (p0:List R5):Option (Unit×(((List R5)×Unit)×Unit)) :=
 let u1:=(ae p0)
 cond (LB 1 u1) (
 (NA p0 (vJ d5 u1) 0).bind (Sum.elim (fun y1 =>
 some ((),((y1.2.1,()),()))
 ) (fun y1 =>
 none
 ))
 ) none
def YW:Su:=⟨[.c false [.sl 5 fz]],[(false,[.sl 5 fz])],true,.inl fun x=>Qb x.1.1⟩
theorem Rz:ar Tryz.prog 88 YW :=
 fl an [] [(0,⟨[.d 0 (.sl 5 fz),.own 3 (.sl 5 fz),.d 4 (.int .i64)],ai (fc wE)⟩)] [] Tryz.f88 (lp [0] (sc di sn))
def JR (p0:(List UInt8)×(List UInt8)×(List R5)×Unit):Option (Unit×(kZ×Unit)) :=
 (Qb p0.2.2.1).bind fun y1 =>
 some ((),((p0.1,p0.2.1,y1.2.1.1,()),()))
def Ya:Su:=⟨[.c true iD],[(true,iD)],true,.inl fun x=>JR x.1⟩
theorem T1:ar Tryz.prog 189 Ya :=
 fq (ac Rz an) Tryz.f189
def ot (t0:List kZ) (t3:List dh) (t4:Int):Rd ((List kZ)×(List dh)×Int×Unit) Unit :=
 cond (au t4 (ae t0)) (
 cond (a7 t4 t0) (
 (JR (gt d206 t0 t4)).bind fun y1 =>
 cond (a7 t4 t3) (
 let u1:=(gt d160 t3 t4)
 let u2:=(zD t3 t4 (y1.2.1.1,u1.2.1,u1.2.2.1,()))
 let u3:=(gt d160 u2 t4)
 let u4:=(zD u2 t4 (u3.1,y1.2.1.2.1,u3.2.2.1,()))
 let u5:=(gt d160 u4 t4)
 some (.inl (t0,(zD u4 t4 (u5.1,u5.2.1,y1.2.1.2.2.1,())),(aq .i64 t4 1),()))
 ) none
 ) none
 ) (
 some (.inr (.inl (t0,t3,t4,())))
 )
def H5:=qd (ai (fc ot))
def JT (p0:List kZ):Option Xd :=
 let u1:=(ae p0)
 cond (LB 56 u1) (
 (H5 p0 (vJ d160 u1) 0).bind (Sum.elim (fun y1 =>
 some ((),((y1.2.1,()),()))
 ) (fun y1 =>
 none
 ))
 ) none
def Wq:Su:=⟨[.c false [.sl 206 iD]],[(false,[.sl 160 cV])],true,.inl fun x=>JT x.1.1⟩
theorem RM:ar Tryz.prog 140 Wq :=
 fl (ac T1 an) [] [(0,⟨[.d 0 (.sl 206 iD),.own 3 (.sl 160 cV),.d 4 (.int .i64)],ai (fc ot)⟩)] [] Tryz.f140 (lp [0] (sc di sn))
def JL (p0:(List UInt8)×Int×Int×Int×Int×(List mB)×Int×Int×(List R3)×(List R3)×(List kZ)×Unit):Option Vq :=
 (Ld p0.2.2.2.2.2.1).bind fun y1 =>
 (KI (p0.2.2.2.2.2.2.1,p0.2.2.2.2.2.2.2.1,p0.2.2.2.2.2.2.2.2.1,p0.2.2.2.2.2.2.2.2.2.1,())).bind fun y2 =>
 (JT p0.2.2.2.2.2.2.2.2.2.2.1).bind fun y3 =>
 some ((),((p0.1,p0.2.1,p0.2.2.1,p0.2.2.2.1,p0.2.2.2.2.1,y1.2.1.1,y2.2.1.1,y2.2.1.2.1,y2.2.1.2.2.1,y2.2.1.2.2.2.1,y3.2.1.1,()),()))
def XC:Su:=⟨[.c true jU],[(true,bw)],true,.inl fun x=>JL x.1⟩
theorem TG:ar Tryz.prog 105 XC :=
 fq (ac Qx (ac SD (ac RM an))) Tryz.f105
def vu (t0:List lX) (t3:List dn) (t4:Int):Rd ((List lX)×(List dn)×Int×Unit) Unit :=
 cond (au t4 (ae t0)) (
 cond (a7 t4 t0) (
 (JL (gt d124 t0 t4)).bind fun y1 =>
 cond (a7 t4 t3) (
 some (.inl (t0,(zD t3 t4 y1.2.1),(aq .i64 t4 1),()))
 ) none
 ) none
 ) (
 some (.inr (.inl (t0,t3,t4,())))
 )
def MA:=qd (ai (fc vu))
def UE (p0:List lX):Option Sx :=
 let u1:=(ae p0)
 cond (LB 160 u1) (
 (MA p0 (vJ d92 u1) 0).bind (Sum.elim (fun y1 =>
 some ((),((y1.2.1,()),()))
 ) (fun y1 =>
 none
 ))
 ) none
def Yv:Su:=⟨[.c false [.sl 124 jU]],[(false,[.sl 92 bw])],true,.inl fun x=>UE x.1.1⟩
theorem X8:ar Tryz.prog 77 Yv :=
 fl (ac TG an) [] [(0,⟨[.d 0 (.sl 124 jU),.own 3 (.sl 92 bw),.d 4 (.int .i64)],ai (fc vu)⟩)] [] Tryz.f77 (lp [0] (sc di sn))
def UH (p0:Int×(List lX)×Unit):Option (Unit×(Y8×Unit)) :=
 (UE p0.2.1).bind fun y1 =>
 some ((),((p0.1,y1.2.1.1,()),()))
def YJ:Su:=⟨[.c true nc],[(true,cT)],true,.inl fun x=>UH x.1⟩
theorem WU:ar Tryz.prog 65 YJ :=
 fq (ac X8 an) Tryz.f65
def uF (t0:List sH) (t3:List gf) (t4:Int):Rd ((List sH)×(List gf)×Int×Unit) Unit :=
 cond (au t4 (ae t0)) (
 cond (a7 t4 t0) (
 (UH (gt d84 t0 t4)).bind fun y1 =>
 cond (a7 t4 t3) (
 let u1:=(zD t3 t4 (y1.2.1.1,(gt d67 t3 t4).2.1,()))
 some (.inl (t0,(zD u1 t4 ((gt d67 u1 t4).1,y1.2.1.2.1,())),(aq .i64 t4 1),()))
 ) none
 ) none
 ) (
 some (.inr (.inl (t0,t3,t4,())))
 )
def Mg:=qd (ai (fc uF))
def Ug (p0:List sH):Option (Unit×(((List gf)×Unit)×Unit)) :=
 let u1:=(ae p0)
 cond (LB 32 u1) (
 (Mg p0 (vJ d67 u1) 0).bind (Sum.elim (fun y1 =>
 some ((),((y1.2.1,()),()))
 ) (fun y1 =>
 none
 ))
 ) none
def YB:Su:=⟨[.c false [.sl 84 nc]],[(false,[.sl 67 cT])],true,.inl fun x=>Ug x.1.1⟩
theorem VS:ar Tryz.prog 35 YB :=
 fl (ac WU an) [] [(0,⟨[.d 0 (.sl 84 nc),.own 3 (.sl 67 cT),.d 4 (.int .i64)],ai (fc uF)⟩)] [] Tryz.f35 (lp [0] (sc di sn))
def UN (p0:(List R5)×Int×(List R3)×Int×Int×Int×Int×Int×(List R5)×Unit):Option (Unit×(rn×Unit)) :=
 (Qb p0.1).bind fun y1 =>
 (Qg p0.2.2.1).bind fun y2 =>
 (Qb p0.2.2.2.2.2.2.2.2.1).bind fun y3 =>
 some ((),((y1.2.1.1,p0.2.1,y2.2.1.1,p0.2.2.2.1,p0.2.2.2.2.1,p0.2.2.2.2.2.1,p0.2.2.2.2.2.2.1,p0.2.2.2.2.2.2.2.1,y3.2.1.1,()),()))
def Zy:Su:=⟨[.c true gG],[(true,gG)],true,.inl fun x=>UN x.1⟩
theorem Xt:ar Tryz.prog 66 Zy :=
 fq (ac TD (ac Rz an)) Tryz.f66
def uq (t0:List rn) (t3:List jH) (t4:Int):Rd ((List rn)×(List jH)×Int×Unit) Unit :=
 cond (au t4 (ae t0)) (
 cond (a7 t4 t0) (
 (UN (gt d86 t0 t4)).bind fun y1 =>
 cond (a7 t4 t3) (
 some (.inl (t0,(zD t3 t4 y1.2.1),(aq .i64 t4 1),()))
 ) none
 ) none
 ) (
 some (.inr (.inl (t0,t3,t4,())))
 )
def Mx:=qd (ai (fc uq))
def UI (p0:List rn):Option (Unit×(((List jH)×Unit)×Unit)) :=
 let u1:=(ae p0)
 cond (LB 120 u1) (
 (Mx p0 (vJ d64 u1) 0).bind (Sum.elim (fun y1 =>
 some ((),((y1.2.1,()),()))
 ) (fun y1 =>
 none
 ))
 ) none
def Y3:Su:=⟨[.c false [.sl 86 gG]],[(false,[.sl 64 eo])],true,.inl fun x=>UI x.1.1⟩
theorem Xp:ar Tryz.prog 36 Y3 :=
 fl (ac Xt an) [] [(0,⟨[.d 0 (.sl 86 gG),.own 3 (.sl 64 eo),.d 4 (.int .i64)],ai (fc uq)⟩)] [] Tryz.f36 (lp [0] (sc di sn))
def g10 (p0:(List sH)×Int×Int×(List rn)×Unit):Option (Unit×(JE×Unit)) :=
 (Ug p0.1).bind fun y1 =>
 (UI p0.2.2.2.1).bind fun y2 =>
 some ((),((y1.2.1.1,p0.2.1,p0.2.2.1,y2.2.1.1,()),()))
def Yt:Su:=⟨[.c true [.sl 84 nc,.int .i64,.int .i64,.sl 86 gG]],[(true,[.sl 67 cT,.int .i64,.int .i64,.sl 64 eo])],true,.inl fun x=>g10 x.1⟩
theorem XT:ar Tryz.prog 10 Yt :=
 fq (ac VS (ac Xp an)) Tryz.f10
def qG (p0 p1 p2:Int):Option dZ :=
 some ((),(((cond (bz p1 p0) (bz p0 p2) false),()),()))
def Ys:Su:=⟨[.c false aK,.c false aK,.c false aK],[(false,[.bool])],true,.inl fun x=>qG x.1.1 x.2.1.1 x.2.2.1.1⟩
theorem qB:ar Tryz.prog 44 Ys :=
 fq an Tryz.f44
def Jx (p0:Int×Int×(List R3)×(List R3)×Unit):Option XY :=
 cond (cQ 8 [] p0.2.2.1) (
 cond (cQ 8 [] p0.2.2.2.1) (
 some ((),((p0.1,p0.2.1,(lP [] p0.2.2.1),(lP [] p0.2.2.2.1),()),()))
 ) none
 ) none
def X9:Su:=⟨[.c true [.int .i64,.int .i64,.sl 3 aK,.sl 3 aK]],[(true,[.int .i64,.int .i64,.sl 3 aK,.sl 3 aK])],true,.inl fun x=>Jx x.1⟩
theorem Ri:ar Tryz.prog 117 X9 :=
 fq an Tryz.f117
def nD (t3 t7:List dh) (t8 t9:Int):Rd Uj Unit :=
 cond (au t9 t8) (
 cond (a7 t9 t7) (
 let u1:=(gt d160 t7 t9)
 cond (cQ 1 [] u1.2.2.1) (
 cond (cQ 56 t3 [(u1.1,u1.2.1,(lP [] u1.2.2.1),())]) (
 some (.inl ((lP t3 [(u1.1,u1.2.1,(lP [] u1.2.2.1),())]),t7,t8,(aq .i64 t9 1),()))
 ) none
 ) none
 ) none
 ) (
 some (.inr (.inl (t3,t7,t8,t9,())))
 )
def IK:=mZ (ai (cW nD))
def LK (p0:List dh):Option Xd :=
 (IK [] p0 (ae p0) 0).bind (Sum.elim (fun y1 =>
 some ((),((y1.1,()),()))
 ) (fun y1 =>
 none
 ))
def Wu:Su:=⟨[.c false [.sl 160 cV]],[(false,[.sl 160 cV])],true,.inl fun x=>LK x.1.1⟩
theorem SF:ar Tryz.prog 118 Wu :=
 fl an [] [(0,⟨[.own 3 (.sl 160 cV),.d 7 (.sl 160 cV),.d 8 (.int .i64),.d 9 (.int .i64)],ai (cW nD)⟩)] [] Tryz.f118 (lp [0] (sc di sn))
def Ur (p0:(List UInt8)×Int×Int×Int×Int×(List dj)×Int×Int×(List R3)×(List R3)×(List dh)×Unit):Option Vq :=
 cond (cQ 32 [] p0.2.2.2.2.2.1) (
 (Jx (p0.2.2.2.2.2.2.1,p0.2.2.2.2.2.2.2.1,p0.2.2.2.2.2.2.2.2.1,p0.2.2.2.2.2.2.2.2.2.1,())).bind fun y1 =>
 (LK p0.2.2.2.2.2.2.2.2.2.2.1).bind fun y2 =>
 some ((),((p0.1,p0.2.1,p0.2.2.1,p0.2.2.2.1,p0.2.2.2.2.1,(lP [] p0.2.2.2.2.2.1),y1.2.1.1,y1.2.1.2.1,y1.2.1.2.2.1,y1.2.1.2.2.2.1,y2.2.1.1,()),()))
 ) none
def Yh:Su:=⟨[.c true bw],[(true,bw)],true,.inl fun x=>Ur x.1⟩
theorem PB:ar Tryz.prog 85 Yh :=
 fq (ac Ri (ac SF an)) Tryz.f85
def ux (t3:List dn) (t8:Int) (t11:List gf) (t12 t13:Int) (t18:List dn) (t19 t20:Int) (b2:(List dn)×Unit) (b7:(List UInt8)×Int×Int×Int×Int×(List dj)×Int×Int×(List R3)×(List R3)×(List dh)×Unit):Rd ((List dn)×Int×(List gf)×Int×Int×(List dn)×Int×Int×Y4×dn×Unit) Unit :=
 cond (au 0 t8) (
 let u1:=(aH .i64 t8 1)
 cond (a7 u1 t3) (
 cond (!(PX (gt d92 t3 u1).1 b7.1)) (
 some (.inl (t3,u1,t11,t12,t13,t18,t19,t20,b2,b7,()))
 ) (
 some (.inr (.inl (t3,t8,t11,t12,t13,t18,t19,t20,b2,b7,())))
 )
 ) none
 ) (
 some (.inr (.inl (t3,t8,t11,t12,t13,t18,t19,t20,b2,b7,())))
 )
def Bg:=Sy (ai (AH ux))
def rO (t3:List dn) (t11:List gf) (t12 t13:Int) (t18:List dn) (t19 t20:Int) (b2:(List dn)×Unit):Rd ((List dn)×(List gf)×Int×Int×(List dn)×Int×Int×Y4×Unit) Unit :=
 cond (au t20 t19) (
 cond (a7 t20 t18) (
 (Bg t3 (ae t3) t11 t12 t13 t18 t19 t20 b2 (gt d92 t18 t20)).bind (Sum.elim (fun y1 =>
 cond (dJ 0 y1.2.1 y1.1) (
 cond (Ts 160 [] y1.1 y1.2.1) (
 (Ur y1.2.2.2.2.2.2.2.2.2.1).bind fun y2 =>
 let u1:=(lP [] (NB y1.1 y1.2.1))
 cond (cQ 160 u1 [y2.2.1]) (
 cond (N2 y1.2.1 y1.2.1) (
 let u2:=(lP u1 [y2.2.1])
 let u3:=(Vz y1.1 y1.2.1)
 cond (cQ 160 u2 u3) (
 some (.inl ((lP u2 u3),y1.2.2.1,y1.2.2.2.1,y1.2.2.2.2.1,y1.2.2.2.2.2.1,y1.2.2.2.2.2.2.1,(aq .i64 y1.2.2.2.2.2.2.2.1 1),y1.2.2.2.2.2.2.2.2.1,()))
 ) none
 ) none
 ) none
 ) none
 ) none
 ) (fun y1 =>
 some (.inr (.inr ()))
 ))
 ) none
 ) (
 some (.inr (.inl (t3,t11,t12,t13,t18,t19,t20,b2,())))
 )
def Dq:=Qf (ai (xQ rO))
def rY (t3:List dn) (t11:List gf) (t12 t13:Int) (b2:(List dn)×Unit):Rd ((List dn)×(List gf)×Int×Int×Y4×Unit) Unit :=
 cond (au t13 t12) (
 cond (a7 t13 t11) (
 (Dq t3 t11 t12 t13 (gt d67 t11 t13).2.1 (ae (gt d67 t11 t13).2.1) 0 b2).bind (Sum.elim (fun y1 =>
 some (.inl (y1.1,y1.2.1,y1.2.2.1,(aq .i64 y1.2.2.2.1 1),y1.2.2.2.2.2.2.2.1,()))
 ) (fun y1 =>
 some (.inr (.inr ()))
 ))
 ) none
 ) (
 some (.inr (.inl (t3,t11,t12,t13,b2,())))
 )
def C0:=wY (ai (ft rY))
def NJ (p0:List gf):Option Sx :=
 (C0 [] p0 (ae p0) 0 ([],())).bind (Sum.elim (fun y1 =>
 some ((),((y1.1,()),()))
 ) (fun y1 =>
 none
 ))
def Uy:Su:=⟨[.c false [.sl 67 cT]],[(true,[.sl 92 bw])],true,.inl fun x=>NJ x.1.1⟩
def uT:List SE:=[.own 3 (.sl 92 bw),.d 8 (.int .i64),.d 11 (.sl 67 cT),.d 12 (.int .i64),.d 13 (.int .i64),.d 18 (.sl 92 bw),.d 19 (.int .i64),.d 20 (.int .i64),.box 2 [(true,.sl 92 bw)],.box 7 [(false,.str),(false,.int .i64),(false,.int .i64),(false,.int .i64),(false,.int .i64),(false,.sl 157 dH),(false,.int .i64),(false,.int .i64),(false,.sl 3 aK),(false,.sl 3 aK),(false,.sl 160 cV)]]
def um:List SE:=[.own 3 (.sl 92 bw),.d 11 (.sl 67 cT),.d 12 (.int .i64),.d 13 (.int .i64),.d 18 (.sl 92 bw),.d 19 (.int .i64),.d 20 (.int .i64),.box 2 [(true,.sl 92 bw)]]
def tL:List SE:=[.own 3 (.sl 92 bw),.d 11 (.sl 67 cT),.d 12 (.int .i64),.d 13 (.int .i64),.box 2 [(true,.sl 92 bw)]]
def P2:List SE:=[]
def SZ:Nat->Option (Lo P2)
 | 4=>some ⟨uT,AH Bg⟩
 | 2=>some ⟨um,xQ Dq⟩
 | 0=>some ⟨tL,ft C0⟩
 | _=>none
def HN:List (Nat×Su):=[(85,Yh)]
def Bv:En:=⟨60,tt,iN HN,P2,SZ,[],fun _=>none⟩
def XO:Nat->Option (St->Tr St)
 | 11=>some (vC Bv (fA (bc 11 (ah Tryz.f60)) 0).op 44 44 44 3 8 41 42 43 44 45 9)
 | 13=>some (zU Bv 44 44 44 9 3 8 51 52 53 54 55)
 | _=>none
def Ib:En:=⟨60,tt,iN HN,P2,SZ,[],XO⟩
theorem Qu (x:bF uT):(cX Ib 4 uT (aZ 4 (ah Tryz.f60)) x).run=AH ux x:=by kernel_rfl
theorem Rq (x:bF um):(cX Ib 2 um (aZ 2 (ah Tryz.f60)) x).run=xQ rO x:=by kernel_rfl
theorem Uc (x:bF tL):(cX Ib 0 tL (aZ 0 (ah Tryz.f60)) x).run=ft rY x:=by kernel_rfl
theorem t60 (x:PT Uy.ps):(EK Ib (ah Tryz.f60) Tryz.f60.results.toList Uy.ps Uy.rs true x).run=NJ x.1.1:=by kernel_rfl
theorem DT:da Tryz.prog Ib:=cO (l:=HN) ⟨PB,trivial⟩
theorem Fj:da Tryz.prog Bv:=cO (l:=HN) ⟨PB,trivial⟩
theorem N5:cG Tryz.prog Ib (bc 11 (ah Tryz.f60)) (vC Bv (fA (bc 11 (ah Tryz.f60)) 0).op 44 44 44 3 8 41 42 43 44 45 9) :=
 fZ rfl rfl (Hk (E:=Bv) (kR hT) Fj (cd:=(bc 11 (ah Tryz.f60))) (rid:=11) (o1:=fA (bc 11 (ah Tryz.f60)) 0) (o2:=fA (bc 11 (ah Tryz.f60)) 1) (o3:=fA (bc 11 (ah Tryz.f60)) 2) (o4:=fA (bc 11 (ah Tryz.f60)) 3) (o5:=fA (bc 11 (ah Tryz.f60)) 4) (o6:=fA (bc 11 (ah Tryz.f60)) 5) (c:=zj (fA (bc 11 (ah Tryz.f60)) 4)) (tys:=[])
  (by kernel_rfl) (by kernel_rfl) (by kernel_rfl) (by kernel_rfl) (by kernel_rfl) (by kernel_rfl) (by kernel_rfl) (by kernel_rfl) (by kernel_rfl) (by kernel_rfl) (by kernel_rfl) (by kernel_rfl) (by kernel_rfl) (by kernel_rfl) (by kernel_rfl) (by kernel_rfl) (by kernel_rfl) (by kernel_rfl) (by kernel_rfl) (by kernel_rfl) (by kernel_rfl))
theorem EG:da Tryz.prog Bv:=cO (l:=HN) ⟨PB,trivial⟩
theorem O7:cG Tryz.prog Ib (bc 13 (ah Tryz.f60)) (zU Bv 44 44 44 9 3 8 51 52 53 54 55) :=
 fZ rfl rfl (Lc (E:=Bv) (kR hT) EG (cd:=(bc 13 (ah Tryz.f60))) (rid:=13) (o1:=fA (bc 13 (ah Tryz.f60)) 0) (o2:=fA (bc 13 (ah Tryz.f60)) 1) (o3:=fA (bc 13 (ah Tryz.f60)) 2) (o4:=fA (bc 13 (ah Tryz.f60)) 3) (o5:=fA (bc 13 (ah Tryz.f60)) 4) (o6:=fA (bc 13 (ah Tryz.f60)) 5) (c:=zj (fA (bc 13 (ah Tryz.f60)) 4)) (tys:=[])
  (by kernel_rfl) (by kernel_rfl) (by kernel_rfl) (by kernel_rfl) (by kernel_rfl) (by kernel_rfl) (by kernel_rfl) (by kernel_rfl) (by kernel_rfl) (by kernel_rfl) (by kernel_rfl) (by kernel_rfl) (by kernel_rfl) (by kernel_rfl) (by kernel_rfl) (by kernel_rfl) (by kernel_rfl) (by kernel_rfl) (by kernel_rfl) (by kernel_rfl) (by kernel_rfl) (by kernel_rfl))
theorem Rr:bV Tryz.prog Ib 4 (.loop (aZ 4 (ah Tryz.f60))) ⟨uT,AH Bg⟩ :=
 en (kR hT) DT eG (step:=fun (x:bF uT)=>ux x.1 x.2.1 x.2.2.1 x.2.2.2.1 x.2.2.2.2.1 x.2.2.2.2.2.1 x.2.2.2.2.2.2.1 x.2.2.2.2.2.2.2.1 x.2.2.2.2.2.2.2.2.1 x.2.2.2.2.2.2.2.2.2.1) Qu (aW [] (by kernel_rfl) trivial [] (by kernel_rfl) trivial)
theorem Q3:bV Tryz.prog Ib 2 (.loop (aZ 2 (ah Tryz.f60))) ⟨um,xQ Dq⟩ :=
 en (kR hT) DT eG (step:=fun (x:bF um)=>rO x.1 x.2.1 x.2.2.1 x.2.2.2.1 x.2.2.2.2.1 x.2.2.2.2.2.1 x.2.2.2.2.2.2.1 x.2.2.2.2.2.2.2.1) Rq (aW [(4,.loop (aZ 4 (ah Tryz.f60)))] (by kernel_rfl) ⟨lO rfl Rr,trivial⟩ [(11,bc 11 (ah Tryz.f60)),(13,bc 13 (ah Tryz.f60))] (by kernel_rfl) ⟨wV rfl N5,wV rfl O7,trivial⟩)
theorem TB:bV Tryz.prog Ib 0 (.loop (aZ 0 (ah Tryz.f60))) ⟨tL,ft C0⟩ :=
 en (kR hT) DT eG (step:=fun (x:bF tL)=>rY x.1 x.2.1 x.2.2.1 x.2.2.2.1 x.2.2.2.2.1) Uc (aW [(2,.loop (aZ 2 (ah Tryz.f60)))] (by kernel_rfl) ⟨lO rfl Q3,trivial⟩ [] (by kernel_rfl) trivial)
theorem Vx:ar Tryz.prog 60 Uy :=
 qw (E:=Ib) (kR hT) DT eG (fn:=Tryz.f60) (c:=(ah Tryz.f60)) (by kernel_rfl) (by kernel_rfl) (by kernel_rfl) rfl (aW [(0,.loop (aZ 0 (ah Tryz.f60)))] (by kernel_rfl) ⟨lO rfl TB,trivial⟩ [] (by kernel_rfl) trivial) fun x y h=>⟨y.1,fun _=>rfl,(t60 x).trans h⟩
def o9 (t0:List UInt8) (t3:Int):Rd SK Y1 :=
 cond (au t3 (ae t0)) (
 cond (a7 t3 t0) (
 let u1:=(dm t0 t3)
 cond (au u1 48) (
 some (.inr (.inr (false,())))
 ) (
 cond (a7 t3 t0) (
 cond (au 57 u1) (
 some (.inr (.inr (false,())))
 ) (
 some (.inl (t0,(aq .i64 t3 1),()))
 )
 ) none
 )
 ) none
 ) (
 some (.inr (.inl (t0,t3,())))
 )
def HW:=OW (ai (wP o9))
def pY (p0:List UInt8):Option dZ :=
 (HW p0 0).bind (Sum.elim (fun y1 =>
 some ((),(((au 0 (ae y1.1)),()),()))
 ) (fun y1 =>
 some ((),(y1,()))
 ))
def WV:Su:=⟨[.c false [.str]],[(false,[.bool])],true,.inl fun x=>pY x.1.1⟩
theorem sd:ar Tryz.prog 185 WV :=
 fl an [.d 2 (.bool)] [(0,⟨[.d 0 (.str),.d 3 (.int .i64)],ai (wP o9)⟩)] [] Tryz.f185 (lp [0] (sc di sn))
def qZ (t0:List UInt8) (t3:Int) (t4:Bool) (t5:Int):Rd ((List UInt8)×Int×Bool×Int×Unit) Unit :=
 cond (bz 0 t5) (
 cond (a7 t5 t0) (
 cond t4 (
 let u1:=(aH .i64 (bP .i64 (dm t0 t5)) 48)
 let u2:=(iq .i64 2 u1)
 cond (au 9 u2) (
 let u3:=(aH .i64 t5 1)
 some (.inl (t0,(gH (aq .i64 t3 (aH .i64 u2 9)) 10),(!t4),u3,()))
 ) (
 let u3:=(aH .i64 t5 1)
 some (.inl (t0,(gH (aq .i64 t3 u2) 10),(!t4),u3,()))
 )
 ) (
 let u1:=(aH .i64 (bP .i64 (dm t0 t5)) 48)
 let u2:=(aH .i64 t5 1)
 some (.inl (t0,(gH (aq .i64 t3 u1) 10),(!t4),u2,()))
 )
 ) none
 ) (
 some (.inr (.inl (t0,t3,t4,t5,())))
 )
def Jb:=mZ (ai (cW qZ))
def Km (p0:List UInt8):Option j5 :=
 (pY p0).bind fun y1 =>
 cond (!y1.2.1.1) (
 some ((),(((-1),()),()))
 ) (
 (Jb p0 0 true (aH .i64 (ae p0) 1)).bind (Sum.elim (fun y2 =>
 some ((),(((gH (aH .i64 10 y2.2.1) 10),()),()))
 ) (fun y2 =>
 none
 ))
 )
def Vn:Su:=⟨[.c false [.str]],[(false,aK)],true,.inl fun x=>Km x.1.1⟩
theorem Q8:ar Tryz.prog 186 Vn :=
 fl (ac sd an) [] [(0,⟨[.d 0 (.str),.d 3 (.int .i64),.d 4 (.bool),.d 5 (.int .i64)],ai (cW qZ)⟩)] [] Tryz.f186 (lp [0] (sc di sn))
def Ku (p0:List UInt8):Option dZ :=
 (pY p0).bind fun y1 =>
 let u1:=(ae p0)
 cond (cond (!y1.2.1.1) true (au u1 2)) (
 some ((),((false,()),()))
 ) (
 let u2:=(aH .i64 u1 1)
 cond (dJ 0 u2 p0) (
 (Km (sub p0 0 u2)).bind fun y2 =>
 cond (a7 u2 p0) (
 some ((),(((aj y2.2.1.1 (aH .i64 (bP .i64 (dm p0 u2)) 48)),()),()))
 ) none
 ) none
 )
def Vw:Su:=⟨[.c false [.str]],[(false,[.bool])],true,.inl fun x=>Ku x.1.1⟩
theorem Sl:ar Tryz.prog 133 Vw :=
 fq (ac sd (ac Q8 an)) Tryz.f133
def Fb (p0:List UInt8):Option dZ :=
 cond (bz (ae p0) 19) (
 (Ku p0).bind fun y1 =>
 some ((),(y1.2.1,()))
 ) (
 some ((),((false,()),()))
 )
def YN:Su:=⟨[.c false [.str]],[(false,[.bool])],true,.inl fun x=>Fb x.1.1⟩
theorem RA:ar Tryz.prog 98 YN :=
 fq (ac Sl an) Tryz.f98
def NK (p0:Int):Option dZ :=
 some ((),(((cond (bz 0 p0) (bz p0 4611686018427387904) false),()),()))
def YA:Su:=⟨[.c false aK],[(false,[.bool])],true,.inl fun x=>NK x.1.1⟩
theorem Pv:ar Tryz.prog 99 YA :=
 fq an Tryz.f99
def nN (t0:List UInt8) (t3:Int):Rd SK Y1 :=
 cond (au t3 (ae t0)) (
 cond (a7 t3 t0) (
 let u1:=(dm t0 t3)
 cond (au u1 48) (
 cond (a7 t3 t0) (
 cond (au u1 97) (
 some (.inr (.inr (false,())))
 ) (
 cond (a7 t3 t0) (
 cond (au 122 u1) (
 some (.inr (.inr (false,())))
 ) (
 some (.inl (t0,(aq .i64 t3 1),()))
 )
 ) none
 )
 ) none
 ) (
 cond (a7 t3 t0) (
 cond (au 57 u1) (
 cond (a7 t3 t0) (
 cond (au u1 97) (
 some (.inr (.inr (false,())))
 ) (
 cond (a7 t3 t0) (
 cond (au 122 u1) (
 some (.inr (.inr (false,())))
 ) (
 some (.inl (t0,(aq .i64 t3 1),()))
 )
 ) none
 )
 ) none
 ) (
 some (.inl (t0,(aq .i64 t3 1),()))
 )
 ) none
 )
 ) none
 ) (
 some (.inr (.inl (t0,t3,())))
 )
def HO:=OW (ai (wP nN))
def Gi (p0:List UInt8):Option dZ :=
 (HO p0 0).bind (Sum.elim (fun y1 =>
 (qG (ae y1.1) 1 6).bind fun y2 =>
 some ((),(y2.2.1,()))
 ) (fun y1 =>
 some ((),(y1,()))
 ))
def Va:Su:=⟨[.c false [.str]],[(false,[.bool])],true,.inl fun x=>Gi x.1.1⟩
theorem Nb:ar Tryz.prog 187 Va :=
 fl (ac qB an) [.d 2 (.bool)] [(0,⟨[.d 0 (.str),.d 3 (.int .i64)],ai (wP nN)⟩)] [] Tryz.f187 (lp [0] (sc di sn))
def FX (p0:Int):Option dZ :=
 (qG p0 0 1000000000).bind fun y1 =>
 some ((),(y1.2.1,()))
def Zm:Su:=⟨[.c false aK],[(false,[.bool])],true,.inl fun x=>FX x.1.1⟩
theorem L4:ar Tryz.prog 31 Zm :=
 fq (ac qB an) Tryz.f31
def Ki (p0:(List UInt8)×Int×Int×Unit):Option dZ :=
 (Gi p0.1).bind fun y1 =>
 cond y1.2.1.1 (
 (qG p0.2.1 1 9007199254740992).bind fun y2 =>
 cond y2.2.1.1 (
 (FX p0.2.2.1).bind fun y3 =>
 some ((),(y3.2.1,()))
 ) (
 some ((),((false,()),()))
 )
 ) (
 some ((),((false,()),()))
 )
def WL:Su:=⟨[.c true iZ],[(false,[.bool])],true,.inl fun x=>Ki x.1⟩
theorem Tp:ar Tryz.prog 134 WL :=
 fq (ac qB (ac Nb (ac L4 an))) Tryz.f134
def nQ (t0 t5:List dj) (t6 t7:Int):Rd ((List dj)×(List dj)×Int×Int×Unit) Y1 :=
 cond (au t7 t6) (
 cond (a7 t7 t5) (
 let u1:=(gt d157 t5 t7)
 (Ki u1).bind fun y1 =>
 cond (!y1.2.1.1) (
 some (.inr (.inr (false,())))
 ) (
 cond (au 0 t7) (
 let u2:=(aH .i64 t7 1)
 cond (a7 u2 t0) (
 cond (!(jO (gt d157 t0 u2).1 u1.1)) (
 some (.inr (.inr (false,())))
 ) (
 some (.inl (t0,t5,t6,(aq .i64 t7 1),()))
 )
 ) none
 ) (
 some (.inl (t0,t5,t6,(aq .i64 t7 1),()))
 )
 )
 ) none
 ) (
 some (.inr (.inl (t0,t5,t6,t7,())))
 )
def Hm:=mZ (ai (cW nQ))
def JQ (p0:List dj):Option dZ :=
 (Hm p0 p0 (ae p0) 0).bind (Sum.elim (fun y1 =>
 some ((),(((bz (ae y1.1) 4),()),()))
 ) (fun y1 =>
 some ((),(y1,()))
 ))
def X0:Su:=⟨[.c false [.sl 157 dH]],[(false,[.bool])],true,.inl fun x=>JQ x.1.1⟩
theorem S9:ar Tryz.prog 100 X0 :=
 fl (ac Tp an) [.d 2 (.bool)] [(0,⟨[.d 0 (.sl 157 dH),.d 5 (.sl 157 dH),.d 6 (.int .i64),.d 7 (.int .i64)],ai (cW nQ)⟩)] [] Tryz.f100 (lp [0] (sc di sn))
def oG (t32 t33:Int) (b1:Int×Int×(List R3)×(List R3)×Unit):Rd (Int×Int×(Int×Int×(List R3)×(List R3)×Unit)×Unit) Y1 :=
 cond (au t33 t32) (
 cond (a7 t33 b1.2.2.1) (
 (NK (gt d3 b1.2.2.1 t33).1).bind fun y1 =>
 cond (!y1.2.1.1) (
 some (.inr (.inr (false,())))
 ) (
 cond (a7 t33 b1.2.2.2.1) (
 (NK (gt d3 b1.2.2.2.1 t33).1).bind fun y2 =>
 cond (!y2.2.1.1) (
 some (.inr (.inr (false,())))
 ) (
 some (.inl (t32,(aq .i64 t33 1),b1,()))
 )
 ) none
 )
 ) none
 ) (
 some (.inr (.inl (t32,t33,b1,())))
 )
def Iw:=qd (ai (fc oG))
def Is (p0:Int×Int×(List R3)×(List R3)×Unit):Option dZ :=
 (qG p0.1 1 1000).bind fun y1 =>
 cond (!y1.2.1.1) (
 some ((),((false,()),()))
 ) (
 let u1:=(ae p0.2.2.1)
 (qG u1 1 8).bind fun y2 =>
 cond (cond (!y2.2.1.1) true (!(aj (ae p0.2.2.2.1) u1))) (
 some ((),((false,()),()))
 ) (
 (FX p0.2.1).bind fun y3 =>
 cond (!y3.2.1.1) (
 some ((),((false,()),()))
 ) (
 (Iw u1 0 p0).bind (Sum.elim (fun y4 =>
 some ((),((true,()),()))
 ) (fun y4 =>
 some ((),(y4,()))
 ))
 )
 )
 )
def WY:Su:=⟨[.c true [.int .i64,.int .i64,.sl 3 aK,.sl 3 aK]],[(false,[.bool])],true,.inl fun x=>Is x.1⟩
theorem Qz:ar Tryz.prog 101 WY :=
 fl (ac qB (ac Pv (ac L4 an))) [.d 2 (.bool)] [(0,⟨[.d 32 (.int .i64),.d 33 (.int .i64),.box 1 [(false,.int .i64),(false,.int .i64),(false,.sl 3 aK),(false,.sl 3 aK)]],ai (fc oG)⟩)] [] Tryz.f101 (lp [0] (sc di sn))
def K0 (p0:(List UInt8)×(List UInt8)×(List R5)×Unit):Option dZ :=
 (pY p0.1).bind fun y1 =>
 cond (cond y1.2.1.1 (aj (ae p0.1) 6) false) (
 (pY p0.2.1).bind fun y2 =>
 cond (cond y2.2.1.1 (aj (ae p0.2.1) 4) false) (
 (qG (ae p0.2.2.1) 1 200).bind fun y3 =>
 some ((),(y3.2.1,()))
 ) (
 some ((),((false,()),()))
 )
 ) (
 some ((),((false,()),()))
 )
def XP:Su:=⟨[.c true iD],[(false,[.bool])],true,.inl fun x=>K0 x.1⟩
theorem Q5:ar Tryz.prog 135 XP :=
 fq (ac qB (ac sd an)) Tryz.f135
def nI (t0 t7:List dh) (t8 t9:Int) (t19:List dh) (t20 t21:Int) (b4:(List UInt8)×(List UInt8)×(List R5)×Unit):Rd ((List dh)×(List dh)×Int×Int×(List dh)×Int×Int×kZ×Unit) Y1 :=
 cond (au t21 t20) (
 cond (a7 t21 t19) (
 let u1:=(gt d160 t19 t21)
 cond (cond (bY u1.1 b4.1) (bY u1.2.1 b4.2.1) false) (
 some (.inr (.inr (false,())))
 ) (
 some (.inl (t0,t7,t8,t9,t19,t20,(aq .i64 t21 1),b4,()))
 )
 ) none
 ) (
 some (.inr (.inl (t0,t7,t8,t9,t19,t20,t21,b4,())))
 )
def Jk:=Qf (ai (xQ nI))
def oo (t0 t7:List dh) (t8 t9:Int):Rd Uj Y1 :=
 cond (au t9 t8) (
 cond (a7 t9 t7) (
 let u1:=(gt d160 t7 t9)
 (K0 u1).bind fun y1 =>
 cond (!y1.2.1.1) (
 some (.inr (.inr (false,())))
 ) (
 cond (dJ 0 t9 t0) (
 let u2:=(sub t0 0 t9)
 (Jk t0 t7 t8 t9 u2 (ae u2) 0 u1).bind (Sum.elim (fun y2 =>
 some (.inl (y2.1,y2.2.1,y2.2.2.1,(aq .i64 y2.2.2.2.1 1),()))
 ) (fun y2 =>
 some (.inr (.inr (y2.1,())))
 ))
 ) none
 )
 ) none
 ) (
 some (.inr (.inl (t0,t7,t8,t9,())))
 )
def G3:=mZ (ai (cW oo))
def Kr (p0:List dh):Option dZ :=
 (G3 p0 p0 (ae p0) 0).bind (Sum.elim (fun y1 =>
 some ((),(((bz (ae y1.1) 6),()),()))
 ) (fun y1 =>
 some ((),(y1,()))
 ))
def VX:Su:=⟨[.c false [.sl 160 cV]],[(false,[.bool])],true,.inl fun x=>Kr x.1.1⟩
theorem Q1:ar Tryz.prog 102 VX :=
 fl (ac Q5 an) [.d 2 (.bool)] [(2,⟨[.d 0 (.sl 160 cV),.d 7 (.sl 160 cV),.d 8 (.int .i64),.d 9 (.int .i64),.d 19 (.sl 160 cV),.d 20 (.int .i64),.d 21 (.int .i64),.box 4 [(false,.str),(false,.str),(false,.sl 5 fz)]],ai (xQ nI)⟩),(0,⟨[.d 0 (.sl 160 cV),.d 7 (.sl 160 cV),.d 8 (.int .i64),.d 9 (.int .i64)],ai (cW oo)⟩)] [] Tryz.f102 (lp [0] (sc (lp [2] (sc di sn)) sn))
def F8 (p0 p1 p2:Int):Option j5 :=
 cond (au p0 p1) (
 some ((),((p1,()),()))
 ) (
 cond (au p2 p0) (
 some ((),((p2,()),()))
 ) (
 some ((),((p0,()),()))
 )
 )
def VP:Su:=⟨[.c false aK,.c false aK,.c false aK],[(false,aK)],true,.inl fun x=>F8 x.1.1 x.2.1.1 x.2.2.1.1⟩
theorem SC:ar Tryz.prog 137 VP :=
 fq an Tryz.f137
def NO (p0 p1:Int):Option Wf :=
 (NK p0).bind fun y1 =>
 cond (!y1.2.1.1) (
 some ((),((0,()),(false,()),()))
 ) (
 (NK p1).bind fun y2 =>
 cond (cond (!y2.2.1.1) true (au (aH .i64 4611686018427387904 p1) p0)) (
 some ((),((0,()),(false,()),()))
 ) (
 some ((),(((aq .i64 p0 p1),()),(true,()),()))
 )
 )
def U3:Su:=⟨[.c false aK,.c false aK],[(false,aK),(false,[.bool])],true,.inl fun x=>NO x.1.1 x.2.1.1⟩
theorem Rw:ar Tryz.prog 136 U3 :=
 fq (ac Pv an) Tryz.f136
def Ie (p0 p1:Int):Option j5 :=
 (F8 p0 0 4611686018427387904).bind fun y1 =>
 (F8 p1 0 4611686018427387904).bind fun y2 =>
 (NO y1.2.1.1 y2.2.1.1).bind fun y3 =>
 cond (!y3.2.2.1.1) (
 some ((),((4611686018427387904,()),()))
 ) (
 some ((),(y3.2.1,()))
 )
def WT:Su:=⟨[.c false aK,.c false aK],[(false,aK)],true,.inl fun x=>Ie x.1.1 x.2.1.1⟩
theorem Mh:ar Tryz.prog 103 WT :=
 fq (ac SC (ac Rw an)) Tryz.f103
def nX (t3:Int) (t6:List dj) (t7 t8:Int):Rd (Int×(List dj)×Int×Int×Unit) Unit :=
 cond (au t8 t7) (
 cond (a7 t8 t6) (
 (Ie t3 (gt d157 t6 t8).2.1).bind fun y1 =>
 some (.inl (y1.2.1.1,t6,t7,(aq .i64 t8 1),()))
 ) none
 ) (
 some (.inr (.inl (t3,t6,t7,t8,())))
 )
def Iq:=mZ (ai (cW nX))
def JX (p0:List dj):Option j5 :=
 (Iq 0 p0 (ae p0) 0).bind (Sum.elim (fun y1 =>
 some ((),((y1.1,()),()))
 ) (fun y1 =>
 none
 ))
def X7:Su:=⟨[.c false [.sl 157 dH]],[(false,aK)],true,.inl fun x=>JX x.1.1⟩
theorem RK:ar Tryz.prog 104 X7 :=
 fl (ac Mh an) [] [(0,⟨[.d 3 (.int .i64),.d 6 (.sl 157 dH),.d 7 (.int .i64),.d 8 (.int .i64)],ai (cW nX)⟩)] [] Tryz.f104 (lp [0] (sc di sn))
def UJ (p0:(List UInt8)×Int×Int×Int×Int×(List dj)×Int×Int×(List R3)×(List R3)×(List dh)×Unit):Option dZ :=
 (Fb p0.1).bind fun y1 =>
 cond (!y1.2.1.1) (
 some ((),((false,()),()))
 ) (
 (qG p0.2.1 0 9007199254740992).bind fun y2 =>
 cond (!y2.2.1.1) (
 some ((),((false,()),()))
 ) (
 (qG p0.2.2.2.1 0 1000).bind fun y3 =>
 cond (!y3.2.1.1) (
 some ((),((false,()),()))
 ) (
 (qG p0.2.2.2.2.1 0 9007199254740992).bind fun y4 =>
 cond (!y4.2.1.1) (
 some ((),((false,()),()))
 ) (
 (NK p0.2.2.1).bind fun y5 =>
 cond (!y5.2.1.1) (
 some ((),((false,()),()))
 ) (
 (JQ p0.2.2.2.2.2.1).bind fun y6 =>
 cond y6.2.1.1 (
 (Is (p0.2.2.2.2.2.2.1,p0.2.2.2.2.2.2.2.1,p0.2.2.2.2.2.2.2.2.1,p0.2.2.2.2.2.2.2.2.2.1,())).bind fun y7 =>
 cond y7.2.1.1 (
 (Kr p0.2.2.2.2.2.2.2.2.2.2.1).bind fun y8 =>
 cond y8.2.1.1 (
 (JX p0.2.2.2.2.2.1).bind fun y9 =>
 (Ie p0.2.2.1 y9.2.1.1).bind fun y10 =>
 some ((),(((bz y10.2.1.1 p0.2.1),()),()))
 ) (
 some ((),((false,()),()))
 )
 ) (
 some ((),((false,()),()))
 )
 ) (
 some ((),((false,()),()))
 )
 )
 )
 )
 )
 )
def Zi:Su:=⟨[.c true bw],[(false,[.bool])],true,.inl fun x=>UJ x.1⟩
theorem WA:ar Tryz.prog 76 Zi :=
 fq (ac qB (ac RA (ac Pv (ac S9 (ac Qz (ac Q1 (ac Mh (ac RK an)))))))) Tryz.f76
def vk (t6:List dn) (t7 t8:Int) (b1:(List dn)×Unit):Rd ((List dn)×Int×Int×Y4×Unit) Y1 :=
 cond (au t8 t7) (
 cond (a7 t8 t6) (
 let u1:=(gt d92 t6 t8)
 (UJ u1).bind fun y1 =>
 cond (!y1.2.1.1) (
 some (.inr (.inr (false,())))
 ) (
 cond (au 0 t8) (
 let u2:=(aH .i64 t8 1)
 cond (a7 u2 b1.1) (
 cond (!(jO (gt d92 b1.1 u2).1 u1.1)) (
 some (.inr (.inr (false,())))
 ) (
 some (.inl (t6,t7,(aq .i64 t8 1),b1,()))
 )
 ) none
 ) (
 some (.inl (t6,t7,(aq .i64 t8 1),b1,()))
 )
 )
 ) none
 ) (
 some (.inr (.inl (t6,t7,t8,b1,())))
 )
def Nt:=mZ (ai (cW vk))
def RE (p0:(List dn)×Unit):Option dZ :=
 (Nt p0.1 (ae p0.1) 0 p0).bind (Sum.elim (fun y1 =>
 some ((),(((bz (ae y1.2.2.2.1.1) 6),()),()))
 ) (fun y1 =>
 some ((),(y1,()))
 ))
def Zh:Su:=⟨[.c true [.sl 92 bw]],[(false,[.bool])],true,.inl fun x=>RE x.1⟩
theorem XV:ar Tryz.prog 49 Zh :=
 fl (ac WA an) [.d 2 (.bool)] [(0,⟨[.d 6 (.sl 92 bw),.d 7 (.int .i64),.d 8 (.int .i64),.box 1 [(false,.sl 92 bw)]],ai (cW vk)⟩)] [] Tryz.f49 (lp [0] (sc di sn))
def wq (t0:List UInt8) (t3 t4:Int):Rd Qe Unit :=
 cond (au t4 (ae t0)) (
 cond (a7 t4 t0) (
 some (.inl (t0,(yP .i64 (iq .i64 (zJ .i64 t3 (bP .i64 (dm t0 t4))) 16777619) 4294967295),(aq .i64 t4 1),()))
 ) none
 ) (
 some (.inr (.inl (t0,t3,t4,())))
 )
def MR:=qd (ai (fc wq))
def UK (p0:List UInt8):Option j5 :=
 (MR p0 2166136261 0).bind (Sum.elim (fun y1 =>
 some ((),((y1.2.1,()),()))
 ) (fun y1 =>
 none
 ))
def Y5:Su:=⟨[.c false [.str]],[(false,aK)],true,.inl fun x=>UK x.1.1⟩
theorem VB:ar Tryz.prog 84 Y5 :=
 fl an [] [(0,⟨[.d 0 (.str),.d 3 (.int .i64),.d 4 (.int .i64)],ai (fc wq)⟩)] [] Tryz.f84 (lp [0] (sc di sn))
def Nf (p0:List UInt8) (p1:Int):Option j5 :=
 cond (au p1 1) (
 some ((),((0,()),()))
 ) (
 (UK p0).bind fun y1 =>
 cond (!(aj p1 0)) (
 some ((),(((gH y1.2.1.1 p1),()),()))
 ) none
 )
def YF:Su:=⟨[.c false [.str],.c false aK],[(false,aK)],true,.inl fun x=>Nf x.1.1 x.2.1.1⟩
theorem Ud:ar Tryz.prog 59 YF :=
 fq (ac VB an) Tryz.f59
def vL (t0:List gf) (t3:Int) (t11:List gf) (t12 t13:Int) (t23:List dn) (t24 t25:Int) (b4:Int×(List dn)×Unit):Rd ((List gf)×Int×(List gf)×Int×Int×(List dn)×Int×Int×Y8×Unit) Y1 :=
 cond (au t25 t24) (
 cond (a7 t25 t23) (
 (Nf (gt d92 t23 t25).1 (ae t0)).bind fun y1 =>
 cond (!(aj y1.2.1.1 t3)) (
 some (.inr (.inr (false,())))
 ) (
 cond (au 0 t25) (
 let u1:=(aH .i64 t25 1)
 cond (a7 u1 b4.2.1) (
 cond (!(jO (gt d92 b4.2.1 u1).1 (gt d92 t23 t25).1)) (
 some (.inr (.inr (false,())))
 ) (
 some (.inl (t0,t3,t11,t12,t13,t23,t24,(aq .i64 t25 1),b4,()))
 )
 ) none
 ) (
 some (.inl (t0,t3,t11,t12,t13,t23,t24,(aq .i64 t25 1),b4,()))
 )
 )
 ) none
 ) (
 some (.inr (.inl (t0,t3,t11,t12,t13,t23,t24,t25,b4,())))
 )
def M8:=R7 (ai (CC vL))
def wu (t0 t11:List gf) (t12 t13:Int):Rd ((List gf)×(List gf)×Int×Int×Unit) Y1 :=
 cond (au t13 t12) (
 cond (a7 t13 t11) (
 let u1:=(gt d67 t11 t13)
 (qG u1.1 (-1) 11).bind fun y1 =>
 cond (!y1.2.1.1) (
 some (.inr (.inr (false,())))
 ) (
 (M8 t0 t13 t11 t12 t13 u1.2.1 (ae u1.2.1) 0 u1).bind (Sum.elim (fun y2 =>
 some (.inl (y2.1,y2.2.2.1,y2.2.2.2.1,(aq .i64 y2.2.2.2.2.1 1),()))
 ) (fun y2 =>
 some (.inr (.inr (y2.1,())))
 ))
 )
 ) none
 ) (
 some (.inr (.inl (t0,t11,t12,t13,())))
 )
def Qr:=mZ (ai (cW wu))
def UD (p0:List gf):Option dZ :=
 let u1:=(ae p0)
 (qG u1 1 5).bind fun y1 =>
 cond (!y1.2.1.1) (
 some ((),((false,()),()))
 ) (
 (Qr p0 p0 u1 0).bind (Sum.elim (fun y2 =>
 (NJ y2.1).bind fun y3 =>
 (RE y3.2.1).bind fun y4 =>
 some ((),(y4.2.1,()))
 ) (fun y2 =>
 some ((),(y2,()))
 ))
 )
def YT:Su:=⟨[.c false [.sl 67 cT]],[(false,[.bool])],true,.inl fun x=>UD x.1.1⟩
theorem W4:ar Tryz.prog 30 YT :=
 fl (ac qB (ac Vx (ac XV (ac Ud an)))) [.d 2 (.bool)] [(2,⟨[.d 0 (.sl 67 cT),.d 3 (.int .i64),.d 11 (.sl 67 cT),.d 12 (.int .i64),.d 13 (.int .i64),.d 23 (.sl 92 bw),.d 24 (.int .i64),.d 25 (.int .i64),.box 4 [(false,.int .i64),(false,.sl 92 bw)]],ai (CC vL)⟩),(0,⟨[.d 0 (.sl 67 cT),.d 11 (.sl 67 cT),.d 12 (.int .i64),.d 13 (.int .i64)],ai (cW wu)⟩)] [] Tryz.f30 (lp [0] (sc (lp [2] (sc di sn)) sn))
def wH (t1:Int) (t7:List R3) (t8 t9:Int):Rd (Int×(List R3)×Int×Int×Unit) Y1 :=
 cond (au t9 t8) (
 cond (a7 t9 t7) (
 cond (aj (gt d3 t7 t9).1 t1) (
 some (.inr (.inr (true,())))
 ) (
 some (.inl (t1,t7,t8,(aq .i64 t9 1),()))
 )
 ) none
 ) (
 some (.inr (.inl (t1,t7,t8,t9,())))
 )
def Q4:=mZ (ai (cW wH))
def UP (p0:List R3) (p1:Int):Option dZ :=
 (Q4 p1 p0 (ae p0) 0).bind (Sum.elim (fun y1 =>
 some ((),((false,()),()))
 ) (fun y1 =>
 some ((),(y1,()))
 ))
def Yp:Su:=⟨[.c false gD,.c false aK],[(false,[.bool])],true,.inl fun x=>UP x.1.1 x.2.1.1⟩
theorem Vc:ar Tryz.prog 61 Yp :=
 fl an [.d 4 (.bool)] [(0,⟨[.d 1 (.int .i64),.d 7 (.sl 3 aK),.d 8 (.int .i64),.d 9 (.int .i64)],ai (cW wH)⟩)] [] Tryz.f61 (lp [0] (sc di sn))
def ve (t1:Int) (t5:List R3) (t11:List jH) (t12 t13:Int) (t23:List R3) (t24 t25:Int):Rd (Int×(List R3)×(List jH)×Int×Int×(List R3)×Int×Int×Unit) Y1 :=
 cond (au t25 t24) (
 cond (a7 t25 t23) (
 let u1:=(gt d3 t23 t25)
 cond (aj u1.1 (-1)) (
 let u2:=(aq .i64 t25 1)
 some (.inl (t1,t5,t11,t12,t13,t23,t24,u2,()))
 ) (
 cond (bz t1 u1.1) (
 some (.inr (.inr (false,())))
 ) (
 (UP t5 u1.1).bind fun y1 =>
 cond y1.2.1.1 (
 some (.inr (.inr (false,())))
 ) (
 cond (cQ 8 t5 [u1]) (
 let u2:=(aq .i64 t25 1)
 some (.inl (t1,(lP t5 [u1]),t11,t12,t13,t23,t24,u2,()))
 ) none
 )
 )
 )
 ) none
 ) (
 some (.inr (.inl (t1,t5,t11,t12,t13,t23,t24,t25,())))
 )
def Mv:=Qf (ai (xQ ve))
def wh (t1:Int) (t5:List R3) (t11:List jH) (t12 t13:Int):Rd (Int×(List R3)×(List jH)×Int×Int×Unit) Y1 :=
 cond (au t13 t12) (
 cond (a7 t13 t11) (
 let u1:=(gt d64 t11 t13)
 (Mv t1 t5 t11 t12 t13 [(u1.2.2.2.2.1,()),(u1.2.2.2.2.2.1,()),(u1.2.2.2.2.2.2.1,())] (ae [(u1.2.2.2.2.1,()),(u1.2.2.2.2.2.1,()),(u1.2.2.2.2.2.2.1,())]) 0).bind (Sum.elim (fun y1 =>
 some (.inl (y1.1,y1.2.1,y1.2.2.1,y1.2.2.2.1,(aq .i64 y1.2.2.2.2.1 1),()))
 ) (fun y1 =>
 some (.inr (.inr (y1.1,())))
 ))
 ) none
 ) (
 some (.inr (.inl (t1,t5,t11,t12,t13,())))
 )
def Rm:=wY (ai (ft wh))
def Uu (p0:List jH) (p1:Int):Option dZ :=
 (Rm p1 [] p0 (ae p0) 0).bind (Sum.elim (fun y1 =>
 some ((),((true,()),()))
 ) (fun y1 =>
 some ((),(y1,()))
 ))
def Zv:Su:=⟨[.c false [.sl 64 eo],.c false aK],[(false,[.bool])],true,.inl fun x=>Uu x.1.1 x.2.1.1⟩
theorem VQ:ar Tryz.prog 32 Zv :=
 fl (ac Vc an) [.d 4 (.bool)] [(2,⟨[.d 1 (.int .i64),.own 5 (.sl 3 aK),.d 11 (.sl 64 eo),.d 12 (.int .i64),.d 13 (.int .i64),.own 23 (.sl 3 aK),.d 24 (.int .i64),.d 25 (.int .i64)],ai (xQ ve)⟩),(0,⟨[.d 1 (.int .i64),.own 5 (.sl 3 aK),.d 11 (.sl 64 eo),.d 12 (.int .i64),.d 13 (.int .i64)],ai (ft wh)⟩)] [] Tryz.f32 (lp [0] (sc (lp [2] (sc di sn)) sn))
def UU (p0:(List R5)×Int×(List R3)×Int×Int×Int×Int×Int×(List R5)×Unit):Option dZ :=
 cond (aj p0.2.1 1) (
 let u1:=(ae p0.2.2.1)
 some ((),(((cond (bz 0 p0.2.2.2.1) (au p0.2.2.2.1 u1) false),()),()))
 ) (
 cond (aj p0.2.1 2) (
 let u1:=(ae p0.2.2.1)
 some ((),(((cond (aj p0.2.2.2.1 u1) (au 0 u1) false),()),()))
 ) (
 cond (aj p0.2.1 3) (
 let u1:=(ae p0.2.2.1)
 (qG p0.2.2.2.1 1 u1).bind fun y1 =>
 some ((),(y1.2.1,()))
 ) (
 some ((),(((aj p0.2.2.2.1 0),()),()))
 )
 )
 )
def Zd:Su:=⟨[.c true gG],[(false,[.bool])],true,.inl fun x=>UU x.1⟩
theorem VG:ar Tryz.prog 62 Zd :=
 fq (ac qB an) Tryz.f62
def pn (t0:List R5) (t1 t2:Int) (t9:List UInt8) (t10:Int):Rd ((List R5)×Int×Int×(List UInt8)×Int×Unit) Unit :=
 cond (au t10 (aq .i64 t1 (n9 .i64 (aq .i64 t2 1) 2))) (
 cond (a7 t10 t0) (
 cond (a7 t10 t0) (
 let u1:=(bP .i64 (gt d5 t0 t10).1)
 let u2:=(strOf [((bP .u8 (aq .i64 48 (n9 .i64 u1 16))),()),((bP .u8 (aq .i64 48 (gH u1 16))),())])
 cond (SI t9 u2) (
 some (.inl (t0,t1,t2,(Y7 t9 u2),(aq .i64 t10 1),()))
 ) none
 ) none
 ) none
 ) (
 some (.inr (.inl (t0,t1,t2,t9,t10,())))
 )
def HS:=wY (ai (ft pn))
def tX (p0:List R5) (p1 p2:Int):Option Um :=
 let u1:=(ae p0)
 cond (cond (cond (cond (au p2 1) true (au 38 p2)) true (au p1 0)) true (au u1 p1)) (
 some ((),(([],()),(0,()),(false,()),()))
 ) (
 cond (au (aH .i64 u1 p1) (n9 .i64 (aq .i64 p2 1) 2)) (
 some ((),(([],()),(0,()),(false,()),()))
 ) (
 (HS p0 p1 p2 [] p1).bind (Sum.elim (fun y1 =>
 cond (aj (gH y1.2.2.1 2) 1) (
 cond (a7 0 y1.2.2.2.1) (
 cond (!(aj (dm y1.2.2.2.1 0) 48)) (
 some ((),(([],()),(0,()),(false,()),()))
 ) (
 let u2:=(ae y1.2.2.2.1)
 cond (dJ 1 u2 y1.2.2.2.1) (
 let u3:=(sub y1.2.2.2.1 1 u2)
 (pY u3).bind fun y2 =>
 cond (!y2.2.1.1) (
 some ((),(([],()),(0,()),(false,()),()))
 ) (
 some ((),((u3,()),((aq .i64 y1.2.1 (n9 .i64 (aq .i64 y1.2.2.1 1) 2)),()),(true,()),()))
 )
 ) none
 )
 ) none
 ) (
 (pY y1.2.2.2.1).bind fun y2 =>
 cond (!y2.2.1.1) (
 some ((),(([],()),(0,()),(false,()),()))
 ) (
 some ((),((y1.2.2.2.1,()),((aq .i64 y1.2.1 (n9 .i64 (aq .i64 y1.2.2.1 1) 2)),()),(true,()),()))
 )
 )
 ) (fun y1 =>
 none
 ))
 )
 )
def V1:Su:=⟨[.c false [.sl 5 fz],.c false aK,.c false aK],[(false,[.str]),(false,aK),(false,[.bool])],true,.inl fun x=>tX x.1.1 x.2.1.1 x.2.2.1.1⟩
theorem Hj:ar Tryz.prog 149 V1 :=
 fl (ac sd an) [] [(0,⟨[.d 0 (.sl 5 fz),.d 1 (.int .i64),.d 2 (.int .i64),.d 9 (.str),.d 10 (.int .i64)],ai (ft pn)⟩)] [] Tryz.f149 (lp [0] (sc di sn))
def qT (t0:List R5) (t1:Int) (t7:List R3) (t8:Int):Rd ((List R5)×Int×(List R3)×Int×Unit) Unit :=
 cond (bz t8 64) (
 let u1:=(aH .i64 t8 1)
 let u2:=(aq .i64 t1 (n9 .i64 u1 8))
 cond (a7 u2 t0) (
 let u3:=(aH .i64 7 (gH u1 8))
 cond (bz 0 u3) (
 cond (aj (gH (ib .i64 (bP .i64 (gt d5 t0 u2).1) u3) 2) 1) (
 cond (cQ 8 t7 [(t8,())]) (
 let u4:=(aq .i64 t8 1)
 some (.inl (t0,t1,(lP t7 [(t8,())]),u4,()))
 ) none
 ) (
 let u4:=(aq .i64 t8 1)
 some (.inl (t0,t1,t7,u4,()))
 )
 ) none
 ) none
 ) (
 some (.inr (.inl (t0,t1,t7,t8,())))
 )
def Jl:=mZ (ai (cW qT))
def CB (p0:List R5) (p1:Int):Option XH :=
 cond (cond (au p1 0) true (au (aH .i64 (ae p0) 8) p1)) (
 some ((),(([],()),(0,()),(false,()),()))
 ) (
 (Jl p0 p1 [] 1).bind (Sum.elim (fun y1 =>
 some ((),((y1.2.2.1,()),((aq .i64 y1.2.1 8),()),(true,()),()))
 ) (fun y1 =>
 none
 ))
 )
def WN:Su:=⟨[.c false [.sl 5 fz],.c false aK],[(false,gD),(false,aK),(false,[.bool])],true,.inl fun x=>CB x.1.1 x.2.1.1⟩
theorem TK:ar Tryz.prog 199 WN :=
 fl an [] [(0,⟨[.d 0 (.sl 5 fz),.d 1 (.int .i64),.own 7 (.sl 3 aK),.d 8 (.int .i64)],ai (cW qT)⟩)] [] Tryz.f199 (lp [0] (sc di sn))
def Fq (p0:Int):Option j5 :=
 cond (aj p0 3) (
 some ((),((1,()),()))
 ) (
 cond (aj p0 4) (
 some ((),((1,()),()))
 ) (
 cond (aj p0 7) (
 some ((),((1,()),()))
 ) (
 cond (aj p0 11) (
 some ((),((1,()),()))
 ) (
 cond (aj p0 14) (
 some ((),((1,()),()))
 ) (
 cond (aj p0 49) (
 some ((),((1,()),()))
 ) (
 cond (aj p0 37) (
 some ((),((2,()),()))
 ) (
 cond (aj p0 38) (
 some ((),((2,()),()))
 ) (
 cond (aj p0 39) (
 some ((),((2,()),()))
 ) (
 cond (aj p0 41) (
 some ((),((2,()),()))
 ) (
 cond (aj p0 95) (
 some ((),((2,()),()))
 ) (
 cond (aj p0 2) (
 some ((),((3,()),()))
 ) (
 cond (aj p0 102) (
 some ((),((4,()),()))
 ) (
 cond (aj p0 103) (
 some ((),((4,()),()))
 ) (
 cond (aj p0 48) (
 some ((),((5,()),()))
 ) (
 cond (aj p0 54) (
 some ((),((5,()),()))
 ) (
 some ((),((0,()),()))
 )
 )
 )
 )
 )
 )
 )
 )
 )
 )
 )
 )
 )
 )
 )
 )
def Wn:Su:=⟨[.c false aK],[(false,aK)],true,.inl fun x=>Fq x.1.1⟩
theorem HH:ar Tryz.prog 200 Wn :=
 fq an Tryz.f200
def od (t0:List R5) (t6:Int) (t8:List R3) (t9:Bool) (t28:List R3) (t29 t30:Int):Rd ((List R5)×Int×(List R3)×Bool×(List R3)×Int×Int×Unit) V4 :=
 cond (au t30 t29) (
 cond (a7 t30 t28) (
 let u1:=(gt d3 t28 t30)
 cond (aj u1.1 1) (
 let u2:=(aq .i64 t30 1)
 some (.inl (t0,t6,t8,true,t28,t29,u2,()))
 ) (
 cond (cQ 8 t8 [u1]) (
 let u2:=(aq .i64 t30 1)
 some (.inl (t0,t6,(lP t8 [u1]),t9,t28,t29,u2,()))
 ) none
 )
 ) none
 ) (
 some (.inr (.inl (t0,t6,t8,t9,t28,t29,t30,())))
 )
def GV:=UR (ai (Jy od))
def nE (t8:List R3) (t13:Int) (t56:List R3) (t57 t58:Int):Rd ((List R3)×Int×(List R3)×Int×Int×Unit) V4 :=
 cond (au t58 t57) (
 cond (a7 t58 t56) (
 cond (cQ 8 t8 [((aq .i64 (gt d3 t56 t58).1 64),())]) (
 some (.inl ((lP t8 [((aq .i64 (gt d3 t56 t58).1 64),())]),t13,t56,t57,(aq .i64 t58 1),()))
 ) none
 ) none
 ) (
 some (.inr (.inl (t8,t13,t56,t57,t58,())))
 )
def Ip:=wY (ai (ft nE))
def oW (t69:Unit) (t6:Int) (t8:List R3) (t70 t71:Int):Rd (Unit×Int×(List R3)×Int×Int×Unit) V4 :=
 cond (au t71 t70) (
 cond (a7 t71 t8) (
 (Fq (gt d3 t8 t71).1).bind fun y1 =>
 cond (aj y1.2.1.1 0) (
 some (.inr (.inr ([],0,false,())))
 ) (
 some (.inl ((),t6,t8,t70,(aq .i64 t71 1),()))
 )
 ) none
 ) (
 some (.inr (.inl ((),t6,t8,t70,t71,())))
 )
def Cj:=wY (ai (ft oW))
def I8 (p0:List R5):Option XH :=
 (CB p0 2).bind fun y1 =>
 cond (!y1.2.2.2.1.1) (
 some ((),(([],()),(0,()),(false,()),()))
 ) (
 (GV p0 y1.2.2.1.1 [] false y1.2.1.1 (ae y1.2.1.1) 0).bind (Sum.elim (fun y2 =>
 cond y2.2.2.2.1 (
 (CB y2.1 y2.2.1).bind fun y3 =>
 let u1:=(ae y3.2.1.1)
 cond (cond (!y3.2.2.2.1.1) true (aj u1 0)) (
 some ((),(([],()),(0,()),(false,()),()))
 ) (
 (Ip y2.2.2.1 y3.2.2.1.1 y3.2.1.1 u1 0).bind (Sum.elim (fun y4 =>
 (Cj () y4.2.1 y4.1 (ae y4.1) 0).bind (Sum.elim (fun y5 =>
 some ((),((y5.2.2.1,()),(y5.2.1,()),(true,()),()))
 ) (fun y5 =>
 some ((),((y5.1,()),(y5.2.1,()),(y5.2.2.1,()),()))
 ))
 ) (fun y4 =>
 some ((),((y4.1,()),(y4.2.1,()),(y4.2.2.1,()),()))
 ))
 )
 ) (
 (Cj () y2.2.1 y2.2.2.1 (ae y2.2.2.1) 0).bind (Sum.elim (fun y3 =>
 some ((),((y3.2.2.1,()),(y3.2.1,()),(true,()),()))
 ) (fun y3 =>
 some ((),((y3.1,()),(y3.2.1,()),(y3.2.2.1,()),()))
 ))
 )
 ) (fun y2 =>
 some ((),((y2.1,()),(y2.2.1,()),(y2.2.2.1,()),()))
 ))
 )
def Wj:Su:=⟨[.c false [.sl 5 fz]],[(false,gD),(false,aK),(false,[.bool])],true,.inl fun x=>I8 x.1.1⟩
theorem RI:ar Tryz.prog 150 Wj :=
 fl (ac TK (ac HH an)) [.own 2 (.sl 3 aK),.d 3 (.int .i64),.d 4 (.bool)] [(0,⟨[.d 0 (.sl 5 fz),.d 6 (.int .i64),.own 8 (.sl 3 aK),.d 9 (.bool),.own 28 (.sl 3 aK),.d 29 (.int .i64),.d 30 (.int .i64)],ai (Jy od)⟩),(2,⟨[.own 8 (.sl 3 aK),.d 13 (.int .i64),.own 56 (.sl 3 aK),.d 57 (.int .i64),.d 58 (.int .i64)],ai (ft nE)⟩),(4,⟨[.al 69 8,.d 6 (.int .i64),.own 8 (.sl 3 aK),.d 70 (.int .i64),.d 71 (.int .i64)],ai (ft oW)⟩)] [] Tryz.f150 (lp [0,2,4] (sc di (sc di (sc di sn))))
def FZ (p0:Int):Option j5 :=
 cond (aj p0 2) (
 some ((),((19,()),()))
 ) (
 cond (aj p0 3) (
 some ((),((6,()),()))
 ) (
 cond (aj p0 11) (
 some ((),((6,()),()))
 ) (
 cond (aj p0 38) (
 some ((),((6,()),()))
 ) (
 cond (aj p0 4) (
 some ((),((12,()),()))
 ) (
 cond (aj p0 37) (
 some ((),((12,()),()))
 ) (
 cond (aj p0 95) (
 some ((),((12,()),()))
 ) (
 cond (aj p0 7) (
 some ((),((10,()),()))
 ) (
 cond (aj p0 14) (
 some ((),((4,()),()))
 ) (
 cond (aj p0 39) (
 some ((),((2,()),()))
 ) (
 cond (aj p0 41) (
 some ((),((8,()),()))
 ) (
 cond (aj p0 49) (
 some ((),((3,()),()))
 ) (
 cond (aj p0 102) (
 some ((),((20,()),()))
 ) (
 cond (aj p0 103) (
 some ((),((20,()),()))
 ) (
 cond (aj p0 48) (
 some ((),((60,()),()))
 ) (
 cond (aj p0 54) (
 some ((),((60,()),()))
 ) (
 some ((),((0,()),()))
 )
 )
 )
 )
 )
 )
 )
 )
 )
 )
 )
 )
 )
 )
 )
 )
def U7:Su:=⟨[.c false aK],[(false,aK)],true,.inl fun x=>FZ x.1.1⟩
theorem ME:ar Tryz.prog 201 U7 :=
 fq an Tryz.f201
def S3 (p0:Int):Option j5 :=
 cond (aj p0 3) (
 some ((),((2,()),()))
 ) (
 cond (aj p0 4) (
 some ((),((2,()),()))
 ) (
 cond (aj p0 5) (
 some ((),((3,()),()))
 ) (
 some ((),((0,()),()))
 )
 )
 )
def WQ:Su:=⟨[.c false aK],[(false,aK)],true,.inl fun x=>S3 x.1.1⟩
theorem TO:ar Tryz.prog 202 WQ :=
 fq an Tryz.f202
def oN (t0:List UInt8) (t4 t5:Int):Rd Qe Unit :=
 cond (au t5 (ae t0)) (
 cond (a7 t5 t0) (
 some (.inl (t0,(aH .i64 (aq .i64 (iq .i64 t4 10) (bP .i64 (dm t0 t5))) 48),(aq .i64 t5 1),()))
 ) none
 ) (
 some (.inr (.inl (t0,t4,t5,())))
 )
def Hv:=qd (ai (fc oN))
def sG (p0:List UInt8):Option Wf :=
 (pY p0).bind fun y1 =>
 cond (cond (!y1.2.1.1) true (au 18 (ae p0))) (
 some ((),((0,()),(false,()),()))
 ) (
 (Hv p0 0 0).bind (Sum.elim (fun y2 =>
 some ((),((y2.2.1,()),(true,()),()))
 ) (fun y2 =>
 none
 ))
 )
def Vo:Su:=⟨[.c false [.str]],[(false,aK),(false,[.bool])],true,.inl fun x=>sG x.1.1⟩
theorem Mt:ar Tryz.prog 159 Vo :=
 fl (ac sd an) [] [(0,⟨[.d 0 (.str),.d 4 (.int .i64),.d 5 (.int .i64)],ai (fc oN)⟩)] [] Tryz.f159 (lp [0] (sc di sn))
def HB (p0:List R5) (p1 p2:Int):Option (Unit×(Y0×Y0×Y1×Unit)) :=
 cond (cond (!(aj p2 2)) (!(aj p2 3)) false) (
 some ((),((0,()),(0,()),(false,()),()))
 ) (
 (tX p0 p1 p2).bind fun y1 =>
 (sG y1.2.1.1).bind fun y2 =>
 some ((),(y2.2.1,y1.2.2.1,y1.2.2.2.1,()))
 )
def WC:Su:=⟨[.c false [.sl 5 fz],.c false aK,.c false aK],[(false,aK),(false,aK),(false,[.bool])],true,.inl fun x=>HB x.1.1 x.2.1.1 x.2.2.1.1⟩
theorem Sj:ar Tryz.prog 203 WC :=
 fq (ac Hj (ac Mt an)) Tryz.f203
def o8 (t0:List UInt8) (t3:Int):Rd SK Y1 :=
 cond (au t3 (ae t0)) (
 cond (a7 t3 t0) (
 let u1:=(dm t0 t3)
 cond (au u1 32) (
 some (.inr (.inr (false,())))
 ) (
 cond (a7 t3 t0) (
 cond (au 126 u1) (
 some (.inr (.inr (false,())))
 ) (
 some (.inl (t0,(aq .i64 t3 1),()))
 )
 ) none
 )
 ) none
 ) (
 some (.inr (.inl (t0,t3,())))
 )
def IM:=OW (ai (wP o8))
def yo (p0:List UInt8):Option dZ :=
 (IM p0 0).bind (Sum.elim (fun y1 =>
 some ((),((true,()),()))
 ) (fun y1 =>
 some ((),(y1,()))
 ))
def U2:Su:=⟨[.c false [.str]],[(false,[.bool])],true,.inl fun x=>yo x.1.1⟩
theorem Nv:ar Tryz.prog 204 U2 :=
 fl an [.d 2 (.bool)] [(0,⟨[.d 0 (.str),.d 3 (.int .i64)],ai (wP o8)⟩)] [] Tryz.f204 (lp [0] (sc di sn))
def Ks (p0:List R5) (p1 p2:Int):Option Um :=
 (Fq p2).bind fun y1 =>
 (FZ p2).bind fun y2 =>
 cond (cond (aj y1.2.1.1 0) true (au p1 0)) (
 some ((),(([],()),(0,()),(false,()),()))
 ) (
 let u1:=(S3 y1.2.1.1)
 Option.bind u1 fun y3 =>
 cond (au 0 y3.2.1.1) (
 Option.bind u1 fun y4 =>
 (HB p0 p1 y4.2.1.1).bind fun y5 =>
 cond (!y5.2.2.2.1.1) (
 some ((),(([],()),(0,()),(false,()),()))
 ) (
 (qG y5.2.1.1 1 y2.2.1.1).bind fun y6 =>
 cond (!y6.2.1.1) (
 some ((),(([],()),(0,()),(false,()),()))
 ) (
 let u2:=(cond (aj y1.2.1.1 1) true (aj y1.2.1.1 3))
 cond u2 (
 (tX p0 y5.2.2.1.1 y5.2.1.1).bind fun y7 =>
 some ((),(y7.2.1,y7.2.2.1,y7.2.2.2.1,()))
 ) (
 let u3:=(ae p0)
 cond (cond (au u3 y5.2.2.1.1) true (au (aH .i64 u3 y5.2.2.1.1) y5.2.1.1)) (
 some ((),(([],()),(0,()),(false,()),()))
 ) (
 let u4:=(aq .i64 y5.2.2.1.1 y5.2.1.1)
 let u5:=(dJ y5.2.2.1.1 u4 p0)
 cond u5 (
 let u6:=(strOf (sub p0 y5.2.2.1.1 u4))
 (yo u6).bind fun y7 =>
 cond (!y7.2.1.1) (
 some ((),(([],()),(0,()),(false,()),()))
 ) (
 cond u5 (
 some ((),((u6,()),(u4,()),(true,()),()))
 ) none
 )
 ) none
 )
 )
 )
 )
 ) (
 let u2:=(cond (aj y1.2.1.1 1) true (aj y1.2.1.1 3))
 cond u2 (
 (tX p0 p1 y2.2.1.1).bind fun y4 =>
 some ((),(y4.2.1,y4.2.2.1,y4.2.2.2.1,()))
 ) (
 let u3:=(ae p0)
 cond (cond (au u3 p1) true (au (aH .i64 u3 p1) y2.2.1.1)) (
 some ((),(([],()),(0,()),(false,()),()))
 ) (
 let u4:=(aq .i64 p1 y2.2.1.1)
 let u5:=(dJ p1 u4 p0)
 cond u5 (
 let u6:=(strOf (sub p0 p1 u4))
 (yo u6).bind fun y4 =>
 cond (!y4.2.1.1) (
 some ((),(([],()),(0,()),(false,()),()))
 ) (
 cond u5 (
 some ((),((u6,()),(u4,()),(true,()),()))
 ) none
 )
 ) none
 )
 )
 )
 )
def X5:Su:=⟨[.c false [.sl 5 fz],.c false aK,.c false aK],[(false,[.str]),(false,aK),(false,[.bool])],true,.inl fun x=>Ks x.1.1 x.2.1.1 x.2.2.1.1⟩
theorem Sh:ar Tryz.prog 151 X5 :=
 fq (ac qB (ac Hj (ac HH (ac ME (ac TO (ac Sj (ac Nv an))))))) Tryz.f151
def nZ (t0:List R5) (t8:Int) (t35:List R3) (t36 t37:Int) (b2 b9:(List UInt8)×(List ir)×Unit):Rd ((List R5)×Int×(List R3)×Int×Int×DJ×DJ×Unit) UM :=
 cond (au t37 t36) (
 cond (a7 t37 t35) (
 (Ks t0 t8 (gt d3 t35 t37).1).bind fun y1 =>
 cond (!y1.2.2.2.1.1) (
 some (.inr (.inr (3,([],[],()),())))
 ) (
 cond (cQ 24 b9.2.1 [((gt d3 t35 t37).1,y1.2.1.1,())]) (
 some (.inl (t0,y1.2.2.1.1,t35,t36,(aq .i64 t37 1),b2,(b9.1,(lP b9.2.1 [((gt d3 t35 t37).1,y1.2.1.1,())]),()),()))
 ) none
 )
 ) none
 ) (
 some (.inr (.inl (t0,t8,t35,t36,t37,b2,b9,())))
 )
def Iu:=UR (ai (Jy nZ))
def L9 (p0:List R5):Option (Unit×(DJ×Y0×Unit)) :=
 (tX p0 0 4).bind fun y1 =>
 cond (!y1.2.2.2.1.1) (
 some ((),(([],[],()),(1,()),()))
 ) (
 (I8 p0).bind fun y2 =>
 cond (!y2.2.2.2.1.1) (
 some ((),(([],[],()),(2,()),()))
 ) (
 (Iu p0 y2.2.2.1.1 y2.2.1.1 (ae y2.2.1.1) 0 ([],[],()) (y1.2.1.1,[],())).bind (Sum.elim (fun y3 =>
 cond (!(aj y3.2.1 (ae y3.1))) (
 some ((),(([],[],()),(4,()),()))
 ) (
 some ((),(y3.2.2.2.2.2.2.1,(0,()),()))
 )
 ) (fun y3 =>
 some ((),(y3.2.1,(y3.1,()),()))
 ))
 )
 )
def X3:Su:=⟨[.c false [.sl 5 fz]],[(true,[.str,.sl 178 dv]),(false,aK)],true,.inl fun x=>L9 x.1.1⟩
theorem Tt:ar Tryz.prog 119 X3 :=
 fl (ac Hj (ac RI (ac Sh an))) [.d 3 (.int .i64),.box 2 [(false,.str),(true,.sl 178 dv)]] [(0,⟨[.d 0 (.sl 5 fz),.d 8 (.int .i64),.own 35 (.sl 3 aK),.d 36 (.int .i64),.d 37 (.int .i64),.box 2 [(false,.str),(true,.sl 178 dv)],.box 9 [(false,.str),(true,.sl 178 dv)]],ai (Jy nZ)⟩)] [] Tryz.f119 (lp [0] (sc di sn))
def Kg (p0:Int) (p1:List UInt8):Option dZ :=
 (FZ p0).bind fun y1 =>
 (Fq p0).bind fun y2 =>
 cond (aj y2.2.1.1 1) (
 let u1:=(pY p1)
 Option.bind u1 fun y3 =>
 let u2:=(ae p1)
 some ((),(((cond y3.2.1.1 (aj u2 y1.2.1.1) false),()),()))
 ) (
 cond (aj y2.2.1.1 2) (
 let u1:=(yo p1)
 Option.bind u1 fun y3 =>
 let u2:=(ae p1)
 some ((),(((cond y3.2.1.1 (aj u2 y1.2.1.1) false),()),()))
 ) (
 cond (aj y2.2.1.1 3) (
 let u1:=(pY p1)
 Option.bind u1 fun y3 =>
 let u2:=(ae p1)
 some ((),(((cond y3.2.1.1 (bz u2 y1.2.1.1) false),()),()))
 ) (
 cond (aj y2.2.1.1 4) (
 let u1:=(yo p1)
 Option.bind u1 fun y3 =>
 cond y3.2.1.1 (
 let u2:=(ae p1)
 let u3:=(qG u2 1 y1.2.1.1)
 Option.bind u3 fun y4 =>
 some ((),(y4.2.1,()))
 ) (
 some ((),((false,()),()))
 )
 ) (
 cond (aj y2.2.1.1 5) (
 let u1:=(yo p1)
 Option.bind u1 fun y3 =>
 cond y3.2.1.1 (
 let u2:=(ae p1)
 let u3:=(qG u2 1 y1.2.1.1)
 Option.bind u3 fun y4 =>
 some ((),(y4.2.1,()))
 ) (
 some ((),((false,()),()))
 )
 ) (
 some ((),((false,()),()))
 )
 )
 )
 )
 )
def Vl:Su:=⟨[.c false aK,.c false [.str]],[(false,[.bool])],true,.inl fun x=>Kg x.1.1 x.2.1.1⟩
theorem Rv:ar Tryz.prog 205 Vl :=
 fq (ac qB (ac sd (ac HH (ac ME (ac Nv an))))) Tryz.f205
def nC (t16:List ir) (t17 t18:Int) (b1:(List UInt8)×(List ir)×Unit):Rd ((List ir)×Int×Int×DJ×Unit) Y1 :=
 cond (au t18 t17) (
 cond (a7 t18 t16) (
 let u1:=(gt d178 t16 t18)
 (Kg u1.1 u1.2.1).bind fun y1 =>
 cond (!y1.2.1.1) (
 some (.inr (.inr (false,())))
 ) (
 cond (au 0 t18) (
 let u2:=(aH .i64 t18 1)
 cond (a7 u2 b1.2.1) (
 cond (bz u1.1 (gt d178 b1.2.1 u2).1) (
 some (.inr (.inr (false,())))
 ) (
 some (.inl (t16,t17,(aq .i64 t18 1),b1,()))
 )
 ) none
 ) (
 some (.inl (t16,t17,(aq .i64 t18 1),b1,()))
 )
 )
 ) none
 ) (
 some (.inr (.inl (t16,t17,t18,b1,())))
 )
def BG:=mZ (ai (cW nC))
def J0 (p0:(List UInt8)×(List ir)×Unit):Option dZ :=
 (pY p0.1).bind fun y1 =>
 cond (cond (!y1.2.1.1) true (!(aj (ae p0.1) 4))) (
 some ((),((false,()),()))
 ) (
 (BG p0.2.1 (ae p0.2.1) 0 p0).bind (Sum.elim (fun y2 =>
 some ((),((true,()),()))
 ) (fun y2 =>
 some ((),(y2,()))
 ))
 )
def VK:Su:=⟨[.c true [.str,.sl 178 dv]],[(false,[.bool])],true,.inl fun x=>J0 x.1⟩
theorem QA:ar Tryz.prog 152 VK :=
 fl (ac sd (ac Rv an)) [.d 2 (.bool)] [(0,⟨[.d 16 (.sl 178 dv),.d 17 (.int .i64),.d 18 (.int .i64),.box 1 [(false,.str),(false,.sl 178 dv)]],ai (cW nC)⟩)] [] Tryz.f152 (lp [0] (sc di sn))
def OU (p0:List UInt8):Option dZ :=
 some ((),(((cond (cond (bY p0 [48,49,48,48]) true (bY p0 [48,50,48,48])) true (bY p0 [48,50,50,48])),()),()))
def WE:Su:=⟨[.c false [.str]],[(false,[.bool])],true,.inl fun x=>OU x.1.1⟩
theorem RN:ar Tryz.prog 153 WE :=
 fq an Tryz.f153
def oU (t1:Int) (t9:List ir) (t10 t11:Int):Rd (Int×(List ir)×Int×Int×Unit) ((List UInt8)×Bool×Unit) :=
 cond (au t11 t10) (
 cond (a7 t11 t9) (
 let u1:=(gt d178 t9 t11)
 cond (aj u1.1 t1) (
 some (.inr (.inr (u1.2.1,true,())))
 ) (
 some (.inl (t1,t9,t10,(aq .i64 t11 1),()))
 )
 ) none
 ) (
 some (.inr (.inl (t1,t9,t10,t11,())))
 )
def F5:=mZ (ai (cW oU))
def jK (p0:(List UInt8)×(List ir)×Unit) (p1:Int):Option (Unit×(Y6×Y1×Unit)) :=
 (F5 p1 p0.2.1 (ae p0.2.1) 0).bind (Sum.elim (fun y1 =>
 some ((),(([],()),(false,()),()))
 ) (fun y1 =>
 some ((),((y1.1,()),(y1.2.1,()),()))
 ))
def XM:Su:=⟨[.c true [.str,.sl 178 dv],.c false aK],[(false,[.str]),(false,[.bool])],true,.inl fun x=>jK x.1 x.2.1.1⟩
theorem RR:ar Tryz.prog 154 XM :=
 fl an [.d 4 (.str),.d 5 (.bool)] [(0,⟨[.d 1 (.int .i64),.d 9 (.sl 178 dv),.d 10 (.int .i64),.d 11 (.int .i64)],ai (cW oU)⟩)] [] Tryz.f154 (lp [0] (sc di sn))
def AJ (p0:Int):Option dZ :=
 (qG p0 1 8).bind fun y1 =>
 some ((),(y1.2.1,()))
def Wa:Su:=⟨[.c false aK],[(false,[.bool])],true,.inl fun x=>AJ x.1.1⟩
theorem DX:ar Tryz.prog 208 Wa :=
 fq (ac qB an) Tryz.f208
def Tg  : Option Re :=
 some ((),(([([],()),([48,49,48,48],()),([48,49,48,48],()),([48,50,50,48],()),([48,50,50,48],()),([48,50,50,48],()),([48,50,48,48],()),([48,49,48,48],()),([48,50,48,48],())],()),()))
def VH:Su:=⟨[],[(false,[.sl 9 wN])],true,.inl fun x=>Tg ⟩
theorem SG:ar Tryz.prog 241 VH :=
 fq an Tryz.f241
def FI (p0:Int):Option Oy :=
 (AJ p0).bind fun y1 =>
 cond (!y1.2.1.1) (
 some ((),(([],()),()))
 ) (
 (Tg).bind fun y2 =>
 cond (a7 p0 y2.2.1.1) (
 some ((),((gt d9 y2.2.1.1 p0),()))
 ) none
 )
def V0:Su:=⟨[.c false aK],[(false,[.str])],true,.inl fun x=>FI x.1.1⟩
theorem Mc:ar Tryz.prog 206 V0 :=
 fq (ac DX (ac SG an)) Tryz.f206
def TR  : Option Re :=
 some ((),(([([],()),([48,48],()),([48,50],()),([48,49],()),([48,48],()),([50,48],()),([52,48],()),([51,49],()),([57,48],())],()),()))
def VL:Su:=⟨[],[(false,[.sl 9 wN])],true,.inl fun x=>TR ⟩
theorem Rh:ar Tryz.prog 242 VL :=
 fq an Tryz.f242
def Oi (p0:Int):Option Oy :=
 (AJ p0).bind fun y1 =>
 cond (!y1.2.1.1) (
 some ((),(([],()),()))
 ) (
 (TR).bind fun y2 =>
 cond (a7 p0 y2.2.1.1) (
 some ((),((gt d9 y2.2.1.1 p0),()))
 ) none
 )
def Xv:Su:=⟨[.c false aK],[(false,[.str])],true,.inl fun x=>Oi x.1.1⟩
theorem Sr:ar Tryz.prog 207 Xv :=
 fq (ac DX (ac Rh an)) Tryz.f207
def uH (t0 t1:List UInt8) (t5:Int):Rd ((List UInt8)×(List UInt8)×Int×Unit) Y0 :=
 cond (bz t5 8) (
 (FI t5).bind fun y1 =>
 cond (bY y1.2.1.1 t0) (
 (Oi t5).bind fun y2 =>
 cond (dJ 0 2 t1) (
 cond (bY y2.2.1.1 (sub t1 0 2)) (
 some (.inr (.inr (t5,())))
 ) (
 some (.inl (t0,t1,(aq .i64 t5 1),()))
 )
 ) none
 ) (
 some (.inl (t0,t1,(aq .i64 t5 1),()))
 )
 ) (
 some (.inr (.inl (t0,t1,t5,())))
 )
def Ht:=qd (ai (fc uH))
def GN (p0 p1:List UInt8):Option j5 :=
 (Ht p0 p1 1).bind (Sum.elim (fun y1 =>
 some ((),((0,()),()))
 ) (fun y1 =>
 some ((),(y1,()))
 ))
def Xw:Su:=⟨[.c false [.str],.c false [.str]],[(false,aK)],true,.inl fun x=>GN x.1.1 x.2.1.1⟩
theorem Si:ar Tryz.prog 155 Xw :=
 fl (ac Mc (ac Sr an)) [.d 4 (.int .i64)] [(0,⟨[.d 0 (.str),.d 1 (.str),.d 5 (.int .i64)],ai (fc uH)⟩)] [] Tryz.f155 (lp [0] (sc di sn))
def Fu (p0:Int):Option dZ :=
 (AJ p0).bind fun y1 =>
 some ((),(((cond y1.2.1.1 (au p0 7) false),()),()))
def W6:Su:=⟨[.c false aK],[(false,[.bool])],true,.inl fun x=>Fu x.1.1⟩
theorem Ny:ar Tryz.prog 156 W6 :=
 fq (ac DX an) Tryz.f156
def zo (t0:List UInt8) (t3:Int):Rd SK Unit :=
 cond (au 0 t3) (
 let u1:=(aH .i64 t3 1)
 cond (a7 u1 t0) (
 cond (aj (dm t0 u1) 32) (
 some (.inl (t0,u1,()))
 ) (
 some (.inr (.inl (t0,t3,())))
 )
 ) none
 ) (
 some (.inr (.inl (t0,t3,())))
 )
def Gc:=OW (ai (wP zo))
def Lm (p0:List UInt8):Option Oy :=
 (Gc p0 (ae p0)).bind (Sum.elim (fun y1 =>
 cond (dJ 0 y1.2.1 y1.1) (
 some ((),(((sub y1.1 0 y1.2.1),()),()))
 ) none
 ) (fun y1 =>
 none
 ))
def U6:Su:=⟨[.c false [.str]],[(false,[.str])],true,.inl fun x=>Lm x.1.1⟩
theorem SP:ar Tryz.prog 157 U6 :=
 fl an [] [(0,⟨[.d 0 (.str),.d 3 (.int .i64)],ai (wP zo)⟩)] [] Tryz.f157 (lp [0] (sc di sn))
def Ab (p0:Int):Option dZ :=
 (qG p0 1 4).bind fun y1 =>
 some ((),(y1.2.1,()))
def Vi:Su:=⟨[.c false aK],[(false,[.bool])],true,.inl fun x=>Ab x.1.1⟩
theorem Mn:ar Tryz.prog 158 Vi :=
 fq (ac qB an) Tryz.f158
def ky (p0:Int×(List UInt8)×(List UInt8)×(List UInt8)×(List UInt8)×(List UInt8)×Int×Int×Unit):Option dZ :=
 (AJ p0.1).bind fun y1 =>
 cond (!y1.2.1.1) (
 some ((),((false,()),()))
 ) (
 (FI p0.1).bind fun y2 =>
 cond (!(bY p0.2.2.2.2.2.1 y2.2.1.1)) (
 some ((),((false,()),()))
 ) (
 (Fb p0.2.1).bind fun y3 =>
 cond (!y3.2.1.1) (
 some ((),((false,()),()))
 ) (
 (pY p0.2.2.2.2.1).bind fun y4 =>
 cond (cond (!y4.2.1.1) true (!(aj (ae p0.2.2.2.2.1) 6))) (
 some ((),((false,()),()))
 ) (
 let u1:=(Fu p0.1)
 Option.bind u1 fun y5 =>
 cond y5.2.1.1 (
 (Gi p0.2.2.2.1).bind fun y6 =>
 cond (!y6.2.1.1) (
 some ((),((false,()),()))
 ) (
 Option.bind u1 fun y7 =>
 cond (cond (!y7.2.1.1) (!(bY p0.2.2.2.1 [])) false) (
 some ((),((false,()),()))
 ) (
 let u2:=(Ab p0.1)
 Option.bind u2 fun y8 =>
 cond y8.2.1.1 (
 let u3:=(qG p0.2.2.2.2.2.2.1 0 999999999999)
 Option.bind u3 fun y9 =>
 cond (!y9.2.1.1) (
 some ((),((false,()),()))
 ) (
 Option.bind u2 fun y10 =>
 cond (cond (!y10.2.1.1) (!(aj p0.2.2.2.2.2.2.1 0)) false) (
 some ((),((false,()),()))
 ) (
 cond (aj p0.1 1) (
 let u4:=(qG p0.2.2.2.2.2.2.2.1 0 9999)
 Option.bind u4 fun y11 =>
 cond (!y11.2.1.1) (
 some ((),((false,()),()))
 ) (
 let u5:=(cond (!(aj p0.1 1)) (!(aj p0.2.2.2.2.2.2.2.1 0)) false)
 cond u5 (
 some ((),((false,()),()))
 ) (
 cond (aj p0.1 6) (
 let u6:=(Fb p0.2.2.1)
 Option.bind u6 fun y12 =>
 cond y12.2.1.1 (
 some ((),((true,()),()))
 ) (
 some ((),(((cond (!(aj p0.1 6)) (bY p0.2.2.1 []) false),()),()))
 )
 ) (
 some ((),(((cond (!(aj p0.1 6)) (bY p0.2.2.1 []) false),()),()))
 )
 )
 )
 ) (
 let u4:=(cond (!(aj p0.1 1)) (!(aj p0.2.2.2.2.2.2.2.1 0)) false)
 cond u4 (
 some ((),((false,()),()))
 ) (
 cond (aj p0.1 6) (
 let u5:=(Fb p0.2.2.1)
 Option.bind u5 fun y11 =>
 cond y11.2.1.1 (
 some ((),((true,()),()))
 ) (
 some ((),(((cond (!(aj p0.1 6)) (bY p0.2.2.1 []) false),()),()))
 )
 ) (
 some ((),(((cond (!(aj p0.1 6)) (bY p0.2.2.1 []) false),()),()))
 )
 )
 )
 )
 )
 ) (
 Option.bind u2 fun y9 =>
 let u3:=(cond (!y9.2.1.1) (!(aj p0.2.2.2.2.2.2.1 0)) false)
 cond u3 (
 some ((),((false,()),()))
 ) (
 cond (aj p0.1 1) (
 let u4:=(qG p0.2.2.2.2.2.2.2.1 0 9999)
 Option.bind u4 fun y10 =>
 cond (!y10.2.1.1) (
 some ((),((false,()),()))
 ) (
 let u5:=(cond (!(aj p0.1 1)) (!(aj p0.2.2.2.2.2.2.2.1 0)) false)
 cond u5 (
 some ((),((false,()),()))
 ) (
 cond (aj p0.1 6) (
 let u6:=(Fb p0.2.2.1)
 Option.bind u6 fun y11 =>
 cond y11.2.1.1 (
 some ((),((true,()),()))
 ) (
 some ((),(((cond (!(aj p0.1 6)) (bY p0.2.2.1 []) false),()),()))
 )
 ) (
 some ((),(((cond (!(aj p0.1 6)) (bY p0.2.2.1 []) false),()),()))
 )
 )
 )
 ) (
 let u4:=(cond (!(aj p0.1 1)) (!(aj p0.2.2.2.2.2.2.2.1 0)) false)
 cond u4 (
 some ((),((false,()),()))
 ) (
 cond (aj p0.1 6) (
 let u5:=(Fb p0.2.2.1)
 Option.bind u5 fun y10 =>
 cond y10.2.1.1 (
 some ((),((true,()),()))
 ) (
 some ((),(((cond (!(aj p0.1 6)) (bY p0.2.2.1 []) false),()),()))
 )
 ) (
 some ((),(((cond (!(aj p0.1 6)) (bY p0.2.2.1 []) false),()),()))
 )
 )
 )
 )
 )
 )
 )
 ) (
 Option.bind u1 fun y6 =>
 cond (cond (!y6.2.1.1) (!(bY p0.2.2.2.1 [])) false) (
 some ((),((false,()),()))
 ) (
 let u2:=(Ab p0.1)
 Option.bind u2 fun y7 =>
 cond y7.2.1.1 (
 let u3:=(qG p0.2.2.2.2.2.2.1 0 999999999999)
 Option.bind u3 fun y8 =>
 cond (!y8.2.1.1) (
 some ((),((false,()),()))
 ) (
 Option.bind u2 fun y9 =>
 let u4:=(cond (!y9.2.1.1) (!(aj p0.2.2.2.2.2.2.1 0)) false)
 cond u4 (
 some ((),((false,()),()))
 ) (
 cond (aj p0.1 1) (
 let u5:=(qG p0.2.2.2.2.2.2.2.1 0 9999)
 Option.bind u5 fun y10 =>
 cond (!y10.2.1.1) (
 some ((),((false,()),()))
 ) (
 let u6:=(cond (!(aj p0.1 1)) (!(aj p0.2.2.2.2.2.2.2.1 0)) false)
 cond u6 (
 some ((),((false,()),()))
 ) (
 cond (aj p0.1 6) (
 let u7:=(Fb p0.2.2.1)
 Option.bind u7 fun y11 =>
 cond y11.2.1.1 (
 some ((),((true,()),()))
 ) (
 some ((),(((cond (!(aj p0.1 6)) (bY p0.2.2.1 []) false),()),()))
 )
 ) (
 some ((),(((cond (!(aj p0.1 6)) (bY p0.2.2.1 []) false),()),()))
 )
 )
 )
 ) (
 let u5:=(cond (!(aj p0.1 1)) (!(aj p0.2.2.2.2.2.2.2.1 0)) false)
 cond u5 (
 some ((),((false,()),()))
 ) (
 cond (aj p0.1 6) (
 let u6:=(Fb p0.2.2.1)
 Option.bind u6 fun y10 =>
 cond y10.2.1.1 (
 some ((),((true,()),()))
 ) (
 some ((),(((cond (!(aj p0.1 6)) (bY p0.2.2.1 []) false),()),()))
 )
 ) (
 some ((),(((cond (!(aj p0.1 6)) (bY p0.2.2.1 []) false),()),()))
 )
 )
 )
 )
 )
 ) (
 Option.bind u2 fun y8 =>
 cond (cond (!y8.2.1.1) (!(aj p0.2.2.2.2.2.2.1 0)) false) (
 some ((),((false,()),()))
 ) (
 cond (aj p0.1 1) (
 let u3:=(qG p0.2.2.2.2.2.2.2.1 0 9999)
 Option.bind u3 fun y9 =>
 cond (!y9.2.1.1) (
 some ((),((false,()),()))
 ) (
 let u4:=(cond (!(aj p0.1 1)) (!(aj p0.2.2.2.2.2.2.2.1 0)) false)
 cond u4 (
 some ((),((false,()),()))
 ) (
 cond (aj p0.1 6) (
 let u5:=(Fb p0.2.2.1)
 Option.bind u5 fun y10 =>
 cond y10.2.1.1 (
 some ((),((true,()),()))
 ) (
 some ((),(((cond (!(aj p0.1 6)) (bY p0.2.2.1 []) false),()),()))
 )
 ) (
 some ((),(((cond (!(aj p0.1 6)) (bY p0.2.2.1 []) false),()),()))
 )
 )
 )
 ) (
 let u3:=(cond (!(aj p0.1 1)) (!(aj p0.2.2.2.2.2.2.2.1 0)) false)
 cond u3 (
 some ((),((false,()),()))
 ) (
 cond (aj p0.1 6) (
 let u4:=(Fb p0.2.2.1)
 Option.bind u4 fun y9 =>
 cond y9.2.1.1 (
 some ((),((true,()),()))
 ) (
 some ((),(((cond (!(aj p0.1 6)) (bY p0.2.2.1 []) false),()),()))
 )
 ) (
 some ((),(((cond (!(aj p0.1 6)) (bY p0.2.2.1 []) false),()),()))
 )
 )
 )
 )
 )
 )
 )
 )
 )
 )
 )
def WW:Su:=⟨[.c true [.int .i64,.str,.str,.str,.str,.str,.int .i64,.int .i64]],[(false,[.bool])],true,.inl fun x=>ky x.1⟩
theorem Ta:ar Tryz.prog 160 WW :=
 fq (ac qB (ac sd (ac RA (ac Nb (ac DX (ac Mc (ac Ny (ac Mn an)))))))) Tryz.f160
def Kv (p0:(List UInt8)×(List ir)×Unit):Option (Unit×(S1×Y0×Unit)) :=
 (J0 p0).bind fun y1 =>
 cond (!y1.2.1.1) (
 some ((),((0,[],[],[],[],[],0,0,()),(1,()),()))
 ) (
 (OU p0.1).bind fun y2 =>
 cond (!y2.2.1.1) (
 some ((),((0,[],[],[],[],[],0,0,()),(2,()),()))
 ) (
 (jK p0 3).bind fun y3 =>
 cond (!y3.2.2.1.1) (
 some ((),((0,[],[],[],[],[],0,0,()),(1,()),()))
 ) (
 (GN p0.1 y3.2.1.1).bind fun y4 =>
 (jK p0 2).bind fun y5 =>
 (jK p0 11).bind fun y6 =>
 (Fu y4.2.1.1).bind fun y7 =>
 cond y7.2.1.1 (
 (jK p0 38).bind fun y8 =>
 (Lm y8.2.1.1).bind fun y9 =>
 let u1:=(Ab y4.2.1.1)
 Option.bind u1 fun y10 =>
 cond y10.2.1.1 (
 let u2:=(jK p0 4)
 Option.bind u2 fun y11 =>
 let u3:=(sG y11.2.1.1)
 Option.bind u3 fun y12 =>
 cond (aj y4.2.1.1 1) (
 let u4:=(jK p0 14)
 Option.bind u4 fun y13 =>
 (sG y13.2.1.1).bind fun y14 =>
 cond (aj y4.2.1.1 6) (
 let u5:=(jK p0 103)
 Option.bind u5 fun y15 =>
 let u6:=(cond y3.2.2.1.1 y11.2.2.1.1 false)
 cond (!(cond u6 y13.2.2.1.1 false)) (
 some ((),((0,[],[],[],[],[],0,0,()),(1,()),()))
 ) (
 (ky (y4.2.1.1,y5.2.1.1,y15.2.1.1,y9.2.1.1,y6.2.1.1,p0.1,y12.2.1.1,y14.2.1.1,())).bind fun y16 =>
 cond (!y16.2.1.1) (
 some ((),((0,[],[],[],[],[],0,0,()),(1,()),()))
 ) (
 some ((),((y4.2.1.1,y5.2.1.1,y15.2.1.1,y9.2.1.1,y6.2.1.1,p0.1,y12.2.1.1,y14.2.1.1,()),(0,()),()))
 )
 )
 ) (
 let u5:=(cond y3.2.2.1.1 y11.2.2.1.1 false)
 cond (!(cond u5 y13.2.2.1.1 false)) (
 some ((),((0,[],[],[],[],[],0,0,()),(1,()),()))
 ) (
 (ky (y4.2.1.1,y5.2.1.1,[],y9.2.1.1,y6.2.1.1,p0.1,y12.2.1.1,y14.2.1.1,())).bind fun y15 =>
 cond (!y15.2.1.1) (
 some ((),((0,[],[],[],[],[],0,0,()),(1,()),()))
 ) (
 some ((),((y4.2.1.1,y5.2.1.1,[],y9.2.1.1,y6.2.1.1,p0.1,y12.2.1.1,y14.2.1.1,()),(0,()),()))
 )
 )
 )
 ) (
 cond (aj y4.2.1.1 6) (
 let u4:=(jK p0 103)
 Option.bind u4 fun y13 =>
 let u5:=(cond y3.2.2.1.1 y11.2.2.1.1 false)
 cond (!u5) (
 some ((),((0,[],[],[],[],[],0,0,()),(1,()),()))
 ) (
 (ky (y4.2.1.1,y5.2.1.1,y13.2.1.1,y9.2.1.1,y6.2.1.1,p0.1,y12.2.1.1,0,())).bind fun y14 =>
 cond (!y14.2.1.1) (
 some ((),((0,[],[],[],[],[],0,0,()),(1,()),()))
 ) (
 some ((),((y4.2.1.1,y5.2.1.1,y13.2.1.1,y9.2.1.1,y6.2.1.1,p0.1,y12.2.1.1,0,()),(0,()),()))
 )
 )
 ) (
 let u4:=(cond y3.2.2.1.1 y11.2.2.1.1 false)
 cond (!u4) (
 some ((),((0,[],[],[],[],[],0,0,()),(1,()),()))
 ) (
 (ky (y4.2.1.1,y5.2.1.1,[],y9.2.1.1,y6.2.1.1,p0.1,y12.2.1.1,0,())).bind fun y13 =>
 cond (!y13.2.1.1) (
 some ((),((0,[],[],[],[],[],0,0,()),(1,()),()))
 ) (
 some ((),((y4.2.1.1,y5.2.1.1,[],y9.2.1.1,y6.2.1.1,p0.1,y12.2.1.1,0,()),(0,()),()))
 )
 )
 )
 )
 ) (
 cond (aj y4.2.1.1 1) (
 let u2:=(jK p0 14)
 Option.bind u2 fun y11 =>
 let u3:=(sG y11.2.1.1)
 Option.bind u3 fun y12 =>
 cond (aj y4.2.1.1 6) (
 let u4:=(jK p0 103)
 Option.bind u4 fun y13 =>
 let u5:=(cond y3.2.2.1.1 y11.2.2.1.1 false)
 cond (!u5) (
 some ((),((0,[],[],[],[],[],0,0,()),(1,()),()))
 ) (
 (ky (y4.2.1.1,y5.2.1.1,y13.2.1.1,y9.2.1.1,y6.2.1.1,p0.1,0,y12.2.1.1,())).bind fun y14 =>
 cond (!y14.2.1.1) (
 some ((),((0,[],[],[],[],[],0,0,()),(1,()),()))
 ) (
 some ((),((y4.2.1.1,y5.2.1.1,y13.2.1.1,y9.2.1.1,y6.2.1.1,p0.1,0,y12.2.1.1,()),(0,()),()))
 )
 )
 ) (
 let u4:=(cond y3.2.2.1.1 y11.2.2.1.1 false)
 cond (!u4) (
 some ((),((0,[],[],[],[],[],0,0,()),(1,()),()))
 ) (
 (ky (y4.2.1.1,y5.2.1.1,[],y9.2.1.1,y6.2.1.1,p0.1,0,y12.2.1.1,())).bind fun y13 =>
 cond (!y13.2.1.1) (
 some ((),((0,[],[],[],[],[],0,0,()),(1,()),()))
 ) (
 some ((),((y4.2.1.1,y5.2.1.1,[],y9.2.1.1,y6.2.1.1,p0.1,0,y12.2.1.1,()),(0,()),()))
 )
 )
 )
 ) (
 cond (aj y4.2.1.1 6) (
 let u2:=(jK p0 103)
 Option.bind u2 fun y11 =>
 cond (!y3.2.2.1.1) (
 some ((),((0,[],[],[],[],[],0,0,()),(1,()),()))
 ) (
 (ky (y4.2.1.1,y5.2.1.1,y11.2.1.1,y9.2.1.1,y6.2.1.1,p0.1,0,0,())).bind fun y12 =>
 cond (!y12.2.1.1) (
 some ((),((0,[],[],[],[],[],0,0,()),(1,()),()))
 ) (
 some ((),((y4.2.1.1,y5.2.1.1,y11.2.1.1,y9.2.1.1,y6.2.1.1,p0.1,0,0,()),(0,()),()))
 )
 )
 ) (
 cond (!y3.2.2.1.1) (
 some ((),((0,[],[],[],[],[],0,0,()),(1,()),()))
 ) (
 (ky (y4.2.1.1,y5.2.1.1,[],y9.2.1.1,y6.2.1.1,p0.1,0,0,())).bind fun y11 =>
 cond (!y11.2.1.1) (
 some ((),((0,[],[],[],[],[],0,0,()),(1,()),()))
 ) (
 some ((),((y4.2.1.1,y5.2.1.1,[],y9.2.1.1,y6.2.1.1,p0.1,0,0,()),(0,()),()))
 )
 )
 )
 )
 )
 ) (
 let u1:=(Ab y4.2.1.1)
 Option.bind u1 fun y8 =>
 cond y8.2.1.1 (
 let u2:=(jK p0 4)
 Option.bind u2 fun y9 =>
 let u3:=(sG y9.2.1.1)
 Option.bind u3 fun y10 =>
 cond (aj y4.2.1.1 1) (
 let u4:=(jK p0 14)
 Option.bind u4 fun y11 =>
 let u5:=(sG y11.2.1.1)
 Option.bind u5 fun y12 =>
 cond (aj y4.2.1.1 6) (
 let u6:=(jK p0 103)
 Option.bind u6 fun y13 =>
 let u7:=(cond y3.2.2.1.1 y9.2.2.1.1 false)
 cond (!(cond u7 y11.2.2.1.1 false)) (
 some ((),((0,[],[],[],[],[],0,0,()),(1,()),()))
 ) (
 (ky (y4.2.1.1,y5.2.1.1,y13.2.1.1,[],y6.2.1.1,p0.1,y10.2.1.1,y12.2.1.1,())).bind fun y14 =>
 cond (!y14.2.1.1) (
 some ((),((0,[],[],[],[],[],0,0,()),(1,()),()))
 ) (
 some ((),((y4.2.1.1,y5.2.1.1,y13.2.1.1,[],y6.2.1.1,p0.1,y10.2.1.1,y12.2.1.1,()),(0,()),()))
 )
 )
 ) (
 let u6:=(cond y3.2.2.1.1 y9.2.2.1.1 false)
 cond (!(cond u6 y11.2.2.1.1 false)) (
 some ((),((0,[],[],[],[],[],0,0,()),(1,()),()))
 ) (
 (ky (y4.2.1.1,y5.2.1.1,[],[],y6.2.1.1,p0.1,y10.2.1.1,y12.2.1.1,())).bind fun y13 =>
 cond (!y13.2.1.1) (
 some ((),((0,[],[],[],[],[],0,0,()),(1,()),()))
 ) (
 some ((),((y4.2.1.1,y5.2.1.1,[],[],y6.2.1.1,p0.1,y10.2.1.1,y12.2.1.1,()),(0,()),()))
 )
 )
 )
 ) (
 cond (aj y4.2.1.1 6) (
 let u4:=(jK p0 103)
 Option.bind u4 fun y11 =>
 let u5:=(cond y3.2.2.1.1 y9.2.2.1.1 false)
 cond (!u5) (
 some ((),((0,[],[],[],[],[],0,0,()),(1,()),()))
 ) (
 (ky (y4.2.1.1,y5.2.1.1,y11.2.1.1,[],y6.2.1.1,p0.1,y10.2.1.1,0,())).bind fun y12 =>
 cond (!y12.2.1.1) (
 some ((),((0,[],[],[],[],[],0,0,()),(1,()),()))
 ) (
 some ((),((y4.2.1.1,y5.2.1.1,y11.2.1.1,[],y6.2.1.1,p0.1,y10.2.1.1,0,()),(0,()),()))
 )
 )
 ) (
 let u4:=(cond y3.2.2.1.1 y9.2.2.1.1 false)
 cond (!u4) (
 some ((),((0,[],[],[],[],[],0,0,()),(1,()),()))
 ) (
 (ky (y4.2.1.1,y5.2.1.1,[],[],y6.2.1.1,p0.1,y10.2.1.1,0,())).bind fun y11 =>
 cond (!y11.2.1.1) (
 some ((),((0,[],[],[],[],[],0,0,()),(1,()),()))
 ) (
 some ((),((y4.2.1.1,y5.2.1.1,[],[],y6.2.1.1,p0.1,y10.2.1.1,0,()),(0,()),()))
 )
 )
 )
 )
 ) (
 cond (aj y4.2.1.1 1) (
 let u2:=(jK p0 14)
 Option.bind u2 fun y9 =>
 let u3:=(sG y9.2.1.1)
 Option.bind u3 fun y10 =>
 cond (aj y4.2.1.1 6) (
 let u4:=(jK p0 103)
 Option.bind u4 fun y11 =>
 let u5:=(cond y3.2.2.1.1 y9.2.2.1.1 false)
 cond (!u5) (
 some ((),((0,[],[],[],[],[],0,0,()),(1,()),()))
 ) (
 (ky (y4.2.1.1,y5.2.1.1,y11.2.1.1,[],y6.2.1.1,p0.1,0,y10.2.1.1,())).bind fun y12 =>
 cond (!y12.2.1.1) (
 some ((),((0,[],[],[],[],[],0,0,()),(1,()),()))
 ) (
 some ((),((y4.2.1.1,y5.2.1.1,y11.2.1.1,[],y6.2.1.1,p0.1,0,y10.2.1.1,()),(0,()),()))
 )
 )
 ) (
 let u4:=(cond y3.2.2.1.1 y9.2.2.1.1 false)
 cond (!u4) (
 some ((),((0,[],[],[],[],[],0,0,()),(1,()),()))
 ) (
 (ky (y4.2.1.1,y5.2.1.1,[],[],y6.2.1.1,p0.1,0,y10.2.1.1,())).bind fun y11 =>
 cond (!y11.2.1.1) (
 some ((),((0,[],[],[],[],[],0,0,()),(1,()),()))
 ) (
 some ((),((y4.2.1.1,y5.2.1.1,[],[],y6.2.1.1,p0.1,0,y10.2.1.1,()),(0,()),()))
 )
 )
 )
 ) (
 cond (aj y4.2.1.1 6) (
 let u2:=(jK p0 103)
 Option.bind u2 fun y9 =>
 cond (!y3.2.2.1.1) (
 some ((),((0,[],[],[],[],[],0,0,()),(1,()),()))
 ) (
 (ky (y4.2.1.1,y5.2.1.1,y9.2.1.1,[],y6.2.1.1,p0.1,0,0,())).bind fun y10 =>
 cond (!y10.2.1.1) (
 some ((),((0,[],[],[],[],[],0,0,()),(1,()),()))
 ) (
 some ((),((y4.2.1.1,y5.2.1.1,y9.2.1.1,[],y6.2.1.1,p0.1,0,0,()),(0,()),()))
 )
 )
 ) (
 cond (!y3.2.2.1.1) (
 some ((),((0,[],[],[],[],[],0,0,()),(1,()),()))
 ) (
 (ky (y4.2.1.1,y5.2.1.1,[],[],y6.2.1.1,p0.1,0,0,())).bind fun y9 =>
 cond (!y9.2.1.1) (
 some ((),((0,[],[],[],[],[],0,0,()),(1,()),()))
 ) (
 some ((),((y4.2.1.1,y5.2.1.1,[],[],y6.2.1.1,p0.1,0,0,()),(0,()),()))
 )
 )
 )
 )
 )
 )
 )
 )
 )
def Vm:Su:=⟨[.c true [.str,.sl 178 dv]],[(true,[.int .i64,.str,.str,.str,.str,.str,.int .i64,.int .i64]),(false,aK)],true,.inl fun x=>Kv x.1⟩
theorem QY:ar Tryz.prog 120 Vm :=
 fq (ac Mt (ac QA (ac RN (ac RR (ac Si (ac Ny (ac SP (ac Mn (ac Ta an))))))))) Tryz.f120
def Up (p0:List R5):Option Re :=
 (L9 p0).bind fun y1 =>
 cond (!(aj y1.2.2.1.1 0)) (
 some ((),(([],()),()))
 ) (
 (Kv y1.2.1).bind fun y2 =>
 cond (!(aj y2.2.2.1.1 0)) (
 some ((),(([],()),()))
 ) (
 cond (cond (!(aj y2.2.1.1 6)) true (bY y2.2.1.2.2.1 y2.2.1.2.1)) (
 some ((),(([(y2.2.1.2.1,())],()),()))
 ) (
 cond (jO y2.2.1.2.2.1 y2.2.1.2.1) (
 some ((),(([(y2.2.1.2.2.1,()),(y2.2.1.2.1,())],()),()))
 ) (
 some ((),(([(y2.2.1.2.1,()),(y2.2.1.2.2.1,())],()),()))
 )
 )
 )
 )
def Zw:Su:=⟨[.c false [.sl 5 fz]],[(false,[.sl 9 wN])],true,.inl fun x=>Up x.1.1⟩
theorem Ve:ar Tryz.prog 87 Zw :=
 fq (ac Tt (ac QY an)) Tryz.f87
def F2 (t1:Int) (t5:List R3) (t8 t9:Int) (t12:List R9) (t13 t14:Int):Rd (Int×(List R3)×Int×Int×(List R9)×Int×Int×Unit) Unit :=
 cond (au t9 (ae t5)) (
 cond (a7 t9 t5) (
 cond (au (gt d3 t5 t9).1 t8) (
 some (.inl (t1,t5,t8,(aq .i64 t9 1),t12,t13,t14,()))
 ) (
 some (.inr (.inl (t1,t5,t8,t9,t12,t13,t14,())))
 )
 ) none
 ) (
 some (.inr (.inl (t1,t5,t8,t9,t12,t13,t14,())))
 )
def xg:=UR (ai (Jy F2))
def so (t1:Int) (t5:List R3) (t12:List R9) (t13 t14:Int):Rd (Int×(List R3)×(List R9)×Int×Int×Unit) Unit :=
 cond (au t14 t13) (
 cond (a7 t14 t12) (
 (Nf (gt d9 t12 t14).1 t1).bind fun y1 =>
 (xg t1 t5 y1.2.1.1 0 t12 t13 t14).bind (Sum.elim (fun y2 =>
 let u1:=(ae y2.2.1)
 cond (au y2.2.2.2.1 u1) (
 cond (a7 y2.2.2.2.1 y2.2.1) (
 cond (aj (gt d3 y2.2.1 y2.2.2.2.1).1 y2.2.2.1) (
 let u2:=(aq .i64 y2.2.2.2.2.2.2.1 1)
 some (.inl (y2.1,y2.2.1,y2.2.2.2.2.1,y2.2.2.2.2.2.1,u2,()))
 ) (
 let u2:=(dJ 0 y2.2.2.2.1 y2.2.1)
 cond u2 (
 let u3:=(NB y2.2.1 y2.2.2.2.1)
 let u4:=(cQ 8 [] u3)
 cond u4 (
 let u5:=(lP [] u3)
 let u6:=(cQ 8 u5 [(y2.2.2.1,())])
 cond u6 (
 let u7:=(dJ y2.2.2.2.1 u1 y2.2.1)
 cond u7 (
 let u8:=(lP u5 [(y2.2.2.1,())])
 let u9:=(sub y2.2.1 y2.2.2.2.1 u1)
 let u10:=(cQ 8 u8 u9)
 cond u10 (
 let u11:=(aq .i64 y2.2.2.2.2.2.2.1 1)
 some (.inl (y2.1,(lP u8 u9),y2.2.2.2.2.1,y2.2.2.2.2.2.1,u11,()))
 ) none
 ) none
 ) none
 ) none
 ) none
 )
 ) none
 ) (
 let u2:=(dJ 0 y2.2.2.2.1 y2.2.1)
 cond u2 (
 let u3:=(NB y2.2.1 y2.2.2.2.1)
 let u4:=(cQ 8 [] u3)
 cond u4 (
 let u5:=(lP [] u3)
 let u6:=(cQ 8 u5 [(y2.2.2.1,())])
 cond u6 (
 let u7:=(dJ y2.2.2.2.1 u1 y2.2.1)
 cond u7 (
 let u8:=(lP u5 [(y2.2.2.1,())])
 let u9:=(sub y2.2.1 y2.2.2.2.1 u1)
 let u10:=(cQ 8 u8 u9)
 cond u10 (
 let u11:=(aq .i64 y2.2.2.2.2.2.2.1 1)
 some (.inl (y2.1,(lP u8 u9),y2.2.2.2.2.1,y2.2.2.2.2.2.1,u11,()))
 ) none
 ) none
 ) none
 ) none
 ) none
 )
 ) (fun y2 =>
 some (.inr (.inr ()))
 ))
 ) none
 ) (
 some (.inr (.inl (t1,t5,t12,t13,t14,())))
 )
def Dg:=wY (ai (ft so))
def Ul (p0:List R9) (p1:Int):Option Mf :=
 (Dg p1 [] p0 (ae p0) 0).bind (Sum.elim (fun y1 =>
 some ((),((y1.2.1,()),()))
 ) (fun y1 =>
 none
 ))
def Zt:Su:=⟨[.c false [.sl 9 wN],.c false aK],[(false,gD)],true,.inl fun x=>Ul x.1.1 x.2.1.1⟩
theorem U4:ar Tryz.prog 86 Zt :=
 fl (ac Ud an) [] [(2,⟨[.d 1 (.int .i64),.own 5 (.sl 3 aK),.d 8 (.int .i64),.d 9 (.int .i64),.d 12 (.sl 9 wN),.d 13 (.int .i64),.d 14 (.int .i64)],ai (Jy F2)⟩),(0,⟨[.d 1 (.int .i64),.own 5 (.sl 3 aK),.d 12 (.sl 9 wN),.d 13 (.int .i64),.d 14 (.int .i64)],ai (ft so)⟩)] [] Tryz.f86 (lp [0] (sc (lp [2] (sc di sn)) sn))
def Qk (p0:(List R5)×Int×(List R3)×Int×Int×Int×Int×Int×(List R5)×Unit) (p1:Int):Option Mf :=
 (Up p0.1).bind fun y1 =>
 (Ul y1.2.1.1 p1).bind fun y2 =>
 some ((),(y2.2.1,()))
def Yk:Su:=⟨[.c true gG,.c false aK],[(false,gD)],true,.inl fun x=>Qk x.1 x.2.1.1⟩
theorem TF:ar Tryz.prog 64 Yk :=
 fq (ac Ve (ac U4 an)) Tryz.f64
def uS (t0 t1:List R3) (t12 t13:Int):Rd ((List R3)×(List R3)×Int×Int×Unit) Y1 :=
 cond (au t13 t12) (
 cond (a7 t13 t0) (
 cond (a7 t13 t1) (
 cond (!(aj (gt d3 t0 t13).1 (gt d3 t1 t13).1)) (
 some (.inr (.inr (false,())))
 ) (
 some (.inl (t0,t1,t12,(aq .i64 t13 1),()))
 )
 ) none
 ) none
 ) (
 some (.inr (.inl (t0,t1,t12,t13,())))
 )
def TW:=mZ (ai (cW uS))
def Uz (p0 p1:List R3):Option dZ :=
 let u1:=(ae p0)
 cond (!(aj u1 (ae p1))) (
 some ((),((false,()),()))
 ) (
 (TW p0 p1 u1 0).bind (Sum.elim (fun y1 =>
 some ((),((true,()),()))
 ) (fun y1 =>
 some ((),(y1,()))
 ))
 )
def YC:Su:=⟨[.c false gD,.c false gD],[(false,[.bool])],true,.inl fun x=>Uz x.1.1 x.2.1.1⟩
theorem WH:ar Tryz.prog 63 YC :=
 fl an [.d 4 (.bool)] [(0,⟨[.d 0 (.sl 3 aK),.d 1 (.sl 3 aK),.d 12 (.int .i64),.d 13 (.int .i64)],ai (cW uS)⟩)] [] Tryz.f63 (lp [0] (sc di sn))
def Ql (p0:(List R5)×Int×(List R3)×Int×Int×Int×Int×Int×(List R5)×Unit) (p1:Int):Option dZ :=
 (qG p1 1 5).bind fun y1 =>
 let u1:=(ae p0.2.2.2.2.2.2.2.2.1)
 cond (cond (cond (!y1.2.1.1) true (au 300 (ae p0.1))) true (au 200 u1)) (
 some ((),((false,()),()))
 ) (
 (FX p0.2.2.2.2.1).bind fun y2 =>
 cond (!y2.2.1.1) (
 some ((),((false,()),()))
 ) (
 (FX p0.2.2.2.2.2.2.2.1).bind fun y3 =>
 cond (!y3.2.1.1) (
 some ((),((false,()),()))
 ) (
 (qG p0.2.1 0 5).bind fun y4 =>
 cond (!y4.2.1.1) (
 some ((),((false,()),()))
 ) (
 (UU p0).bind fun y5 =>
 cond (!y5.2.1.1) (
 some ((),((false,()),()))
 ) (
 cond (cond (aj p0.2.1 0) (au 0 (ae p0.2.2.1)) false) (
 some ((),((false,()),()))
 ) (
 cond (!(aj p0.2.1 0)) (
 (Qk p0 p1).bind fun y6 =>
 (Uz p0.2.2.1 y6.2.1.1).bind fun y7 =>
 cond (!y7.2.1.1) (
 some ((),((false,()),()))
 ) (
 cond (bz p0.2.1 2) (
 some ((),(((cond (cond (cond (aj p0.2.2.2.2.2.1 (-1)) (aj p0.2.2.2.2.2.2.1 (-1)) false) (aj p0.2.2.2.2.2.2.2.1 0) false) (aj u1 0) false),()),()))
 ) (
 let u2:=(FX p0.2.2.2.2.2.1)
 Option.bind u2 fun y8 =>
 cond (cond (!y8.2.1.1) true (au p0.2.2.2.2.2.1 p0.2.2.2.2.1)) (
 some ((),((false,()),()))
 ) (
 cond (aj p0.2.1 5) (
 let u3:=(FX p0.2.2.2.2.2.2.1)
 Option.bind u3 fun y9 =>
 some ((),(((cond y9.2.1.1 (bz p0.2.2.2.2.2.1 p0.2.2.2.2.2.2.1) false),()),()))
 ) (
 some ((),(((aj p0.2.2.2.2.2.2.1 (-1)),()),()))
 )
 )
 )
 )
 ) (
 cond (bz p0.2.1 2) (
 some ((),(((cond (cond (cond (aj p0.2.2.2.2.2.1 (-1)) (aj p0.2.2.2.2.2.2.1 (-1)) false) (aj p0.2.2.2.2.2.2.2.1 0) false) (aj u1 0) false),()),()))
 ) (
 let u2:=(FX p0.2.2.2.2.2.1)
 Option.bind u2 fun y6 =>
 cond (cond (!y6.2.1.1) true (au p0.2.2.2.2.2.1 p0.2.2.2.2.1)) (
 some ((),((false,()),()))
 ) (
 cond (aj p0.2.1 5) (
 let u3:=(FX p0.2.2.2.2.2.2.1)
 Option.bind u3 fun y7 =>
 some ((),(((cond y7.2.1.1 (bz p0.2.2.2.2.2.1 p0.2.2.2.2.2.2.1) false),()),()))
 ) (
 some ((),(((aj p0.2.2.2.2.2.2.1 (-1)),()),()))
 )
 )
 )
 )
 )
 )
 )
 )
 )
 )
def YG:Su:=⟨[.c true gG,.c false aK],[(false,[.bool])],true,.inl fun x=>Ql x.1 x.2.1.1⟩
theorem Qp:ar Tryz.prog 33 YG :=
 fq (ac qB (ac L4 (ac VG (ac TF (ac WH an))))) Tryz.f33
def uQ (t1 t5:Int) (b2:(List R5)×Int×(List R3)×Int×Int×Int×Int×Int×(List R5)×Unit):Rd (Int×Int×rn×Unit) Y1 :=
 cond (cond (au t5 b2.2.2.2.1) (au t5 (ae b2.2.2.1)) false) (
 cond (a7 t5 b2.2.2.1) (
 cond (aj (gt d3 b2.2.2.1 t5).1 t1) (
 some (.inr (.inr (true,())))
 ) (
 some (.inl (t1,(aq .i64 t5 1),b2,()))
 )
 ) none
 ) (
 some (.inr (.inl (t1,t5,b2,())))
 )
def Sd:=qd (ai (fc uQ))
def Un (p0:(List R5)×Int×(List R3)×Int×Int×Int×Int×Int×(List R5)×Unit) (p1:Int):Option dZ :=
 (Sd p1 0 p0).bind (Sum.elim (fun y1 =>
 some ((),((false,()),()))
 ) (fun y1 =>
 some ((),(y1,()))
 ))
def Yr:Su:=⟨[.c true gG,.c false aK],[(false,[.bool])],true,.inl fun x=>Un x.1 x.2.1.1⟩
theorem X4:ar Tryz.prog 34 Yr :=
 fl an [.d 4 (.bool)] [(0,⟨[.d 1 (.int .i64),.d 5 (.int .i64),.box 2 [(false,.sl 5 fz),(false,.int .i64),(false,.sl 3 aK),(false,.int .i64),(false,.int .i64),(false,.int .i64),(false,.int .i64),(false,.int .i64),(false,.sl 5 fz)]],ai (fc uQ)⟩)] [] Tryz.f34 (lp [0] (sc di sn))
def Cg (t40:List jH) (t41 t42:Int) (b1:(List gf)×Int×Int×(List jH)×Unit):Rd ((List jH)×Int×Int×JE×Unit) Y1 :=
 cond (au t42 t41) (
 cond (a7 t42 t40) (
 let u1:=(gt d64 t40 t42)
 (Ql u1 (ae b1.1)).bind fun y1 =>
 cond (cond (!y1.2.1.1) true (au b1.2.1 u1.2.2.2.2.2.2.2.1)) (
 some (.inr (.inr (false,())))
 ) (
 some (.inl (t40,t41,(aq .i64 t42 1),b1,()))
 )
 ) none
 ) (
 some (.inr (.inl (t40,t41,t42,b1,())))
 )
def Oe:=mZ (ai (cW Cg))
def Cz (t5:Int) (t61:List gf) (t62 t63:Int) (t75:List jH) (t76 t77:Int) (b1:(List gf)×Int×Int×(List jH)×Unit) (b6:Int×(List dn)×Unit):Rd (Int×(List gf)×Int×Int×(List jH)×Int×Int×JE×Y8×Unit) Y1 :=
 cond (au t77 t76) (
 cond (a7 t77 t75) (
 (Un (gt d64 t75 t77) t5).bind fun y1 =>
 cond (!(ON y1.2.1.1 (aj b6.1 t77))) (
 some (.inr (.inr (false,())))
 ) (
 some (.inl (t5,t61,t62,t63,t75,t76,(aq .i64 t77 1),b1,b6,()))
 )
 ) none
 ) (
 some (.inr (.inl (t5,t61,t62,t63,t75,t76,t77,b1,b6,())))
 )
def RJ:=R7 (ai (CC Cz))
def BZ (t61:List gf) (t62 t63:Int) (b1:(List gf)×Int×Int×(List jH)×Unit):Rd ((List gf)×Int×Int×JE×Unit) Y1 :=
 cond (au t63 t62) (
 cond (a7 t63 t61) (
 let u1:=(ae b1.2.2.2.1)
 let u2:=(gt d67 t61 t63)
 cond (bz u1 u2.1) (
 some (.inr (.inr (false,())))
 ) (
 (RJ t63 t61 t62 t63 b1.2.2.2.1 u1 0 b1 u2).bind (Sum.elim (fun y1 =>
 some (.inl (y1.2.1,y1.2.2.1,(aq .i64 y1.2.2.2.1 1),y1.2.2.2.2.2.2.2.1,()))
 ) (fun y1 =>
 some (.inr (.inr (y1.1,())))
 ))
 )
 ) none
 ) (
 some (.inr (.inl (t61,t62,t63,b1,())))
 )
def Tx:=mZ (ai (cW BZ))
def g9 (p0:(List gf)×Int×Int×(List jH)×Unit):Option dZ :=
 (UD p0.1).bind fun y1 =>
 cond (!y1.2.1.1) (
 some ((),((false,()),()))
 ) (
 (FX p0.2.1).bind fun y2 =>
 cond (!y2.2.1.1) (
 some ((),((false,()),()))
 ) (
 (FX p0.2.2.1).bind fun y3 =>
 let u1:=(ae p0.2.2.2.1)
 cond (cond (!y3.2.1.1) true (au 12 u1)) (
 some ((),((false,()),()))
 ) (
 (Uu p0.2.2.2.1 p0.2.2.1).bind fun y4 =>
 cond (!y4.2.1.1) (
 some ((),((false,()),()))
 ) (
 (Oe p0.2.2.2.1 u1 0 p0).bind (Sum.elim (fun y5 =>
 (Tx y5.2.2.2.1.1 (ae y5.2.2.2.1.1) 0 y5.2.2.2.1).bind (Sum.elim (fun y6 =>
 some ((),((true,()),()))
 ) (fun y6 =>
 some ((),(y6,()))
 ))
 ) (fun y5 =>
 some ((),(y5,()))
 ))
 )
 )
 )
 )
def s9:Su:=⟨[.c true [.sl 67 cT,.int .i64,.int .i64,.sl 64 eo]],[(false,[.bool])],true,.inl fun x=>g9 x.1⟩
theorem Yq:ar Tryz.prog 9 s9 :=
 fl (ac L4 (ac W4 (ac VQ (ac Qp (ac X4 an))))) [.d 2 (.bool)] [(0,⟨[.d 40 (.sl 64 eo),.d 41 (.int .i64),.d 42 (.int .i64),.box 1 [(false,.sl 67 cT),(false,.int .i64),(false,.int .i64),(false,.sl 64 eo)]],ai (cW Cg)⟩),(4,⟨[.d 5 (.int .i64),.d 61 (.sl 67 cT),.d 62 (.int .i64),.d 63 (.int .i64),.d 75 (.sl 64 eo),.d 76 (.int .i64),.d 77 (.int .i64),.box 1 [(false,.sl 67 cT),(false,.int .i64),(false,.int .i64),(false,.sl 64 eo)],.box 6 [(false,.int .i64),(false,.sl 92 bw)]],ai (CC Cz)⟩),(2,⟨[.d 61 (.sl 67 cT),.d 62 (.int .i64),.d 63 (.int .i64),.box 1 [(false,.sl 67 cT),(false,.int .i64),(false,.int .i64),(false,.sl 64 eo)]],ai (cW BZ)⟩)] [] Tryz.f9 (lp [0,2] (sc di (sc (lp [4] (sc di sn)) sn)))
def UB (p0:(List R5)×Int×(List R3)×Int×Int×Int×Int×Int×(List R5)×Unit) (p1:Int):Option j5 :=
 (Ql p0 p1).bind fun y1 =>
 cond (!y1.2.1.1) (
 some ((),((0,()),()))
 ) (
 (Qk p0 p1).bind fun y2 =>
 cond (aj p0.2.1 0) (
 let u1:=(ae y2.2.1.1)
 cond (aj u1 0) (
 some ((),((2,()),()))
 ) (
 some ((),(((aq .i64 3 (iq .i64 2 u1)),()),()))
 )
 ) (
 cond (aj p0.2.1 1) (
 let u1:=(ae y2.2.1.1)
 let u2:=(aq .i64 2 u1)
 some ((),(((aH .i64 (aq .i64 u2 u1) p0.2.2.2.1),()),()))
 ) (
 cond (aj p0.2.1 2) (
 let u1:=(ae y2.2.1.1)
 let u2:=(aq .i64 2 u1)
 some ((),((u2,()),()))
 ) (
 cond (aj p0.2.1 3) (
 some ((),(((aq .i64 1 p0.2.2.2.1),()),()))
 ) (
 cond (aj p0.2.1 4) (
 some ((),((1,()),()))
 ) (
 some ((),((0,()),()))
 )
 )
 )
 )
 )
 )
def YH:Su:=⟨[.c true gG,.c false aK],[(false,aK)],true,.inl fun x=>UB x.1 x.2.1.1⟩
theorem Wz:ar Tryz.prog 53 YH :=
 fq (ac TF (ac Qp an)) Tryz.f53
def wy (t3:Int) (t10:List jH) (t11 t12:Int) (b1:(List gf)×Int×Int×(List jH)×Unit):Rd (Int×(List jH)×Int×Int×JE×Unit) Unit :=
 cond (au t12 t11) (
 cond (a7 t12 t10) (
 (UB (gt d64 t10 t12) (ae b1.1)).bind fun y1 =>
 some (.inl ((aq .i64 t3 y1.2.1.1),t10,t11,(aq .i64 t12 1),b1,()))
 ) none
 ) (
 some (.inr (.inl (t3,t10,t11,t12,b1,())))
 )
def QE:=wY (ai (ft wy))
def g20 (p0:(List gf)×Int×Int×(List jH)×Unit):Option j5 :=
 (g9 p0).bind fun y1 =>
 cond (!y1.2.1.1) (
 some ((),((0,()),()))
 ) (
 (QE 0 p0.2.2.2.1 (ae p0.2.2.2.1) 0 p0).bind (Sum.elim (fun y2 =>
 some ((),((y2.1,()),()))
 ) (fun y2 =>
 none
 ))
 )
def Yi:Su:=⟨[.c true [.sl 67 cT,.int .i64,.int .i64,.sl 64 eo]],[(false,aK)],true,.inl fun x=>g20 x.1⟩
theorem Vk:ar Tryz.prog 20 Yi :=
 fl (ac Yq (ac Wz an)) [] [(0,⟨[.d 3 (.int .i64),.d 10 (.sl 64 eo),.d 11 (.int .i64),.d 12 (.int .i64),.box 1 [(false,.sl 67 cT),(false,.int .i64),(false,.int .i64),(false,.sl 64 eo)]],ai (ft wy)⟩)] [] Tryz.f20 (lp [0] (sc di sn))
def na (p0 p1 p2:Int):Option dZ :=
 some ((),(((cond (bz p1 p0) (bz p0 p2) false),()),()))
def Ym:Su:=⟨[.c false aK,.c false aK,.c false aK],[(false,[.bool])],true,.inl fun x=>na x.1.1 x.2.1.1 x.2.2.1.1⟩
theorem ni:ar Tryz.prog 46 Ym :=
 fq an Tryz.f46
def OG (p0 p1:(List UInt8)×Int×Int×Int×Int×(List dj)×Int×Int×(List R3)×(List R3)×(List dh)×Unit):Option j5 :=
 cond (jO p0.1 p1.1) (
 some ((),(((-1),()),()))
 ) (
 cond (!(PX p0.1 p1.1)) (
 some ((),((1,()),()))
 ) (
 some ((),((0,()),()))
 )
 )
def WJ:Su:=⟨[.c true bw,.c true bw],[(false,aK)],true,.inl fun x=>OG x.1 x.2.1⟩
theorem Hz:ar Tryz.prog 93 WJ :=
 fq an Tryz.f93
def oZ (t0:List dn) (t1 t2:Int) (f3:Unit) (t8 t9:Int):Rd ((List dn)×Int×Int×Unit×Int×Int×Unit) Unit :=
 cond (au t1 t9) (
 cond (a7 t9 t0) (
 let u1:=(aH .i64 t9 1)
 cond (a7 u1 t0) (
 (OG (gt d92 t0 t9) (gt d92 t0 u1)).bind fun y1 =>
 cond (au y1.2.1.1 0) (
 cond (a7 u1 t0) (
 cond (a7 t9 t0) (
 cond (zE t9 t0 t9) (
 cond (zE u1 t0 u1) (
 some (.inl ((FV d92 t0 t9 u1),t1,t2,(),t8,u1,()))
 ) none
 ) none
 ) none
 ) none
 ) (
 some (.inr (.inl (t0,t1,t2,(),t8,t9,())))
 )
 ) none
 ) none
 ) (
 some (.inr (.inl (t0,t1,t2,(),t8,t9,())))
 )
def yZ:=RH (ai (DY oZ))
def ly (t0:List dn) (t1 t2:Int) (f3:Unit) (t8:Int):Rd ((List dn)×Int×Int×Unit×Int×Unit) Unit :=
 cond (au t8 t2) (
 (yZ t0 t1 t2 () t8 t8).bind (Sum.elim (fun y1 =>
 some (.inl (y1.1,y1.2.1,y1.2.2.1,(),(aq .i64 y1.2.2.2.2.1 1),()))
 ) (fun y1 =>
 some (.inr (.inr ()))
 ))
 ) (
 some (.inr (.inl (t0,t1,t2,(),t8,())))
 )
def oE:=wY (ai (ft ly))
def E2 (p0:List dn) (p1 p2:Int):Option NI :=
 (oE p0 p1 p2 () (aq .i64 p1 1)).bind (Sum.elim (fun y1 =>
 some (((y1.1,()),()),())
 ) (fun y1 =>
 none
 ))
def KR:Su:=⟨[.io false [.sl 92 bw],.c false aK,.c false aK,.fn 93 []],[],true,.inl fun x=>E2 x.1.1 x.2.1.1 x.2.2.1.1⟩
def pR:List SE:=[.own 0 (.sl 92 bw),.d 1 (.int .i64),.d 2 (.int .i64),.fn 3 93 [],.d 8 (.int .i64),.d 9 (.int .i64)]
def pJ:List SE:=[.own 0 (.sl 92 bw),.d 1 (.int .i64),.d 2 (.int .i64),.fn 3 93 [],.d 8 (.int .i64)]
def HG:List SE:=[]
def Nw:Nat->Option (Lo HG)
 | 2=>some ⟨pR,DY yZ⟩
 | 0=>some ⟨pJ,ft oE⟩
 | _=>none
def Ds:List (Nat×Su):=[(93,WJ)]
def Dx:En:=⟨53,tt,iN Ds,HG,Nw,[0],fun _=>none⟩
def T6:Nat->Option (St->Tr St)
 | 6=>some (swapT Dx (opsOf (bc 6 (ah Tryz.f164))) [9] [(14,2),(14,3),(14,4)] 14 9 13)
 | _=>none
def AB:En:=⟨53,tt,iN Ds,HG,Nw,[0],T6⟩
theorem PG (x:bF pR):(cX AB 2 pR (aZ 2 (ah Tryz.f164)) x).run=DY oZ x:=by kernel_rfl
theorem NV (x:bF pJ):(cX AB 0 pJ (aZ 0 (ah Tryz.f164)) x).run=ft ly x:=by kernel_rfl
theorem t164 (x:PT KR.ps):(EK AB (ah Tryz.f164) Tryz.f164.results.toList KR.ps KR.rs true x).run=E2 x.1.1 x.2.1.1 x.2.2.1.1:=by kernel_rfl
theorem BQ:da Tryz.prog AB:=cO (l:=Ds) ⟨Hz,trivial⟩
theorem EL:da Tryz.prog Dx:=cO (l:=Ds) ⟨Hz,trivial⟩
theorem P0:cG Tryz.prog AB (bc 6 (ah Tryz.f164)) (swapT Dx (opsOf (bc 6 (ah Tryz.f164))) [9] [(14,2),(14,3),(14,4)] 14 9 13) :=
 fZ rfl rfl (s7 (E:=Dx) (kR hT) EL eG (c:=(bc 6 (ah Tryz.f164))) (id:=6) (by kernel_rfl))
theorem Oo:bV Tryz.prog AB 2 (.loop (aZ 2 (ah Tryz.f164))) ⟨pR,DY yZ⟩ :=
 en (kR hT) BQ eG (step:=fun (x:bF pR)=>oZ x.1 x.2.1 x.2.2.1 x.2.2.2.1 x.2.2.2.2.1 x.2.2.2.2.2.1) PG (aW [] (by kernel_rfl) trivial [(6,bc 6 (ah Tryz.f164))] (by kernel_rfl) ⟨wV rfl P0,trivial⟩)
theorem OX:bV Tryz.prog AB 0 (.loop (aZ 0 (ah Tryz.f164))) ⟨pJ,ft oE⟩ :=
 en (kR hT) BQ eG (step:=fun (x:bF pJ)=>ly x.1 x.2.1 x.2.2.1 x.2.2.2.1 x.2.2.2.2.1) NV (aW [(2,.loop (aZ 2 (ah Tryz.f164)))] (by kernel_rfl) ⟨lO rfl Oo,trivial⟩ [] (by kernel_rfl) trivial)
theorem RS:ar Tryz.prog 164 KR :=
 qw (E:=AB) (kR hT) BQ eG (fn:=Tryz.f164) (c:=(ah Tryz.f164)) (by kernel_rfl) (by kernel_rfl) (by kernel_rfl) rfl (aW [(0,.loop (aZ 0 (ah Tryz.f164)))] (by kernel_rfl) ⟨lO rfl OX,trivial⟩ [] (by kernel_rfl) trivial) fun x y h=>⟨y.1,fun _=>rfl,(t164 x).trans h⟩
def pk (t0:List dn) (t1 t2 t3 t10:Int):Rd ((List dn)×Int×Int×Int×Int×Unit) Unit :=
 cond (au t10 t3) (
 let u1:=(aq .i64 t2 t10)
 cond (a7 u1 t0) (
 let u2:=(aq .i64 t1 t10)
 cond (a7 u2 t0) (
 cond (zE u2 t0 u2) (
 cond (zE u1 t0 u1) (
 some (.inl ((FV d92 t0 u2 u1),t1,t2,t3,(aq .i64 t10 1),()))
 ) none
 ) none
 ) none
 ) none
 ) (
 some (.inr (.inl (t0,t1,t2,t3,t10,())))
 )
def wM:=wY (ai (ft pk))
def yu (p0:List dn) (p1 p2 p3:Int):Option NI :=
 (wM p0 p1 p2 p3 0).bind (Sum.elim (fun y1 =>
 some (((y1.1,()),()),())
 ) (fun y1 =>
 none
 ))
def J1:Su:=⟨[.io false [.sl 92 bw],.c false aK,.c false aK,.c false aK,.fn 93 []],[],true,.inl fun x=>yu x.1.1 x.2.1.1 x.2.2.1.1 x.2.2.2.1.1⟩
def qi:List SE:=[.own 0 (.sl 92 bw),.d 1 (.int .i64),.d 2 (.int .i64),.d 3 (.int .i64),.d 10 (.int .i64)]
def I5:List SE:=[]
def Nu:Nat->Option (Lo I5)
 | 0=>some ⟨qi,ft wM⟩
 | _=>none
def D1:List (Nat×Su):=[]
def Dm:En:=⟨38,tt,iN D1,I5,Nu,[0],fun _=>none⟩
def SV:Nat->Option (St->Tr St)
 | 3=>some (swapT Dm (opsOf (bc 3 (ah Tryz.f243))) [2,10] [(20,4),(20,5),(20,6),(20,7)] 20 13 19)
 | _=>none
def FF:En:=⟨38,tt,iN D1,I5,Nu,[0],SV⟩
theorem OA (x:bF qi):(cX FF 0 qi (aZ 0 (ah Tryz.f243)) x).run=ft pk x:=by kernel_rfl
theorem t243 (x:PT J1.ps):(EK FF (ah Tryz.f243) Tryz.f243.results.toList J1.ps J1.rs true x).run=yu x.1.1 x.2.1.1 x.2.2.1.1 x.2.2.2.1.1:=by kernel_rfl
theorem HQ:da Tryz.prog FF:=cO (l:=D1) trivial
theorem Ee:da Tryz.prog Dm:=cO (l:=D1) trivial
theorem P3:cG Tryz.prog FF (bc 3 (ah Tryz.f243)) (swapT Dm (opsOf (bc 3 (ah Tryz.f243))) [2,10] [(20,4),(20,5),(20,6),(20,7)] 20 13 19) :=
 fZ rfl rfl (s7 (E:=Dm) (kR hT) Ee eG (c:=(bc 3 (ah Tryz.f243))) (id:=3) (by kernel_rfl))
theorem OZ:bV Tryz.prog FF 0 (.loop (aZ 0 (ah Tryz.f243))) ⟨qi,ft wM⟩ :=
 en (kR hT) HQ eG (step:=fun (x:bF qi)=>pk x.1 x.2.1 x.2.2.1 x.2.2.2.1 x.2.2.2.2.1) OA (aW [] (by kernel_rfl) trivial [(3,bc 3 (ah Tryz.f243))] (by kernel_rfl) ⟨wV rfl P3,trivial⟩)
theorem S0:ar Tryz.prog 243 J1 :=
 qw (E:=FF) (kR hT) HQ eG (fn:=Tryz.f243) (c:=(ah Tryz.f243)) (by kernel_rfl) (by kernel_rfl) (by kernel_rfl) rfl (aW [(0,.loop (aZ 0 (ah Tryz.f243)))] (by kernel_rfl) ⟨lO rfl OZ,trivial⟩ [] (by kernel_rfl) trivial) fun x y h=>⟨y.1,fun _=>rfl,(t243 x).trans h⟩
def l3 (t0:List dn) (t2:Int) (f4:Unit) (t10 t11:Int):Rd VW Unit :=
 cond (!(aj t10 t11)) (
 cond (au t11 t10) (
 let u1:=(aH .i64 t2 t10)
 (yu t0 u1 t2 t11).bind fun y1 =>
 some (.inl (y1.1.1.1,t2,(),(aH .i64 t10 t11),t11,()))
 ) (
 let u1:=(aH .i64 t2 t10)
 (yu t0 u1 (aH .i64 (aq .i64 t2 t11) t10) t10).bind fun y1 =>
 some (.inl (y1.1.1.1,t2,(),t10,(aH .i64 t11 t10),()))
 )
 ) (
 some (.inr (.inl (t0,t2,(),t10,t11,())))
 )
def Hp:=wY (ai (ft l3))
def zl (p0:List dn) (p1 p2 p3:Int):Option NI :=
 (Hp p0 p2 () (aH .i64 p2 p1) (aH .i64 p3 p2)).bind (Sum.elim (fun y1 =>
 (yu y1.1 (aH .i64 y1.2.1 y1.2.2.2.1) y1.2.1 y1.2.2.2.1).bind fun y2 =>
 some ((y2.1.1,()),())
 ) (fun y1 =>
 none
 ))
def QC:Su:=⟨[.io false [.sl 92 bw],.c false aK,.c false aK,.c false aK,.fn 93 []],[],true,.inl fun x=>zl x.1.1 x.2.1.1 x.2.2.1.1 x.2.2.2.1.1⟩
theorem Hy:ar Tryz.prog 211 QC :=
 fl (ac S0 an) [] [(0,⟨[.own 0 (.sl 92 bw),.d 2 (.int .i64),.fn 4 93 [],.d 10 (.int .i64),.d 11 (.int .i64)],ai (ft l3)⟩)] [0] Tryz.f211 (lp [0] (sc di sn))
-- REC 165
def l8 (t0:List dn) (t1:Int) (f4:Unit) (t10 t11:Int):Rd VW Unit :=
 cond (au t10 t11) (
 let u1:=(bP .i64 (ib .u64 (bP .u64 (aq .i64 t10 t11)) 1))
 cond (a7 u1 t0) (
 cond (a7 t1 t0) (
 (OG (gt d92 t0 u1) (gt d92 t0 t1)).bind fun y1 =>
 cond (au y1.2.1.1 0) (
 some (.inl (t0,t1,(),(aq .i64 u1 1),t11,()))
 ) (
 some (.inl (t0,t1,(),t10,u1,()))
 )
 ) none
 ) none
 ) (
 some (.inr (.inl (t0,t1,(),t10,t11,())))
 )
def uf:=wY (ai (ft l8))
def ob (t0:List dn) (t10 t13:Int):Rd ((List dn)×Int×Int×Unit) Unit :=
 cond (au t13 (aH .i64 t10 1)) (
 let u1:=(aq .i64 t13 1)
 cond (a7 u1 t0) (
 cond (a7 t13 t0) (
 cond (zE t13 t0 t13) (
 cond (zE u1 t0 u1) (
 some (.inl ((FV d92 t0 t13 u1),t10,u1,()))
 ) none
 ) none
 ) none
 ) none
 ) (
 some (.inr (.inl (t0,t10,t13,())))
 )
def tH:=qd (ai (fc ob))
def lT (t0:List dn) (t2:Int) (f4:Unit) (t14 t15:Int):Rd VW Unit :=
 cond (au t14 t15) (
 cond (a7 t2 t0) (
 let u1:=(bP .i64 (ib .u64 (bP .u64 (aq .i64 t14 t15)) 1))
 cond (a7 u1 t0) (
 (OG (gt d92 t0 t2) (gt d92 t0 u1)).bind fun y1 =>
 cond (!(au y1.2.1.1 0)) (
 some (.inl (t0,t2,(),(aq .i64 u1 1),t15,()))
 ) (
 some (.inl (t0,t2,(),t14,u1,()))
 )
 ) none
 ) none
 ) (
 some (.inr (.inl (t0,t2,(),t14,t15,())))
 )
def we:=wY (ai (ft lT))
def oS (t0:List dn) (t14 t17:Int):Rd ((List dn)×Int×Int×Unit) Unit :=
 cond (au t14 t17) (
 let u1:=(aH .i64 t17 1)
 cond (a7 u1 t0) (
 cond (a7 t17 t0) (
 cond (zE t17 t0 t17) (
 cond (zE u1 t0 u1) (
 some (.inl ((FV d92 t0 t17 u1),t14,u1,()))
 ) none
 ) none
 ) none
 ) none
 ) (
 some (.inr (.inl (t0,t14,t17,())))
 )
def tr:=qd (ai (fc oS))
def mr (t0:List dn) (t1 t2 t3:Int) (f4:Unit) (t18 t19 t20 t21 t22:Int):Rd ((List dn)×Int×Int×Int×Unit×Int×Int×Int×Int×Int×Unit) Unit :=
 cond (au t20 t21) (
 let u1:=(bP .i64 (ib .u64 (bP .u64 (aq .i64 t20 t21)) 1))
 let u2:=(aH .i64 t22 u1)
 cond (a7 u2 t0) (
 cond (a7 u1 t0) (
 (OG (gt d92 t0 u2) (gt d92 t0 u1)).bind fun y1 =>
 cond (!(au y1.2.1.1 0)) (
 some (.inl (t0,t1,t2,t3,(),t18,t19,(aq .i64 u1 1),t21,t22,()))
 ) (
 some (.inl (t0,t1,t2,t3,(),t18,t19,t20,u1,t22,()))
 )
 ) none
 ) none
 ) (
 some (.inr (.inl (t0,t1,t2,t3,(),t18,t19,t20,t21,t22,())))
 )
def ll:=Sy (ai (AH mr))
def eN (n:Nat):(List dn)->Int->Int->Int->Option NI:=Nat.rec (motive:=fun _=>(List dn)->Int->Int->Int->Option NI) (fun _ _ _ _=>none) (fun _ l9=>fun p0 p1 p2 p3 =>
 cond (aj (aH .i64 p2 p1) 1) (
 (uf p0 p1 () p2 p3).bind (Sum.elim (fun y1 =>
 (tH y1.1 y1.2.2.2.1 y1.2.1).bind (Sum.elim (fun y2 =>
 some (((y2.1,()),()),())
 ) (fun y2 =>
 none
 ))
 ) (fun y1 =>
 none
 ))
 ) (
 cond (aj (aH .i64 p3 p2) 1) (
 (we p0 p2 () p1 p2).bind (Sum.elim (fun y1 =>
 (tr y1.1 y1.2.2.2.1 y1.2.1).bind (Sum.elim (fun y2 =>
 some (((y2.1,()),()),())
 ) (fun y2 =>
 none
 ))
 ) (fun y1 =>
 none
 ))
 ) (
 let u1:=(bP .i64 (ib .u64 (bP .u64 (aq .i64 p1 p3)) 1))
 cond (au u1 p2) (
 let u2:=(aq .i64 u1 p2)
 let u3:=(aH .i64 u2 1)
 (ll p0 p1 p2 p3 () u1 u2 (aH .i64 u2 p3) u1 u3).bind (Sum.elim (fun y1 =>
 let u4:=(aH .i64 y1.2.2.2.2.2.2.1 y1.2.2.2.2.2.2.2.1)
 let u5:=(cond (au y1.2.2.2.2.2.2.2.1 y1.2.2.1) (au y1.2.2.1 u4) false)
 cond u5 (
 let u6:=(zl y1.1 y1.2.2.2.2.2.2.2.1 y1.2.2.1 u4)
 Option.bind u6 fun y2 =>
 let u7:=(cond (au y1.2.1 y1.2.2.2.2.2.2.2.1) (au y1.2.2.2.2.2.2.2.1 y1.2.2.2.2.2.1) false)
 cond u7 (
 let u8:=(l9 y2.1.1.1 y1.2.1 y1.2.2.2.2.2.2.2.1 y1.2.2.2.2.2.1)
 Option.bind u8 fun y3 =>
 let u9:=(cond (au y1.2.2.2.2.2.1 u4) (au u4 y1.2.2.2.1) false)
 cond u9 (
 let u10:=(l9 y3.1.1.1 y1.2.2.2.2.2.1 u4 y1.2.2.2.1)
 Option.bind u10 fun y4 =>
 some ((y4.1.1,()),())
 ) (
 some ((y3.1.1,()),())
 )
 ) (
 let u8:=(cond (au y1.2.2.2.2.2.1 u4) (au u4 y1.2.2.2.1) false)
 cond u8 (
 let u9:=(l9 y2.1.1.1 y1.2.2.2.2.2.1 u4 y1.2.2.2.1)
 Option.bind u9 fun y3 =>
 some ((y3.1.1,()),())
 ) (
 some ((y2.1.1,()),())
 )
 )
 ) (
 let u6:=(cond (au y1.2.1 y1.2.2.2.2.2.2.2.1) (au y1.2.2.2.2.2.2.2.1 y1.2.2.2.2.2.1) false)
 cond u6 (
 let u7:=(l9 y1.1 y1.2.1 y1.2.2.2.2.2.2.2.1 y1.2.2.2.2.2.1)
 Option.bind u7 fun y2 =>
 let u8:=(cond (au y1.2.2.2.2.2.1 u4) (au u4 y1.2.2.2.1) false)
 cond u8 (
 let u9:=(l9 y2.1.1.1 y1.2.2.2.2.2.1 u4 y1.2.2.2.1)
 Option.bind u9 fun y3 =>
 some ((y3.1.1,()),())
 ) (
 some ((y2.1.1,()),())
 )
 ) (
 let u7:=(cond (au y1.2.2.2.2.2.1 u4) (au u4 y1.2.2.2.1) false)
 cond u7 (
 let u8:=(l9 y1.1 y1.2.2.2.2.2.1 u4 y1.2.2.2.1)
 Option.bind u8 fun y2 =>
 some ((y2.1.1,()),())
 ) (
 some (((y1.1,()),()),())
 )
 )
 )
 ) (fun y1 =>
 none
 ))
 ) (
 let u2:=(aq .i64 u1 p2)
 let u3:=(aH .i64 u2 1)
 (ll p0 p1 p2 p3 () u1 u2 p1 p2 u3).bind (Sum.elim (fun y1 =>
 let u4:=(aH .i64 y1.2.2.2.2.2.2.1 y1.2.2.2.2.2.2.2.1)
 let u5:=(cond (au y1.2.2.2.2.2.2.2.1 y1.2.2.1) (au y1.2.2.1 u4) false)
 cond u5 (
 let u6:=(zl y1.1 y1.2.2.2.2.2.2.2.1 y1.2.2.1 u4)
 Option.bind u6 fun y2 =>
 let u7:=(cond (au y1.2.1 y1.2.2.2.2.2.2.2.1) (au y1.2.2.2.2.2.2.2.1 y1.2.2.2.2.2.1) false)
 cond u7 (
 let u8:=(l9 y2.1.1.1 y1.2.1 y1.2.2.2.2.2.2.2.1 y1.2.2.2.2.2.1)
 Option.bind u8 fun y3 =>
 let u9:=(cond (au y1.2.2.2.2.2.1 u4) (au u4 y1.2.2.2.1) false)
 cond u9 (
 let u10:=(l9 y3.1.1.1 y1.2.2.2.2.2.1 u4 y1.2.2.2.1)
 Option.bind u10 fun y4 =>
 some ((y4.1.1,()),())
 ) (
 some ((y3.1.1,()),())
 )
 ) (
 let u8:=(cond (au y1.2.2.2.2.2.1 u4) (au u4 y1.2.2.2.1) false)
 cond u8 (
 let u9:=(l9 y2.1.1.1 y1.2.2.2.2.2.1 u4 y1.2.2.2.1)
 Option.bind u9 fun y3 =>
 some ((y3.1.1,()),())
 ) (
 some ((y2.1.1,()),())
 )
 )
 ) (
 let u6:=(cond (au y1.2.1 y1.2.2.2.2.2.2.2.1) (au y1.2.2.2.2.2.2.2.1 y1.2.2.2.2.2.1) false)
 cond u6 (
 let u7:=(l9 y1.1 y1.2.1 y1.2.2.2.2.2.2.2.1 y1.2.2.2.2.2.1)
 Option.bind u7 fun y2 =>
 let u8:=(cond (au y1.2.2.2.2.2.1 u4) (au u4 y1.2.2.2.1) false)
 cond u8 (
 let u9:=(l9 y2.1.1.1 y1.2.2.2.2.2.1 u4 y1.2.2.2.1)
 Option.bind u9 fun y3 =>
 some ((y3.1.1,()),())
 ) (
 some ((y2.1.1,()),())
 )
 ) (
 let u7:=(cond (au y1.2.2.2.2.2.1 u4) (au u4 y1.2.2.2.1) false)
 cond u7 (
 let u8:=(l9 y1.1 y1.2.2.2.2.2.1 u4 y1.2.2.2.1)
 Option.bind u8 fun y2 =>
 some ((y2.1.1,()),())
 ) (
 some (((y1.1,()),()),())
 )
 )
 )
 ) (fun y1 =>
 none
 ))
 )
 )
 )) n
theorem oh (n:Nat) (p0:(List dn)) (p1:Int) (p2:Int) (p3:Int):eN (n + 1) p0 p1 p2 p3 =
 cond (aj (aH .i64 p2 p1) 1) (
  (uf p0 p1 () p2 p3).bind (Sum.elim (fun y1 =>
    (tH y1.1 y1.2.2.2.1 y1.2.1).bind (Sum.elim (fun y2 =>
      some (((y2.1,()),()),())
    ) (fun y2 =>
     none
    ))
  ) (fun y1 =>
   none
  ))
 ) (
  cond (aj (aH .i64 p3 p2) 1) (
   (we p0 p2 () p1 p2).bind (Sum.elim (fun y1 =>
     (tr y1.1 y1.2.2.2.1 y1.2.1).bind (Sum.elim (fun y2 =>
       some (((y2.1,()),()),())
     ) (fun y2 =>
      none
     ))
   ) (fun y1 =>
    none
   ))
  ) (
   let u1:=(bP .i64 (ib .u64 (bP .u64 (aq .i64 p1 p3)) 1))
   cond (au u1 p2) (
    let u2:=(aq .i64 u1 p2)
    let u3:=(aH .i64 u2 1)
    (ll p0 p1 p2 p3 () u1 u2 (aH .i64 u2 p3) u1 u3).bind (Sum.elim (fun y1 =>
      let u4:=(aH .i64 y1.2.2.2.2.2.2.1 y1.2.2.2.2.2.2.2.1)
      let u5:=(cond (au y1.2.2.2.2.2.2.2.1 y1.2.2.1) (au y1.2.2.1 u4) false)
      cond u5 (
       let u6:=(zl y1.1 y1.2.2.2.2.2.2.2.1 y1.2.2.1 u4)
       Option.bind u6 fun y2 =>
       let u7:=(cond (au y1.2.1 y1.2.2.2.2.2.2.2.1) (au y1.2.2.2.2.2.2.2.1 y1.2.2.2.2.2.1) false)
       cond u7 (
        let u8:=(eN n y2.1.1.1 y1.2.1 y1.2.2.2.2.2.2.2.1 y1.2.2.2.2.2.1)
        Option.bind u8 fun y3 =>
        let u9:=(cond (au y1.2.2.2.2.2.1 u4) (au u4 y1.2.2.2.1) false)
        cond u9 (
         let u10:=(eN n y3.1.1.1 y1.2.2.2.2.2.1 u4 y1.2.2.2.1)
         Option.bind u10 fun y4 =>
         some ((y4.1.1,()),())
        ) (
         some ((y3.1.1,()),())
        )
       ) (
        let u8:=(cond (au y1.2.2.2.2.2.1 u4) (au u4 y1.2.2.2.1) false)
        cond u8 (
         let u9:=(eN n y2.1.1.1 y1.2.2.2.2.2.1 u4 y1.2.2.2.1)
         Option.bind u9 fun y3 =>
         some ((y3.1.1,()),())
        ) (
         some ((y2.1.1,()),())
        )
       )
      ) (
       let u6:=(cond (au y1.2.1 y1.2.2.2.2.2.2.2.1) (au y1.2.2.2.2.2.2.2.1 y1.2.2.2.2.2.1) false)
       cond u6 (
        let u7:=(eN n y1.1 y1.2.1 y1.2.2.2.2.2.2.2.1 y1.2.2.2.2.2.1)
        Option.bind u7 fun y2 =>
        let u8:=(cond (au y1.2.2.2.2.2.1 u4) (au u4 y1.2.2.2.1) false)
        cond u8 (
         let u9:=(eN n y2.1.1.1 y1.2.2.2.2.2.1 u4 y1.2.2.2.1)
         Option.bind u9 fun y3 =>
         some ((y3.1.1,()),())
        ) (
         some ((y2.1.1,()),())
        )
       ) (
        let u7:=(cond (au y1.2.2.2.2.2.1 u4) (au u4 y1.2.2.2.1) false)
        cond u7 (
         let u8:=(eN n y1.1 y1.2.2.2.2.2.1 u4 y1.2.2.2.1)
         Option.bind u8 fun y2 =>
         some ((y2.1.1,()),())
        ) (
         some (((y1.1,()),()),())
        )
       )
      )
    ) (fun y1 =>
     none
    ))
   ) (
    let u2:=(aq .i64 u1 p2)
    let u3:=(aH .i64 u2 1)
    (ll p0 p1 p2 p3 () u1 u2 p1 p2 u3).bind (Sum.elim (fun y1 =>
      let u4:=(aH .i64 y1.2.2.2.2.2.2.1 y1.2.2.2.2.2.2.2.1)
      let u5:=(cond (au y1.2.2.2.2.2.2.2.1 y1.2.2.1) (au y1.2.2.1 u4) false)
      cond u5 (
       let u6:=(zl y1.1 y1.2.2.2.2.2.2.2.1 y1.2.2.1 u4)
       Option.bind u6 fun y2 =>
       let u7:=(cond (au y1.2.1 y1.2.2.2.2.2.2.2.1) (au y1.2.2.2.2.2.2.2.1 y1.2.2.2.2.2.1) false)
       cond u7 (
        let u8:=(eN n y2.1.1.1 y1.2.1 y1.2.2.2.2.2.2.2.1 y1.2.2.2.2.2.1)
        Option.bind u8 fun y3 =>
        let u9:=(cond (au y1.2.2.2.2.2.1 u4) (au u4 y1.2.2.2.1) false)
        cond u9 (
         let u10:=(eN n y3.1.1.1 y1.2.2.2.2.2.1 u4 y1.2.2.2.1)
         Option.bind u10 fun y4 =>
         some ((y4.1.1,()),())
        ) (
         some ((y3.1.1,()),())
        )
       ) (
        let u8:=(cond (au y1.2.2.2.2.2.1 u4) (au u4 y1.2.2.2.1) false)
        cond u8 (
         let u9:=(eN n y2.1.1.1 y1.2.2.2.2.2.1 u4 y1.2.2.2.1)
         Option.bind u9 fun y3 =>
         some ((y3.1.1,()),())
        ) (
         some ((y2.1.1,()),())
        )
       )
      ) (
       let u6:=(cond (au y1.2.1 y1.2.2.2.2.2.2.2.1) (au y1.2.2.2.2.2.2.2.1 y1.2.2.2.2.2.1) false)
       cond u6 (
        let u7:=(eN n y1.1 y1.2.1 y1.2.2.2.2.2.2.2.1 y1.2.2.2.2.2.1)
        Option.bind u7 fun y2 =>
        let u8:=(cond (au y1.2.2.2.2.2.1 u4) (au u4 y1.2.2.2.1) false)
        cond u8 (
         let u9:=(eN n y2.1.1.1 y1.2.2.2.2.2.1 u4 y1.2.2.2.1)
         Option.bind u9 fun y3 =>
         some ((y3.1.1,()),())
        ) (
         some ((y2.1.1,()),())
        )
       ) (
        let u7:=(cond (au y1.2.2.2.2.2.1 u4) (au u4 y1.2.2.2.1) false)
        cond u7 (
         let u8:=(eN n y1.1 y1.2.2.2.2.2.1 u4 y1.2.2.2.1)
         Option.bind u8 fun y2 =>
         some ((y2.1.1,()),())
        ) (
         some (((y1.1,()),()),())
        )
       )
      )
    ) (fun y1 =>
     none
    ))
   )
  )
 ):=rfl
def l9 (p0:List dn) (p1 p2 p3:Int):Option NI:=Cl fun n=>eN n p0 p1 p2 p3
def jw (n:Nat):Su:=⟨[.io false [.sl 92 bw],.c false aK,.c false aK,.c false aK,.fn 93 []],[],true,.inl fun x=>eN n x.1.1 x.2.1.1 x.2.2.1.1 x.2.2.2.1.1⟩
def Gz:Su:=⟨[.io false [.sl 92 bw],.c false aK,.c false aK,.c false aK,.fn 93 []],[],true,.inl fun x=>l9 x.1.1 x.2.1.1 x.2.2.1.1 x.2.2.2.1.1⟩
def pq:List SE:=[.own 0 (.sl 92 bw),.d 1 (.int .i64),.fn 4 93 [],.d 10 (.int .i64),.d 11 (.int .i64)]
def qh:List SE:=[.own 0 (.sl 92 bw),.d 10 (.int .i64),.d 13 (.int .i64)]
def pV:List SE:=[.own 0 (.sl 92 bw),.d 2 (.int .i64),.fn 4 93 [],.d 14 (.int .i64),.d 15 (.int .i64)]
def qD:List SE:=[.own 0 (.sl 92 bw),.d 14 (.int .i64),.d 17 (.int .i64)]
def qj:List SE:=[.own 0 (.sl 92 bw),.d 1 (.int .i64),.d 2 (.int .i64),.d 3 (.int .i64),.fn 4 93 [],.d 18 (.int .i64),.d 19 (.int .i64),.d 20 (.int .i64),.d 21 (.int .i64),.d 22 (.int .i64)]
def HE:List SE:=[]
def MF:Nat->Option (Lo HE)
 | 0=>some ⟨pq,ft uf⟩
 | 2=>some ⟨qh,fc tH⟩
 | 4=>some ⟨pV,ft we⟩
 | 6=>some ⟨qD,fc tr⟩
 | 8=>some ⟨qj,AH ll⟩
 | _=>none
def Be (n:Nat):List (Nat×Su):=[(93,WJ),(165,(jw n)),(211,QC)]
def sE (n:Nat):En:=⟨220,tt,iN (Be n),HE,MF,[0],fun _=>none⟩
def TP (n:Nat):Nat->Option (St->Tr St)
 | 11=>some (swapT (sE n) (opsOf (bc 11 (ah Tryz.f165))) [13] [(14,2),(14,3),(14,4)] 14 9 13)
 | 23=>some (swapT (sE n) (opsOf (bc 23 (ah Tryz.f165))) [17] [(14,2),(14,3),(14,4)] 14 9 13)
 | _=>none
def nT (n:Nat):En:=⟨220,tt,iN (Be n),HE,MF,[0],(TP n)⟩
theorem Py (n:Nat) (x:bF pq):(cX (nT n) 0 pq (aZ 0 (ah Tryz.f165)) x).run=ft l8 x:=by kernel_rfl
theorem P7 (n:Nat) (x:bF qh):(cX (nT n) 2 qh (aZ 2 (ah Tryz.f165)) x).run=fc ob x:=by kernel_rfl
theorem Pg (n:Nat) (x:bF pV):(cX (nT n) 4 pV (aZ 4 (ah Tryz.f165)) x).run=ft lT x:=by kernel_rfl
theorem PL (n:Nat) (x:bF qD):(cX (nT n) 6 qD (aZ 6 (ah Tryz.f165)) x).run=fc oS x:=by kernel_rfl
theorem Of (n:Nat) (x:bF qj):(cX (nT n) 8 qj (aZ 8 (ah Tryz.f165)) x).run=AH mr x:=by kernel_rfl
theorem t165 (n:Nat) (x:PT (jw (n + 1)).ps):(EK (nT n) (ah Tryz.f165) Tryz.f165.results.toList (jw (n + 1)).ps (jw (n + 1)).rs true x).run=eN (n + 1) x.1.1 x.2.1.1 x.2.2.1.1 x.2.2.2.1.1:=by kernel_rfl
theorem rh (n:Nat) (hn:ar Tryz.prog 165 (jw n)):da Tryz.prog (nT n):=cO (l:=(Be n)) ⟨Hz,hn,Hy,trivial⟩
theorem Cw (n:Nat) (hn:ar Tryz.prog 165 (jw n)):da Tryz.prog (sE n):=cO (l:=(Be n)) ⟨Hz,hn,Hy,trivial⟩
theorem J2 (n:Nat) (hn:ar Tryz.prog 165 (jw n)):cG Tryz.prog (nT n) (bc 11 (ah Tryz.f165)) (swapT (sE n) (opsOf (bc 11 (ah Tryz.f165))) [13] [(14,2),(14,3),(14,4)] 14 9 13) :=
 fZ rfl rfl (s7 (E:=(sE n)) (kR hT) (Cw n hn) eG (c:=(bc 11 (ah Tryz.f165))) (id:=11) (by kernel_rfl))
theorem BE (n:Nat) (hn:ar Tryz.prog 165 (jw n)):da Tryz.prog (sE n):=cO (l:=(Be n)) ⟨Hz,hn,Hy,trivial⟩
theorem L6 (n:Nat) (hn:ar Tryz.prog 165 (jw n)):cG Tryz.prog (nT n) (bc 23 (ah Tryz.f165)) (swapT (sE n) (opsOf (bc 23 (ah Tryz.f165))) [17] [(14,2),(14,3),(14,4)] 14 9 13) :=
 fZ rfl rfl (s7 (E:=(sE n)) (kR hT) (BE n hn) eG (c:=(bc 23 (ah Tryz.f165))) (id:=23) (by kernel_rfl))
theorem OH (n:Nat) (hn:ar Tryz.prog 165 (jw n)):bV Tryz.prog (nT n) 0 (.loop (aZ 0 (ah Tryz.f165))) ⟨pq,ft uf⟩ :=
 en (kR hT) (rh n hn) eG (step:=fun (x:bF pq)=>l8 x.1 x.2.1 x.2.2.1 x.2.2.2.1 x.2.2.2.2.1) (Py n) (aW [] (by kernel_rfl) trivial [] (by kernel_rfl) trivial)
theorem OT (n:Nat) (hn:ar Tryz.prog 165 (jw n)):bV Tryz.prog (nT n) 2 (.loop (aZ 2 (ah Tryz.f165))) ⟨qh,fc tH⟩ :=
 en (kR hT) (rh n hn) eG (step:=fun (x:bF qh)=>ob x.1 x.2.1 x.2.2.1) (P7 n) (aW [] (by kernel_rfl) trivial [(11,bc 11 (ah Tryz.f165))] (by kernel_rfl) ⟨wV rfl (J2 n hn),trivial⟩)
theorem OK (n:Nat) (hn:ar Tryz.prog 165 (jw n)):bV Tryz.prog (nT n) 4 (.loop (aZ 4 (ah Tryz.f165))) ⟨pV,ft we⟩ :=
 en (kR hT) (rh n hn) eG (step:=fun (x:bF pV)=>lT x.1 x.2.1 x.2.2.1 x.2.2.2.1 x.2.2.2.2.1) (Pg n) (aW [] (by kernel_rfl) trivial [] (by kernel_rfl) trivial)
theorem Oq (n:Nat) (hn:ar Tryz.prog 165 (jw n)):bV Tryz.prog (nT n) 6 (.loop (aZ 6 (ah Tryz.f165))) ⟨qD,fc tr⟩ :=
 en (kR hT) (rh n hn) eG (step:=fun (x:bF qD)=>oS x.1 x.2.1 x.2.2.1) (PL n) (aW [] (by kernel_rfl) trivial [(23,bc 23 (ah Tryz.f165))] (by kernel_rfl) ⟨wV rfl (L6 n hn),trivial⟩)
theorem Oz (n:Nat) (hn:ar Tryz.prog 165 (jw n)):bV Tryz.prog (nT n) 8 (.loop (aZ 8 (ah Tryz.f165))) ⟨qj,AH ll⟩ :=
 en (kR hT) (rh n hn) eG (step:=fun (x:bF qj)=>mr x.1 x.2.1 x.2.2.1 x.2.2.2.1 x.2.2.2.2.1 x.2.2.2.2.2.1 x.2.2.2.2.2.2.1 x.2.2.2.2.2.2.2.1 x.2.2.2.2.2.2.2.2.1 x.2.2.2.2.2.2.2.2.2.1) (Of n) (aW [] (by kernel_rfl) trivial [] (by kernel_rfl) trivial)
theorem Gx:∀ n,ar Tryz.prog 165 (jw n)
 | 0=>ar.zero fun _=>rfl
 | n + 1=>have hn:=Gx n
 qw (E:=(nT n)) (kR hT) (rh n hn) eG (fn:=Tryz.f165) (c:=(ah Tryz.f165)) (by kernel_rfl) (by kernel_rfl) (by kernel_rfl) rfl (aW [(0,.loop (aZ 0 (ah Tryz.f165))),(2,.loop (aZ 2 (ah Tryz.f165))),(4,.loop (aZ 4 (ah Tryz.f165))),(6,.loop (aZ 6 (ah Tryz.f165))),(8,.loop (aZ 8 (ah Tryz.f165)))] (by kernel_rfl) ⟨lO rfl (OH n hn),lO rfl (OT n hn),lO rfl (OK n hn),lO rfl (Oq n hn),lO rfl (Oz n hn),trivial⟩ [] (by kernel_rfl) trivial) fun x y h=>⟨y.1,fun _=>rfl,((t165 n) x).trans h⟩
theorem RP:ar Tryz.prog 165 Gz:=ar.fix (ps:=Gz.ps) (rs:=Gz.rs) (fr:=Gz.fresh) (G:=fun n (x:PT Gz.ps)=>eN n x.1.1 x.2.1.1 x.2.2.1.1 x.2.2.2.1.1) Gx
def qQ (t0:List dn) (t1:Int) (f2:Unit) (t6 t7 t8:Int):Rd ((List dn)×Int×Unit×Int×Int×Int×Unit) Unit :=
 cond (bz t8 t1) (
 (E2 t0 t7 t8).bind fun y1 =>
 some (.inl (y1.1.1.1,t1,(),t6,t8,(aq .i64 t8 t6),()))
 ) (
 some (.inr (.inl (t0,t1,(),t6,t7,t8,())))
 )
def B4:=RH (ai (DY qQ))
def rb (t0:List dn) (t1:Int) (f2:Unit) (t6 t7 t8:Int):Rd ((List dn)×Int×Unit×Int×Int×Int×Unit) Unit :=
 cond (bz t8 t1) (
 (l9 t0 t7 (aq .i64 t7 t6) t8).bind fun y1 =>
 some (.inl (y1.1.1.1,t1,(),t6,t8,(aq .i64 t8 (iq .i64 2 t6)),()))
 ) (
 some (.inr (.inl (t0,t1,(),t6,t7,t8,())))
 )
def yf:=RH (ai (DY rb))
def rI (t0:List dn) (t1:Int) (f2:Unit) (t6:Int):Rd ((List dn)×Int×Unit×Int×Unit) Unit :=
 cond (au t6 t1) (
 (yf t0 t1 () t6 0 (iq .i64 2 t6)).bind (Sum.elim (fun y1 =>
 let u1:=(aq .i64 y1.2.2.2.2.1 y1.2.2.2.1)
 cond (au u1 y1.2.1) (
 (l9 y1.1 y1.2.2.2.2.1 u1 y1.2.1).bind fun y2 =>
 let u2:=(iq .i64 y1.2.2.2.1 2)
 some (.inl (y2.1.1.1,y1.2.1,(),u2,()))
 ) (
 let u2:=(iq .i64 y1.2.2.2.1 2)
 some (.inl (y1.1,y1.2.1,(),u2,()))
 )
 ) (fun y1 =>
 some (.inr (.inr ()))
 ))
 ) (
 some (.inr (.inl (t0,t1,(),t6,())))
 )
def BM:=mZ (ai (cW rI))
def O1 (p0:List dn) (p1:Int):Option NI :=
 (B4 p0 p1 () 20 0 20).bind (Sum.elim (fun y1 =>
 (E2 y1.1 y1.2.2.2.2.1 y1.2.1).bind fun y2 =>
 (BM y2.1.1.1 y1.2.1 () y1.2.2.2.1).bind (Sum.elim (fun y3 =>
 some (((y3.1,()),()),())
 ) (fun y3 =>
 none
 ))
 ) (fun y1 =>
 none
 ))
def XZ:Su:=⟨[.io false [.sl 92 bw],.c false aK,.fn 93 []],[],true,.inl fun x=>O1 x.1.1 x.2.1.1⟩
theorem RG:ar Tryz.prog 123 XZ :=
 fl (ac RS (ac RP an)) [] [(0,⟨[.own 0 (.sl 92 bw),.d 1 (.int .i64),.fn 2 93 [],.d 6 (.int .i64),.d 7 (.int .i64),.d 8 (.int .i64)],ai (DY qQ)⟩),(4,⟨[.own 0 (.sl 92 bw),.d 1 (.int .i64),.fn 2 93 [],.d 6 (.int .i64),.d 7 (.int .i64),.d 8 (.int .i64)],ai (DY rb)⟩),(2,⟨[.own 0 (.sl 92 bw),.d 1 (.int .i64),.fn 2 93 [],.d 6 (.int .i64)],ai (cW rI)⟩)] [0] Tryz.f123 (lp [0,2] (sc di (sc (lp [4] (sc di sn)) sn)))
def Ut (p0:List dn):Option NI :=
 (O1 p0 (ae p0)).bind fun y1 =>
 some ((y1.1.1,()),())
def YI:Su:=⟨[.io false [.sl 92 bw],.fn 93 []],[],true,.inl fun x=>Ut x.1.1⟩
theorem W7:ar Tryz.prog 92 YI :=
 fl (ac RG an) [] [] [0] Tryz.f92 di
def Ia (p0:List dj):Option (Unit×((List dj)×Unit)×Unit):=cond (cQ 32 ([]:List dj) p0) (some ((),((p0,()),()))) none
def EH:Su:=⟨[.c false [.sl 157 dH]],[(false,[.sl 157 dH])],true,.inl fun x=>Ia x.1.1⟩
def PZ:En:=⟨8,tt,iN [],[],fun _=>none,[],fun _=>none⟩
def MU (x:PT EH.ps):St:=⟨[(2,.v .nil),(0,.v (.d (.sl 157 dH) x.1.1))],[]⟩
theorem t161 (x:PT EH.ps) (b:Bool):((cy PZ (.seq (cU (dM (cU (ah Tryz.f161)))) (cU (cU (ah Tryz.f161)))) (((MU x).ay 3 (.v (.d (.sl 157 dH) x.1.1),none)).ay 4 (.v (.d .bool b),none))).bind (zW PZ Tryz.f161.results.toList EH.ps EH.rs EH.fresh)).run =
 cond b (some ((),(([],()),()))) (Ia x.1.1):=by kernel_rfl
theorem Ue:ar Tryz.prog 161 EH :=
 BU (E:=PZ) (kR hT) (cO (l:=[]) trivial) eG (fn:=Tryz.f161) (c0:=dM (ah Tryz.f161)) (cc:=cU (dM (cU (ah Tryz.f161)))) (c3:=cU (cU (ah Tryz.f161))) (id:=H3 (dM (dM (cU (ah Tryz.f161)))))
  (o1:=fA (dM (dM (cU (ah Tryz.f161)))) 0) (o2:=fA (dM (dM (cU (ah Tryz.f161)))) 1) (by kernel_rfl) (by kernel_rfl) (by kernel_rfl) rfl
  (bt (fun _=>rfl) _ (by kernel_rfl)) (bt (fun _=>rfl) _ (by kernel_rfl)) (bt (fun _=>rfl) _ (by kernel_rfl)) (t0:=0) (t3:=3) (t4:=4) (ty:=87) (ty':=87) (e:=157) (e':=157) (by':=24) (fl:=[]) (ks:=dH) (by kernel_rfl) (by kernel_rfl) (by kernel_rfl) (by kernel_rfl) (by kernel_rfl) (by kernel_rfl) (by kernel_rfl) (by kernel_rfl) (by kernel_rfl)
  MU (fun x=>x.1.1) (fun x=>by kernel_rfl) (fun x=>by kernel_rfl) fun x y hy b hb=>by
   refine ⟨y.1,fun _=>rfl,?_⟩
   rw [t161]
   have hy:Ia x.1.1=some y:=hy
   cases b with
   | false=>exact hy
   | true =>
     have he:x.1.1=([]:List dj):=hb rfl
     rw [he] at hy
     exact hy
def Fk (p0:List R3):Option (Unit×FJ×Unit):=cond (cQ 8 ([]:List R3) p0) (some ((),((p0,()),()))) none
def EW:Su:=⟨[.c false gD],[(false,gD)],true,.inl fun x=>Fk x.1.1⟩
def PR:En:=⟨8,tt,iN [],[],fun _=>none,[],fun _=>none⟩
def MO (x:PT EW.ps):St:=⟨[(2,.v .nil),(0,.v (.d (.sl 3 aK) x.1.1))],[]⟩
theorem t209 (x:PT EW.ps) (b:Bool):((cy PR (.seq (cU (dM (cU (ah Tryz.f209)))) (cU (cU (ah Tryz.f209)))) (((MO x).ay 3 (.v (.d (.sl 3 aK) x.1.1),none)).ay 4 (.v (.d .bool b),none))).bind (zW PR Tryz.f209.results.toList EW.ps EW.rs EW.fresh)).run =
 cond b (some ((),(([],()),()))) (Fk x.1.1):=by kernel_rfl
theorem QI:ar Tryz.prog 209 EW :=
 BU (E:=PR) (kR hT) (cO (l:=[]) trivial) eG (fn:=Tryz.f209) (c0:=dM (ah Tryz.f209)) (cc:=cU (dM (cU (ah Tryz.f209)))) (c3:=cU (cU (ah Tryz.f209))) (id:=H3 (dM (dM (cU (ah Tryz.f209)))))
  (o1:=fA (dM (dM (cU (ah Tryz.f209)))) 0) (o2:=fA (dM (dM (cU (ah Tryz.f209)))) 1) (by kernel_rfl) (by kernel_rfl) (by kernel_rfl) rfl
  (bt (fun _=>rfl) _ (by kernel_rfl)) (bt (fun _=>rfl) _ (by kernel_rfl)) (bt (fun _=>rfl) _ (by kernel_rfl)) (t0:=0) (t3:=3) (t4:=4) (ty:=53) (ty':=53) (e:=3) (e':=3) (by':=24) (fl:=[]) (ks:=aK) (by kernel_rfl) (by kernel_rfl) (by kernel_rfl) (by kernel_rfl) (by kernel_rfl) (by kernel_rfl) (by kernel_rfl) (by kernel_rfl) (by kernel_rfl)
  MO (fun x=>x.1.1) (fun x=>by kernel_rfl) (fun x=>by kernel_rfl) fun x y hy b hb=>by
   refine ⟨y.1,fun _=>rfl,?_⟩
   rw [t209]
   have hy:Fk x.1.1=some y:=hy
   cases b with
   | false=>exact hy
   | true =>
     have he:x.1.1=([]:List R3):=hb rfl
     rw [he] at hy
     exact hy
def Gd (p0:Int×Int×(List R3)×(List R3)×Unit):Option XY :=
 (Fk p0.2.2.1).bind fun y1 =>
 (Fk p0.2.2.2.1).bind fun y2 =>
 some ((),((p0.1,p0.2.1,y1.2.1.1,y2.2.1.1,()),()))
def WB:Su:=⟨[.c true [.int .i64,.int .i64,.sl 3 aK,.sl 3 aK]],[(true,[.int .i64,.int .i64,.sl 3 aK,.sl 3 aK])],true,.inl fun x=>Gd x.1⟩
theorem QR:ar Tryz.prog 162 WB :=
 fq (ac QI an) Tryz.f162
def Hl (p0:List R5):Option (Unit×((List R5)×Unit)×Unit):=cond (cQ 1 ([]:List R5) p0) (some ((),((p0,()),()))) none
def Fz:Su:=⟨[.c false [.sl 5 fz]],[(false,[.sl 5 fz])],true,.inl fun x=>Hl x.1.1⟩
def OE:En:=⟨8,tt,iN [],[],fun _=>none,[],fun _=>none⟩
def Nc (x:PT Fz.ps):St:=⟨[(2,.v .nil),(0,.v (.d (.sl 5 fz) x.1.1))],[]⟩
theorem t210 (x:PT Fz.ps) (b:Bool):((cy OE (.seq (cU (dM (cU (ah Tryz.f210)))) (cU (cU (ah Tryz.f210)))) (((Nc x).ay 3 (.v (.d (.sl 5 fz) x.1.1),none)).ay 4 (.v (.d .bool b),none))).bind (zW OE Tryz.f210.results.toList Fz.ps Fz.rs Fz.fresh)).run =
 cond b (some ((),(([],()),()))) (Hl x.1.1):=by kernel_rfl
theorem T8:ar Tryz.prog 210 Fz :=
 BU (E:=OE) (kR hT) (cO (l:=[]) trivial) eG (fn:=Tryz.f210) (c0:=dM (ah Tryz.f210)) (cc:=cU (dM (cU (ah Tryz.f210)))) (c3:=cU (cU (ah Tryz.f210))) (id:=H3 (dM (dM (cU (ah Tryz.f210)))))
  (o1:=fA (dM (dM (cU (ah Tryz.f210)))) 0) (o2:=fA (dM (dM (cU (ah Tryz.f210)))) 1) (by kernel_rfl) (by kernel_rfl) (by kernel_rfl) rfl
  (bt (fun _=>rfl) _ (by kernel_rfl)) (bt (fun _=>rfl) _ (by kernel_rfl)) (bt (fun _=>rfl) _ (by kernel_rfl)) (t0:=0) (t3:=3) (t4:=4) (ty:=62) (ty':=62) (e:=5) (e':=5) (by':=24) (fl:=[]) (ks:=fz) (by kernel_rfl) (by kernel_rfl) (by kernel_rfl) (by kernel_rfl) (by kernel_rfl) (by kernel_rfl) (by kernel_rfl) (by kernel_rfl) (by kernel_rfl)
  Nc (fun x=>x.1.1) (fun x=>by kernel_rfl) (fun x=>by kernel_rfl) fun x y hy b hb=>by
   refine ⟨y.1,fun _=>rfl,?_⟩
   rw [t210]
   have hy:Hl x.1.1=some y:=hy
   cases b with
   | false=>exact hy
   | true =>
     have he:x.1.1=([]:List R5):=hb rfl
     rw [he] at hy
     exact hy
def nP (t3 t7:List dh) (t8 t9:Int):Rd Uj Unit :=
 cond (au t9 t8) (
 cond (a7 t9 t7) (
 let u1:=(gt d160 t7 t9)
 (Hl u1.2.2.1).bind fun y1 =>
 cond (cQ 56 t3 [(u1.1,u1.2.1,y1.2.1.1,())]) (
 some (.inl ((lP t3 [(u1.1,u1.2.1,y1.2.1.1,())]),t7,t8,(aq .i64 t9 1),()))
 ) none
 ) none
 ) (
 some (.inr (.inl (t3,t7,t8,t9,())))
 )
def IL:=mZ (ai (cW nP))
def Kh (p0:List dh):Option Xd :=
 (IL [] p0 (ae p0) 0).bind (Sum.elim (fun y1 =>
 some ((),((y1.1,()),()))
 ) (fun y1 =>
 none
 ))
def XB:Su:=⟨[.c false [.sl 160 cV]],[(false,[.sl 160 cV])],true,.inl fun x=>Kh x.1.1⟩
theorem SW:ar Tryz.prog 163 XB :=
 fl (ac T8 an) [] [(0,⟨[.own 3 (.sl 160 cV),.d 7 (.sl 160 cV),.d 8 (.int .i64),.d 9 (.int .i64)],ai (cW nP)⟩)] [] Tryz.f163 (lp [0] (sc di sn))
def J8 (p0:(List UInt8)×Int×Int×Int×Int×(List dj)×Int×Int×(List R3)×(List R3)×(List dh)×Unit):Option Vq :=
 (Ia p0.2.2.2.2.2.1).bind fun y1 =>
 (Gd (p0.2.2.2.2.2.2.1,p0.2.2.2.2.2.2.2.1,p0.2.2.2.2.2.2.2.2.1,p0.2.2.2.2.2.2.2.2.2.1,())).bind fun y2 =>
 (Kh p0.2.2.2.2.2.2.2.2.2.2.1).bind fun y3 =>
 some ((),((p0.1,p0.2.1,p0.2.2.1,p0.2.2.2.1,p0.2.2.2.2.1,y1.2.1.1,y2.2.1.1,y2.2.1.2.1,y2.2.1.2.2.1,y2.2.1.2.2.2.1,y3.2.1.1,()),()))
def XU:Su:=⟨[.c true bw],[(true,bw)],true,.inl fun x=>J8 x.1⟩
theorem S4:ar Tryz.prog 122 XU :=
 fq (ac Ue (ac QR (ac SW an))) Tryz.f122
def oQ (f1:Unit) (t10:List dn) (t11 t12:Int) (b4 b5:(List dn)×Unit):Rd (Unit×(List dn)×Int×Int×Y4×Y4×Unit) Unit :=
 cond (au t12 t11) (
 cond (a7 t12 t10) (
 (J8 (gt d92 t10 t12)).bind fun y1 =>
 cond (cQ 160 b5.1 [y1.2.1]) (
 some (.inl ((),t10,t11,(aq .i64 t12 1),b4,((lP b5.1 [y1.2.1]),()),()))
 ) none
 ) none
 ) (
 some (.inr (.inl ((),t10,t11,t12,b4,b5,())))
 )
def Ge:=RH (ai (DY oQ))
def OR (p0:(List dn)×Unit):Option Sx :=
 (Ge () p0.1 (ae p0.1) 0 ([],()) ([],())).bind (Sum.elim (fun y1 =>
 some ((),(y1.2.2.2.2.2.1,()))
 ) (fun y1 =>
 none
 ))
def XJ:Su:=⟨[.c true [.sl 92 bw],.fn 122 []],[(true,[.sl 92 bw])],true,.inl fun x=>OR x.1⟩
theorem QM:ar Tryz.prog 121 XJ :=
 fl (ac S4 an) [] [(0,⟨[.fn 1 122 [],.d 10 (.sl 92 bw),.d 11 (.int .i64),.d 12 (.int .i64),.box 4 [(true,.sl 92 bw)],.box 5 [(true,.sl 92 bw)]],ai (DY oQ)⟩)] [] Tryz.f121 (lp [0] (sc di sn))
def Ux (p0:(List dn)×Unit):Option Sx :=
 (OR p0).bind fun y1 =>
 some ((),(y1.2.1,()))
def Zx:Su:=⟨[.c true [.sl 92 bw]],[(true,[.sl 92 bw])],true,.inl fun x=>Ux x.1⟩
theorem WZ:ar Tryz.prog 91 Zx :=
 fq (ac QM an) Tryz.f91
def vQ (t7:List gf) (t8 t9:Int) (b2 b3:(List dn)×Unit):Rd ((List gf)×Int×Int×Y4×Y4×Unit) Unit :=
 cond (au t9 t8) (
 cond (a7 t9 t7) (
 (Ux ((gt d67 t7 t9).2.1,())).bind fun y1 =>
 cond (cQ 160 b3.1 y1.2.1.1) (
 some (.inl (t7,t8,(aq .i64 t9 1),b2,((lP b3.1 y1.2.1.1),()),()))
 ) none
 ) none
 ) (
 some (.inr (.inl (t7,t8,t9,b2,b3,())))
 )
def Mw:=wY (ai (ft vQ))
def PO (p0:List gf):Option Sx :=
 (Mw p0 (ae p0) 0 ([],()) ([],())).bind (Sum.elim (fun y1 =>
 (Ut y1.2.2.2.2.1.1).bind fun y2 =>
 some ((),(y2.1.1,()))
 ) (fun y1 =>
 none
 ))
def YK:Su:=⟨[.c false [.sl 67 cT]],[(true,[.sl 92 bw])],true,.inl fun x=>PO x.1.1⟩
theorem V2:ar Tryz.prog 68 YK :=
 fl (ac W7 (ac WZ an)) [] [(0,⟨[.d 7 (.sl 67 cT),.d 8 (.int .i64),.d 9 (.int .i64),.box 2 [(true,.sl 92 bw)],.box 3 [(true,.sl 92 bw)]],ai (ft vQ)⟩)] [] Tryz.f68 (lp [0] (sc di sn))
def pj (t0:List UInt8) (t5 t6:Int):Rd Qe Y1 :=
 cond (au t6 t5) (
 cond (a7 t6 t0) (
 let u1:=(dm t0 t6)
 cond (au u1 48) (
 some (.inr (.inr (false,())))
 ) (
 cond (a7 t6 t0) (
 cond (au 57 u1) (
 some (.inr (.inr (false,())))
 ) (
 some (.inl (t0,t5,(aq .i64 t6 1),()))
 )
 ) none
 )
 ) none
 ) (
 some (.inr (.inl (t0,t5,t6,())))
 )
def HD:=qd (ai (fc pj))
def sI (p0:List UInt8):Option dZ :=
 (HD p0 (ae p0) 0).bind (Sum.elim (fun y1 =>
 some ((),(((!(bY y1.1 [])),()),()))
 ) (fun y1 =>
 some ((),(y1,()))
 ))
def Wk:Su:=⟨[.c false [.str]],[(false,[.bool])],true,.inl fun x=>sI x.1.1⟩
theorem xO:ar Tryz.prog 190 Wk :=
 fl an [.d 2 (.bool)] [(0,⟨[.d 0 (.str),.d 5 (.int .i64),.d 6 (.int .i64)],ai (fc pj)⟩)] [] Tryz.f190 (lp [0] (sc di sn))
def rk (t0:List UInt8) (t3:Int) (t4:Bool) (t5:Int):Rd ((List UInt8)×Int×Bool×Int×Unit) Unit :=
 cond (bz 0 t5) (
 cond (a7 t5 t0) (
 cond t4 (
 let u1:=(bP .i64 (aH .u8 (dm t0 t5) 48))
 let u2:=(iq .i64 u1 2)
 cond (au 9 u2) (
 let u3:=(aH .i64 t5 1)
 some (.inl (t0,(aq .i64 t3 (aH .i64 u2 9)),(!t4),u3,()))
 ) (
 let u3:=(aH .i64 t5 1)
 some (.inl (t0,(aq .i64 t3 u2),(!t4),u3,()))
 )
 ) (
 let u1:=(bP .i64 (aH .u8 (dm t0 t5) 48))
 let u2:=(aH .i64 t5 1)
 some (.inl (t0,(aq .i64 t3 u1),(!t4),u2,()))
 )
 ) none
 ) (
 some (.inr (.inl (t0,t3,t4,t5,())))
 )
def Gn:=mZ (ai (cW rk))
def LX (p0:List UInt8):Option j5 :=
 (sI p0).bind fun y1 =>
 cond (!y1.2.1.1) (
 some ((),(((-1),()),()))
 ) (
 (Gn p0 0 true (aH .i64 (ae p0) 1)).bind (Sum.elim (fun y2 =>
 some ((),(((gH (aH .i64 10 (gH y2.2.1 10)) 10),()),()))
 ) (fun y2 =>
 none
 ))
 )
def Vh:Su:=⟨[.c false [.str]],[(false,aK)],true,.inl fun x=>LX x.1.1⟩
theorem QH:ar Tryz.prog 191 Vh :=
 fl (ac xO an) [] [(0,⟨[.d 0 (.str),.d 3 (.int .i64),.d 4 (.bool),.d 5 (.int .i64)],ai (cW rk)⟩)] [] Tryz.f191 (lp [0] (sc di sn))
def JW (p0:List UInt8):Option dZ :=
 let u1:=(aH .i64 (ae p0) 1)
 cond (bz 1 u1) (
 (sI p0).bind fun y1 =>
 cond y1.2.1.1 (
 cond (dJ 0 u1 p0) (
 (LX (sub p0 0 u1)).bind fun y2 =>
 cond (a7 u1 p0) (
 some ((),(((aj y2.2.1.1 (bP .i64 (aH .u8 (dm p0 u1) 48))),()),()))
 ) none
 ) none
 ) (
 some ((),((false,()),()))
 )
 ) (
 some ((),((false,()),()))
 )
def Xy:Su:=⟨[.c false [.str]],[(false,[.bool])],true,.inl fun x=>JW x.1.1⟩
theorem Tv:ar Tryz.prog 141 Xy :=
 fq (ac xO (ac QH an)) Tryz.f141
def qX (p0:List UInt8):Option dZ :=
 cond (bz (ae p0) 19) (
 (JW p0).bind fun y1 =>
 some ((),(y1.2.1,()))
 ) (
 some ((),((false,()),()))
 )
def Vb:Su:=⟨[.c false [.str]],[(false,[.bool])],true,.inl fun x=>qX x.1.1⟩
theorem Mq:ar Tryz.prog 106 Vb :=
 fq (ac Tv an) Tryz.f106
def Lk (p0:Int):Option dZ :=
 (na p0 0 4611686018427387904).bind fun y1 =>
 some ((),(y1.2.1,()))
def Xn:Su:=⟨[.c false aK],[(false,[.bool])],true,.inl fun x=>Lk x.1.1⟩
theorem Nl:ar Tryz.prog 107 Xn :=
 fq (ac ni an) Tryz.f107
def pg (t0:List UInt8) (t5 t6:Int):Rd Qe Y1 :=
 cond (au t6 t5) (
 cond (a7 t6 t0) (
 let u1:=(dm t0 t6)
 cond (au u1 48) (
 cond (a7 t6 t0) (
 cond (au u1 97) (
 some (.inr (.inr (false,())))
 ) (
 cond (a7 t6 t0) (
 cond (au 122 u1) (
 some (.inr (.inr (false,())))
 ) (
 some (.inl (t0,t5,(aq .i64 t6 1),()))
 )
 ) none
 )
 ) none
 ) (
 cond (a7 t6 t0) (
 cond (au 57 u1) (
 cond (a7 t6 t0) (
 cond (au u1 97) (
 some (.inr (.inr (false,())))
 ) (
 cond (a7 t6 t0) (
 cond (au 122 u1) (
 some (.inr (.inr (false,())))
 ) (
 some (.inl (t0,t5,(aq .i64 t6 1),()))
 )
 ) none
 )
 ) none
 ) (
 some (.inl (t0,t5,(aq .i64 t6 1),()))
 )
 ) none
 )
 ) none
 ) (
 some (.inr (.inl (t0,t5,t6,())))
 )
def He:=qd (ai (fc pg))
def Jo (p0:List UInt8):Option dZ :=
 (He p0 (ae p0) 0).bind (Sum.elim (fun y1 =>
 (na (ae y1.1) 1 6).bind fun y2 =>
 some ((),(y2.2.1,()))
 ) (fun y1 =>
 some ((),(y1,()))
 ))
def Vf:Su:=⟨[.c false [.str]],[(false,[.bool])],true,.inl fun x=>Jo x.1.1⟩
theorem ND:ar Tryz.prog 192 Vf :=
 fl (ac ni an) [.d 2 (.bool)] [(0,⟨[.d 0 (.str),.d 5 (.int .i64),.d 6 (.int .i64)],ai (fc pg)⟩)] [] Tryz.f192 (lp [0] (sc di sn))
def tj (p0:Int):Option dZ :=
 (na p0 0 1000000000).bind fun y1 =>
 some ((),(y1.2.1,()))
def Ze:Su:=⟨[.c false aK],[(false,[.bool])],true,.inl fun x=>tj x.1.1⟩
theorem Ly:ar Tryz.prog 38 Ze :=
 fq (ac ni an) Tryz.f38
def Lj (p0:(List UInt8)×Int×Int×Unit):Option dZ :=
 (Jo p0.1).bind fun y1 =>
 cond y1.2.1.1 (
 (na p0.2.1 1 9007199254740992).bind fun y2 =>
 cond y2.2.1.1 (
 (tj p0.2.2.1).bind fun y3 =>
 some ((),(y3.2.1,()))
 ) (
 some ((),((false,()),()))
 )
 ) (
 some ((),((false,()),()))
 )
def Xx:Su:=⟨[.c true iZ],[(false,[.bool])],true,.inl fun x=>Lj x.1⟩
theorem Tk:ar Tryz.prog 142 Xx :=
 fq (ac ni (ac ND (ac Ly an))) Tryz.f142
def oP (t0 t5:List dj) (t6 t7:Int):Rd ((List dj)×(List dj)×Int×Int×Unit) Y1 :=
 cond (au t7 t6) (
 cond (a7 t7 t5) (
 let u1:=(gt d157 t5 t7)
 (Lj u1).bind fun y1 =>
 cond (!y1.2.1.1) (
 some (.inr (.inr (false,())))
 ) (
 cond (au 0 t7) (
 let u2:=(aH .i64 t7 1)
 cond (a7 u2 t0) (
 cond (PX u1.1 (gt d157 t0 u2).1) (
 some (.inr (.inr (false,())))
 ) (
 some (.inl (t0,t5,t6,(aq .i64 t7 1),()))
 )
 ) none
 ) (
 some (.inl (t0,t5,t6,(aq .i64 t7 1),()))
 )
 )
 ) none
 ) (
 some (.inr (.inl (t0,t5,t6,t7,())))
 )
def F7:=mZ (ai (cW oP))
def Kf (p0:List dj):Option dZ :=
 (F7 p0 p0 (ae p0) 0).bind (Sum.elim (fun y1 =>
 some ((),(((bz (ae y1.1) 4),()),()))
 ) (fun y1 =>
 some ((),(y1,()))
 ))
def Wb:Su:=⟨[.c false [.sl 157 dH]],[(false,[.bool])],true,.inl fun x=>Kf x.1.1⟩
theorem Tf:ar Tryz.prog 108 Wb :=
 fl (ac Tk an) [.d 2 (.bool)] [(0,⟨[.d 0 (.sl 157 dH),.d 5 (.sl 157 dH),.d 6 (.int .i64),.d 7 (.int .i64)],ai (cW oP)⟩)] [] Tryz.f108 (lp [0] (sc di sn))
def Kb (p1:Int):Option Mf :=
 cond (au p1 0) (
 none
 ) (
 let u1:=(aH .i64 p1 (aH .i64 0 0))
 cond (au 0 u1) (
 cond (Rl 0 0) (
 cond (VZ 8 u1) (
 let u2:=(vJ d3 u1)
 cond (dJ 0 0 u2) (
 some ((),(((NB u2 0),()),()))
 ) none
 ) none
 ) none
 ) (
 some ((),(([],()),()))
 )
 )
def XX:Su:=⟨[.nil,.c false aK],[(false,gD)],true,.inl fun x=>Kb x.1.1⟩
theorem RF:ar Tryz.prog 193 XX :=
 fq an Tryz.f193
def qP (t0:List FJ) (t3:Int) (t9:List FJ) (t10 t11:Int):Rd ((List FJ)×Int×(List FJ)×Int×Int×Unit) Unit :=
 cond (au t11 t10) (
 cond (a7 t11 t9) (
 let u1:=(aq .i64 t3 (ae (gt d53 t9 t11).1))
 cond (au u1 0) (
 none
 ) (
 some (.inl (t0,u1,t9,t10,(aq .i64 t11 1),()))
 )
 ) none
 ) (
 some (.inr (.inl (t0,t3,t9,t10,t11,())))
 )
def Cy:=wY (ai (ft qP))
def ru (t6:List R3) (t25:List FJ) (t26 t27:Int):Rd ((List R3)×(List FJ)×Int×Int×Unit) Unit :=
 cond (au t27 t26) (
 cond (a7 t27 t25) (
 cond (cQ 8 t6 (gt d53 t25 t27).1) (
 some (.inl ((lP t6 (gt d53 t25 t27).1),t25,t26,(aq .i64 t27 1),()))
 ) none
 ) none
 ) (
 some (.inr (.inl (t6,t25,t26,t27,())))
 )
def CN:=mZ (ai (cW ru))
def KF (p0:List FJ):Option Mf :=
 (Cy p0 0 p0 (ae p0) 0).bind (Sum.elim (fun y1 =>
 (Kb y1.2.1).bind fun y2 =>
 (CN y2.2.1.1 y1.1 (ae y1.1) 0).bind (Sum.elim (fun y3 =>
 some ((),((y3.1,()),()))
 ) (fun y3 =>
 none
 ))
 ) (fun y1 =>
 none
 ))
def XG:Su:=⟨[.c false [.sl 53 gD]],[(false,gD)],true,.inl fun x=>KF x.1.1⟩
theorem Rg:ar Tryz.prog 143 XG :=
 fl (ac RF an) [] [(0,⟨[.d 0 (.sl 53 gD),.d 3 (.int .i64),.d 9 (.sl 53 gD),.d 10 (.int .i64),.d 11 (.int .i64)],ai (ft qP)⟩),(2,⟨[.own 6 (.sl 3 aK),.d 25 (.sl 53 gD),.d 26 (.int .i64),.d 27 (.int .i64)],ai (cW ru)⟩)] [] Tryz.f143 (lp [0,2] (sc di (sc di sn)))
def nB (t3:Int) (t14:List R3) (t15 t16:Int) (b1:Int×Int×(List R3)×(List R3)×Unit):Rd (Int×(List R3)×Int×Int×(Int×Int×(List R3)×(List R3)×Unit)×Unit) Y1 :=
 cond (au t16 t15) (
 cond (a7 t16 t14) (
 (Lk (gt d3 t14 t16).1).bind fun y1 =>
 cond (!y1.2.1.1) (
 some (.inr (.inr (false,())))
 ) (
 some (.inl (t3,t14,t15,(aq .i64 t16 1),b1,()))
 )
 ) none
 ) (
 some (.inr (.inl (t3,t14,t15,t16,b1,())))
 )
def I1:=wY (ai (ft nB))
def G8 (p0:Int×Int×(List R3)×(List R3)×Unit):Option dZ :=
 (KF [(p0.2.2.1,()),(p0.2.2.2.1,())]).bind fun y1 =>
 (I1 (ae p0.2.2.1) y1.2.1.1 (ae y1.2.1.1) 0 p0).bind (Sum.elim (fun y2 =>
 (na y2.2.2.2.2.1.1 1 1000).bind fun y3 =>
 cond y3.2.1.1 (
 (na y2.1 1 8).bind fun y4 =>
 cond (cond y4.2.1.1 (aj (ae y2.2.2.2.2.1.2.2.2.1) y2.1) false) (
 (tj y2.2.2.2.2.1.2.1).bind fun y5 =>
 some ((),(y5.2.1,()))
 ) (
 some ((),((false,()),()))
 )
 ) (
 some ((),((false,()),()))
 )
 ) (fun y2 =>
 some ((),(y2,()))
 ))
def Wi:Su:=⟨[.c true [.int .i64,.int .i64,.sl 3 aK,.sl 3 aK]],[(false,[.bool])],true,.inl fun x=>G8 x.1⟩
theorem Rx:ar Tryz.prog 109 Wi :=
 fl (ac ni (ac Nl (ac Ly (ac Rg an)))) [.d 2 (.bool)] [(0,⟨[.d 3 (.int .i64),.own 14 (.sl 3 aK),.d 15 (.int .i64),.d 16 (.int .i64),.box 1 [(false,.int .i64),(false,.int .i64),(false,.sl 3 aK),(false,.sl 3 aK)]],ai (ft nB)⟩)] [] Tryz.f109 (lp [0] (sc di sn))
def vc (p0:List UInt8) (p1:Int):Option dZ :=
 (sI p0).bind fun y1 =>
 some ((),(((cond y1.2.1.1 (aj (ae p0) p1) false),()),()))
def Ws:Su:=⟨[.c false [.str],.c false aK],[(false,[.bool])],true,.inl fun x=>vc x.1.1 x.2.1.1⟩
theorem It:ar Tryz.prog 194 Ws :=
 fq (ac xO an) Tryz.f194
def KA (p0:(List UInt8)×(List UInt8)×(List R5)×Unit):Option dZ :=
 (vc p0.1 6).bind fun y1 =>
 cond y1.2.1.1 (
 (vc p0.2.1 4).bind fun y2 =>
 cond y2.2.1.1 (
 (na (ae p0.2.2.1) 1 200).bind fun y3 =>
 some ((),(y3.2.1,()))
 ) (
 some ((),((false,()),()))
 )
 ) (
 some ((),((false,()),()))
 )
def WI:Su:=⟨[.c true iD],[(false,[.bool])],true,.inl fun x=>KA x.1⟩
theorem T2:ar Tryz.prog 144 WI :=
 fq (ac ni (ac It an)) Tryz.f144
def NW (p0:(List UInt8)×(List UInt8)×(List R5)×Unit) (p1 p2:(List UInt8)×Unit):Option dZ :=
 some ((),(((cond (bY p0.1 p1.1) (bY p0.2.1 p2.1) false),()),()))
def V9:Su:=⟨[.c true iD,.pt [.str],.pt [.str]],[(false,[.bool])],true,.inl fun x=>NW x.1 x.2.1 x.2.2.1⟩
theorem Sg:ar Tryz.prog 196 V9 :=
 fq an Tryz.f196
def oK (t0:List dh) (f1:Y6×Y6×Unit) (t7 t8:Int):Rd ((List dh)×(Y6×Y6×Unit)×Int×Int×Unit) Y0 :=
 cond (au t8 t7) (
 cond (a7 t8 t0) (
 (NW (gt d160 t0 t8) f1.1 f1.2.1).bind fun y1 =>
 cond y1.2.1.1 (
 some (.inr (.inr (t8,())))
 ) (
 some (.inl (t0,f1,t7,(aq .i64 t8 1),()))
 )
 ) none
 ) (
 some (.inr (.inl (t0,f1,t7,t8,())))
 )
def F3:=mZ (ai (cW oK))
def Od (p0:List dh) (c1_0 c1_1:(List UInt8)×Unit):Option j5 :=
 (F3 p0 (c1_0,c1_1,()) (ae p0) 0).bind (Sum.elim (fun y1 =>
 some ((),(((-1),()),()))
 ) (fun y1 =>
 some ((),(y1,()))
 ))
def Xh:Su:=⟨[.c false [.sl 160 cV],.fn 196 [.p [.str],.p [.str]]],[(false,aK)],true,.inl fun x=>Od x.1.1 x.2.1.1 x.2.1.2.1⟩
theorem Rc:ar Tryz.prog 195 Xh :=
 fl (ac Sg an) [.d 4 (.int .i64)] [(0,⟨[.d 0 (.sl 160 cV),.fn 1 196 [.p [.str],.p [.str]],.d 7 (.int .i64),.d 8 (.int .i64)],ai (cW oK)⟩)] [] Tryz.f195 (lp [0] (sc di sn))
def JZ (p0:List dh) (p1 p2:List UInt8):Option j5 :=
 (Od p0 (p1,()) (p2,())).bind fun y1 =>
 some ((),(y1.2.1,()))
def V8:Su:=⟨[.c false [.sl 160 cV],.c false [.str],.c false [.str]],[(false,aK)],true,.inl fun x=>JZ x.1.1 x.2.1.1 x.2.2.1.1⟩
theorem Q0:ar Tryz.prog 145 V8 :=
 fq (ac Rc an) Tryz.f145
def nW (t0 t5:List dh) (t6 t7:Int):Rd Uj Y1 :=
 cond (au t7 t6) (
 cond (a7 t7 t5) (
 let u1:=(gt d160 t5 t7)
 (KA u1).bind fun y1 =>
 cond (!y1.2.1.1) (
 some (.inr (.inr (false,())))
 ) (
 (JZ t0 u1.1 u1.2.1).bind fun y2 =>
 cond (!(aj y2.2.1.1 t7)) (
 some (.inr (.inr (false,())))
 ) (
 some (.inl (t0,t5,t6,(aq .i64 t7 1),()))
 )
 )
 ) none
 ) (
 some (.inr (.inl (t0,t5,t6,t7,())))
 )
def GL:=mZ (ai (cW nW))
def Kd (p0:List dh):Option dZ :=
 (GL p0 p0 (ae p0) 0).bind (Sum.elim (fun y1 =>
 some ((),(((bz (ae y1.1) 6),()),()))
 ) (fun y1 =>
 some ((),(y1,()))
 ))
def Xa:Su:=⟨[.c false [.sl 160 cV]],[(false,[.bool])],true,.inl fun x=>Kd x.1.1⟩
theorem RT:ar Tryz.prog 110 Xa :=
 fl (ac T2 (ac Q0 an)) [.d 2 (.bool)] [(0,⟨[.d 0 (.sl 160 cV),.d 5 (.sl 160 cV),.d 6 (.int .i64),.d 7 (.int .i64)],ai (cW nW)⟩)] [] Tryz.f110 (lp [0] (sc di sn))
def GC (p0 p1:Int):Option j5 :=
 let u1:=(FD 0 (ES p1 4611686018427387904))
 let u2:=(FD 0 (ES p0 4611686018427387904))
 cond (au (aH .i64 4611686018427387904 u1) u2) (
 some ((),((4611686018427387904,()),()))
 ) (
 some ((),(((aq .i64 u2 u1),()),()))
 )
def V7:Su:=⟨[.c false aK,.c false aK],[(false,aK)],true,.inl fun x=>GC x.1.1 x.2.1.1⟩
theorem MY:ar Tryz.prog 111 V7 :=
 fq an Tryz.f111
def nJ (t3:Int) (t6:List dj) (t7 t8:Int):Rd (Int×(List dj)×Int×Int×Unit) Unit :=
 cond (au t8 t7) (
 cond (a7 t8 t6) (
 (GC t3 (gt d157 t6 t8).2.1).bind fun y1 =>
 some (.inl (y1.2.1.1,t6,t7,(aq .i64 t8 1),()))
 ) none
 ) (
 some (.inr (.inl (t3,t6,t7,t8,())))
 )
def Gj:=mZ (ai (cW nJ))
def K1 (p0:List dj):Option j5 :=
 (Gj 0 p0 (ae p0) 0).bind (Sum.elim (fun y1 =>
 some ((),((y1.1,()),()))
 ) (fun y1 =>
 none
 ))
def Vg:Su:=⟨[.c false [.sl 157 dH]],[(false,aK)],true,.inl fun x=>K1 x.1.1⟩
theorem Sb:ar Tryz.prog 112 Vg :=
 fl (ac MY an) [] [(0,⟨[.d 3 (.int .i64),.d 6 (.sl 157 dH),.d 7 (.int .i64),.d 8 (.int .i64)],ai (cW nJ)⟩)] [] Tryz.f112 (lp [0] (sc di sn))
def UG (p0:(List UInt8)×Int×Int×Int×Int×(List dj)×Int×Int×(List R3)×(List R3)×(List dh)×Unit):Option dZ :=
 (qX p0.1).bind fun y1 =>
 cond y1.2.1.1 (
 (na p0.2.1 0 9007199254740992).bind fun y2 =>
 cond y2.2.1.1 (
 (na p0.2.2.2.1 0 1000).bind fun y3 =>
 cond y3.2.1.1 (
 (na p0.2.2.2.2.1 0 9007199254740992).bind fun y4 =>
 cond y4.2.1.1 (
 (Lk p0.2.2.1).bind fun y5 =>
 cond y5.2.1.1 (
 (Kf p0.2.2.2.2.2.1).bind fun y6 =>
 cond y6.2.1.1 (
 (G8 (p0.2.2.2.2.2.2.1,p0.2.2.2.2.2.2.2.1,p0.2.2.2.2.2.2.2.2.1,p0.2.2.2.2.2.2.2.2.2.1,())).bind fun y7 =>
 cond y7.2.1.1 (
 (Kd p0.2.2.2.2.2.2.2.2.2.2.1).bind fun y8 =>
 cond y8.2.1.1 (
 (K1 p0.2.2.2.2.2.1).bind fun y9 =>
 (GC p0.2.2.1 y9.2.1.1).bind fun y10 =>
 some ((),(((bz y10.2.1.1 p0.2.1),()),()))
 ) (
 some ((),((false,()),()))
 )
 ) (
 some ((),((false,()),()))
 )
 ) (
 some ((),((false,()),()))
 )
 ) (
 some ((),((false,()),()))
 )
 ) (
 some ((),((false,()),()))
 )
 ) (
 some ((),((false,()),()))
 )
 ) (
 some ((),((false,()),()))
 )
 ) (
 some ((),((false,()),()))
 )
def Yn:Su:=⟨[.c true bw],[(false,[.bool])],true,.inl fun x=>UG x.1⟩
theorem Xo:ar Tryz.prog 78 Yn :=
 fq (ac ni (ac Mq (ac Nl (ac Tf (ac Rx (ac RT (ac MY (ac Sb an)))))))) Tryz.f78
def uE (t6:List dn) (t7 t8:Int) (b1:(List dn)×Unit):Rd ((List dn)×Int×Int×Y4×Unit) Y1 :=
 cond (au t8 t7) (
 cond (a7 t8 t6) (
 let u1:=(gt d92 t6 t8)
 (UG u1).bind fun y1 =>
 cond (!y1.2.1.1) (
 some (.inr (.inr (false,())))
 ) (
 cond (au 0 t8) (
 let u2:=(aH .i64 t8 1)
 cond (a7 u2 b1.1) (
 cond (PX u1.1 (gt d92 b1.1 u2).1) (
 some (.inr (.inr (false,())))
 ) (
 some (.inl (t6,t7,(aq .i64 t8 1),b1,()))
 )
 ) none
 ) (
 some (.inl (t6,t7,(aq .i64 t8 1),b1,()))
 )
 )
 ) none
 ) (
 some (.inr (.inl (t6,t7,t8,b1,())))
 )
def NG:=mZ (ai (cW uE))
def QJ (p0:(List dn)×Unit):Option dZ :=
 (NG p0.1 (ae p0.1) 0 p0).bind (Sum.elim (fun y1 =>
 some ((),(((bz (ae y1.2.2.2.1.1) 6),()),()))
 ) (fun y1 =>
 some ((),(y1,()))
 ))
def YV:Su:=⟨[.c true [.sl 92 bw]],[(false,[.bool])],true,.inl fun x=>QJ x.1⟩
theorem Ww:ar Tryz.prog 51 YV :=
 fl (ac Xo an) [.d 2 (.bool)] [(0,⟨[.d 6 (.sl 92 bw),.d 7 (.int .i64),.d 8 (.int .i64),.box 1 [(false,.sl 92 bw)]],ai (cW uE)⟩)] [] Tryz.f51 (lp [0] (sc di sn))
def uj (t0:List UInt8) (t3 t6 t7:Int):Rd ((List UInt8)×Int×Int×Int×Unit) Unit :=
 cond (au t7 t6) (
 cond (a7 t7 t0) (
 some (.inl (t0,(iq .u32 (zJ .u32 t3 (bP .u32 (dm t0 t7))) 16777619),t6,(aq .i64 t7 1),()))
 ) none
 ) (
 some (.inr (.inl (t0,t3,t6,t7,())))
 )
def Ms:=mZ (ai (cW uj))
def Uv (p0:List UInt8):Option j5 :=
 (Ms p0 2166136261 (ae p0) 0).bind (Sum.elim (fun y1 =>
 some ((),(((bP .i64 y1.2.1),()),()))
 ) (fun y1 =>
 none
 ))
def YY:Su:=⟨[.c false [.str]],[(false,aK)],true,.inl fun x=>Uv x.1.1⟩
theorem XS:ar Tryz.prog 90 YY :=
 fl an [] [(0,⟨[.d 0 (.str),.d 3 (.int .u32),.d 6 (.int .i64),.d 7 (.int .i64)],ai (cW uj)⟩)] [] Tryz.f90 (lp [0] (sc di sn))
def Tq (p0:List UInt8) (p1:Int):Option j5 :=
 cond (au p1 1) (
 some ((),((0,()),()))
 ) (
 (Uv p0).bind fun y1 =>
 cond (!(aj p1 0)) (
 some ((),(((gH y1.2.1.1 p1),()),()))
 ) none
 )
def Zj:Su:=⟨[.c false [.str],.c false aK],[(false,aK)],true,.inl fun x=>Tq x.1.1 x.2.1.1⟩
theorem TS:ar Tryz.prog 67 Zj :=
 fq (ac XS an) Tryz.f67
def uw (t0:List gf) (t3:Int) (t7:List gf) (t8 t9:Int) (t19:List dn) (t20 t21:Int) (b4:Int×(List dn)×Unit):Rd ((List gf)×Int×(List gf)×Int×Int×(List dn)×Int×Int×Y8×Unit) Y1 :=
 cond (au t21 t20) (
 cond (a7 t21 t19) (
 (Tq (gt d92 t19 t21).1 (ae t0)).bind fun y1 =>
 cond (!(aj y1.2.1.1 t3)) (
 some (.inr (.inr (false,())))
 ) (
 cond (au 0 t21) (
 let u1:=(aH .i64 t21 1)
 cond (a7 u1 b4.2.1) (
 cond (PX (gt d92 t19 t21).1 (gt d92 b4.2.1 u1).1) (
 some (.inr (.inr (false,())))
 ) (
 some (.inl (t0,t3,t7,t8,t9,t19,t20,(aq .i64 t21 1),b4,()))
 )
 ) none
 ) (
 some (.inl (t0,t3,t7,t8,t9,t19,t20,(aq .i64 t21 1),b4,()))
 )
 )
 ) none
 ) (
 some (.inr (.inl (t0,t3,t7,t8,t9,t19,t20,t21,b4,())))
 )
def Nn:=R7 (ai (CC uw))
def vX (t0 t7:List gf) (t8 t9:Int):Rd ((List gf)×(List gf)×Int×Int×Unit) Y1 :=
 cond (au t9 t8) (
 cond (a7 t9 t7) (
 let u1:=(gt d67 t7 t9)
 (na u1.1 (-1) 11).bind fun y1 =>
 cond (!y1.2.1.1) (
 some (.inr (.inr (false,())))
 ) (
 (Nn t0 t9 t7 t8 t9 u1.2.1 (ae u1.2.1) 0 u1).bind (Sum.elim (fun y2 =>
 some (.inl (y2.1,y2.2.2.1,y2.2.2.2.1,(aq .i64 y2.2.2.2.2.1 1),()))
 ) (fun y2 =>
 some (.inr (.inr (y2.1,())))
 ))
 )
 ) none
 ) (
 some (.inr (.inl (t0,t7,t8,t9,())))
 )
def Qw:=mZ (ai (cW vX))
def UL (p0:List gf):Option dZ :=
 (Qw p0 p0 (ae p0) 0).bind (Sum.elim (fun y1 =>
 (na (ae y1.1) 1 5).bind fun y2 =>
 cond y2.2.1.1 (
 (PO y1.1).bind fun y3 =>
 (QJ y3.2.1).bind fun y4 =>
 some ((),(y4.2.1,()))
 ) (
 some ((),((false,()),()))
 )
 ) (fun y1 =>
 some ((),(y1,()))
 ))
def Yy:Su:=⟨[.c false [.sl 67 cT]],[(false,[.bool])],true,.inl fun x=>UL x.1.1⟩
theorem Vr:ar Tryz.prog 37 Yy :=
 fl (ac ni (ac V2 (ac Ww (ac TS an)))) [.d 2 (.bool)] [(2,⟨[.d 0 (.sl 67 cT),.d 3 (.int .i64),.d 7 (.sl 67 cT),.d 8 (.int .i64),.d 9 (.int .i64),.d 19 (.sl 92 bw),.d 20 (.int .i64),.d 21 (.int .i64),.box 4 [(false,.int .i64),(false,.sl 92 bw)]],ai (CC uw)⟩),(0,⟨[.d 0 (.sl 67 cT),.d 7 (.sl 67 cT),.d 8 (.int .i64),.d 9 (.int .i64)],ai (cW vX)⟩)] [] Tryz.f37 (lp [0] (sc (lp [2] (sc di sn)) sn))
def TN (p0:Int):Option Oy :=
 (na p0 0 5).bind fun y1 =>
 cond (!y1.2.1.1) (
 some ((),(([],()),()))
 ) (
 cond (a7 p0 [([114,101,97,100],()),([108,111,99,107],()),([119,111,114,107],()),([102,114,101,101],()),([115,101,110,100],()),([100,111,110,101],())]) (
 some ((),((gt d9 [([114,101,97,100],()),([108,111,99,107],()),([119,111,114,107],()),([102,114,101,101],()),([115,101,110,100],()),([100,111,110,101],())] p0),()))
 ) none
 )
def Zq:Su:=⟨[.c false aK],[(false,[.str])],true,.inl fun x=>TN x.1.1⟩
theorem XN:ar Tryz.prog 69 Zq :=
 fq (ac ni an) Tryz.f69
def yE (p0:List R5) (p1 p2:Int):Option (Unit×(((List R5)×Unit)×Y1×Unit)) :=
 let u1:=(ae p0)
 (na p1 0 u1).bind fun y1 =>
 cond (cond (cond (!y1.2.1.1) true (au p2 0)) true (au (aH .i64 u1 p1) p2)) (
 some ((),(([],()),(false,()),()))
 ) (
 let u2:=(aq .i64 p1 p2)
 cond (dJ p1 u2 p0) (
 some ((),(((sub p0 p1 u2),()),(true,()),()))
 ) none
 )
def Xr:Su:=⟨[.c false [.sl 5 fz],.c false aK,.c false aK],[(false,[.sl 5 fz]),(false,[.bool])],false,.inl fun x=>yE x.1.1 x.2.1.1 x.2.2.1.1⟩
theorem Jh:ar Tryz.prog 223 Xr :=
 fq (ac ni an) Tryz.f223
def nH (t1 t2:Int) (t9:List R5) (t10:Bool) (t11 t27:List R5) (t28 t29:Int):Rd (Int×Int×(List R5)×Bool×(List R5)×(List R5)×Int×Int×Unit) Unit :=
 cond (au t29 t28) (
 cond (a7 t29 t27) (
 cond (cQ 1 t11 [((aq .u8 48 (ib .u8 (gt d5 t27 t29).1 4)),()),((aq .u8 48 (yP .u8 (gt d5 t27 t29).1 15)),())]) (
 some (.inl (t1,t2,t9,t10,(lP t11 [((aq .u8 48 (ib .u8 (gt d5 t27 t29).1 4)),()),((aq .u8 48 (yP .u8 (gt d5 t27 t29).1 15)),())]),t27,t28,(aq .i64 t29 1),()))
 ) none
 ) none
 ) (
 some (.inr (.inl (t1,t2,t9,t10,t11,t27,t28,t29,())))
 )
def Ha:=Qf (ai (xQ nH))
def yD (p0:List R5) (p1 p2:Int):Option Um :=
 (na p2 1 38).bind fun y1 =>
 cond (!y1.2.1.1) (
 some ((),(([],()),(0,()),(false,()),()))
 ) (
 (yE p0 p1 (n9 .i64 (aq .i64 p2 1) 2)).bind fun y2 =>
 (Ha p1 p2 y2.2.1.1 y2.2.2.1.1 [] y2.2.1.1 (ae y2.2.1.1) 0).bind (Sum.elim (fun y3 =>
 cond (!y3.2.2.2.1) (
 some ((),(([],()),(0,()),(false,()),()))
 ) (
 (sI (strOf y3.2.2.2.2.1)).bind fun y4 =>
 cond (!y4.2.1.1) (
 some ((),(([],()),(0,()),(false,()),()))
 ) (
 cond (aj (gH y3.2.1 2) 1) (
 cond (a7 0 y3.2.2.2.2.1) (
 cond (!(aj (gt d5 y3.2.2.2.2.1 0).1 48)) (
 some ((),(([],()),(0,()),(false,()),()))
 ) (
 let u1:=(ae y3.2.2.2.2.1)
 let u2:=(aH .i64 u1 y3.2.1)
 let u3:=(dJ u2 u1 y3.2.2.2.2.1)
 cond u3 (
 some ((),(((strOf (sub y3.2.2.2.2.1 u2 u1)),()),((aq .i64 y3.1 (ae y3.2.2.1)),()),(true,()),()))
 ) none
 )
 ) none
 ) (
 let u1:=(ae y3.2.2.2.2.1)
 let u2:=(aH .i64 u1 y3.2.1)
 let u3:=(dJ u2 u1 y3.2.2.2.2.1)
 cond u3 (
 some ((),(((strOf (sub y3.2.2.2.2.1 u2 u1)),()),((aq .i64 y3.1 (ae y3.2.2.1)),()),(true,()),()))
 ) none
 )
 )
 )
 ) (fun y3 =>
 none
 ))
 )
def Xi:Su:=⟨[.c false [.sl 5 fz],.c false aK,.c false aK],[(false,[.str]),(false,aK),(false,[.bool])],true,.inl fun x=>yD x.1.1 x.2.1.1 x.2.2.1.1⟩
theorem GR:ar Tryz.prog 168 Xi :=
 fl (ac ni (ac xO (ac Jh an))) [] [(0,⟨[.d 1 (.int .i64),.d 2 (.int .i64),.d 9 (.sl 5 fz),.d 10 (.bool),.own 11 (.sl 5 fz),.d 27 (.sl 5 fz),.d 28 (.int .i64),.d 29 (.int .i64)],ai (xQ nH)⟩)] [] Tryz.f168 (lp [0] (sc di sn))
def qN (t1:Int) (t7:List R5) (t9:List R3) (t10:Int):Rd (Int×(List R5)×(List R3)×Int×Unit) Unit :=
 cond (bz t10 64) (
 let u1:=(aH .i64 t10 1)
 let u2:=(n9 .i64 u1 8)
 cond (a7 u2 t7) (
 let u3:=(gH u1 8)
 cond (bz 0 u3) (
 cond (!(aj (yP .u8 (gt d5 t7 u2).1 (ib .u8 128 u3)) 0)) (
 cond (cQ 8 t9 [(t10,())]) (
 let u4:=(aq .i64 t10 1)
 some (.inl (t1,t7,(lP t9 [(t10,())]),u4,()))
 ) none
 ) (
 let u4:=(aq .i64 t10 1)
 some (.inl (t1,t7,t9,u4,()))
 )
 ) none
 ) none
 ) (
 some (.inr (.inl (t1,t7,t9,t10,())))
 )
def GX:=mZ (ai (cW qN))
def zS (p0:List R5) (p1:Int):Option XH :=
 (yE p0 p1 8).bind fun y1 =>
 cond (!y1.2.2.1.1) (
 some ((),(([],()),(0,()),(false,()),()))
 ) (
 (GX p1 y1.2.1.1 [] 1).bind (Sum.elim (fun y2 =>
 some ((),((y2.2.2.1,()),((aq .i64 y2.1 8),()),(true,()),()))
 ) (fun y2 =>
 none
 ))
 )
def Wh:Su:=⟨[.c false [.sl 5 fz],.c false aK],[(false,gD),(false,aK),(false,[.bool])],true,.inl fun x=>zS x.1.1 x.2.1.1⟩
theorem Th:ar Tryz.prog 169 Wh :=
 fl (ac Jh an) [] [(0,⟨[.d 1 (.int .i64),.d 7 (.sl 5 fz),.own 9 (.sl 3 aK),.d 10 (.int .i64)],ai (cW qN)⟩)] [] Tryz.f169 (lp [0] (sc di sn))
def T4  : Option (Unit×(((List BW)×Unit)×Unit)) :=
 some ((),(([(2,3,19,()),(3,1,6,()),(4,1,12,()),(7,1,10,()),(11,1,6,()),(14,1,4,()),(37,2,12,()),(38,2,6,()),(39,2,2,()),(41,2,8,()),(48,5,60,()),(49,1,3,()),(54,5,60,()),(95,2,12,()),(102,4,20,()),(103,4,20,())],()),()))
def U9:Su:=⟨[],[(false,[.sl 232 Du])],true,.inl fun x=>T4 ⟩
theorem R8:ar Tryz.prog 250 U9 :=
 fq an Tryz.f250
def ri (t0:Int) (t5:List BW) (t6 t7:Int) (b2:Int×Int×Int×Unit):Rd (Int×(List BW)×Int×Int×BW×Unit) (BW×Unit) :=
 cond (au t7 t6) (
 cond (a7 t7 t5) (
 let u1:=(gt d232 t5 t7)
 cond (aj u1.1 t0) (
 some (.inr (.inr (u1,())))
 ) (
 some (.inl (t0,t5,t6,(aq .i64 t7 1),b2,()))
 )
 ) none
 ) (
 some (.inr (.inl (t0,t5,t6,t7,b2,())))
 )
def Hi:=wY (ai (ft ri))
def Ey (p0:Int):Option (Unit×(BW×Unit)) :=
 (T4).bind fun y1 =>
 (Hi p0 y1.2.1.1 (ae y1.2.1.1) 0 (0,0,0,())).bind (Sum.elim (fun y2 =>
 some ((),((0,0,0,()),()))
 ) (fun y2 =>
 some ((),(y2.1,()))
 ))
def VR:Su:=⟨[.c false aK],[(true,Du)],true,.inl fun x=>Ey x.1.1⟩
theorem GH:ar Tryz.prog 224 VR :=
 fl (ac R8 an) [.box 2 [(false,.int .i64),(false,.int .i64),(false,.int .i64)]] [(0,⟨[.d 0 (.int .i64),.own 5 (.sl 232 Du),.d 6 (.int .i64),.d 7 (.int .i64),.box 2 [(false,.int .i64),(false,.int .i64),(false,.int .i64)]],ai (ft ri)⟩)] [] Tryz.f224 (lp [0] (sc di sn))
def CI (p0:Int):Option j5 :=
 (Ey p0).bind fun y1 =>
 some ((),((y1.2.1.2.1,()),()))
def Wy:Su:=⟨[.c false aK],[(false,aK)],true,.inl fun x=>CI x.1.1⟩
theorem IW:ar Tryz.prog 170 Wy :=
 fq (ac GH an) Tryz.f170
def Kc (p0:Int):Option j5 :=
 (Ey p0).bind fun y1 =>
 some ((),((y1.2.1.2.2.1,()),()))
def XL:Su:=⟨[.c false aK],[(false,aK)],true,.inl fun x=>Kc x.1.1⟩
theorem Sk:ar Tryz.prog 225 XL :=
 fq (ac GH an) Tryz.f225
def KJ (p0:Int):Option j5 :=
 (CI p0).bind fun y1 =>
 cond (aj y1.2.1.1 5) (
 some ((),((3,()),()))
 ) (
 some ((),((2,()),()))
 )
def VT:Su:=⟨[.c false aK],[(false,aK)],true,.inl fun x=>KJ x.1.1⟩
theorem QX:ar Tryz.prog 227 VT :=
 fq (ac IW an) Tryz.f227
section
open Go.RowKit Go.Lib
theorem Xj:DC Tryz.prog 179 190 229:=by
 intro s b v w R R2 hd ha
 have e1:Enters Tryz.prog 190:=enters_of (fn:=Tryz.f190) (c:=ah Tryz.f190) (by kernel_rfl) (by kernel_rfl) (by kernel_rfl)
 have e2:Enters Tryz.prog 229:=enters_of (fn:=Tryz.f229) (c:=ah Tryz.f229) (by kernel_rfl) (by kernel_rfl) (by kernel_rfl)
 have hsz:s.size < 9223372036854775808∨9223372036854775808<=s.size:=Nat.lt_or_ge _ _
 cases b with
 | false =>
   go_enter Tryz.func179,Tryz.ntmps179
   go_wp2_with (go_at_call 190; refine hd.mono ?_; rintro e W1 ⟨rfl,hW⟩)
   go_ret2
   exact .inr ⟨by simp,rfl,hW⟩
 | true =>
   by_cases hs:s.size<=18
   . have hb:=ha rfl hs
     have h1:¬ (18:Int) < (s.size:Int):=by omega
     go_enter Tryz.func179,Tryz.ntmps179
     go_wp2_with (first
      | (go_at_call 190; refine hd.mono ?_; rintro e W1 ⟨rfl,hW⟩)
      | (go_at_call 229; refine (hb _ hW).mono ?_; rintro e W2 ⟨rfl,hW2⟩))
     go_ret2
     exact .inl ⟨by trivial,hs,rfl,hW2⟩
   . have h1:(18:Int) < (s.size:Int):=by omega
     go_enter Tryz.func179,Tryz.ntmps179
     go_wp2_with (go_at_call 190; refine hd.mono ?_; rintro e W1 ⟨rfl,hW⟩)
     go_ret2
     exact .inr ⟨by simp [hs],rfl,hW⟩
end
def Ct (p0:List UInt8):Option Wf:=sT sI p0
def WD:Su:=⟨[.c false [.str]],[(false,aK),(false,[.bool])],true,.inl fun x=>Ct x.1.1⟩
theorem Mo:ar Tryz.prog 179 WD:=ED wa (gd:=sI) xO (fnd:=Tryz.f190) (cd:=ah Tryz.f190) (by kernel_rfl) (by kernel_rfl) (by kernel_rfl) rfl Xj (fn:=Tryz.f179) (c:=ah Tryz.f179) (by kernel_rfl) (by kernel_rfl) (by kernel_rfl)
def Et (p0:List R5) (p1 p2:Int):Option (Unit×(Y0×Y0×Y1×Unit)) :=
 (na p2 2 3).bind fun y1 =>
 cond (!y1.2.1.1) (
 some ((),((0,()),(0,()),(false,()),()))
 ) (
 (yD p0 p1 p2).bind fun y2 =>
 cond (!y2.2.2.2.1.1) (
 some ((),((0,()),(0,()),(false,()),()))
 ) (
 (Ct y2.2.1.1).bind fun y3 =>
 some ((),(y3.2.1,y2.2.2.1,(true,()),()))
 )
 )
def X6:Su:=⟨[.c false [.sl 5 fz],.c false aK,.c false aK],[(false,aK),(false,aK),(false,[.bool])],true,.inl fun x=>Et x.1.1 x.2.1.1 x.2.2.1.1⟩
theorem Rp:ar Tryz.prog 226 X6 :=
 fq (ac ni (ac GR (ac Mo an))) Tryz.f226
def oX (t0:List UInt8) (t5 t6:Int):Rd Qe Y1 :=
 cond (au t6 t5) (
 cond (a7 t6 t0) (
 let u1:=(dm t0 t6)
 cond (au u1 32) (
 some (.inr (.inr (false,())))
 ) (
 cond (a7 t6 t0) (
 cond (au 126 u1) (
 some (.inr (.inr (false,())))
 ) (
 some (.inl (t0,t5,(aq .i64 t6 1),()))
 )
 ) none
 )
 ) none
 ) (
 some (.inr (.inl (t0,t5,t6,())))
 )
def Ii:=qd (ai (fc oX))
def FE (p0:List UInt8):Option dZ :=
 (Ii p0 (ae p0) 0).bind (Sum.elim (fun y1 =>
 some ((),((true,()),()))
 ) (fun y1 =>
 some ((),(y1,()))
 ))
def Xq:Su:=⟨[.c false [.str]],[(false,[.bool])],true,.inl fun x=>FE x.1.1⟩
theorem Sw:ar Tryz.prog 251 Xq :=
 fl an [.d 2 (.bool)] [(0,⟨[.d 0 (.str),.d 5 (.int .i64),.d 6 (.int .i64)],ai (fc oX)⟩)] [] Tryz.f251 (lp [0] (sc di sn))
def wS (p0:Int) (p1:List UInt8):Option dZ :=
 (Ey p0).bind fun y1 =>
 cond (aj y1.2.1.2.1 1) (
 let u1:=(sI p1)
 Option.bind u1 fun y2 =>
 let u2:=(ae p1)
 some ((),(((cond y2.2.1.1 (aj u2 y1.2.1.2.2.1) false),()),()))
 ) (
 cond (aj y1.2.1.2.1 2) (
 let u1:=(FE p1)
 Option.bind u1 fun y2 =>
 let u2:=(ae p1)
 some ((),(((cond y2.2.1.1 (aj u2 y1.2.1.2.2.1) false),()),()))
 ) (
 cond (aj y1.2.1.2.1 3) (
 let u1:=(sI p1)
 Option.bind u1 fun y2 =>
 cond y2.2.1.1 (
 let u2:=(ae p1)
 let u3:=(na u2 1 y1.2.1.2.2.1)
 Option.bind u3 fun y3 =>
 some ((),(y3.2.1,()))
 ) (
 some ((),((false,()),()))
 )
 ) (
 cond (aj y1.2.1.2.1 4) (
 let u1:=(FE p1)
 Option.bind u1 fun y2 =>
 cond y2.2.1.1 (
 let u2:=(ae p1)
 let u3:=(na u2 1 y1.2.1.2.2.1)
 Option.bind u3 fun y3 =>
 some ((),(y3.2.1,()))
 ) (
 some ((),((false,()),()))
 )
 ) (
 cond (aj y1.2.1.2.1 5) (
 let u1:=(FE p1)
 Option.bind u1 fun y2 =>
 cond y2.2.1.1 (
 let u2:=(ae p1)
 let u3:=(na u2 1 y1.2.1.2.2.1)
 Option.bind u3 fun y3 =>
 some ((),(y3.2.1,()))
 ) (
 some ((),((false,()),()))
 )
 ) (
 some ((),((false,()),()))
 )
 )
 )
 )
 )
def Vt:Su:=⟨[.c false aK,.c false [.str]],[(false,[.bool])],true,.inl fun x=>wS x.1.1 x.2.1.1⟩
theorem ML:ar Tryz.prog 228 Vt :=
 fq (ac ni (ac xO (ac GH (ac Sw an)))) Tryz.f228
def ID (p0:List R5) (p1 p2:Int):Option Um :=
 (Kc p2).bind fun y1 =>
 (CI p2).bind fun y2 =>
 cond (cond (cond (aj y2.2.1.1 3) true (aj y2.2.1.1 4)) true (aj y2.2.1.1 5)) (
 (KJ p2).bind fun y3 =>
 (Et p0 p1 y3.2.1.1).bind fun y4 =>
 cond (!y4.2.2.2.1.1) (
 some ((),(([],()),(0,()),(false,()),()))
 ) (
 let u1:=(cond (aj y2.2.1.1 1) true (aj y2.2.1.1 3))
 cond u1 (
 (yD p0 y4.2.2.1.1 y4.2.1.1).bind fun y5 =>
 cond (!y5.2.2.2.1.1) (
 some ((),(([],()),(0,()),(false,()),()))
 ) (
 (wS p2 y5.2.1.1).bind fun y6 =>
 cond (!y6.2.1.1) (
 some ((),(([],()),(0,()),(false,()),()))
 ) (
 some ((),(y5.2.1,y5.2.2.1,(true,()),()))
 )
 )
 ) (
 (yE p0 y4.2.2.1.1 y4.2.1.1).bind fun y5 =>
 cond (!y5.2.2.1.1) (
 some ((),(([],()),(0,()),(false,()),()))
 ) (
 let u2:=(strOf y5.2.1.1)
 (wS p2 u2).bind fun y6 =>
 cond (!y6.2.1.1) (
 some ((),(([],()),(0,()),(false,()),()))
 ) (
 some ((),((u2,()),((aq .i64 y4.2.2.1.1 y4.2.1.1),()),(true,()),()))
 )
 )
 )
 )
 ) (
 let u1:=(cond (aj y2.2.1.1 1) true (aj y2.2.1.1 3))
 cond u1 (
 (yD p0 p1 y1.2.1.1).bind fun y3 =>
 cond (!y3.2.2.2.1.1) (
 some ((),(([],()),(0,()),(false,()),()))
 ) (
 (wS p2 y3.2.1.1).bind fun y4 =>
 cond (!y4.2.1.1) (
 some ((),(([],()),(0,()),(false,()),()))
 ) (
 some ((),(y3.2.1,y3.2.2.1,(true,()),()))
 )
 )
 ) (
 (yE p0 p1 y1.2.1.1).bind fun y3 =>
 cond (!y3.2.2.1.1) (
 some ((),(([],()),(0,()),(false,()),()))
 ) (
 let u2:=(strOf y3.2.1.1)
 (wS p2 u2).bind fun y4 =>
 cond (!y4.2.1.1) (
 some ((),(([],()),(0,()),(false,()),()))
 ) (
 some ((),((u2,()),((aq .i64 p1 y1.2.1.1),()),(true,()),()))
 )
 )
 )
 )
def W0:Su:=⟨[.c false [.sl 5 fz],.c false aK,.c false aK],[(false,[.str]),(false,aK),(false,[.bool])],true,.inl fun x=>ID x.1.1 x.2.1.1 x.2.2.1.1⟩
theorem QF:ar Tryz.prog 171 W0 :=
 fq (ac Jh (ac GR (ac IW (ac Sk (ac QX (ac Rp (ac ML an))))))) Tryz.f171
def nF (t0:List R5) (t4:List UInt8) (t5:Int) (t8:List R3) (t9:Bool) (t41:List R3) (t42 t43:Int) (b2:(List UInt8)×(List ir)×Unit):Rd ((List R5)×(List UInt8)×Int×(List R3)×Bool×(List R3)×Int×Int×DJ×Unit) UM :=
 cond (au t43 t42) (
 cond (a7 t43 t41) (
 let u1:=(gt d3 t41 t43)
 cond (aj u1.1 1) (
 let u2:=(aq .i64 t43 1)
 some (.inl (t0,t4,t5,t8,true,t41,t42,u2,b2,()))
 ) (
 (CI u1.1).bind fun y1 =>
 cond (aj y1.2.1.1 0) (
 some (.inr (.inr (2,([],[],()),())))
 ) (
 cond (cQ 8 t8 [u1]) (
 let u2:=(aq .i64 t43 1)
 some (.inl (t0,t4,t5,(lP t8 [u1]),t9,t41,t42,u2,b2,()))
 ) none
 )
 )
 ) none
 ) (
 some (.inr (.inl (t0,t4,t5,t8,t9,t41,t42,t43,b2,())))
 )
def Hh:=R7 (ai (CC nF))
def oC (t0:List R5) (t4:List UInt8) (t5:Int) (t8 t76:List R3) (t77 t78:Int) (b2:(List UInt8)×(List ir)×Unit):Rd ((List R5)×(List UInt8)×Int×(List R3)×(List R3)×Int×Int×DJ×Unit) UM :=
 cond (au t78 t77) (
 cond (a7 t78 t76) (
 let u1:=(aq .i64 (gt d3 t76 t78).1 64)
 (CI u1).bind fun y1 =>
 cond (aj y1.2.1.1 0) (
 some (.inr (.inr (2,([],[],()),())))
 ) (
 cond (cQ 8 t8 [(u1,())]) (
 some (.inl (t0,t4,t5,(lP t8 [(u1,())]),t76,t77,(aq .i64 t78 1),b2,()))
 ) none
 )
 ) none
 ) (
 some (.inr (.inl (t0,t4,t5,t8,t76,t77,t78,b2,())))
 )
def HA:=Qf (ai (xQ oC))
def oM (t0:List R5) (t5:Int) (t95:List R3) (t96 t97:Int) (b2 b15:(List UInt8)×(List ir)×Unit):Rd ((List R5)×Int×(List R3)×Int×Int×DJ×DJ×Unit) UM :=
 cond (au t97 t96) (
 cond (a7 t97 t95) (
 (ID t0 t5 (gt d3 t95 t97).1).bind fun y1 =>
 cond (!y1.2.2.2.1.1) (
 some (.inr (.inr (3,([],[],()),())))
 ) (
 cond (cQ 24 b15.2.1 [((gt d3 t95 t97).1,y1.2.1.1,())]) (
 some (.inl (t0,y1.2.2.1.1,t95,t96,(aq .i64 t97 1),b2,(b15.1,(lP b15.2.1 [((gt d3 t95 t97).1,y1.2.1.1,())]),()),()))
 ) none
 )
 ) none
 ) (
 some (.inr (.inl (t0,t5,t95,t96,t97,b2,b15,())))
 )
def zg:=UR (ai (Jy oM))
def Ko (p0:List R5):Option (Unit×(DJ×Y0×Unit)) :=
 (yD p0 0 4).bind fun y1 =>
 cond (!y1.2.2.2.1.1) (
 some ((),(([],[],()),(1,()),()))
 ) (
 (zS p0 y1.2.2.1.1).bind fun y2 =>
 cond (!y2.2.2.2.1.1) (
 some ((),(([],[],()),(2,()),()))
 ) (
 (Hh p0 y1.2.1.1 y2.2.2.1.1 [] false y2.2.1.1 (ae y2.2.1.1) 0 ([],[],())).bind (Sum.elim (fun y3 =>
 cond y3.2.2.2.2.1 (
 (zS y3.1 y3.2.2.1).bind fun y4 =>
 let u1:=(ae y4.2.1.1)
 cond (cond (!y4.2.2.2.1.1) true (aj u1 0)) (
 some ((),(([],[],()),(2,()),()))
 ) (
 (HA y3.1 y3.2.1 y4.2.2.1.1 y3.2.2.2.1 y4.2.1.1 u1 0 y3.2.2.2.2.2.2.2.2.1).bind (Sum.elim (fun y5 =>
 (zg y5.1 y5.2.2.1 y5.2.2.2.1 (ae y5.2.2.2.1) 0 y5.2.2.2.2.2.2.2.1 (y5.2.1,[],())).bind (Sum.elim (fun y6 =>
 cond (!(aj y6.2.1 (ae y6.1))) (
 some ((),(([],[],()),(4,()),()))
 ) (
 some ((),(y6.2.2.2.2.2.2.1,(0,()),()))
 )
 ) (fun y6 =>
 some ((),(y6.2.1,(y6.1,()),()))
 ))
 ) (fun y5 =>
 some ((),(y5.2.1,(y5.1,()),()))
 ))
 )
 ) (
 (zg y3.1 y3.2.2.1 y3.2.2.2.1 (ae y3.2.2.2.1) 0 y3.2.2.2.2.2.2.2.2.1 (y3.2.1,[],())).bind (Sum.elim (fun y4 =>
 cond (!(aj y4.2.1 (ae y4.1))) (
 some ((),(([],[],()),(4,()),()))
 ) (
 some ((),(y4.2.2.2.2.2.2.1,(0,()),()))
 )
 ) (fun y4 =>
 some ((),(y4.2.1,(y4.1,()),()))
 ))
 )
 ) (fun y3 =>
 some ((),(y3.2.1,(y3.1,()),()))
 ))
 )
 )
def Vy:Su:=⟨[.c false [.sl 5 fz]],[(true,[.str,.sl 178 dv]),(false,aK)],true,.inl fun x=>Ko x.1.1⟩
theorem SL:ar Tryz.prog 126 Vy :=
 fl (ac GR (ac Th (ac IW (ac QF an)))) [.d 3 (.int .i64),.box 2 [(false,.str),(true,.sl 178 dv)]] [(0,⟨[.d 0 (.sl 5 fz),.d 4 (.str),.d 5 (.int .i64),.own 8 (.sl 3 aK),.d 9 (.bool),.own 41 (.sl 3 aK),.d 42 (.int .i64),.d 43 (.int .i64),.box 2 [(false,.str),(true,.sl 178 dv)]],ai (CC nF)⟩),(3,⟨[.d 0 (.sl 5 fz),.d 4 (.str),.d 5 (.int .i64),.own 8 (.sl 3 aK),.own 76 (.sl 3 aK),.d 77 (.int .i64),.d 78 (.int .i64),.box 2 [(false,.str),(true,.sl 178 dv)]],ai (xQ oC)⟩),(5,⟨[.d 0 (.sl 5 fz),.d 5 (.int .i64),.own 95 (.sl 3 aK),.d 96 (.int .i64),.d 97 (.int .i64),.box 2 [(false,.str),(true,.sl 178 dv)],.box 15 [(false,.str),(true,.sl 178 dv)]],ai (Jy oM)⟩)] [] Tryz.f126 (lp [0,3,5] (sc di (sc di (sc di sn))))
def nO (t6:List ir) (t7 t8:Int) (b1:(List UInt8)×(List ir)×Unit):Rd ((List ir)×Int×Int×DJ×Unit) Y1 :=
 cond (au t8 t7) (
 cond (a7 t8 t6) (
 let u1:=(gt d178 t6 t8)
 (wS u1.1 u1.2.1).bind fun y1 =>
 cond (!y1.2.1.1) (
 some (.inr (.inr (false,())))
 ) (
 cond (au 0 t8) (
 let u2:=(aH .i64 t8 1)
 cond (a7 u2 b1.2.1) (
 cond (bz u1.1 (gt d178 b1.2.1 u2).1) (
 some (.inr (.inr (false,())))
 ) (
 some (.inl (t6,t7,(aq .i64 t8 1),b1,()))
 )
 ) none
 ) (
 some (.inl (t6,t7,(aq .i64 t8 1),b1,()))
 )
 )
 ) none
 ) (
 some (.inr (.inl (t6,t7,t8,b1,())))
 )
def B5:=mZ (ai (cW nO))
def Lp (p0:(List UInt8)×(List ir)×Unit):Option dZ :=
 (B5 p0.2.1 (ae p0.2.1) 0 p0).bind (Sum.elim (fun y1 =>
 (vc y1.2.2.2.1.1 4).bind fun y2 =>
 some ((),(y2.2.1,()))
 ) (fun y1 =>
 some ((),(y1,()))
 ))
def V3:Su:=⟨[.c true [.str,.sl 178 dv]],[(false,[.bool])],true,.inl fun x=>Lp x.1⟩
theorem Q7:ar Tryz.prog 172 V3 :=
 fl (ac It (ac ML an)) [.d 2 (.bool)] [(0,⟨[.d 6 (.sl 178 dv),.d 7 (.int .i64),.d 8 (.int .i64),.box 1 [(false,.str),(false,.sl 178 dv)]],ai (cW nO)⟩)] [] Tryz.f172 (lp [0] (sc di sn))
end
end Go.Av
