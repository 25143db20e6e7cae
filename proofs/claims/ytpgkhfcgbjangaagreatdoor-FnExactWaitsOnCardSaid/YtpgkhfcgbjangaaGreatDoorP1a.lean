/- Part of a proof that the law FnExactWaitsOn answers true for every input: the printed functions of this program and their plain laws. No conditions beyond the statement. -/
import Derived.Test.YtpgkhfcgbjangaaGreatDoorFw4
import Derived.Test.YtpgkhfcgbjangaaGreatDoorFw3
import Derived.WalkKit
import Derived.Lib.Walk
import Derived.Lib.SliceRun
import Derived.Shelf.Spec.SlicesInsert
import Derived.Test.YtpgkhfcgbjangaaGreatDoorProg
set_option maxRecDepth 100000
namespace Go.Av
open Go.Proofs
set_option maxHeartbeats 4000000
noncomputable section
def kk204:List K:=[.str,.int .i64,.int .i64]
def kk3:List K:=[.int .i64]
def kk5:List K:=[.int .u8]
def kk206:List K:=[.str,.str,.sl 5 kk5]
def kk124:List K:=[.str,.int .i64,.int .i64,.int .i64,.int .i64,.sl 204 kk204,.int .i64,.int .i64,.sl 3 kk3,.sl 3 kk3,.sl 206 kk206]
def kk84:List K:=[.int .i64,.sl 124 kk124]
def kk86:List K:=[.sl 5 kk5,.int .i64,.sl 3 kk3,.int .i64,.int .i64,.int .i64,.int .i64,.int .i64,.sl 5 kk5]
def kk157:List K:=[.str,.int .i64,.int .i64]
def kk160:List K:=[.str,.str,.sl 5 kk5]
def kk92:List K:=[.str,.int .i64,.int .i64,.int .i64,.int .i64,.sl 157 kk157,.int .i64,.int .i64,.sl 3 kk3,.sl 3 kk3,.sl 160 kk160]
def kk67:List K:=[.int .i64,.sl 92 kk92]
def kk64:List K:=[.sl 5 kk5,.int .i64,.sl 3 kk3,.int .i64,.int .i64,.int .i64,.int .i64,.int .i64,.sl 5 kk5]
def kk9:List K:=[.str]
def kk178:List K:=[.int .i64,.str]
def kk198:List K:=[.str,.str,.str,.sl 3 kk3]
def kk53:List K:=[.sl 3 kk3]
def kk232:List K:=[.int .i64,.int .i64,.int .i64]
abbrev R204:=((List UInt8)×Int×Int×Unit)
def d204:R204:=([],0,0,())
abbrev R3:=(Int×Unit)
def d3:R3:=(0,())
abbrev R5:=(Int×Unit)
def d5:R5:=(0,())
abbrev R206:=((List UInt8)×(List UInt8)×(List R5)×Unit)
def d206:R206:=([],[],[],())
abbrev R124:=((List UInt8)×Int×Int×Int×Int×(List R204)×Int×Int×(List R3)×(List R3)×(List R206)×Unit)
def d124:R124:=([],0,0,0,0,[],0,0,[],[],[],())
abbrev R84:=(Int×(List R124)×Unit)
def d84:R84:=(0,[],())
abbrev R86:=((List R5)×Int×(List R3)×Int×Int×Int×Int×Int×(List R5)×Unit)
def d86:R86:=([],0,[],0,0,0,0,0,[],())
abbrev R157:=((List UInt8)×Int×Int×Unit)
def d157:R157:=([],0,0,())
abbrev R160:=((List UInt8)×(List UInt8)×(List R5)×Unit)
def d160:R160:=([],[],[],())
abbrev R92:=((List UInt8)×Int×Int×Int×Int×(List R157)×Int×Int×(List R3)×(List R3)×(List R160)×Unit)
def d92:R92:=([],0,0,0,0,[],0,0,[],[],[],())
abbrev R67:=(Int×(List R92)×Unit)
def d67:R67:=(0,[],())
abbrev R64:=((List R5)×Int×(List R3)×Int×Int×Int×Int×Int×(List R5)×Unit)
def d64:R64:=([],0,[],0,0,0,0,0,[],())
abbrev R9:=((List UInt8)×Unit)
def d9:R9:=([],())
abbrev R178:=(Int×(List UInt8)×Unit)
def d178:R178:=(0,[],())
abbrev R198:=((List UInt8)×(List UInt8)×(List UInt8)×(List R3)×Unit)
def d198:R198:=([],[],[],[],())
abbrev R53:=((List R3)×Unit)
def d53:R53:=([],())
abbrev R232:=(Int×Int×Int×Unit)
def d232:R232:=(0,0,0,())
def tt:List (Nat×TI):=[(2,⟨false,[.int .i64],0,8,[]⟩),
 (3,⟨false,[.int .i64],0,8,[]⟩),
 (4,⟨false,[.bool],0,1,[]⟩),
 (5,⟨false,[.int .u8],0,1,[]⟩),
 (6,⟨false,[.int .u8],0,1,[]⟩),
 (7,⟨true,[.int .i64,.int .i64,.bool,.int .u8],0,24,[(0,2),(1,3),(2,4),(3,6)]⟩),
 (8,⟨true,[.int .i64,.int .i64,.bool,.int .u8],0,24,[(0,2),(1,3),(2,4),(3,6)]⟩),
 (9,⟨false,[.str],0,16,[]⟩),
 (10,⟨false,[.str],0,16,[]⟩),
 (11,⟨false,[.str],0,16,[]⟩),
 (12,⟨false,[.int .u64],0,8,[]⟩),
 (13,⟨true,[.str,.int .u64],0,24,[(0,9),(1,12)]⟩),
 (14,⟨true,[.str,.int .u64],0,24,[(0,9),(1,12)]⟩),
 (21,⟨false,[.int .i32],0,4,[]⟩),
 (22,⟨false,[.sl 84 kk84],84,24,[]⟩),
 (23,⟨false,[.sl 86 kk86],86,24,[]⟩),
 (24,⟨true,[.sl 84 kk84,.int .i64,.int .i64,.sl 86 kk86],0,64,[(0,22),(1,3),(2,3),(3,23)]⟩),
 (25,⟨true,[.sl 84 kk84,.int .i64,.int .i64,.sl 86 kk86],0,64,[(0,22),(1,3),(2,3),(3,23)]⟩),
 (28,⟨false,[.sl 67 kk67],67,24,[]⟩),
 (29,⟨false,[.sl 64 kk64],64,24,[]⟩),
 (30,⟨true,[.sl 67 kk67,.int .i64,.int .i64,.sl 64 kk64],0,64,[(0,28),(1,3),(2,3),(3,29)]⟩),
 (31,⟨true,[.sl 67 kk67,.int .i64,.int .i64,.sl 64 kk64],0,64,[(0,28),(1,3),(2,3),(3,29)]⟩),
 (37,⟨false,[.sl 124 kk124],124,24,[]⟩),
 (38,⟨true,[.sl 124 kk124],0,24,[(0,37)]⟩),
 (39,⟨true,[.sl 124 kk124],0,24,[(0,37)]⟩),
 (40,⟨true,[.sl 124 kk124,.int .i64,.sl 84 kk84,.int .i64,.int .i64,.sl 86 kk86],0,96,[(0,39),(1,3),(2,25)]⟩),
 (41,⟨true,[.sl 124 kk124,.int .i64,.sl 84 kk84,.int .i64,.int .i64,.sl 86 kk86],0,96,[(0,39),(1,3),(2,25)]⟩),
 (44,⟨false,[.sl 92 kk92],92,24,[]⟩),
 (45,⟨true,[.sl 92 kk92],0,24,[(0,44)]⟩),
 (46,⟨true,[.sl 92 kk92],0,24,[(0,44)]⟩),
 (47,⟨true,[.sl 92 kk92,.int .i64,.sl 67 kk67,.int .i64,.int .i64,.sl 64 kk64],0,96,[(0,46),(1,3),(2,31)]⟩),
 (48,⟨true,[.sl 92 kk92,.int .i64,.sl 67 kk67,.int .i64,.int .i64,.sl 64 kk64],0,96,[(0,46),(1,3),(2,31)]⟩),
 (53,⟨false,[.sl 3 kk3],3,24,[]⟩),
 (62,⟨false,[.sl 5 kk5],5,24,[]⟩),
 (63,⟨true,[.sl 5 kk5,.int .i64,.sl 3 kk3,.int .i64,.int .i64,.int .i64,.int .i64,.int .i64,.sl 5 kk5],0,120,[(0,62),(1,3),(2,53),(3,3),(4,3),(5,3),(6,3),(7,3),(8,62)]⟩),
 (64,⟨true,[.sl 5 kk5,.int .i64,.sl 3 kk3,.int .i64,.int .i64,.int .i64,.int .i64,.int .i64,.sl 5 kk5],0,120,[(0,62),(1,3),(2,53),(3,3),(4,3),(5,3),(6,3),(7,3),(8,62)]⟩),
 (66,⟨true,[.int .i64,.sl 92 kk92],0,32,[(0,3),(1,44)]⟩),
 (67,⟨true,[.int .i64,.sl 92 kk92],0,32,[(0,3),(1,44)]⟩),
 (83,⟨true,[.int .i64,.sl 124 kk124],0,32,[(0,3),(1,37)]⟩),
 (84,⟨true,[.int .i64,.sl 124 kk124],0,32,[(0,3),(1,37)]⟩),
 (86,⟨true,[.sl 5 kk5,.int .i64,.sl 3 kk3,.int .i64,.int .i64,.int .i64,.int .i64,.int .i64,.sl 5 kk5],0,120,[(0,62),(1,3),(2,53),(3,3),(4,3),(5,3),(6,3),(7,3),(8,62)]⟩),
 (87,⟨false,[.sl 157 kk157],157,24,[]⟩),
 (88,⟨true,[.int .i64,.int .i64,.sl 3 kk3,.sl 3 kk3],0,64,[(0,3),(1,3),(2,53),(3,53)]⟩),
 (89,⟨true,[.int .i64,.int .i64,.sl 3 kk3,.sl 3 kk3],0,64,[(0,3),(1,3),(2,53),(3,53)]⟩),
 (90,⟨false,[.sl 160 kk160],160,24,[]⟩),
 (91,⟨true,[.str,.int .i64,.int .i64,.int .i64,.int .i64,.sl 157 kk157,.int .i64,.int .i64,.sl 3 kk3,.sl 3 kk3,.sl 160 kk160],0,160,[(0,9),(1,3),(2,3),(3,3),(4,3),(5,87),(6,89),(10,90)]⟩),
 (92,⟨true,[.str,.int .i64,.int .i64,.int .i64,.int .i64,.sl 157 kk157,.int .i64,.int .i64,.sl 3 kk3,.sl 3 kk3,.sl 160 kk160],0,160,[(0,9),(1,3),(2,3),(3,3),(4,3),(5,87),(6,89),(10,90)]⟩),
 (111,⟨false,[.sl 9 kk9],9,24,[]⟩),
 (120,⟨false,[.sl 204 kk204],204,24,[]⟩),
 (121,⟨true,[.int .i64,.int .i64,.sl 3 kk3,.sl 3 kk3],0,64,[(0,3),(1,3),(2,53),(3,53)]⟩),
 (122,⟨false,[.sl 206 kk206],206,24,[]⟩),
 (123,⟨true,[.str,.int .i64,.int .i64,.int .i64,.int .i64,.sl 204 kk204,.int .i64,.int .i64,.sl 3 kk3,.sl 3 kk3,.sl 206 kk206],0,160,[(0,9),(1,3),(2,3),(3,3),(4,3),(5,120),(6,121),(10,122)]⟩),
 (124,⟨true,[.str,.int .i64,.int .i64,.int .i64,.int .i64,.sl 204 kk204,.int .i64,.int .i64,.sl 3 kk3,.sl 3 kk3,.sl 206 kk206],0,160,[(0,9),(1,3),(2,3),(3,3),(4,3),(5,120),(6,121),(10,122)]⟩),
 (137,⟨false,[.sl 178 kk178],178,24,[]⟩),
 (138,⟨true,[.str,.sl 178 kk178],0,40,[(0,9),(1,137)]⟩),
 (139,⟨true,[.str,.sl 178 kk178],0,40,[(0,9),(1,137)]⟩),
 (142,⟨true,[.int .i64,.str,.str,.str,.str,.str,.int .i64,.int .i64],0,104,[(0,3),(1,9),(2,9),(3,9),(4,9),(5,9),(6,3),(7,3)]⟩),
 (143,⟨true,[.int .i64,.str,.str,.str,.str,.str,.int .i64,.int .i64],0,104,[(0,3),(1,9),(2,9),(3,9),(4,9),(5,9),(6,3),(7,3)]⟩),
 (146,⟨false,[.int .u32],0,4,[]⟩),
 (156,⟨true,[.str,.int .i64,.int .i64],0,32,[(0,9),(1,3),(2,3)]⟩),
 (157,⟨true,[.str,.int .i64,.int .i64],0,32,[(0,9),(1,3),(2,3)]⟩),
 (159,⟨true,[.str,.str,.sl 5 kk5],0,56,[(0,9),(1,9),(2,62)]⟩),
 (160,⟨true,[.str,.str,.sl 5 kk5],0,56,[(0,9),(1,9),(2,62)]⟩),
 (177,⟨true,[.int .i64,.str],0,24,[(0,3),(1,9)]⟩),
 (178,⟨true,[.int .i64,.str],0,24,[(0,3),(1,9)]⟩),
 (192,⟨false,[.int .u64],0,8,[]⟩),
 (196,⟨false,[.sl 198 kk198],198,24,[]⟩),
 (197,⟨true,[.str,.str,.str,.sl 3 kk3],0,72,[(0,9),(1,9),(2,9),(3,53)]⟩),
 (198,⟨true,[.str,.str,.str,.sl 3 kk3],0,72,[(0,9),(1,9),(2,9),(3,53)]⟩),
 (204,⟨true,[.str,.int .i64,.int .i64],0,32,[(0,9),(1,3),(2,3)]⟩),
 (206,⟨true,[.str,.str,.sl 5 kk5],0,56,[(0,9),(1,9),(2,62)]⟩),
 (209,⟨false,[.sl 53 kk53],53,24,[]⟩),
 (219,⟨false,[.int .i64],0,8,[]⟩),
 (228,⟨false,[.int .u64],0,8,[]⟩),
 (231,⟨true,[.int .i64,.int .i64,.int .i64],0,24,[(0,3),(1,3),(2,3)]⟩),
 (232,⟨true,[.int .i64,.int .i64,.int .i64],0,24,[(0,3),(1,3),(2,3)]⟩),
 (246,⟨false,[.int .u64],0,8,[]⟩),
 (252,⟨false,[.sl 232 kk232],232,24,[]⟩),
 (267,⟨false,[.int .i64],0,8,[]⟩),
 (287,⟨true,[.str],0,16,[(0,9)]⟩),
 (288,⟨true,[.str],0,16,[(0,9)]⟩),
 (293,⟨true,[.int .u8,.int .u8],0,2,[(0,5),(1,5)]⟩),
 (294,⟨true,[.int .u8,.int .u8],0,2,[(0,5),(1,5)]⟩),
 (312,⟨false,[.int .u8],0,1,[]⟩),
 (313,⟨false,[.int .u8],0,1,[]⟩),
 (315,⟨false,[.int .i32],0,4,[]⟩),
 (316,⟨false,[.int .i32],0,4,[]⟩)]
def E0:En:=⟨0,tt,fun _=>[],[],fun _=>none,[],fun _=>none⟩
theorem hT:TTok Tryz.prog E0:=ttok_of (by kernel_rfl)
theorem hmix:Tryz.prog.follows .mixedOrders=true:=by kernel_rfl
theorem fl {f:Nat} {s:Su} {l:List (Nat×Su)} (hl:AllOk Tryz.prog l) (ρ:List SE) (los:List (Nat×Lo ρ)) (pins:List Nat) (fn:Func)
 (hlo:GLo Tryz.prog (mkE fn.ntmps tt l ρ los pins) (bodyOf fn) (bodyOf fn))
 (h : (Tryz.prog.funcs[f]?, (fn.name == "runtime.NumGoroutine"), fn.body.isSome) = (some fn, false, true) := by kernel_rfl)
 (ht:∀ x,(fnT (mkE fn.ntmps tt l ρ los pins) (bodyOf fn) fn.results.toList s.ps s.rs s.fresh x).run=s.ans x:=by intro x; kernel_rfl):SuOK Tryz.prog f s:=by
 simp only [Prod.mk.injEq] at h
 exact flq hT hmix hl (fn:=fn) (by rw [h.1,h.2.1,h.2.2]) hlo ht
theorem fq {f:Nat} {s:Su} {l:List (Nat×Su)} (hl:AllOk Tryz.prog l) (fn:Func)
 (h : (Tryz.prog.funcs[f]?, (fn.name == "runtime.NumGoroutine"), fn.body.isSome, loBlocks (fun _ => false) (bodyOf fn)) = (some fn, false, true, []) := by kernel_rfl)
 (ht:∀ x,(fnT (mkE fn.ntmps tt l [] [] []) (bodyOf fn) fn.results.toList s.ps s.rs s.fresh x).run=s.ans x:=by intro x; kernel_rfl):SuOK Tryz.prog f s:=by
 simp only [Prod.mk.injEq] at h
 exact flq hT hmix hl (fn:=fn) (by rw [h.1,h.2.1,h.2.2.1]) (lp (n:=fn.ntmps) (tt:=tt) (l:=l) (ρ:=[]) (los:=[]) (pins:=[]) [] sn h.2.2.2) ht
def tab0:List UInt8:=[0,1,2,2,3,3,3,3,4,4,4,4,4,4,4,4,5,5,5,5,5,5,5,5,5,5,5,5,5,5,5,5,6,6,6,6,6,6,6,6,6,6,6,6,6,6,6,6,6,6,6,6,6,6,6,6,6,6,6,6,6,6,6,6,7,7,7,7,7,7,7,7,7,7,7,7,7,7,7,7,7,7,7,7,7,7,7,7,7,7,7,7,7,7,7,7,7,7,7,7,7,7,7,7,7,7,7,7,7,7,7,7,7,7,7,7,7,7,7,7,7,7,7,7,7,7,7,7,8,8,8,8,8,8,8,8,8,8,8,8,8,8,8,8,8,8,8,8,8,8,8,8,8,8,8,8,8,8,8,8,8,8,8,8,8,8,8,8,8,8,8,8,8,8,8,8,8,8,8,8,8,8,8,8,8,8,8,8,8,8,8,8,8,8,8,8,8,8,8,8,8,8,8,8,8,8,8,8,8,8,8,8,8,8,8,8,8,8,8,8,8,8,8,8,8,8,8,8,8,8,8,8,8,8,8,8,8,8,8,8,8,8,8,8,8,8,8,8,8,8,8,8,8,8,8,8]
abbrev Y0:=Int×Unit
abbrev Y1:=Bool×Unit
abbrev Y4:=(List R92)×Unit
abbrev Y6:=(List UInt8)×Unit
abbrev Y8:=Int×(List R92)×Unit
abbrev Y11:=(List UInt8)×Int×Unit
abbrev Y15:=Unit×(Y0×Unit)
abbrev Y17:=Unit×(Y1×Unit)
abbrev Y16:=(List R3)×Int×Bool×Unit
abbrev Y18:=(List UInt8)×Int×Int×Unit
abbrev Y19:=(List UInt8)×(List R178)×Unit
abbrev Y23:=Unit×(((List R9)×Unit)×Unit)
abbrev Y22:=Unit×(R53×Unit)
abbrev Y21:=(((List R9)×Unit)×Unit)×Unit
abbrev Y20:=(R53×Unit)×Unit
abbrev Y26:=Unit×(Y4×Unit)
abbrev Y24:=(Y4×Unit)×Unit
abbrev Y27:=Unit×(((List R160)×Unit)×Unit)
abbrev Y28:=Unit×(Y6×Unit)
abbrev Y31:=(List R92)×Int×Unit×Int×Int×Unit
abbrev Y30:=(List R67)×Int×Int×(List R64)×Unit
abbrev Y33:=Unit×(Y0×Y1×Unit)
abbrev Y32:=(List R160)×(List R160)×Int×Int×Unit
abbrev Y35:=Int×Y19×Unit
abbrev Y42:=Unit×((Int×Int×(List R3)×(List R3)×Unit)×Unit)
abbrev Y45:=Unit×(R53×Y0×Y1×Unit)
abbrev Y48:=Unit×(Y6×Y0×Y1×Unit)
abbrev Y51:=Int×(List UInt8)×(List UInt8)×(List UInt8)×(List UInt8)×(List UInt8)×Int×Int×Unit
abbrev Y57:=Unit×(R92×Unit)
section
open Go.Shelf Go.RowKit Go.Lib
def sρ:Ren:=⟨fun | 129=>222 | 171=>275 | 172=>229 | 205=>274 | 243=>281 | 244=>252 | 245=>253 | 246=>287 | 247=>263 | 279=>264 | 280=>265 | 281=>266 | 282=>267 | 283=>289 | 284=>290 | 285=>291 | 286=>292 | 287=>272 | 316=>273 | 317=>294 | 318=>295 | 319=>296 | 320=>297 | 321=>279 | 322=>280 | 337=>298 | 338=>299 | n=>n,fun | 0=>0 | 2=>2 | 3=>3 | 4=>4 | 5=>5 | 9=>9 | 20=>20 | 21=>21 | 37=>62 | 46=>192 | 51=>146 | 53=>228 | 75=>235 | 76=>236 | 80=>305 | 85=>268 | 127=>285 | 143=>286 | 145=>288 | 167=>267 | 168=>270 | 171=>296 | 173=>298 | 175=>278 | 210=>281 | 212=>301 | 213=>302 | 232=>303 | 233=>304 | n=>n,fun | 15=>0 | 16=>1 | 17=>5 | 18=>6 | 19=>7 | n=>n⟩
theorem lay_LaysC_n172:LaysC.n172 Tryz.prog sρ:={ mixed:=by kernel_rfl,f129:=by kernel_rfl,f171:=by kernel_rfl,f172:=by kernel_rfl,f205:=by kernel_rfl,f243:=by kernel_rfl,f244:=by kernel_rfl,f245:=by kernel_rfl,f246:=by kernel_rfl,f247:=by kernel_rfl,f279:=by kernel_rfl,f280:=by kernel_rfl,f281:=by kernel_rfl,f282:=by kernel_rfl,f283:=by kernel_rfl,f284:=by kernel_rfl,f285:=by kernel_rfl,f286:=by kernel_rfl,f287:=by kernel_rfl,f316:=by kernel_rfl,f317:=by kernel_rfl,f318:=by kernel_rfl,f319:=by kernel_rfl,f320:=by kernel_rfl,f321:=by kernel_rfl,f322:=by kernel_rfl,f337:=by kernel_rfl,f338:=by kernel_rfl,t0:=by kernel_rfl,a0:=fun _=>by kernel_rfl,z0:=fun _=>by kernel_rfl,v0:=fun _=>by kernel_rfl,t2:=by kernel_rfl,a2:=fun _=>by kernel_rfl,z2:=fun _=>by kernel_rfl,v2:=fun _=>by kernel_rfl,t3:=by kernel_rfl,a3:=fun _=>by kernel_rfl,z3:=fun _=>by kernel_rfl,v3:=fun _=>by kernel_rfl,t4:=by kernel_rfl,a4:=fun _=>by kernel_rfl,z4:=fun _=>by kernel_rfl,v4:=fun _=>by kernel_rfl,t5:=by kernel_rfl,a5:=fun _=>by kernel_rfl,z5:=fun _=>by kernel_rfl,v5:=fun _=>by kernel_rfl,t9:=by kernel_rfl,a9:=fun _=>by kernel_rfl,z9:=fun _=>by kernel_rfl,v9:=fun _=>by kernel_rfl,t20:=by kernel_rfl,a20:=fun _=>by kernel_rfl,z20:=fun _=>by kernel_rfl,v20:=fun _=>by kernel_rfl,t21:=by kernel_rfl,a21:=fun _=>by kernel_rfl,z21:=fun _=>by kernel_rfl,v21:=fun _=>by kernel_rfl,t37:=by kernel_rfl,a37:=fun _=>by kernel_rfl,z37:=fun _=>by kernel_rfl,v37:=fun _=>by kernel_rfl,t46:=by kernel_rfl,a46:=fun _=>by kernel_rfl,z46:=fun _=>by kernel_rfl,v46:=fun _=>by kernel_rfl,t51:=by kernel_rfl,a51:=fun _=>by kernel_rfl,z51:=fun _=>by kernel_rfl,v51:=fun _=>by kernel_rfl,t53:=by kernel_rfl,a53:=fun _=>by kernel_rfl,z53:=fun _=>by kernel_rfl,v53:=fun _=>by kernel_rfl,t75:=by kernel_rfl,a75:=fun _=>by kernel_rfl,z75:=fun _=>by kernel_rfl,v75:=fun _=>by kernel_rfl,t76:=by kernel_rfl,a76:=fun _=>by kernel_rfl,z76:=fun _=>by kernel_rfl,v76:=fun _=>by kernel_rfl,t85:=by kernel_rfl,a85:=fun _=>by kernel_rfl,z85:=fun _=>by kernel_rfl,v85:=fun _=>by kernel_rfl,t127:=by kernel_rfl,a127:=fun _=>by kernel_rfl,z127:=fun _=>by kernel_rfl,v127:=fun _=>by kernel_rfl,t143:=by kernel_rfl,a143:=fun _=>by kernel_rfl,z143:=fun _=>by kernel_rfl,v143:=fun _=>by kernel_rfl,t145:=by kernel_rfl,a145:=fun _=>by kernel_rfl,z145:=fun _=>by kernel_rfl,v145:=fun _=>by kernel_rfl,t167:=by kernel_rfl,a167:=fun _=>by kernel_rfl,z167:=fun _=>by kernel_rfl,v167:=fun _=>by kernel_rfl,t168:=by kernel_rfl,a168:=fun _=>by kernel_rfl,z168:=fun _=>by kernel_rfl,v168:=fun _=>by kernel_rfl,t171:=by kernel_rfl,a171:=fun _=>by kernel_rfl,z171:=fun _=>by kernel_rfl,v171:=fun _=>by kernel_rfl,t173:=by kernel_rfl,a173:=fun _=>by kernel_rfl,z173:=fun _=>by kernel_rfl,v173:=fun _=>by kernel_rfl,t175:=by kernel_rfl,a175:=fun _=>by kernel_rfl,z175:=fun _=>by kernel_rfl,v175:=fun _=>by kernel_rfl,t210:=by kernel_rfl,a210:=fun _=>by kernel_rfl,z210:=fun _=>by kernel_rfl,v210:=fun _=>by kernel_rfl,t212:=by kernel_rfl,a212:=fun _=>by kernel_rfl,z212:=fun _=>by kernel_rfl,v212:=fun _=>by kernel_rfl,t213:=by kernel_rfl,a213:=fun _=>by kernel_rfl,z213:=fun _=>by kernel_rfl,t232:=by kernel_rfl,a232:=fun _=>by kernel_rfl,z232:=fun _=>by kernel_rfl,v232:=fun _=>by kernel_rfl,t233:=by kernel_rfl,a233:=fun _=>by kernel_rfl,z233:=fun _=>by kernel_rfl,v233:=fun _=>by kernel_rfl,g15:=by kernel_rfl,g16:=by kernel_rfl,g17:=by kernel_rfl,g18:=by kernel_rfl,g19:=by kernel_rfl,t80:=by kernel_rfl,a80:=fun _=>by kernel_rfl,z80:=fun _=>by kernel_rfl,v80:=fun _=>by kernel_rfl,i0:=by kernel_rfl,i2:=by kernel_rfl,i3:=by kernel_rfl,i4:=by kernel_rfl,i5:=by kernel_rfl,i9:=by kernel_rfl,i20:=by kernel_rfl,i21:=by kernel_rfl,i37:=by kernel_rfl,i46:=by kernel_rfl,i51:=by kernel_rfl,i53:=by kernel_rfl,i75:=by kernel_rfl,i76:=by kernel_rfl,i80:=by kernel_rfl,i85:=by kernel_rfl,i127:=by kernel_rfl,i143:=by kernel_rfl,i145:=by kernel_rfl,i167:=by kernel_rfl,i168:=by kernel_rfl,i171:=by kernel_rfl,i173:=by kernel_rfl,i175:=by kernel_rfl,i210:=by kernel_rfl,i212:=by kernel_rfl,i232:=by kernel_rfl,i233:=by kernel_rfl,m15:=by kernel_rfl,m16:=by kernel_rfl,m17:=by kernel_rfl,m18:=by kernel_rfl,m19:=by kernel_rfl,c0:=by kernel_rfl,c2:=by kernel_rfl,c3:=by kernel_rfl,c4:=by kernel_rfl,c5:=by kernel_rfl,c9:=by kernel_rfl,c20:=by kernel_rfl,c21:=by kernel_rfl,c37:=by kernel_rfl,c46:=by kernel_rfl,c51:=by kernel_rfl,c53:=by kernel_rfl,c75:=by kernel_rfl,c76:=by kernel_rfl,c80:=by kernel_rfl,c85:=by kernel_rfl,c127:=by kernel_rfl,c143:=by kernel_rfl,c145:=by kernel_rfl,c167:=by kernel_rfl,c168:=by kernel_rfl,c171:=by kernel_rfl,c173:=by kernel_rfl,c175:=by kernel_rfl,c210:=by kernel_rfl,c212:=by kernel_rfl,c213:=by kernel_rfl,c232:=by kernel_rfl,c233:=by kernel_rfl }
end
def g183 (p0:(List UInt8)×Int×Int×Unit) (p1:Int):Option Y15 :=
 let u1:=(subW .i64 p1 (lenI p0.1))
 cond (ltI u1 0) (
 some ((),(((-1),()),()))
 ) (
 some ((),((u1,()),()))
 )
def s183:Su:=⟨[.c true kk204,.c false kk3],[(false,kk3)],true,.inl fun x=>g183 x.1 x.2.1.1⟩
theorem ok183:SuOK Tryz.prog 183 s183 :=
 fq an Tryz.f183
def r130_0 (t0:List R204) (t1 t5:Int):Rd ((List R204)×Int×Int×Unit) Y0 :=
 cond (ltI t5 (lenI t0)) (
 cond (inB t5 t0) (
 (g183 (gt d204 t0 t5) t1).bind fun y1 =>
 cond (ltI y1.2.1.1 0) (
 some (.inr (.inr ((-1),())))
 ) (
 some (.inl (t0,y1.2.1.1,(addW .i64 t5 1),()))
 )
 ) none
 ) (
 some (.inr (.inl (t0,t1,t5,())))
 )
def l130_0:=cu3 (loopF (un3 r130_0))
def g130 (p0:List R204) (p1:Int):Option Y15 :=
 let u1:=(subW .i64 p1 (lenI p0))
 cond (ltI u1 0) (
 some ((),(((-1),()),()))
 ) (
 (l130_0 p0 u1 0).bind (Sum.elim (fun y1 =>
 some ((),((y1.2.1,()),()))
 ) (fun y1 =>
 some ((),(y1,()))
 ))
 )
def s130:Su:=⟨[.c false [.sl 204 kk204],.c false kk3],[(false,kk3)],true,.inl fun x=>g130 x.1.1 x.2.1.1⟩
theorem ok130:SuOK Tryz.prog 130 s130 :=
 fl (ac ok183 an) [.d 4 (.int .i64)] [(0,⟨[.d 0 (.sl 204 kk204),.d 1 (.int .i64),.d 5 (.int .i64)],loopF (un3 r130_0)⟩)] [] Tryz.f130 (lp [0] (sc lp0 sn))
def g83 (p0:List R3) (p1:Int):Option Y15 :=
 let u1:=(subW .i64 p1 (lenI p0))
 cond (ltI u1 0) (
 some ((),(((-1),()),()))
 ) (
 some ((),((u1,()),()))
 )
def s83:Su:=⟨[.c false kk53,.c false kk3],[(false,kk3)],true,.inl fun x=>g83 x.1.1 x.2.1.1⟩
theorem ok83:SuOK Tryz.prog 83 s83 :=
 fq an Tryz.f83
def g131 (p0:Int×Int×(List R3)×(List R3)×Unit) (p1:Int):Option Y15 :=
 (g83 p0.2.2.1 p1).bind fun y1 =>
 cond (ltI y1.2.1.1 0) (
 some ((),(((-1),()),()))
 ) (
 (g83 p0.2.2.2.1 y1.2.1.1).bind fun y2 =>
 cond (ltI y2.2.1.1 0) (
 some ((),(((-1),()),()))
 ) (
 some ((),(y2.2.1,()))
 )
 )
def s131:Su:=⟨[.c true [.int .i64,.int .i64,.sl 3 kk3,.sl 3 kk3],.c false kk3],[(false,kk3)],true,.inl fun x=>g131 x.1 x.2.1.1⟩
theorem ok131:SuOK Tryz.prog 131 s131 :=
 fq (ac ok83 an) Tryz.f131
def g82 (p0:List R5) (p1:Int):Option Y15 :=
 let u1:=(subW .i64 p1 (lenI p0))
 cond (ltI u1 0) (
 some ((),(((-1),()),()))
 ) (
 some ((),((u1,()),()))
 )
def s82:Su:=⟨[.c false [.sl 5 kk5],.c false kk3],[(false,kk3)],true,.inl fun x=>g82 x.1.1 x.2.1.1⟩
theorem ok82:SuOK Tryz.prog 82 s82 :=
 fq an Tryz.f82
def g184 (p0:(List UInt8)×(List UInt8)×(List R5)×Unit) (p1:Int):Option Y15 :=
 let u1:=(subW .i64 p1 (lenI p0.1))
 cond (ltI u1 0) (
 some ((),(((-1),()),()))
 ) (
 let u2:=(subW .i64 u1 (lenI p0.2.1))
 cond (ltI u2 0) (
 some ((),(((-1),()),()))
 ) (
 (g82 p0.2.2.1 u2).bind fun y1 =>
 cond (ltI y1.2.1.1 0) (
 some ((),(((-1),()),()))
 ) (
 some ((),(y1.2.1,()))
 )
 )
 )
def s184:Su:=⟨[.c true kk206,.c false kk3],[(false,kk3)],true,.inl fun x=>g184 x.1 x.2.1.1⟩
theorem ok184:SuOK Tryz.prog 184 s184 :=
 fq (ac ok82 an) Tryz.f184
def r132_0 (t0:List R206) (t1 t5:Int):Rd ((List R206)×Int×Int×Unit) Y0 :=
 cond (ltI t5 (lenI t0)) (
 cond (inB t5 t0) (
 (g184 (gt d206 t0 t5) t1).bind fun y1 =>
 cond (ltI y1.2.1.1 0) (
 some (.inr (.inr ((-1),())))
 ) (
 some (.inl (t0,y1.2.1.1,(addW .i64 t5 1),()))
 )
 ) none
 ) (
 some (.inr (.inl (t0,t1,t5,())))
 )
def l132_0:=cu3 (loopF (un3 r132_0))
def g132 (p0:List R206) (p1:Int):Option Y15 :=
 let u1:=(subW .i64 p1 (lenI p0))
 cond (ltI u1 0) (
 some ((),(((-1),()),()))
 ) (
 (l132_0 p0 u1 0).bind (Sum.elim (fun y1 =>
 some ((),((y1.2.1,()),()))
 ) (fun y1 =>
 some ((),(y1,()))
 ))
 )
def s132:Su:=⟨[.c false [.sl 206 kk206],.c false kk3],[(false,kk3)],true,.inl fun x=>g132 x.1.1 x.2.1.1⟩
theorem ok132:SuOK Tryz.prog 132 s132 :=
 fl (ac ok184 an) [.d 4 (.int .i64)] [(0,⟨[.d 0 (.sl 206 kk206),.d 1 (.int .i64),.d 5 (.int .i64)],loopF (un3 r132_0)⟩)] [] Tryz.f132 (lp [0] (sc lp0 sn))
def g97 (p0:(List UInt8)×Int×Int×Int×Int×(List R204)×Int×Int×(List R3)×(List R3)×(List R206)×Unit) (p1:Int):Option Y15 :=
 let u1:=(subW .i64 p1 (lenI p0.1))
 cond (ltI u1 0) (
 some ((),(((-1),()),()))
 ) (
 (g130 p0.2.2.2.2.2.1 u1).bind fun y1 =>
 cond (ltI y1.2.1.1 0) (
 some ((),(((-1),()),()))
 ) (
 (g131 (p0.2.2.2.2.2.2.1,p0.2.2.2.2.2.2.2.1,p0.2.2.2.2.2.2.2.2.1,p0.2.2.2.2.2.2.2.2.2.1,()) y1.2.1.1).bind fun y2 =>
 cond (ltI y2.2.1.1 0) (
 some ((),(((-1),()),()))
 ) (
 (g132 p0.2.2.2.2.2.2.2.2.2.2.1 y2.2.1.1).bind fun y3 =>
 cond (ltI y3.2.1.1 0) (
 some ((),(((-1),()),()))
 ) (
 some ((),(y3.2.1,()))
 )
 )
 )
 )
def s97:Su:=⟨[.c true kk124,.c false kk3],[(false,kk3)],true,.inl fun x=>g97 x.1 x.2.1.1⟩
theorem ok97:SuOK Tryz.prog 97 s97 :=
 fq (ac ok130 (ac ok131 (ac ok132 an))) Tryz.f97
def r75_0 (t0:List R124) (t1 t5:Int):Rd ((List R124)×Int×Int×Unit) Y0 :=
 cond (ltI t5 (lenI t0)) (
 cond (inB t5 t0) (
 (g97 (gt d124 t0 t5) t1).bind fun y1 =>
 cond (ltI y1.2.1.1 0) (
 some (.inr (.inr ((-1),())))
 ) (
 some (.inl (t0,y1.2.1.1,(addW .i64 t5 1),()))
 )
 ) none
 ) (
 some (.inr (.inl (t0,t1,t5,())))
 )
def l75_0:=cu3 (loopF (un3 r75_0))
def g75 (p0:List R124) (p1:Int):Option Y15 :=
 let u1:=(subW .i64 p1 (lenI p0))
 cond (ltI u1 0) (
 some ((),(((-1),()),()))
 ) (
 (l75_0 p0 u1 0).bind (Sum.elim (fun y1 =>
 some ((),((y1.2.1,()),()))
 ) (fun y1 =>
 some ((),(y1,()))
 ))
 )
def s75:Su:=⟨[.c false [.sl 124 kk124],.c false kk3],[(false,kk3)],true,.inl fun x=>g75 x.1.1 x.2.1.1⟩
theorem ok75:SuOK Tryz.prog 75 s75 :=
 fl (ac ok97 an) [.d 4 (.int .i64)] [(0,⟨[.d 0 (.sl 124 kk124),.d 1 (.int .i64),.d 5 (.int .i64)],loopF (un3 r75_0)⟩)] [] Tryz.f75 (lp [0] (sc lp0 sn))
def g57 (p0:Int×(List R124)×Unit) (p1:Int):Option Y15 :=
 (g75 p0.2.1 p1).bind fun y1 =>
 cond (ltI y1.2.1.1 0) (
 some ((),(((-1),()),()))
 ) (
 some ((),(y1.2.1,()))
 )
def s57:Su:=⟨[.c true kk84,.c false kk3],[(false,kk3)],true,.inl fun x=>g57 x.1 x.2.1.1⟩
theorem ok57:SuOK Tryz.prog 57 s57 :=
 fq (ac ok75 an) Tryz.f57
def r28_0 (t0:List R84) (t1 t5:Int):Rd ((List R84)×Int×Int×Unit) Y0 :=
 cond (ltI t5 (lenI t0)) (
 cond (inB t5 t0) (
 (g57 (gt d84 t0 t5) t1).bind fun y1 =>
 cond (ltI y1.2.1.1 0) (
 some (.inr (.inr ((-1),())))
 ) (
 some (.inl (t0,y1.2.1.1,(addW .i64 t5 1),()))
 )
 ) none
 ) (
 some (.inr (.inl (t0,t1,t5,())))
 )
def l28_0:=cu3 (loopF (un3 r28_0))
def g28 (p0:List R84) (p1:Int):Option Y15 :=
 let u1:=(subW .i64 p1 (lenI p0))
 cond (ltI u1 0) (
 some ((),(((-1),()),()))
 ) (
 (l28_0 p0 u1 0).bind (Sum.elim (fun y1 =>
 some ((),((y1.2.1,()),()))
 ) (fun y1 =>
 some ((),(y1,()))
 ))
 )
def s28:Su:=⟨[.c false [.sl 84 kk84],.c false kk3],[(false,kk3)],true,.inl fun x=>g28 x.1.1 x.2.1.1⟩
theorem ok28:SuOK Tryz.prog 28 s28 :=
 fl (ac ok57 an) [.d 4 (.int .i64)] [(0,⟨[.d 0 (.sl 84 kk84),.d 1 (.int .i64),.d 5 (.int .i64)],loopF (un3 r28_0)⟩)] [] Tryz.f28 (lp [0] (sc lp0 sn))
def g58 (p0:(List R5)×Int×(List R3)×Int×Int×Int×Int×Int×(List R5)×Unit) (p1:Int):Option Y15 :=
 (g82 p0.1 p1).bind fun y1 =>
 cond (ltI y1.2.1.1 0) (
 some ((),(((-1),()),()))
 ) (
 (g83 p0.2.2.1 y1.2.1.1).bind fun y2 =>
 cond (ltI y2.2.1.1 0) (
 some ((),(((-1),()),()))
 ) (
 (g82 p0.2.2.2.2.2.2.2.2.1 y2.2.1.1).bind fun y3 =>
 cond (ltI y3.2.1.1 0) (
 some ((),(((-1),()),()))
 ) (
 some ((),(y3.2.1,()))
 )
 )
 )
def s58:Su:=⟨[.c true kk86,.c false kk3],[(false,kk3)],true,.inl fun x=>g58 x.1 x.2.1.1⟩
theorem ok58:SuOK Tryz.prog 58 s58 :=
 fq (ac ok83 (ac ok82 an)) Tryz.f58
def r29_0 (t0:List R86) (t1 t5:Int):Rd ((List R86)×Int×Int×Unit) Y0 :=
 cond (ltI t5 (lenI t0)) (
 cond (inB t5 t0) (
 (g58 (gt d86 t0 t5) t1).bind fun y1 =>
 cond (ltI y1.2.1.1 0) (
 some (.inr (.inr ((-1),())))
 ) (
 some (.inl (t0,y1.2.1.1,(addW .i64 t5 1),()))
 )
 ) none
 ) (
 some (.inr (.inl (t0,t1,t5,())))
 )
def l29_0:=cu3 (loopF (un3 r29_0))
def g29 (p0:List R86) (p1:Int):Option Y15 :=
 let u1:=(subW .i64 p1 (lenI p0))
 cond (ltI u1 0) (
 some ((),(((-1),()),()))
 ) (
 (l29_0 p0 u1 0).bind (Sum.elim (fun y1 =>
 some ((),((y1.2.1,()),()))
 ) (fun y1 =>
 some ((),(y1,()))
 ))
 )
def s29:Su:=⟨[.c false [.sl 86 kk86],.c false kk3],[(false,kk3)],true,.inl fun x=>g29 x.1.1 x.2.1.1⟩
theorem ok29:SuOK Tryz.prog 29 s29 :=
 fl (ac ok58 an) [.d 4 (.int .i64)] [(0,⟨[.d 0 (.sl 86 kk86),.d 1 (.int .i64),.d 5 (.int .i64)],loopF (un3 r29_0)⟩)] [] Tryz.f29 (lp [0] (sc lp0 sn))
def g8 (p0:(List R84)×Int×Int×(List R86)×Unit) (p1:Int):Option Y15 :=
 (g28 p0.1 p1).bind fun y1 =>
 cond (ltI y1.2.1.1 0) (
 some ((),(((-1),()),()))
 ) (
 (g29 p0.2.2.2.1 y1.2.1.1).bind fun y2 =>
 cond (ltI y2.2.1.1 0) (
 some ((),(((-1),()),()))
 ) (
 some ((),(y2.2.1,()))
 )
 )
def s8:Su:=⟨[.c true [.sl 84 kk84,.int .i64,.int .i64,.sl 86 kk86],.c false kk3],[(false,kk3)],true,.inl fun x=>g8 x.1 x.2.1.1⟩
theorem ok8:SuOK Tryz.prog 8 s8 :=
 fq (ac ok28 (ac ok29 an)) Tryz.f8
def g188 (p0:(List UInt8)×Int×Int×Unit):Option (Unit×(Y18×Unit)) :=
 some ((),(p0,()))
def s188:Su:=⟨[.c true kk204],[(true,kk204)],true,.inl fun x=>g188 x.1⟩
theorem ok188:SuOK Tryz.prog 188 s188 :=
 fq an Tryz.f188
def r138_0 (t0:List R204) (t3:List R157) (t4:Int):Rd ((List R204)×(List R157)×Int×Unit) Unit :=
 cond (ltI t4 (lenI t0)) (
 cond (inB t4 t0) (
 (g188 (gt d204 t0 t4)).bind fun y1 =>
 cond (inB t4 t3) (
 let u1:=(gt d157 t3 t4)
 let u2:=(stI t3 t4 (y1.2.1.1,u1.2.1,u1.2.2.1,()))
 let u3:=(gt d157 u2 t4)
 let u4:=(stI u2 t4 (u3.1,y1.2.1.2.1,u3.2.2.1,()))
 let u5:=(gt d157 u4 t4)
 some (.inl (t0,(stI u4 t4 (u5.1,u5.2.1,y1.2.1.2.2.1,())),(addW .i64 t4 1),()))
 ) none
 ) none
 ) (
 some (.inr (.inl (t0,t3,t4,())))
 )
def l138_0:=cu3 (loopF (un3 r138_0))
def g138 (p0:List R204):Option (Unit×(((List R157)×Unit)×Unit)) :=
 let u1:=(lenI p0)
 cond (mkB 32 u1) (
 (l138_0 p0 (repI d157 u1) 0).bind (Sum.elim (fun y1 =>
 some ((),((y1.2.1,()),()))
 ) (fun y1 =>
 none
 ))
 ) none
def s138:Su:=⟨[.c false [.sl 204 kk204]],[(false,[.sl 157 kk157])],true,.inl fun x=>g138 x.1.1⟩
theorem ok138:SuOK Tryz.prog 138 s138 :=
 fl (ac ok188 an) [] [(0,⟨[.d 0 (.sl 204 kk204),.own 3 (.sl 157 kk157),.d 4 (.int .i64)],loopF (un3 r138_0)⟩)] [] Tryz.f138 (lp [0] (sc lp0 sn))
def r89_0 (t0 t3:List R3) (t4:Int):Rd ((List R3)×(List R3)×Int×Unit) Unit :=
 cond (ltI t4 (lenI t0)) (
 cond (inB t4 t0) (
 cond (inB t4 t3) (
 some (.inl (t0,(stI t3 t4 (gt d3 t0 t4)),(addW .i64 t4 1),()))
 ) none
 ) none
 ) (
 some (.inr (.inl (t0,t3,t4,())))
 )
def l89_0:=cu3 (loopF (un3 r89_0))
def g89 (p0:List R3):Option Y22 :=
 let u1:=(lenI p0)
 cond (mkB 8 u1) (
 (l89_0 p0 (repI d3 u1) 0).bind (Sum.elim (fun y1 =>
 some ((),((y1.2.1,()),()))
 ) (fun y1 =>
 none
 ))
 ) none
def s89:Su:=⟨[.c false kk53],[(false,kk53)],true,.inl fun x=>g89 x.1.1⟩
theorem ok89:SuOK Tryz.prog 89 s89 :=
 fl an [] [(0,⟨[.d 0 (.sl 3 kk3),.own 3 (.sl 3 kk3),.d 4 (.int .i64)],loopF (un3 r89_0)⟩)] [] Tryz.f89 (lp [0] (sc lp0 sn))
def g139 (p0:Int×Int×(List R3)×(List R3)×Unit):Option Y42 :=
 (g89 p0.2.2.1).bind fun y1 =>
 (g89 p0.2.2.2.1).bind fun y2 =>
 some ((),((p0.1,p0.2.1,y1.2.1.1,y2.2.1.1,()),()))
def s139:Su:=⟨[.c true [.int .i64,.int .i64,.sl 3 kk3,.sl 3 kk3]],[(true,[.int .i64,.int .i64,.sl 3 kk3,.sl 3 kk3])],true,.inl fun x=>g139 x.1⟩
theorem ok139:SuOK Tryz.prog 139 s139 :=
 fq (ac ok89 an) Tryz.f139
def r88_0 (t0 t3:List R5) (t4:Int):Rd ((List R5)×(List R5)×Int×Unit) Unit :=
 cond (ltI t4 (lenI t0)) (
 cond (inB t4 t0) (
 cond (inB t4 t3) (
 some (.inl (t0,(stI t3 t4 (gt d5 t0 t4)),(addW .i64 t4 1),()))
 ) none
 ) none
 ) (
 some (.inr (.inl (t0,t3,t4,())))
 )
def l88_0:=cu3 (loopF (un3 r88_0))
def g88 (p0:List R5):Option (Unit×(((List R5)×Unit)×Unit)) :=
 let u1:=(lenI p0)
 cond (mkB 1 u1) (
 (l88_0 p0 (repI d5 u1) 0).bind (Sum.elim (fun y1 =>
 some ((),((y1.2.1,()),()))
 ) (fun y1 =>
 none
 ))
 ) none
def s88:Su:=⟨[.c false [.sl 5 kk5]],[(false,[.sl 5 kk5])],true,.inl fun x=>g88 x.1.1⟩
theorem ok88:SuOK Tryz.prog 88 s88 :=
 fl an [] [(0,⟨[.d 0 (.sl 5 kk5),.own 3 (.sl 5 kk5),.d 4 (.int .i64)],loopF (un3 r88_0)⟩)] [] Tryz.f88 (lp [0] (sc lp0 sn))
def g189 (p0:(List UInt8)×(List UInt8)×(List R5)×Unit):Option (Unit×(R206×Unit)) :=
 (g88 p0.2.2.1).bind fun y1 =>
 some ((),((p0.1,p0.2.1,y1.2.1.1,()),()))
def s189:Su:=⟨[.c true kk206],[(true,kk206)],true,.inl fun x=>g189 x.1⟩
theorem ok189:SuOK Tryz.prog 189 s189 :=
 fq (ac ok88 an) Tryz.f189
def r140_0 (t0:List R206) (t3:List R160) (t4:Int):Rd ((List R206)×(List R160)×Int×Unit) Unit :=
 cond (ltI t4 (lenI t0)) (
 cond (inB t4 t0) (
 (g189 (gt d206 t0 t4)).bind fun y1 =>
 cond (inB t4 t3) (
 let u1:=(gt d160 t3 t4)
 let u2:=(stI t3 t4 (y1.2.1.1,u1.2.1,u1.2.2.1,()))
 let u3:=(gt d160 u2 t4)
 let u4:=(stI u2 t4 (u3.1,y1.2.1.2.1,u3.2.2.1,()))
 let u5:=(gt d160 u4 t4)
 some (.inl (t0,(stI u4 t4 (u5.1,u5.2.1,y1.2.1.2.2.1,())),(addW .i64 t4 1),()))
 ) none
 ) none
 ) (
 some (.inr (.inl (t0,t3,t4,())))
 )
def l140_0:=cu3 (loopF (un3 r140_0))
def g140 (p0:List R206):Option Y27 :=
 let u1:=(lenI p0)
 cond (mkB 56 u1) (
 (l140_0 p0 (repI d160 u1) 0).bind (Sum.elim (fun y1 =>
 some ((),((y1.2.1,()),()))
 ) (fun y1 =>
 none
 ))
 ) none
def s140:Su:=⟨[.c false [.sl 206 kk206]],[(false,[.sl 160 kk160])],true,.inl fun x=>g140 x.1.1⟩
theorem ok140:SuOK Tryz.prog 140 s140 :=
 fl (ac ok189 an) [] [(0,⟨[.d 0 (.sl 206 kk206),.own 3 (.sl 160 kk160),.d 4 (.int .i64)],loopF (un3 r140_0)⟩)] [] Tryz.f140 (lp [0] (sc lp0 sn))
def g105 (p0:(List UInt8)×Int×Int×Int×Int×(List R204)×Int×Int×(List R3)×(List R3)×(List R206)×Unit):Option Y57 :=
 (g138 p0.2.2.2.2.2.1).bind fun y1 =>
 (g139 (p0.2.2.2.2.2.2.1,p0.2.2.2.2.2.2.2.1,p0.2.2.2.2.2.2.2.2.1,p0.2.2.2.2.2.2.2.2.2.1,())).bind fun y2 =>
 (g140 p0.2.2.2.2.2.2.2.2.2.2.1).bind fun y3 =>
 some ((),((p0.1,p0.2.1,p0.2.2.1,p0.2.2.2.1,p0.2.2.2.2.1,y1.2.1.1,y2.2.1.1,y2.2.1.2.1,y2.2.1.2.2.1,y2.2.1.2.2.2.1,y3.2.1.1,()),()))
def s105:Su:=⟨[.c true kk124],[(true,kk92)],true,.inl fun x=>g105 x.1⟩
theorem ok105:SuOK Tryz.prog 105 s105 :=
 fq (ac ok138 (ac ok139 (ac ok140 an))) Tryz.f105
def r77_0 (t0:List R124) (t3:List R92) (t4:Int):Rd ((List R124)×(List R92)×Int×Unit) Unit :=
 cond (ltI t4 (lenI t0)) (
 cond (inB t4 t0) (
 (g105 (gt d124 t0 t4)).bind fun y1 =>
 cond (inB t4 t3) (
 some (.inl (t0,(stI t3 t4 y1.2.1),(addW .i64 t4 1),()))
 ) none
 ) none
 ) (
 some (.inr (.inl (t0,t3,t4,())))
 )
def l77_0:=cu3 (loopF (un3 r77_0))
def g77 (p0:List R124):Option Y26 :=
 let u1:=(lenI p0)
 cond (mkB 160 u1) (
 (l77_0 p0 (repI d92 u1) 0).bind (Sum.elim (fun y1 =>
 some ((),((y1.2.1,()),()))
 ) (fun y1 =>
 none
 ))
 ) none
def s77:Su:=⟨[.c false [.sl 124 kk124]],[(false,[.sl 92 kk92])],true,.inl fun x=>g77 x.1.1⟩
theorem ok77:SuOK Tryz.prog 77 s77 :=
 fl (ac ok105 an) [] [(0,⟨[.d 0 (.sl 124 kk124),.own 3 (.sl 92 kk92),.d 4 (.int .i64)],loopF (un3 r77_0)⟩)] [] Tryz.f77 (lp [0] (sc lp0 sn))
def g65 (p0:Int×(List R124)×Unit):Option (Unit×(Y8×Unit)) :=
 (g77 p0.2.1).bind fun y1 =>
 some ((),((p0.1,y1.2.1.1,()),()))
def s65:Su:=⟨[.c true kk84],[(true,kk67)],true,.inl fun x=>g65 x.1⟩
theorem ok65:SuOK Tryz.prog 65 s65 :=
 fq (ac ok77 an) Tryz.f65
def r35_0 (t0:List R84) (t3:List R67) (t4:Int):Rd ((List R84)×(List R67)×Int×Unit) Unit :=
 cond (ltI t4 (lenI t0)) (
 cond (inB t4 t0) (
 (g65 (gt d84 t0 t4)).bind fun y1 =>
 cond (inB t4 t3) (
 let u1:=(stI t3 t4 (y1.2.1.1,(gt d67 t3 t4).2.1,()))
 some (.inl (t0,(stI u1 t4 ((gt d67 u1 t4).1,y1.2.1.2.1,())),(addW .i64 t4 1),()))
 ) none
 ) none
 ) (
 some (.inr (.inl (t0,t3,t4,())))
 )
def l35_0:=cu3 (loopF (un3 r35_0))
def g35 (p0:List R84):Option (Unit×(((List R67)×Unit)×Unit)) :=
 let u1:=(lenI p0)
 cond (mkB 32 u1) (
 (l35_0 p0 (repI d67 u1) 0).bind (Sum.elim (fun y1 =>
 some ((),((y1.2.1,()),()))
 ) (fun y1 =>
 none
 ))
 ) none
def s35:Su:=⟨[.c false [.sl 84 kk84]],[(false,[.sl 67 kk67])],true,.inl fun x=>g35 x.1.1⟩
theorem ok35:SuOK Tryz.prog 35 s35 :=
 fl (ac ok65 an) [] [(0,⟨[.d 0 (.sl 84 kk84),.own 3 (.sl 67 kk67),.d 4 (.int .i64)],loopF (un3 r35_0)⟩)] [] Tryz.f35 (lp [0] (sc lp0 sn))
def g66 (p0:(List R5)×Int×(List R3)×Int×Int×Int×Int×Int×(List R5)×Unit):Option (Unit×(R86×Unit)) :=
 (g88 p0.1).bind fun y1 =>
 (g89 p0.2.2.1).bind fun y2 =>
 (g88 p0.2.2.2.2.2.2.2.2.1).bind fun y3 =>
 some ((),((y1.2.1.1,p0.2.1,y2.2.1.1,p0.2.2.2.1,p0.2.2.2.2.1,p0.2.2.2.2.2.1,p0.2.2.2.2.2.2.1,p0.2.2.2.2.2.2.2.1,y3.2.1.1,()),()))
def s66:Su:=⟨[.c true kk86],[(true,kk86)],true,.inl fun x=>g66 x.1⟩
theorem ok66:SuOK Tryz.prog 66 s66 :=
 fq (ac ok89 (ac ok88 an)) Tryz.f66
def r36_0 (t0:List R86) (t3:List R64) (t4:Int):Rd ((List R86)×(List R64)×Int×Unit) Unit :=
 cond (ltI t4 (lenI t0)) (
 cond (inB t4 t0) (
 (g66 (gt d86 t0 t4)).bind fun y1 =>
 cond (inB t4 t3) (
 some (.inl (t0,(stI t3 t4 y1.2.1),(addW .i64 t4 1),()))
 ) none
 ) none
 ) (
 some (.inr (.inl (t0,t3,t4,())))
 )
def l36_0:=cu3 (loopF (un3 r36_0))
def g36 (p0:List R86):Option (Unit×(((List R64)×Unit)×Unit)) :=
 let u1:=(lenI p0)
 cond (mkB 120 u1) (
 (l36_0 p0 (repI d64 u1) 0).bind (Sum.elim (fun y1 =>
 some ((),((y1.2.1,()),()))
 ) (fun y1 =>
 none
 ))
 ) none
def s36:Su:=⟨[.c false [.sl 86 kk86]],[(false,[.sl 64 kk64])],true,.inl fun x=>g36 x.1.1⟩
theorem ok36:SuOK Tryz.prog 36 s36 :=
 fl (ac ok66 an) [] [(0,⟨[.d 0 (.sl 86 kk86),.own 3 (.sl 64 kk64),.d 4 (.int .i64)],loopF (un3 r36_0)⟩)] [] Tryz.f36 (lp [0] (sc lp0 sn))
def g10 (p0:(List R84)×Int×Int×(List R86)×Unit):Option (Unit×(Y30×Unit)) :=
 (g35 p0.1).bind fun y1 =>
 (g36 p0.2.2.2.1).bind fun y2 =>
 some ((),((y1.2.1.1,p0.2.1,p0.2.2.1,y2.2.1.1,()),()))
def s10:Su:=⟨[.c true [.sl 84 kk84,.int .i64,.int .i64,.sl 86 kk86]],[(true,[.sl 67 kk67,.int .i64,.int .i64,.sl 64 kk64])],true,.inl fun x=>g10 x.1⟩
theorem ok10:SuOK Tryz.prog 10 s10 :=
 fq (ac ok35 (ac ok36 an)) Tryz.f10
def g44 (p0 p1 p2:Int):Option Y17 :=
 some ((),(((cond (leI p1 p0) (leI p0 p2) false),()),()))
def s44:Su:=⟨[.c false kk3,.c false kk3,.c false kk3],[(false,[.bool])],true,.inl fun x=>g44 x.1.1 x.2.1.1 x.2.2.1.1⟩
theorem ok44:SuOK Tryz.prog 44 s44 :=
 fq an Tryz.f44
def g117 (p0:Int×Int×(List R3)×(List R3)×Unit):Option Y42 :=
 cond (fitB 8 [] p0.2.2.1) (
 cond (fitB 8 [] p0.2.2.2.1) (
 some ((),((p0.1,p0.2.1,(apL [] p0.2.2.1),(apL [] p0.2.2.2.1),()),()))
 ) none
 ) none
def s117:Su:=⟨[.c true [.int .i64,.int .i64,.sl 3 kk3,.sl 3 kk3]],[(true,[.int .i64,.int .i64,.sl 3 kk3,.sl 3 kk3])],true,.inl fun x=>g117 x.1⟩
theorem ok117:SuOK Tryz.prog 117 s117 :=
 fq an Tryz.f117
def r118_0 (t3 t7:List R160) (t8 t9:Int):Rd Y32 Unit :=
 cond (ltI t9 t8) (
 cond (inB t9 t7) (
 let u1:=(gt d160 t7 t9)
 cond (fitB 1 [] u1.2.2.1) (
 cond (fitB 56 t3 [(u1.1,u1.2.1,(apL [] u1.2.2.1),())]) (
 some (.inl ((apL t3 [(u1.1,u1.2.1,(apL [] u1.2.2.1),())]),t7,t8,(addW .i64 t9 1),()))
 ) none
 ) none
 ) none
 ) (
 some (.inr (.inl (t3,t7,t8,t9,())))
 )
def l118_0:=cu4 (loopF (un4 r118_0))
def g118 (p0:List R160):Option Y27 :=
 (l118_0 [] p0 (lenI p0) 0).bind (Sum.elim (fun y1 =>
 some ((),((y1.1,()),()))
 ) (fun y1 =>
 none
 ))
def s118:Su:=⟨[.c false [.sl 160 kk160]],[(false,[.sl 160 kk160])],true,.inl fun x=>g118 x.1.1⟩
theorem ok118:SuOK Tryz.prog 118 s118 :=
 fl an [] [(0,⟨[.own 3 (.sl 160 kk160),.d 7 (.sl 160 kk160),.d 8 (.int .i64),.d 9 (.int .i64)],loopF (un4 r118_0)⟩)] [] Tryz.f118 (lp [0] (sc lp0 sn))
def g85 (p0:(List UInt8)×Int×Int×Int×Int×(List R157)×Int×Int×(List R3)×(List R3)×(List R160)×Unit):Option Y57 :=
 cond (fitB 32 [] p0.2.2.2.2.2.1) (
 (g117 (p0.2.2.2.2.2.2.1,p0.2.2.2.2.2.2.2.1,p0.2.2.2.2.2.2.2.2.1,p0.2.2.2.2.2.2.2.2.2.1,())).bind fun y1 =>
 (g118 p0.2.2.2.2.2.2.2.2.2.2.1).bind fun y2 =>
 some ((),((p0.1,p0.2.1,p0.2.2.1,p0.2.2.2.1,p0.2.2.2.2.1,(apL [] p0.2.2.2.2.2.1),y1.2.1.1,y1.2.1.2.1,y1.2.1.2.2.1,y1.2.1.2.2.2.1,y2.2.1.1,()),()))
 ) none
def s85:Su:=⟨[.c true kk92],[(true,kk92)],true,.inl fun x=>g85 x.1⟩
theorem ok85:SuOK Tryz.prog 85 s85 :=
 fq (ac ok117 (ac ok118 an)) Tryz.f85
def r60_4 (t3:List R92) (t8:Int) (t11:List R67) (t12 t13:Int) (t18:List R92) (t19 t20:Int) (b2:(List R92)×Unit) (b7:(List UInt8)×Int×Int×Int×Int×(List R157)×Int×Int×(List R3)×(List R3)×(List R160)×Unit):Rd ((List R92)×Int×(List R67)×Int×Int×(List R92)×Int×Int×Y4×R92×Unit) Unit :=
 cond (ltI 0 t8) (
 let u1:=(subW .i64 t8 1)
 cond (inB u1 t3) (
 cond (!(leS (gt d92 t3 u1).1 b7.1)) (
 some (.inl (t3,u1,t11,t12,t13,t18,t19,t20,b2,b7,()))
 ) (
 some (.inr (.inl (t3,t8,t11,t12,t13,t18,t19,t20,b2,b7,())))
 )
 ) none
 ) (
 some (.inr (.inl (t3,t8,t11,t12,t13,t18,t19,t20,b2,b7,())))
 )
def l60_4:=cu10 (loopF (un10 r60_4))
def r60_2 (t3:List R92) (t11:List R67) (t12 t13:Int) (t18:List R92) (t19 t20:Int) (b2:(List R92)×Unit):Rd ((List R92)×(List R67)×Int×Int×(List R92)×Int×Int×Y4×Unit) Unit :=
 cond (ltI t20 t19) (
 cond (inB t20 t18) (
 (l60_4 t3 (lenI t3) t11 t12 t13 t18 t19 t20 b2 (gt d92 t18 t20)).bind (Sum.elim (fun y1 =>
 cond (cutB 0 y1.2.1 y1.1) (
 cond (fitN 160 [] y1.1 y1.2.1) (
 (g85 y1.2.2.2.2.2.2.2.2.2.1).bind fun y2 =>
 let u1:=(apL [] (tkI y1.1 y1.2.1))
 cond (fitB 160 u1 [y2.2.1]) (
 cond (preI y1.2.1 y1.2.1) (
 let u2:=(apL u1 [y2.2.1])
 let u3:=(drI y1.1 y1.2.1)
 cond (fitB 160 u2 u3) (
 some (.inl ((apL u2 u3),y1.2.2.1,y1.2.2.2.1,y1.2.2.2.2.1,y1.2.2.2.2.2.1,y1.2.2.2.2.2.2.1,(addW .i64 y1.2.2.2.2.2.2.2.1 1),y1.2.2.2.2.2.2.2.2.1,()))
 ) none
 ) none
 ) none
 ) none
 ) none
 ) (fun y1 =>
 some (.inr (.inr ()))
 ))
 ) none
 ) (
 some (.inr (.inl (t3,t11,t12,t13,t18,t19,t20,b2,())))
 )
def l60_2:=cu8 (loopF (un8 r60_2))
def r60_0 (t3:List R92) (t11:List R67) (t12 t13:Int) (b2:(List R92)×Unit):Rd ((List R92)×(List R67)×Int×Int×Y4×Unit) Unit :=
 cond (ltI t13 t12) (
 cond (inB t13 t11) (
 (l60_2 t3 t11 t12 t13 (gt d67 t11 t13).2.1 (lenI (gt d67 t11 t13).2.1) 0 b2).bind (Sum.elim (fun y1 =>
 some (.inl (y1.1,y1.2.1,y1.2.2.1,(addW .i64 y1.2.2.2.1 1),y1.2.2.2.2.2.2.2.1,()))
 ) (fun y1 =>
 some (.inr (.inr ()))
 ))
 ) none
 ) (
 some (.inr (.inl (t3,t11,t12,t13,b2,())))
 )
def l60_0:=cu5 (loopF (un5 r60_0))
def g60 (p0:List R67):Option Y26 :=
 (l60_0 [] p0 (lenI p0) 0 ([],())).bind (Sum.elim (fun y1 =>
 some ((),((y1.1,()),()))
 ) (fun y1 =>
 none
 ))
def s60:Su:=⟨[.c false [.sl 67 kk67]],[(true,[.sl 92 kk92])],true,.inl fun x=>g60 x.1.1⟩
def sg60_4:List SE:=[.own 3 (.sl 92 kk92),.d 8 (.int .i64),.d 11 (.sl 67 kk67),.d 12 (.int .i64),.d 13 (.int .i64),.d 18 (.sl 92 kk92),.d 19 (.int .i64),.d 20 (.int .i64),.box 2 [(true,.sl 92 kk92)],.box 7 [(false,.str),(false,.int .i64),(false,.int .i64),(false,.int .i64),(false,.int .i64),(false,.sl 157 kk157),(false,.int .i64),(false,.int .i64),(false,.sl 3 kk3),(false,.sl 3 kk3),(false,.sl 160 kk160)]]
def sg60_2:List SE:=[.own 3 (.sl 92 kk92),.d 11 (.sl 67 kk67),.d 12 (.int .i64),.d 13 (.int .i64),.d 18 (.sl 92 kk92),.d 19 (.int .i64),.d 20 (.int .i64),.box 2 [(true,.sl 92 kk92)]]
def sg60_0:List SE:=[.own 3 (.sl 92 kk92),.d 11 (.sl 67 kk67),.d 12 (.int .i64),.d 13 (.int .i64),.box 2 [(true,.sl 92 kk92)]]
def rh60:List SE:=[]
def lo60:Nat->Option (Lo rh60)
 | 4=>some ⟨sg60_4,un10 l60_4⟩
 | 2=>some ⟨sg60_2,un8 l60_2⟩
 | 0=>some ⟨sg60_0,un5 l60_0⟩
 | _=>none
def ga60:List (Nat×Su):=[(85,s85)]
def EL60:En:=⟨60,tt,gaOf ga60,rh60,lo60,[],fun _=>none⟩
def rg60:Nat->Option (St->Tr St)
 | 11=>some (splitF EL60 (opAt (regOf 11 (bodyOf Tryz.f60)) 0).op 44 44 44 3 8 41 42 43 44 45 9)
 | 13=>some (joinF EL60 44 44 44 9 3 8 51 52 53 54 55)
 | _=>none
def E60:En:=⟨60,tt,gaOf ga60,rh60,lo60,[],rg60⟩
theorem t60_4 (x:SigT sg60_4):(roundT E60 4 sg60_4 (loopOf 4 (bodyOf Tryz.f60)) x).run=un10 r60_4 x:=by kernel_rfl
theorem t60_2 (x:SigT sg60_2):(roundT E60 2 sg60_2 (loopOf 2 (bodyOf Tryz.f60)) x).run=un8 r60_2 x:=by kernel_rfl
theorem t60_0 (x:SigT sg60_0):(roundT E60 0 sg60_0 (loopOf 0 (bodyOf Tryz.f60)) x).run=un5 r60_0 x:=by kernel_rfl
theorem t60 (x:PT s60.ps):(fnT E60 (bodyOf Tryz.f60) Tryz.f60.results.toList s60.ps s60.rs true x).run=g60 x.1.1:=by kernel_rfl
theorem hga60:GAok Tryz.prog E60:=gaok_of (l:=ga60) ⟨ok85,trivial⟩
theorem hgaL60_11:GAok Tryz.prog EL60:=gaok_of (l:=ga60) ⟨ok85,trivial⟩
theorem R60_11:RegSem Tryz.prog E60 (regOf 11 (bodyOf Tryz.f60)) (splitF EL60 (opAt (regOf 11 (bodyOf Tryz.f60)) 0).op 44 44 44 3 8 41 42 43 44 45 9) :=
 regSem_rg rfl rfl (split_of (E:=EL60) (hTT hT) hgaL60_11 (cd:=(regOf 11 (bodyOf Tryz.f60))) (rid:=11) (o1:=opAt (regOf 11 (bodyOf Tryz.f60)) 0) (o2:=opAt (regOf 11 (bodyOf Tryz.f60)) 1) (o3:=opAt (regOf 11 (bodyOf Tryz.f60)) 2) (o4:=opAt (regOf 11 (bodyOf Tryz.f60)) 3) (o5:=opAt (regOf 11 (bodyOf Tryz.f60)) 4) (o6:=opAt (regOf 11 (bodyOf Tryz.f60)) 5) (c:=callOf (opAt (regOf 11 (bodyOf Tryz.f60)) 4)) (tys:=[])
  (by kernel_rfl) (by kernel_rfl) (by kernel_rfl) (by kernel_rfl) (by kernel_rfl) (by kernel_rfl) (by kernel_rfl) (by kernel_rfl) (by kernel_rfl) (by kernel_rfl) (by kernel_rfl) (by kernel_rfl) (by kernel_rfl) (by kernel_rfl) (by kernel_rfl) (by kernel_rfl) (by kernel_rfl) (by kernel_rfl) (by kernel_rfl) (by kernel_rfl) (by kernel_rfl))
theorem hgaL60_13:GAok Tryz.prog EL60:=gaok_of (l:=ga60) ⟨ok85,trivial⟩
theorem R60_13:RegSem Tryz.prog E60 (regOf 13 (bodyOf Tryz.f60)) (joinF EL60 44 44 44 9 3 8 51 52 53 54 55) :=
 regSem_rg rfl rfl (join_of (E:=EL60) (hTT hT) hgaL60_13 (cd:=(regOf 13 (bodyOf Tryz.f60))) (rid:=13) (o1:=opAt (regOf 13 (bodyOf Tryz.f60)) 0) (o2:=opAt (regOf 13 (bodyOf Tryz.f60)) 1) (o3:=opAt (regOf 13 (bodyOf Tryz.f60)) 2) (o4:=opAt (regOf 13 (bodyOf Tryz.f60)) 3) (o5:=opAt (regOf 13 (bodyOf Tryz.f60)) 4) (o6:=opAt (regOf 13 (bodyOf Tryz.f60)) 5) (c:=callOf (opAt (regOf 13 (bodyOf Tryz.f60)) 4)) (tys:=[])
  (by kernel_rfl) (by kernel_rfl) (by kernel_rfl) (by kernel_rfl) (by kernel_rfl) (by kernel_rfl) (by kernel_rfl) (by kernel_rfl) (by kernel_rfl) (by kernel_rfl) (by kernel_rfl) (by kernel_rfl) (by kernel_rfl) (by kernel_rfl) (by kernel_rfl) (by kernel_rfl) (by kernel_rfl) (by kernel_rfl) (by kernel_rfl) (by kernel_rfl) (by kernel_rfl) (by kernel_rfl))
theorem L60_4:LoopSem Tryz.prog E60 4 (.loop (loopOf 4 (bodyOf Tryz.f60))) ⟨sg60_4,un10 l60_4⟩ :=
 sem_of (hTT hT) hga60 hmix (step:=fun (x:SigT sg60_4)=>r60_4 x.1 x.2.1 x.2.2.1 x.2.2.2.1 x.2.2.2.2.1 x.2.2.2.2.2.1 x.2.2.2.2.2.2.1 x.2.2.2.2.2.2.2.1 x.2.2.2.2.2.2.2.2.1 x.2.2.2.2.2.2.2.2.2.1) t60_4 (loopsOK_reg [] (by kernel_rfl) trivial [] (by kernel_rfl) trivial)
theorem L60_2:LoopSem Tryz.prog E60 2 (.loop (loopOf 2 (bodyOf Tryz.f60))) ⟨sg60_2,un8 l60_2⟩ :=
 sem_of (hTT hT) hga60 hmix (step:=fun (x:SigT sg60_2)=>r60_2 x.1 x.2.1 x.2.2.1 x.2.2.2.1 x.2.2.2.2.1 x.2.2.2.2.2.1 x.2.2.2.2.2.2.1 x.2.2.2.2.2.2.2.1) t60_2 (loopsOK_reg [(4,.loop (loopOf 4 (bodyOf Tryz.f60)))] (by kernel_rfl) ⟨semL rfl L60_4,trivial⟩ [(11,regOf 11 (bodyOf Tryz.f60)),(13,regOf 13 (bodyOf Tryz.f60))] (by kernel_rfl) ⟨regL rfl R60_11,regL rfl R60_13,trivial⟩)
theorem L60_0:LoopSem Tryz.prog E60 0 (.loop (loopOf 0 (bodyOf Tryz.f60))) ⟨sg60_0,un5 l60_0⟩ :=
 sem_of (hTT hT) hga60 hmix (step:=fun (x:SigT sg60_0)=>r60_0 x.1 x.2.1 x.2.2.1 x.2.2.2.1 x.2.2.2.2.1) t60_0 (loopsOK_reg [(2,.loop (loopOf 2 (bodyOf Tryz.f60)))] (by kernel_rfl) ⟨semL rfl L60_2,trivial⟩ [] (by kernel_rfl) trivial)
theorem ok60:SuOK Tryz.prog 60 s60 :=
 fn_ok (E:=E60) (hTT hT) hga60 hmix (fn:=Tryz.f60) (c:=(bodyOf Tryz.f60)) (by kernel_rfl) (by kernel_rfl) (by kernel_rfl) rfl (loopsOK_reg [(0,.loop (loopOf 0 (bodyOf Tryz.f60)))] (by kernel_rfl) ⟨semL rfl L60_0,trivial⟩ [] (by kernel_rfl) trivial) fun x y h=>⟨y.1,fun _=>rfl,(t60 x).trans h⟩
def r185_0 (t0:List UInt8) (t3:Int):Rd Y11 Y1 :=
 cond (ltI t3 (lenI t0)) (
 cond (inB t3 t0) (
 let u1:=(bytI t0 t3)
 cond (ltI u1 48) (
 some (.inr (.inr (false,())))
 ) (
 cond (inB t3 t0) (
 cond (ltI 57 u1) (
 some (.inr (.inr (false,())))
 ) (
 some (.inl (t0,(addW .i64 t3 1),()))
 )
 ) none
 )
 ) none
 ) (
 some (.inr (.inl (t0,t3,())))
 )
def l185_0:=cu2 (loopF (un2 r185_0))
def g185 (p0:List UInt8):Option Y17 :=
 (l185_0 p0 0).bind (Sum.elim (fun y1 =>
 some ((),(((ltI 0 (lenI y1.1)),()),()))
 ) (fun y1 =>
 some ((),(y1,()))
 ))
def s185:Su:=⟨[.c false [.str]],[(false,[.bool])],true,.inl fun x=>g185 x.1.1⟩
theorem ok185:SuOK Tryz.prog 185 s185 :=
 fl an [.d 2 (.bool)] [(0,⟨[.d 0 (.str),.d 3 (.int .i64)],loopF (un2 r185_0)⟩)] [] Tryz.f185 (lp [0] (sc lp0 sn))
def r186_0 (t0:List UInt8) (t3:Int) (t4:Bool) (t5:Int):Rd ((List UInt8)×Int×Bool×Int×Unit) Unit :=
 cond (leI 0 t5) (
 cond (inB t5 t0) (
 cond t4 (
 let u1:=(subW .i64 (cvtW .i64 (bytI t0 t5)) 48)
 let u2:=(mulW .i64 2 u1)
 cond (ltI 9 u2) (
 let u3:=(subW .i64 t5 1)
 some (.inl (t0,(remI (addW .i64 t3 (subW .i64 u2 9)) 10),(!t4),u3,()))
 ) (
 let u3:=(subW .i64 t5 1)
 some (.inl (t0,(remI (addW .i64 t3 u2) 10),(!t4),u3,()))
 )
 ) (
 let u1:=(subW .i64 (cvtW .i64 (bytI t0 t5)) 48)
 let u2:=(subW .i64 t5 1)
 some (.inl (t0,(remI (addW .i64 t3 u1) 10),(!t4),u2,()))
 )
 ) none
 ) (
 some (.inr (.inl (t0,t3,t4,t5,())))
 )
def l186_0:=cu4 (loopF (un4 r186_0))
def g186 (p0:List UInt8):Option Y15 :=
 (g185 p0).bind fun y1 =>
 cond (!y1.2.1.1) (
 some ((),(((-1),()),()))
 ) (
 (l186_0 p0 0 true (subW .i64 (lenI p0) 1)).bind (Sum.elim (fun y2 =>
 some ((),(((remI (subW .i64 10 y2.2.1) 10),()),()))
 ) (fun y2 =>
 none
 ))
 )
def s186:Su:=⟨[.c false [.str]],[(false,kk3)],true,.inl fun x=>g186 x.1.1⟩
theorem ok186:SuOK Tryz.prog 186 s186 :=
 fl (ac ok185 an) [] [(0,⟨[.d 0 (.str),.d 3 (.int .i64),.d 4 (.bool),.d 5 (.int .i64)],loopF (un4 r186_0)⟩)] [] Tryz.f186 (lp [0] (sc lp0 sn))
def g133 (p0:List UInt8):Option Y17 :=
 (g185 p0).bind fun y1 =>
 let u1:=(lenI p0)
 cond (cond (!y1.2.1.1) true (ltI u1 2)) (
 some ((),((false,()),()))
 ) (
 let u2:=(subW .i64 u1 1)
 cond (cutB 0 u2 p0) (
 (g186 (sub p0 0 u2)).bind fun y2 =>
 cond (inB u2 p0) (
 some ((),(((eqI y2.2.1.1 (subW .i64 (cvtW .i64 (bytI p0 u2)) 48)),()),()))
 ) none
 ) none
 )
def s133:Su:=⟨[.c false [.str]],[(false,[.bool])],true,.inl fun x=>g133 x.1.1⟩
theorem ok133:SuOK Tryz.prog 133 s133 :=
 fq (ac ok185 (ac ok186 an)) Tryz.f133
def g98 (p0:List UInt8):Option Y17 :=
 cond (leI (lenI p0) 19) (
 (g133 p0).bind fun y1 =>
 some ((),(y1.2.1,()))
 ) (
 some ((),((false,()),()))
 )
def s98:Su:=⟨[.c false [.str]],[(false,[.bool])],true,.inl fun x=>g98 x.1.1⟩
theorem ok98:SuOK Tryz.prog 98 s98 :=
 fq (ac ok133 an) Tryz.f98
def g99 (p0:Int):Option Y17 :=
 some ((),(((cond (leI 0 p0) (leI p0 4611686018427387904) false),()),()))
def s99:Su:=⟨[.c false kk3],[(false,[.bool])],true,.inl fun x=>g99 x.1.1⟩
theorem ok99:SuOK Tryz.prog 99 s99 :=
 fq an Tryz.f99
def r187_0 (t0:List UInt8) (t3:Int):Rd Y11 Y1 :=
 cond (ltI t3 (lenI t0)) (
 cond (inB t3 t0) (
 let u1:=(bytI t0 t3)
 cond (ltI u1 48) (
 cond (inB t3 t0) (
 cond (ltI u1 97) (
 some (.inr (.inr (false,())))
 ) (
 cond (inB t3 t0) (
 cond (ltI 122 u1) (
 some (.inr (.inr (false,())))
 ) (
 some (.inl (t0,(addW .i64 t3 1),()))
 )
 ) none
 )
 ) none
 ) (
 cond (inB t3 t0) (
 cond (ltI 57 u1) (
 cond (inB t3 t0) (
 cond (ltI u1 97) (
 some (.inr (.inr (false,())))
 ) (
 cond (inB t3 t0) (
 cond (ltI 122 u1) (
 some (.inr (.inr (false,())))
 ) (
 some (.inl (t0,(addW .i64 t3 1),()))
 )
 ) none
 )
 ) none
 ) (
 some (.inl (t0,(addW .i64 t3 1),()))
 )
 ) none
 )
 ) none
 ) (
 some (.inr (.inl (t0,t3,())))
 )
def l187_0:=cu2 (loopF (un2 r187_0))
def g187 (p0:List UInt8):Option Y17 :=
 (l187_0 p0 0).bind (Sum.elim (fun y1 =>
 (g44 (lenI y1.1) 1 6).bind fun y2 =>
 some ((),(y2.2.1,()))
 ) (fun y1 =>
 some ((),(y1,()))
 ))
def s187:Su:=⟨[.c false [.str]],[(false,[.bool])],true,.inl fun x=>g187 x.1.1⟩
theorem ok187:SuOK Tryz.prog 187 s187 :=
 fl (ac ok44 an) [.d 2 (.bool)] [(0,⟨[.d 0 (.str),.d 3 (.int .i64)],loopF (un2 r187_0)⟩)] [] Tryz.f187 (lp [0] (sc lp0 sn))
def g31 (p0:Int):Option Y17 :=
 (g44 p0 0 1000000000).bind fun y1 =>
 some ((),(y1.2.1,()))
def s31:Su:=⟨[.c false kk3],[(false,[.bool])],true,.inl fun x=>g31 x.1.1⟩
theorem ok31:SuOK Tryz.prog 31 s31 :=
 fq (ac ok44 an) Tryz.f31
def g134 (p0:(List UInt8)×Int×Int×Unit):Option Y17 :=
 (g187 p0.1).bind fun y1 =>
 cond y1.2.1.1 (
 (g44 p0.2.1 1 9007199254740992).bind fun y2 =>
 cond y2.2.1.1 (
 (g31 p0.2.2.1).bind fun y3 =>
 some ((),(y3.2.1,()))
 ) (
 some ((),((false,()),()))
 )
 ) (
 some ((),((false,()),()))
 )
def s134:Su:=⟨[.c true kk204],[(false,[.bool])],true,.inl fun x=>g134 x.1⟩
theorem ok134:SuOK Tryz.prog 134 s134 :=
 fq (ac ok44 (ac ok187 (ac ok31 an))) Tryz.f134
def r100_0 (t0 t5:List R157) (t6 t7:Int):Rd ((List R157)×(List R157)×Int×Int×Unit) Y1 :=
 cond (ltI t7 t6) (
 cond (inB t7 t5) (
 let u1:=(gt d157 t5 t7)
 (g134 u1).bind fun y1 =>
 cond (!y1.2.1.1) (
 some (.inr (.inr (false,())))
 ) (
 cond (ltI 0 t7) (
 let u2:=(subW .i64 t7 1)
 cond (inB u2 t0) (
 cond (!(ltS (gt d157 t0 u2).1 u1.1)) (
 some (.inr (.inr (false,())))
 ) (
 some (.inl (t0,t5,t6,(addW .i64 t7 1),()))
 )
 ) none
 ) (
 some (.inl (t0,t5,t6,(addW .i64 t7 1),()))
 )
 )
 ) none
 ) (
 some (.inr (.inl (t0,t5,t6,t7,())))
 )
def l100_0:=cu4 (loopF (un4 r100_0))
def g100 (p0:List R157):Option Y17 :=
 (l100_0 p0 p0 (lenI p0) 0).bind (Sum.elim (fun y1 =>
 some ((),(((leI (lenI y1.1) 4),()),()))
 ) (fun y1 =>
 some ((),(y1,()))
 ))
def s100:Su:=⟨[.c false [.sl 157 kk157]],[(false,[.bool])],true,.inl fun x=>g100 x.1.1⟩
theorem ok100:SuOK Tryz.prog 100 s100 :=
 fl (ac ok134 an) [.d 2 (.bool)] [(0,⟨[.d 0 (.sl 157 kk157),.d 5 (.sl 157 kk157),.d 6 (.int .i64),.d 7 (.int .i64)],loopF (un4 r100_0)⟩)] [] Tryz.f100 (lp [0] (sc lp0 sn))
def r101_0 (t32 t33:Int) (b1:Int×Int×(List R3)×(List R3)×Unit):Rd (Int×Int×(Int×Int×(List R3)×(List R3)×Unit)×Unit) Y1 :=
 cond (ltI t33 t32) (
 cond (inB t33 b1.2.2.1) (
 (g99 (gt d3 b1.2.2.1 t33).1).bind fun y1 =>
 cond (!y1.2.1.1) (
 some (.inr (.inr (false,())))
 ) (
 cond (inB t33 b1.2.2.2.1) (
 (g99 (gt d3 b1.2.2.2.1 t33).1).bind fun y2 =>
 cond (!y2.2.1.1) (
 some (.inr (.inr (false,())))
 ) (
 some (.inl (t32,(addW .i64 t33 1),b1,()))
 )
 ) none
 )
 ) none
 ) (
 some (.inr (.inl (t32,t33,b1,())))
 )
def l101_0:=cu3 (loopF (un3 r101_0))
def g101 (p0:Int×Int×(List R3)×(List R3)×Unit):Option Y17 :=
 (g44 p0.1 1 1000).bind fun y1 =>
 cond (!y1.2.1.1) (
 some ((),((false,()),()))
 ) (
 let u1:=(lenI p0.2.2.1)
 (g44 u1 1 8).bind fun y2 =>
 cond (cond (!y2.2.1.1) true (!(eqI (lenI p0.2.2.2.1) u1))) (
 some ((),((false,()),()))
 ) (
 (g31 p0.2.1).bind fun y3 =>
 cond (!y3.2.1.1) (
 some ((),((false,()),()))
 ) (
 (l101_0 u1 0 p0).bind (Sum.elim (fun y4 =>
 some ((),((true,()),()))
 ) (fun y4 =>
 some ((),(y4,()))
 ))
 )
 )
 )
def s101:Su:=⟨[.c true [.int .i64,.int .i64,.sl 3 kk3,.sl 3 kk3]],[(false,[.bool])],true,.inl fun x=>g101 x.1⟩
theorem ok101:SuOK Tryz.prog 101 s101 :=
 fl (ac ok44 (ac ok99 (ac ok31 an))) [.d 2 (.bool)] [(0,⟨[.d 32 (.int .i64),.d 33 (.int .i64),.box 1 [(false,.int .i64),(false,.int .i64),(false,.sl 3 kk3),(false,.sl 3 kk3)]],loopF (un3 r101_0)⟩)] [] Tryz.f101 (lp [0] (sc lp0 sn))
def g135 (p0:(List UInt8)×(List UInt8)×(List R5)×Unit):Option Y17 :=
 (g185 p0.1).bind fun y1 =>
 cond (cond y1.2.1.1 (eqI (lenI p0.1) 6) false) (
 (g185 p0.2.1).bind fun y2 =>
 cond (cond y2.2.1.1 (eqI (lenI p0.2.1) 4) false) (
 (g44 (lenI p0.2.2.1) 1 200).bind fun y3 =>
 some ((),(y3.2.1,()))
 ) (
 some ((),((false,()),()))
 )
 ) (
 some ((),((false,()),()))
 )
def s135:Su:=⟨[.c true kk206],[(false,[.bool])],true,.inl fun x=>g135 x.1⟩
theorem ok135:SuOK Tryz.prog 135 s135 :=
 fq (ac ok44 (ac ok185 an)) Tryz.f135
def r102_2 (t0 t7:List R160) (t8 t9:Int) (t19:List R160) (t20 t21:Int) (b4:(List UInt8)×(List UInt8)×(List R5)×Unit):Rd ((List R160)×(List R160)×Int×Int×(List R160)×Int×Int×R206×Unit) Y1 :=
 cond (ltI t21 t20) (
 cond (inB t21 t19) (
 let u1:=(gt d160 t19 t21)
 cond (cond (eqS u1.1 b4.1) (eqS u1.2.1 b4.2.1) false) (
 some (.inr (.inr (false,())))
 ) (
 some (.inl (t0,t7,t8,t9,t19,t20,(addW .i64 t21 1),b4,()))
 )
 ) none
 ) (
 some (.inr (.inl (t0,t7,t8,t9,t19,t20,t21,b4,())))
 )
def l102_2:=cu8 (loopF (un8 r102_2))
def r102_0 (t0 t7:List R160) (t8 t9:Int):Rd Y32 Y1 :=
 cond (ltI t9 t8) (
 cond (inB t9 t7) (
 let u1:=(gt d160 t7 t9)
 (g135 u1).bind fun y1 =>
 cond (!y1.2.1.1) (
 some (.inr (.inr (false,())))
 ) (
 cond (cutB 0 t9 t0) (
 let u2:=(sub t0 0 t9)
 (l102_2 t0 t7 t8 t9 u2 (lenI u2) 0 u1).bind (Sum.elim (fun y2 =>
 some (.inl (y2.1,y2.2.1,y2.2.2.1,(addW .i64 y2.2.2.2.1 1),()))
 ) (fun y2 =>
 some (.inr (.inr (y2.1,())))
 ))
 ) none
 )
 ) none
 ) (
 some (.inr (.inl (t0,t7,t8,t9,())))
 )
def l102_0:=cu4 (loopF (un4 r102_0))
def g102 (p0:List R160):Option Y17 :=
 (l102_0 p0 p0 (lenI p0) 0).bind (Sum.elim (fun y1 =>
 some ((),(((leI (lenI y1.1) 6),()),()))
 ) (fun y1 =>
 some ((),(y1,()))
 ))
def s102:Su:=⟨[.c false [.sl 160 kk160]],[(false,[.bool])],true,.inl fun x=>g102 x.1.1⟩
theorem ok102:SuOK Tryz.prog 102 s102 :=
 fl (ac ok135 an) [.d 2 (.bool)] [(2,⟨[.d 0 (.sl 160 kk160),.d 7 (.sl 160 kk160),.d 8 (.int .i64),.d 9 (.int .i64),.d 19 (.sl 160 kk160),.d 20 (.int .i64),.d 21 (.int .i64),.box 4 [(false,.str),(false,.str),(false,.sl 5 kk5)]],loopF (un8 r102_2)⟩),(0,⟨[.d 0 (.sl 160 kk160),.d 7 (.sl 160 kk160),.d 8 (.int .i64),.d 9 (.int .i64)],loopF (un4 r102_0)⟩)] [] Tryz.f102 (lp [0] (sc (lp [2] (sc lp0 sn)) sn))
def g137 (p0 p1 p2:Int):Option Y15 :=
 cond (ltI p0 p1) (
 some ((),((p1,()),()))
 ) (
 cond (ltI p2 p0) (
 some ((),((p2,()),()))
 ) (
 some ((),((p0,()),()))
 )
 )
def s137:Su:=⟨[.c false kk3,.c false kk3,.c false kk3],[(false,kk3)],true,.inl fun x=>g137 x.1.1 x.2.1.1 x.2.2.1.1⟩
theorem ok137:SuOK Tryz.prog 137 s137 :=
 fq an Tryz.f137
def g136 (p0 p1:Int):Option Y33 :=
 (g99 p0).bind fun y1 =>
 cond (!y1.2.1.1) (
 some ((),((0,()),(false,()),()))
 ) (
 (g99 p1).bind fun y2 =>
 cond (cond (!y2.2.1.1) true (ltI (subW .i64 4611686018427387904 p1) p0)) (
 some ((),((0,()),(false,()),()))
 ) (
 some ((),(((addW .i64 p0 p1),()),(true,()),()))
 )
 )
def s136:Su:=⟨[.c false kk3,.c false kk3],[(false,kk3),(false,[.bool])],true,.inl fun x=>g136 x.1.1 x.2.1.1⟩
theorem ok136:SuOK Tryz.prog 136 s136 :=
 fq (ac ok99 an) Tryz.f136
def g103 (p0 p1:Int):Option Y15 :=
 (g137 p0 0 4611686018427387904).bind fun y1 =>
 (g137 p1 0 4611686018427387904).bind fun y2 =>
 (g136 y1.2.1.1 y2.2.1.1).bind fun y3 =>
 cond (!y3.2.2.1.1) (
 some ((),((4611686018427387904,()),()))
 ) (
 some ((),(y3.2.1,()))
 )
def s103:Su:=⟨[.c false kk3,.c false kk3],[(false,kk3)],true,.inl fun x=>g103 x.1.1 x.2.1.1⟩
theorem ok103:SuOK Tryz.prog 103 s103 :=
 fq (ac ok137 (ac ok136 an)) Tryz.f103
def r104_0 (t3:Int) (t6:List R157) (t7 t8:Int):Rd (Int×(List R157)×Int×Int×Unit) Unit :=
 cond (ltI t8 t7) (
 cond (inB t8 t6) (
 (g103 t3 (gt d157 t6 t8).2.1).bind fun y1 =>
 some (.inl (y1.2.1.1,t6,t7,(addW .i64 t8 1),()))
 ) none
 ) (
 some (.inr (.inl (t3,t6,t7,t8,())))
 )
def l104_0:=cu4 (loopF (un4 r104_0))
def g104 (p0:List R157):Option Y15 :=
 (l104_0 0 p0 (lenI p0) 0).bind (Sum.elim (fun y1 =>
 some ((),((y1.1,()),()))
 ) (fun y1 =>
 none
 ))
def s104:Su:=⟨[.c false [.sl 157 kk157]],[(false,kk3)],true,.inl fun x=>g104 x.1.1⟩
theorem ok104:SuOK Tryz.prog 104 s104 :=
 fl (ac ok103 an) [] [(0,⟨[.d 3 (.int .i64),.d 6 (.sl 157 kk157),.d 7 (.int .i64),.d 8 (.int .i64)],loopF (un4 r104_0)⟩)] [] Tryz.f104 (lp [0] (sc lp0 sn))
def g76 (p0:(List UInt8)×Int×Int×Int×Int×(List R157)×Int×Int×(List R3)×(List R3)×(List R160)×Unit):Option Y17 :=
 (g98 p0.1).bind fun y1 =>
 cond (!y1.2.1.1) (
 some ((),((false,()),()))
 ) (
 (g44 p0.2.1 0 9007199254740992).bind fun y2 =>
 cond (!y2.2.1.1) (
 some ((),((false,()),()))
 ) (
 (g44 p0.2.2.2.1 0 1000).bind fun y3 =>
 cond (!y3.2.1.1) (
 some ((),((false,()),()))
 ) (
 (g44 p0.2.2.2.2.1 0 9007199254740992).bind fun y4 =>
 cond (!y4.2.1.1) (
 some ((),((false,()),()))
 ) (
 (g99 p0.2.2.1).bind fun y5 =>
 cond (!y5.2.1.1) (
 some ((),((false,()),()))
 ) (
 (g100 p0.2.2.2.2.2.1).bind fun y6 =>
 cond y6.2.1.1 (
 (g101 (p0.2.2.2.2.2.2.1,p0.2.2.2.2.2.2.2.1,p0.2.2.2.2.2.2.2.2.1,p0.2.2.2.2.2.2.2.2.2.1,())).bind fun y7 =>
 cond y7.2.1.1 (
 (g102 p0.2.2.2.2.2.2.2.2.2.2.1).bind fun y8 =>
 cond y8.2.1.1 (
 (g104 p0.2.2.2.2.2.1).bind fun y9 =>
 (g103 p0.2.2.1 y9.2.1.1).bind fun y10 =>
 some ((),(((leI y10.2.1.1 p0.2.1),()),()))
 ) (
 some ((),((false,()),()))
 )
 ) (
 some ((),((false,()),()))
 )
 ) (
 some ((),((false,()),()))
 )
 )
 )
 )
 )
 )
def s76:Su:=⟨[.c true kk92],[(false,[.bool])],true,.inl fun x=>g76 x.1⟩
theorem ok76:SuOK Tryz.prog 76 s76 :=
 fq (ac ok44 (ac ok98 (ac ok99 (ac ok100 (ac ok101 (ac ok102 (ac ok103 (ac ok104 an)))))))) Tryz.f76
def r49_0 (t6:List R92) (t7 t8:Int) (b1:(List R92)×Unit):Rd ((List R92)×Int×Int×Y4×Unit) Y1 :=
 cond (ltI t8 t7) (
 cond (inB t8 t6) (
 let u1:=(gt d92 t6 t8)
 (g76 u1).bind fun y1 =>
 cond (!y1.2.1.1) (
 some (.inr (.inr (false,())))
 ) (
 cond (ltI 0 t8) (
 let u2:=(subW .i64 t8 1)
 cond (inB u2 b1.1) (
 cond (!(ltS (gt d92 b1.1 u2).1 u1.1)) (
 some (.inr (.inr (false,())))
 ) (
 some (.inl (t6,t7,(addW .i64 t8 1),b1,()))
 )
 ) none
 ) (
 some (.inl (t6,t7,(addW .i64 t8 1),b1,()))
 )
 )
 ) none
 ) (
 some (.inr (.inl (t6,t7,t8,b1,())))
 )
def l49_0:=cu4 (loopF (un4 r49_0))
def g49 (p0:(List R92)×Unit):Option Y17 :=
 (l49_0 p0.1 (lenI p0.1) 0 p0).bind (Sum.elim (fun y1 =>
 some ((),(((leI (lenI y1.2.2.2.1.1) 6),()),()))
 ) (fun y1 =>
 some ((),(y1,()))
 ))
def s49:Su:=⟨[.c true [.sl 92 kk92]],[(false,[.bool])],true,.inl fun x=>g49 x.1⟩
theorem ok49:SuOK Tryz.prog 49 s49 :=
 fl (ac ok76 an) [.d 2 (.bool)] [(0,⟨[.d 6 (.sl 92 kk92),.d 7 (.int .i64),.d 8 (.int .i64),.box 1 [(false,.sl 92 kk92)]],loopF (un4 r49_0)⟩)] [] Tryz.f49 (lp [0] (sc lp0 sn))
def r84_0 (t0:List UInt8) (t3 t4:Int):Rd Y18 Unit :=
 cond (ltI t4 (lenI t0)) (
 cond (inB t4 t0) (
 some (.inl (t0,(andW .i64 (mulW .i64 (xorW .i64 t3 (cvtW .i64 (bytI t0 t4))) 16777619) 4294967295),(addW .i64 t4 1),()))
 ) none
 ) (
 some (.inr (.inl (t0,t3,t4,())))
 )
def l84_0:=cu3 (loopF (un3 r84_0))
def g84 (p0:List UInt8):Option Y15 :=
 (l84_0 p0 2166136261 0).bind (Sum.elim (fun y1 =>
 some ((),((y1.2.1,()),()))
 ) (fun y1 =>
 none
 ))
def s84:Su:=⟨[.c false [.str]],[(false,kk3)],true,.inl fun x=>g84 x.1.1⟩
theorem ok84:SuOK Tryz.prog 84 s84 :=
 fl an [] [(0,⟨[.d 0 (.str),.d 3 (.int .i64),.d 4 (.int .i64)],loopF (un3 r84_0)⟩)] [] Tryz.f84 (lp [0] (sc lp0 sn))
def g59 (p0:List UInt8) (p1:Int):Option Y15 :=
 cond (ltI p1 1) (
 some ((),((0,()),()))
 ) (
 (g84 p0).bind fun y1 =>
 cond (!(eqI p1 0)) (
 some ((),(((remI y1.2.1.1 p1),()),()))
 ) none
 )
def s59:Su:=⟨[.c false [.str],.c false kk3],[(false,kk3)],true,.inl fun x=>g59 x.1.1 x.2.1.1⟩
theorem ok59:SuOK Tryz.prog 59 s59 :=
 fq (ac ok84 an) Tryz.f59
def r30_2 (t0:List R67) (t3:Int) (t11:List R67) (t12 t13:Int) (t23:List R92) (t24 t25:Int) (b4:Int×(List R92)×Unit):Rd ((List R67)×Int×(List R67)×Int×Int×(List R92)×Int×Int×Y8×Unit) Y1 :=
 cond (ltI t25 t24) (
 cond (inB t25 t23) (
 (g59 (gt d92 t23 t25).1 (lenI t0)).bind fun y1 =>
 cond (!(eqI y1.2.1.1 t3)) (
 some (.inr (.inr (false,())))
 ) (
 cond (ltI 0 t25) (
 let u1:=(subW .i64 t25 1)
 cond (inB u1 b4.2.1) (
 cond (!(ltS (gt d92 b4.2.1 u1).1 (gt d92 t23 t25).1)) (
 some (.inr (.inr (false,())))
 ) (
 some (.inl (t0,t3,t11,t12,t13,t23,t24,(addW .i64 t25 1),b4,()))
 )
 ) none
 ) (
 some (.inl (t0,t3,t11,t12,t13,t23,t24,(addW .i64 t25 1),b4,()))
 )
 )
 ) none
 ) (
 some (.inr (.inl (t0,t3,t11,t12,t13,t23,t24,t25,b4,())))
 )
def l30_2:=cu9 (loopF (un9 r30_2))
def r30_0 (t0 t11:List R67) (t12 t13:Int):Rd ((List R67)×(List R67)×Int×Int×Unit) Y1 :=
 cond (ltI t13 t12) (
 cond (inB t13 t11) (
 let u1:=(gt d67 t11 t13)
 (g44 u1.1 (-1) 11).bind fun y1 =>
 cond (!y1.2.1.1) (
 some (.inr (.inr (false,())))
 ) (
 (l30_2 t0 t13 t11 t12 t13 u1.2.1 (lenI u1.2.1) 0 u1).bind (Sum.elim (fun y2 =>
 some (.inl (y2.1,y2.2.2.1,y2.2.2.2.1,(addW .i64 y2.2.2.2.2.1 1),()))
 ) (fun y2 =>
 some (.inr (.inr (y2.1,())))
 ))
 )
 ) none
 ) (
 some (.inr (.inl (t0,t11,t12,t13,())))
 )
def l30_0:=cu4 (loopF (un4 r30_0))
def g30 (p0:List R67):Option Y17 :=
 let u1:=(lenI p0)
 (g44 u1 1 5).bind fun y1 =>
 cond (!y1.2.1.1) (
 some ((),((false,()),()))
 ) (
 (l30_0 p0 p0 u1 0).bind (Sum.elim (fun y2 =>
 (g60 y2.1).bind fun y3 =>
 (g49 y3.2.1).bind fun y4 =>
 some ((),(y4.2.1,()))
 ) (fun y2 =>
 some ((),(y2,()))
 ))
 )
def s30:Su:=⟨[.c false [.sl 67 kk67]],[(false,[.bool])],true,.inl fun x=>g30 x.1.1⟩
theorem ok30:SuOK Tryz.prog 30 s30 :=
 fl (ac ok44 (ac ok60 (ac ok49 (ac ok59 an)))) [.d 2 (.bool)] [(2,⟨[.d 0 (.sl 67 kk67),.d 3 (.int .i64),.d 11 (.sl 67 kk67),.d 12 (.int .i64),.d 13 (.int .i64),.d 23 (.sl 92 kk92),.d 24 (.int .i64),.d 25 (.int .i64),.box 4 [(false,.int .i64),(false,.sl 92 kk92)]],loopF (un9 r30_2)⟩),(0,⟨[.d 0 (.sl 67 kk67),.d 11 (.sl 67 kk67),.d 12 (.int .i64),.d 13 (.int .i64)],loopF (un4 r30_0)⟩)] [] Tryz.f30 (lp [0] (sc (lp [2] (sc lp0 sn)) sn))
def r61_0 (t1:Int) (t7:List R3) (t8 t9:Int):Rd (Int×(List R3)×Int×Int×Unit) Y1 :=
 cond (ltI t9 t8) (
 cond (inB t9 t7) (
 cond (eqI (gt d3 t7 t9).1 t1) (
 some (.inr (.inr (true,())))
 ) (
 some (.inl (t1,t7,t8,(addW .i64 t9 1),()))
 )
 ) none
 ) (
 some (.inr (.inl (t1,t7,t8,t9,())))
 )
def l61_0:=cu4 (loopF (un4 r61_0))
def g61 (p0:List R3) (p1:Int):Option Y17 :=
 (l61_0 p1 p0 (lenI p0) 0).bind (Sum.elim (fun y1 =>
 some ((),((false,()),()))
 ) (fun y1 =>
 some ((),(y1,()))
 ))
def s61:Su:=⟨[.c false kk53,.c false kk3],[(false,[.bool])],true,.inl fun x=>g61 x.1.1 x.2.1.1⟩
theorem ok61:SuOK Tryz.prog 61 s61 :=
 fl an [.d 4 (.bool)] [(0,⟨[.d 1 (.int .i64),.d 7 (.sl 3 kk3),.d 8 (.int .i64),.d 9 (.int .i64)],loopF (un4 r61_0)⟩)] [] Tryz.f61 (lp [0] (sc lp0 sn))
def r32_2 (t1:Int) (t5:List R3) (t11:List R64) (t12 t13:Int) (t23:List R3) (t24 t25:Int):Rd (Int×(List R3)×(List R64)×Int×Int×(List R3)×Int×Int×Unit) Y1 :=
 cond (ltI t25 t24) (
 cond (inB t25 t23) (
 let u1:=(gt d3 t23 t25)
 cond (eqI u1.1 (-1)) (
 let u2:=(addW .i64 t25 1)
 some (.inl (t1,t5,t11,t12,t13,t23,t24,u2,()))
 ) (
 cond (leI t1 u1.1) (
 some (.inr (.inr (false,())))
 ) (
 (g61 t5 u1.1).bind fun y1 =>
 cond y1.2.1.1 (
 some (.inr (.inr (false,())))
 ) (
 cond (fitB 8 t5 [u1]) (
 let u2:=(addW .i64 t25 1)
 some (.inl (t1,(apL t5 [u1]),t11,t12,t13,t23,t24,u2,()))
 ) none
 )
 )
 )
 ) none
 ) (
 some (.inr (.inl (t1,t5,t11,t12,t13,t23,t24,t25,())))
 )
def l32_2:=cu8 (loopF (un8 r32_2))
def r32_0 (t1:Int) (t5:List R3) (t11:List R64) (t12 t13:Int):Rd (Int×(List R3)×(List R64)×Int×Int×Unit) Y1 :=
 cond (ltI t13 t12) (
 cond (inB t13 t11) (
 let u1:=(gt d64 t11 t13)
 (l32_2 t1 t5 t11 t12 t13 [(u1.2.2.2.2.1,()),(u1.2.2.2.2.2.1,()),(u1.2.2.2.2.2.2.1,())] (lenI [(u1.2.2.2.2.1,()),(u1.2.2.2.2.2.1,()),(u1.2.2.2.2.2.2.1,())]) 0).bind (Sum.elim (fun y1 =>
 some (.inl (y1.1,y1.2.1,y1.2.2.1,y1.2.2.2.1,(addW .i64 y1.2.2.2.2.1 1),()))
 ) (fun y1 =>
 some (.inr (.inr (y1.1,())))
 ))
 ) none
 ) (
 some (.inr (.inl (t1,t5,t11,t12,t13,())))
 )
def l32_0:=cu5 (loopF (un5 r32_0))
def g32 (p0:List R64) (p1:Int):Option Y17 :=
 (l32_0 p1 [] p0 (lenI p0) 0).bind (Sum.elim (fun y1 =>
 some ((),((true,()),()))
 ) (fun y1 =>
 some ((),(y1,()))
 ))
def s32:Su:=⟨[.c false [.sl 64 kk64],.c false kk3],[(false,[.bool])],true,.inl fun x=>g32 x.1.1 x.2.1.1⟩
theorem ok32:SuOK Tryz.prog 32 s32 :=
 fl (ac ok61 an) [.d 4 (.bool)] [(2,⟨[.d 1 (.int .i64),.own 5 (.sl 3 kk3),.d 11 (.sl 64 kk64),.d 12 (.int .i64),.d 13 (.int .i64),.own 23 (.sl 3 kk3),.d 24 (.int .i64),.d 25 (.int .i64)],loopF (un8 r32_2)⟩),(0,⟨[.d 1 (.int .i64),.own 5 (.sl 3 kk3),.d 11 (.sl 64 kk64),.d 12 (.int .i64),.d 13 (.int .i64)],loopF (un5 r32_0)⟩)] [] Tryz.f32 (lp [0] (sc (lp [2] (sc lp0 sn)) sn))
def g62 (p0:(List R5)×Int×(List R3)×Int×Int×Int×Int×Int×(List R5)×Unit):Option Y17 :=
 cond (eqI p0.2.1 1) (
 let u1:=(lenI p0.2.2.1)
 some ((),(((cond (leI 0 p0.2.2.2.1) (ltI p0.2.2.2.1 u1) false),()),()))
 ) (
 cond (eqI p0.2.1 2) (
 let u1:=(lenI p0.2.2.1)
 some ((),(((cond (eqI p0.2.2.2.1 u1) (ltI 0 u1) false),()),()))
 ) (
 cond (eqI p0.2.1 3) (
 let u1:=(lenI p0.2.2.1)
 (g44 p0.2.2.2.1 1 u1).bind fun y1 =>
 some ((),(y1.2.1,()))
 ) (
 some ((),(((eqI p0.2.2.2.1 0),()),()))
 )
 )
 )
def s62:Su:=⟨[.c true kk86],[(false,[.bool])],true,.inl fun x=>g62 x.1⟩
theorem ok62:SuOK Tryz.prog 62 s62 :=
 fq (ac ok44 an) Tryz.f62
def r149_0 (t0:List R5) (t1 t2:Int) (t9:List UInt8) (t10:Int):Rd ((List R5)×Int×Int×(List UInt8)×Int×Unit) Unit :=
 cond (ltI t10 (addW .i64 t1 (quoW .i64 (addW .i64 t2 1) 2))) (
 cond (inB t10 t0) (
 cond (inB t10 t0) (
 let u1:=(cvtW .i64 (gt d5 t0 t10).1)
 let u2:=(strOf [((cvtW .u8 (addW .i64 48 (quoW .i64 u1 16))),()),((cvtW .u8 (addW .i64 48 (remI u1 16))),())])
 cond (fitS t9 u2) (
 some (.inl (t0,t1,t2,(apS t9 u2),(addW .i64 t10 1),()))
 ) none
 ) none
 ) none
 ) (
 some (.inr (.inl (t0,t1,t2,t9,t10,())))
 )
def l149_0:=cu5 (loopF (un5 r149_0))
def g149 (p0:List R5) (p1 p2:Int):Option Y48 :=
 let u1:=(lenI p0)
 cond (cond (cond (cond (ltI p2 1) true (ltI 38 p2)) true (ltI p1 0)) true (ltI u1 p1)) (
 some ((),(([],()),(0,()),(false,()),()))
 ) (
 cond (ltI (subW .i64 u1 p1) (quoW .i64 (addW .i64 p2 1) 2)) (
 some ((),(([],()),(0,()),(false,()),()))
 ) (
 (l149_0 p0 p1 p2 [] p1).bind (Sum.elim (fun y1 =>
 cond (eqI (remI y1.2.2.1 2) 1) (
 cond (inB 0 y1.2.2.2.1) (
 cond (!(eqI (bytI y1.2.2.2.1 0) 48)) (
 some ((),(([],()),(0,()),(false,()),()))
 ) (
 let u2:=(lenI y1.2.2.2.1)
 cond (cutB 1 u2 y1.2.2.2.1) (
 let u3:=(sub y1.2.2.2.1 1 u2)
 (g185 u3).bind fun y2 =>
 cond (!y2.2.1.1) (
 some ((),(([],()),(0,()),(false,()),()))
 ) (
 some ((),((u3,()),((addW .i64 y1.2.1 (quoW .i64 (addW .i64 y1.2.2.1 1) 2)),()),(true,()),()))
 )
 ) none
 )
 ) none
 ) (
 (g185 y1.2.2.2.1).bind fun y2 =>
 cond (!y2.2.1.1) (
 some ((),(([],()),(0,()),(false,()),()))
 ) (
 some ((),((y1.2.2.2.1,()),((addW .i64 y1.2.1 (quoW .i64 (addW .i64 y1.2.2.1 1) 2)),()),(true,()),()))
 )
 )
 ) (fun y1 =>
 none
 ))
 )
 )
def s149:Su:=⟨[.c false [.sl 5 kk5],.c false kk3,.c false kk3],[(false,[.str]),(false,kk3),(false,[.bool])],true,.inl fun x=>g149 x.1.1 x.2.1.1 x.2.2.1.1⟩
theorem ok149:SuOK Tryz.prog 149 s149 :=
 fl (ac ok185 an) [] [(0,⟨[.d 0 (.sl 5 kk5),.d 1 (.int .i64),.d 2 (.int .i64),.d 9 (.str),.d 10 (.int .i64)],loopF (un5 r149_0)⟩)] [] Tryz.f149 (lp [0] (sc lp0 sn))
def r199_0 (t0:List R5) (t1:Int) (t7:List R3) (t8:Int):Rd ((List R5)×Int×(List R3)×Int×Unit) Unit :=
 cond (leI t8 64) (
 let u1:=(subW .i64 t8 1)
 let u2:=(addW .i64 t1 (quoW .i64 u1 8))
 cond (inB u2 t0) (
 let u3:=(subW .i64 7 (remI u1 8))
 cond (leI 0 u3) (
 cond (eqI (remI (shrW .i64 (cvtW .i64 (gt d5 t0 u2).1) u3) 2) 1) (
 cond (fitB 8 t7 [(t8,())]) (
 let u4:=(addW .i64 t8 1)
 some (.inl (t0,t1,(apL t7 [(t8,())]),u4,()))
 ) none
 ) (
 let u4:=(addW .i64 t8 1)
 some (.inl (t0,t1,t7,u4,()))
 )
 ) none
 ) none
 ) (
 some (.inr (.inl (t0,t1,t7,t8,())))
 )
def l199_0:=cu4 (loopF (un4 r199_0))
def g199 (p0:List R5) (p1:Int):Option Y45 :=
 cond (cond (ltI p1 0) true (ltI (subW .i64 (lenI p0) 8) p1)) (
 some ((),(([],()),(0,()),(false,()),()))
 ) (
 (l199_0 p0 p1 [] 1).bind (Sum.elim (fun y1 =>
 some ((),((y1.2.2.1,()),((addW .i64 y1.2.1 8),()),(true,()),()))
 ) (fun y1 =>
 none
 ))
 )
def s199:Su:=⟨[.c false [.sl 5 kk5],.c false kk3],[(false,kk53),(false,kk3),(false,[.bool])],true,.inl fun x=>g199 x.1.1 x.2.1.1⟩
theorem ok199:SuOK Tryz.prog 199 s199 :=
 fl an [] [(0,⟨[.d 0 (.sl 5 kk5),.d 1 (.int .i64),.own 7 (.sl 3 kk3),.d 8 (.int .i64)],loopF (un4 r199_0)⟩)] [] Tryz.f199 (lp [0] (sc lp0 sn))
def g200 (p0:Int):Option Y15 :=
 cond (eqI p0 3) (
 some ((),((1,()),()))
 ) (
 cond (eqI p0 4) (
 some ((),((1,()),()))
 ) (
 cond (eqI p0 7) (
 some ((),((1,()),()))
 ) (
 cond (eqI p0 11) (
 some ((),((1,()),()))
 ) (
 cond (eqI p0 14) (
 some ((),((1,()),()))
 ) (
 cond (eqI p0 49) (
 some ((),((1,()),()))
 ) (
 cond (eqI p0 37) (
 some ((),((2,()),()))
 ) (
 cond (eqI p0 38) (
 some ((),((2,()),()))
 ) (
 cond (eqI p0 39) (
 some ((),((2,()),()))
 ) (
 cond (eqI p0 41) (
 some ((),((2,()),()))
 ) (
 cond (eqI p0 95) (
 some ((),((2,()),()))
 ) (
 cond (eqI p0 2) (
 some ((),((3,()),()))
 ) (
 cond (eqI p0 102) (
 some ((),((4,()),()))
 ) (
 cond (eqI p0 103) (
 some ((),((4,()),()))
 ) (
 cond (eqI p0 48) (
 some ((),((5,()),()))
 ) (
 cond (eqI p0 54) (
 some ((),((5,()),()))
 ) (
 some ((),((0,()),()))
 )
 )
 )
 )
 )
 )
 )
 )
 )
 )
 )
 )
 )
 )
 )
 )
def s200:Su:=⟨[.c false kk3],[(false,kk3)],true,.inl fun x=>g200 x.1.1⟩
theorem ok200:SuOK Tryz.prog 200 s200 :=
 fq an Tryz.f200
def r150_0 (t0:List R5) (t6:Int) (t8:List R3) (t9:Bool) (t28:List R3) (t29 t30:Int):Rd ((List R5)×Int×(List R3)×Bool×(List R3)×Int×Int×Unit) Y16 :=
 cond (ltI t30 t29) (
 cond (inB t30 t28) (
 let u1:=(gt d3 t28 t30)
 cond (eqI u1.1 1) (
 let u2:=(addW .i64 t30 1)
 some (.inl (t0,t6,t8,true,t28,t29,u2,()))
 ) (
 cond (fitB 8 t8 [u1]) (
 let u2:=(addW .i64 t30 1)
 some (.inl (t0,t6,(apL t8 [u1]),t9,t28,t29,u2,()))
 ) none
 )
 ) none
 ) (
 some (.inr (.inl (t0,t6,t8,t9,t28,t29,t30,())))
 )
def l150_0:=cu7 (loopF (un7 r150_0))
def r150_2 (t8:List R3) (t13:Int) (t56:List R3) (t57 t58:Int):Rd ((List R3)×Int×(List R3)×Int×Int×Unit) Y16 :=
 cond (ltI t58 t57) (
 cond (inB t58 t56) (
 cond (fitB 8 t8 [((addW .i64 (gt d3 t56 t58).1 64),())]) (
 some (.inl ((apL t8 [((addW .i64 (gt d3 t56 t58).1 64),())]),t13,t56,t57,(addW .i64 t58 1),()))
 ) none
 ) none
 ) (
 some (.inr (.inl (t8,t13,t56,t57,t58,())))
 )
def l150_2:=cu5 (loopF (un5 r150_2))
def r150_4 (t69:Unit) (t6:Int) (t8:List R3) (t70 t71:Int):Rd (Unit×Int×(List R3)×Int×Int×Unit) Y16 :=
 cond (ltI t71 t70) (
 cond (inB t71 t8) (
 (g200 (gt d3 t8 t71).1).bind fun y1 =>
 cond (eqI y1.2.1.1 0) (
 some (.inr (.inr ([],0,false,())))
 ) (
 some (.inl ((),t6,t8,t70,(addW .i64 t71 1),()))
 )
 ) none
 ) (
 some (.inr (.inl ((),t6,t8,t70,t71,())))
 )
def l150_4:=cu5 (loopF (un5 r150_4))
def g150 (p0:List R5):Option Y45 :=
 (g199 p0 2).bind fun y1 =>
 cond (!y1.2.2.2.1.1) (
 some ((),(([],()),(0,()),(false,()),()))
 ) (
 (l150_0 p0 y1.2.2.1.1 [] false y1.2.1.1 (lenI y1.2.1.1) 0).bind (Sum.elim (fun y2 =>
 cond y2.2.2.2.1 (
 (g199 y2.1 y2.2.1).bind fun y3 =>
 let u1:=(lenI y3.2.1.1)
 cond (cond (!y3.2.2.2.1.1) true (eqI u1 0)) (
 some ((),(([],()),(0,()),(false,()),()))
 ) (
 (l150_2 y2.2.2.1 y3.2.2.1.1 y3.2.1.1 u1 0).bind (Sum.elim (fun y4 =>
 (l150_4 () y4.2.1 y4.1 (lenI y4.1) 0).bind (Sum.elim (fun y5 =>
 some ((),((y5.2.2.1,()),(y5.2.1,()),(true,()),()))
 ) (fun y5 =>
 some ((),((y5.1,()),(y5.2.1,()),(y5.2.2.1,()),()))
 ))
 ) (fun y4 =>
 some ((),((y4.1,()),(y4.2.1,()),(y4.2.2.1,()),()))
 ))
 )
 ) (
 (l150_4 () y2.2.1 y2.2.2.1 (lenI y2.2.2.1) 0).bind (Sum.elim (fun y3 =>
 some ((),((y3.2.2.1,()),(y3.2.1,()),(true,()),()))
 ) (fun y3 =>
 some ((),((y3.1,()),(y3.2.1,()),(y3.2.2.1,()),()))
 ))
 )
 ) (fun y2 =>
 some ((),((y2.1,()),(y2.2.1,()),(y2.2.2.1,()),()))
 ))
 )
def s150:Su:=⟨[.c false [.sl 5 kk5]],[(false,kk53),(false,kk3),(false,[.bool])],true,.inl fun x=>g150 x.1.1⟩
theorem ok150:SuOK Tryz.prog 150 s150 :=
 fl (ac ok199 (ac ok200 an)) [.own 2 (.sl 3 kk3),.d 3 (.int .i64),.d 4 (.bool)] [(0,⟨[.d 0 (.sl 5 kk5),.d 6 (.int .i64),.own 8 (.sl 3 kk3),.d 9 (.bool),.own 28 (.sl 3 kk3),.d 29 (.int .i64),.d 30 (.int .i64)],loopF (un7 r150_0)⟩),(2,⟨[.own 8 (.sl 3 kk3),.d 13 (.int .i64),.own 56 (.sl 3 kk3),.d 57 (.int .i64),.d 58 (.int .i64)],loopF (un5 r150_2)⟩),(4,⟨[.al 69 8,.d 6 (.int .i64),.own 8 (.sl 3 kk3),.d 70 (.int .i64),.d 71 (.int .i64)],loopF (un5 r150_4)⟩)] [] Tryz.f150 (lp [0,2,4] (sc lp0 (sc lp0 (sc lp0 sn))))
def g201 (p0:Int):Option Y15 :=
 cond (eqI p0 2) (
 some ((),((19,()),()))
 ) (
 cond (eqI p0 3) (
 some ((),((6,()),()))
 ) (
 cond (eqI p0 11) (
 some ((),((6,()),()))
 ) (
 cond (eqI p0 38) (
 some ((),((6,()),()))
 ) (
 cond (eqI p0 4) (
 some ((),((12,()),()))
 ) (
 cond (eqI p0 37) (
 some ((),((12,()),()))
 ) (
 cond (eqI p0 95) (
 some ((),((12,()),()))
 ) (
 cond (eqI p0 7) (
 some ((),((10,()),()))
 ) (
 cond (eqI p0 14) (
 some ((),((4,()),()))
 ) (
 cond (eqI p0 39) (
 some ((),((2,()),()))
 ) (
 cond (eqI p0 41) (
 some ((),((8,()),()))
 ) (
 cond (eqI p0 49) (
 some ((),((3,()),()))
 ) (
 cond (eqI p0 102) (
 some ((),((20,()),()))
 ) (
 cond (eqI p0 103) (
 some ((),((20,()),()))
 ) (
 cond (eqI p0 48) (
 some ((),((60,()),()))
 ) (
 cond (eqI p0 54) (
 some ((),((60,()),()))
 ) (
 some ((),((0,()),()))
 )
 )
 )
 )
 )
 )
 )
 )
 )
 )
 )
 )
 )
 )
 )
 )
def s201:Su:=⟨[.c false kk3],[(false,kk3)],true,.inl fun x=>g201 x.1.1⟩
theorem ok201:SuOK Tryz.prog 201 s201 :=
 fq an Tryz.f201
def g202 (p0:Int):Option Y15 :=
 cond (eqI p0 3) (
 some ((),((2,()),()))
 ) (
 cond (eqI p0 4) (
 some ((),((2,()),()))
 ) (
 cond (eqI p0 5) (
 some ((),((3,()),()))
 ) (
 some ((),((0,()),()))
 )
 )
 )
def s202:Su:=⟨[.c false kk3],[(false,kk3)],true,.inl fun x=>g202 x.1.1⟩
theorem ok202:SuOK Tryz.prog 202 s202 :=
 fq an Tryz.f202
def r159_0 (t0:List UInt8) (t4 t5:Int):Rd Y18 Unit :=
 cond (ltI t5 (lenI t0)) (
 cond (inB t5 t0) (
 some (.inl (t0,(subW .i64 (addW .i64 (mulW .i64 t4 10) (cvtW .i64 (bytI t0 t5))) 48),(addW .i64 t5 1),()))
 ) none
 ) (
 some (.inr (.inl (t0,t4,t5,())))
 )
def l159_0:=cu3 (loopF (un3 r159_0))
def g159 (p0:List UInt8):Option Y33 :=
 (g185 p0).bind fun y1 =>
 cond (cond (!y1.2.1.1) true (ltI 18 (lenI p0))) (
 some ((),((0,()),(false,()),()))
 ) (
 (l159_0 p0 0 0).bind (Sum.elim (fun y2 =>
 some ((),((y2.2.1,()),(true,()),()))
 ) (fun y2 =>
 none
 ))
 )
def s159:Su:=⟨[.c false [.str]],[(false,kk3),(false,[.bool])],true,.inl fun x=>g159 x.1.1⟩
theorem ok159:SuOK Tryz.prog 159 s159 :=
 fl (ac ok185 an) [] [(0,⟨[.d 0 (.str),.d 4 (.int .i64),.d 5 (.int .i64)],loopF (un3 r159_0)⟩)] [] Tryz.f159 (lp [0] (sc lp0 sn))
def g203 (p0:List R5) (p1 p2:Int):Option (Unit×(Y0×Y0×Y1×Unit)) :=
 cond (cond (!(eqI p2 2)) (!(eqI p2 3)) false) (
 some ((),((0,()),(0,()),(false,()),()))
 ) (
 (g149 p0 p1 p2).bind fun y1 =>
 (g159 y1.2.1.1).bind fun y2 =>
 some ((),(y2.2.1,y1.2.2.1,y1.2.2.2.1,()))
 )
def s203:Su:=⟨[.c false [.sl 5 kk5],.c false kk3,.c false kk3],[(false,kk3),(false,kk3),(false,[.bool])],true,.inl fun x=>g203 x.1.1 x.2.1.1 x.2.2.1.1⟩
theorem ok203:SuOK Tryz.prog 203 s203 :=
 fq (ac ok149 (ac ok159 an)) Tryz.f203
def r204_0 (t0:List UInt8) (t3:Int):Rd Y11 Y1 :=
 cond (ltI t3 (lenI t0)) (
 cond (inB t3 t0) (
 let u1:=(bytI t0 t3)
 cond (ltI u1 32) (
 some (.inr (.inr (false,())))
 ) (
 cond (inB t3 t0) (
 cond (ltI 126 u1) (
 some (.inr (.inr (false,())))
 ) (
 some (.inl (t0,(addW .i64 t3 1),()))
 )
 ) none
 )
 ) none
 ) (
 some (.inr (.inl (t0,t3,())))
 )
def l204_0:=cu2 (loopF (un2 r204_0))
def g204 (p0:List UInt8):Option Y17 :=
 (l204_0 p0 0).bind (Sum.elim (fun y1 =>
 some ((),((true,()),()))
 ) (fun y1 =>
 some ((),(y1,()))
 ))
def s204:Su:=⟨[.c false [.str]],[(false,[.bool])],true,.inl fun x=>g204 x.1.1⟩
theorem ok204:SuOK Tryz.prog 204 s204 :=
 fl an [.d 2 (.bool)] [(0,⟨[.d 0 (.str),.d 3 (.int .i64)],loopF (un2 r204_0)⟩)] [] Tryz.f204 (lp [0] (sc lp0 sn))
def g151 (p0:List R5) (p1 p2:Int):Option Y48 :=
 (g200 p2).bind fun y1 =>
 (g201 p2).bind fun y2 =>
 cond (cond (eqI y1.2.1.1 0) true (ltI p1 0)) (
 some ((),(([],()),(0,()),(false,()),()))
 ) (
 let u1:=(g202 y1.2.1.1)
 Option.bind u1 fun y3 =>
 cond (ltI 0 y3.2.1.1) (
 Option.bind u1 fun y4 =>
 (g203 p0 p1 y4.2.1.1).bind fun y5 =>
 cond (!y5.2.2.2.1.1) (
 some ((),(([],()),(0,()),(false,()),()))
 ) (
 (g44 y5.2.1.1 1 y2.2.1.1).bind fun y6 =>
 cond (!y6.2.1.1) (
 some ((),(([],()),(0,()),(false,()),()))
 ) (
 let u2:=(cond (eqI y1.2.1.1 1) true (eqI y1.2.1.1 3))
 cond u2 (
 (g149 p0 y5.2.2.1.1 y5.2.1.1).bind fun y7 =>
 some ((),(y7.2.1,y7.2.2.1,y7.2.2.2.1,()))
 ) (
 let u3:=(lenI p0)
 cond (cond (ltI u3 y5.2.2.1.1) true (ltI (subW .i64 u3 y5.2.2.1.1) y5.2.1.1)) (
 some ((),(([],()),(0,()),(false,()),()))
 ) (
 let u4:=(addW .i64 y5.2.2.1.1 y5.2.1.1)
 let u5:=(cutB y5.2.2.1.1 u4 p0)
 cond u5 (
 let u6:=(strOf (sub p0 y5.2.2.1.1 u4))
 (g204 u6).bind fun y7 =>
 cond (!y7.2.1.1) (
 some ((),(([],()),(0,()),(false,()),()))
 ) (
 cond u5 (
 some ((),((u6,()),(u4,()),(true,()),()))
 ) none
 )
 ) none
 )
 )
 )
 )
 ) (
 let u2:=(cond (eqI y1.2.1.1 1) true (eqI y1.2.1.1 3))
 cond u2 (
 (g149 p0 p1 y2.2.1.1).bind fun y4 =>
 some ((),(y4.2.1,y4.2.2.1,y4.2.2.2.1,()))
 ) (
 let u3:=(lenI p0)
 cond (cond (ltI u3 p1) true (ltI (subW .i64 u3 p1) y2.2.1.1)) (
 some ((),(([],()),(0,()),(false,()),()))
 ) (
 let u4:=(addW .i64 p1 y2.2.1.1)
 let u5:=(cutB p1 u4 p0)
 cond u5 (
 let u6:=(strOf (sub p0 p1 u4))
 (g204 u6).bind fun y4 =>
 cond (!y4.2.1.1) (
 some ((),(([],()),(0,()),(false,()),()))
 ) (
 cond u5 (
 some ((),((u6,()),(u4,()),(true,()),()))
 ) none
 )
 ) none
 )
 )
 )
 )
def s151:Su:=⟨[.c false [.sl 5 kk5],.c false kk3,.c false kk3],[(false,[.str]),(false,kk3),(false,[.bool])],true,.inl fun x=>g151 x.1.1 x.2.1.1 x.2.2.1.1⟩
theorem ok151:SuOK Tryz.prog 151 s151 :=
 fq (ac ok44 (ac ok149 (ac ok200 (ac ok201 (ac ok202 (ac ok203 (ac ok204 an))))))) Tryz.f151
def r119_0 (t0:List R5) (t8:Int) (t35:List R3) (t36 t37:Int) (b2 b9:(List UInt8)×(List R178)×Unit):Rd ((List R5)×Int×(List R3)×Int×Int×Y19×Y19×Unit) Y35 :=
 cond (ltI t37 t36) (
 cond (inB t37 t35) (
 (g151 t0 t8 (gt d3 t35 t37).1).bind fun y1 =>
 cond (!y1.2.2.2.1.1) (
 some (.inr (.inr (3,([],[],()),())))
 ) (
 cond (fitB 24 b9.2.1 [((gt d3 t35 t37).1,y1.2.1.1,())]) (
 some (.inl (t0,y1.2.2.1.1,t35,t36,(addW .i64 t37 1),b2,(b9.1,(apL b9.2.1 [((gt d3 t35 t37).1,y1.2.1.1,())]),()),()))
 ) none
 )
 ) none
 ) (
 some (.inr (.inl (t0,t8,t35,t36,t37,b2,b9,())))
 )
def l119_0:=cu7 (loopF (un7 r119_0))
def g119 (p0:List R5):Option (Unit×(Y19×Y0×Unit)) :=
 (g149 p0 0 4).bind fun y1 =>
 cond (!y1.2.2.2.1.1) (
 some ((),(([],[],()),(1,()),()))
 ) (
 (g150 p0).bind fun y2 =>
 cond (!y2.2.2.2.1.1) (
 some ((),(([],[],()),(2,()),()))
 ) (
 (l119_0 p0 y2.2.2.1.1 y2.2.1.1 (lenI y2.2.1.1) 0 ([],[],()) (y1.2.1.1,[],())).bind (Sum.elim (fun y3 =>
 cond (!(eqI y3.2.1 (lenI y3.1))) (
 some ((),(([],[],()),(4,()),()))
 ) (
 some ((),(y3.2.2.2.2.2.2.1,(0,()),()))
 )
 ) (fun y3 =>
 some ((),(y3.2.1,(y3.1,()),()))
 ))
 )
 )
def s119:Su:=⟨[.c false [.sl 5 kk5]],[(true,[.str,.sl 178 kk178]),(false,kk3)],true,.inl fun x=>g119 x.1.1⟩
theorem ok119:SuOK Tryz.prog 119 s119 :=
 fl (ac ok149 (ac ok150 (ac ok151 an))) [.d 3 (.int .i64),.box 2 [(false,.str),(true,.sl 178 kk178)]] [(0,⟨[.d 0 (.sl 5 kk5),.d 8 (.int .i64),.own 35 (.sl 3 kk3),.d 36 (.int .i64),.d 37 (.int .i64),.box 2 [(false,.str),(true,.sl 178 kk178)],.box 9 [(false,.str),(true,.sl 178 kk178)]],loopF (un7 r119_0)⟩)] [] Tryz.f119 (lp [0] (sc lp0 sn))
def g205 (p0:Int) (p1:List UInt8):Option Y17 :=
 (g201 p0).bind fun y1 =>
 (g200 p0).bind fun y2 =>
 cond (eqI y2.2.1.1 1) (
 let u1:=(g185 p1)
 Option.bind u1 fun y3 =>
 let u2:=(lenI p1)
 some ((),(((cond y3.2.1.1 (eqI u2 y1.2.1.1) false),()),()))
 ) (
 cond (eqI y2.2.1.1 2) (
 let u1:=(g204 p1)
 Option.bind u1 fun y3 =>
 let u2:=(lenI p1)
 some ((),(((cond y3.2.1.1 (eqI u2 y1.2.1.1) false),()),()))
 ) (
 cond (eqI y2.2.1.1 3) (
 let u1:=(g185 p1)
 Option.bind u1 fun y3 =>
 let u2:=(lenI p1)
 some ((),(((cond y3.2.1.1 (leI u2 y1.2.1.1) false),()),()))
 ) (
 cond (eqI y2.2.1.1 4) (
 let u1:=(g204 p1)
 Option.bind u1 fun y3 =>
 cond y3.2.1.1 (
 let u2:=(lenI p1)
 let u3:=(g44 u2 1 y1.2.1.1)
 Option.bind u3 fun y4 =>
 some ((),(y4.2.1,()))
 ) (
 some ((),((false,()),()))
 )
 ) (
 cond (eqI y2.2.1.1 5) (
 let u1:=(g204 p1)
 Option.bind u1 fun y3 =>
 cond y3.2.1.1 (
 let u2:=(lenI p1)
 let u3:=(g44 u2 1 y1.2.1.1)
 Option.bind u3 fun y4 =>
 some ((),(y4.2.1,()))
 ) (
 some ((),((false,()),()))
 )
 ) (
 some ((),((false,()),()))
 )
 )
 )
 )
 )
def s205:Su:=⟨[.c false kk3,.c false [.str]],[(false,[.bool])],true,.inl fun x=>g205 x.1.1 x.2.1.1⟩
theorem ok205:SuOK Tryz.prog 205 s205 :=
 fq (ac ok44 (ac ok185 (ac ok200 (ac ok201 (ac ok204 an))))) Tryz.f205
def r152_0 (t16:List R178) (t17 t18:Int) (b1:(List UInt8)×(List R178)×Unit):Rd ((List R178)×Int×Int×Y19×Unit) Y1 :=
 cond (ltI t18 t17) (
 cond (inB t18 t16) (
 let u1:=(gt d178 t16 t18)
 (g205 u1.1 u1.2.1).bind fun y1 =>
 cond (!y1.2.1.1) (
 some (.inr (.inr (false,())))
 ) (
 cond (ltI 0 t18) (
 let u2:=(subW .i64 t18 1)
 cond (inB u2 b1.2.1) (
 cond (leI u1.1 (gt d178 b1.2.1 u2).1) (
 some (.inr (.inr (false,())))
 ) (
 some (.inl (t16,t17,(addW .i64 t18 1),b1,()))
 )
 ) none
 ) (
 some (.inl (t16,t17,(addW .i64 t18 1),b1,()))
 )
 )
 ) none
 ) (
 some (.inr (.inl (t16,t17,t18,b1,())))
 )
def l152_0:=cu4 (loopF (un4 r152_0))
def g152 (p0:(List UInt8)×(List R178)×Unit):Option Y17 :=
 (g185 p0.1).bind fun y1 =>
 cond (cond (!y1.2.1.1) true (!(eqI (lenI p0.1) 4))) (
 some ((),((false,()),()))
 ) (
 (l152_0 p0.2.1 (lenI p0.2.1) 0 p0).bind (Sum.elim (fun y2 =>
 some ((),((true,()),()))
 ) (fun y2 =>
 some ((),(y2,()))
 ))
 )
def s152:Su:=⟨[.c true [.str,.sl 178 kk178]],[(false,[.bool])],true,.inl fun x=>g152 x.1⟩
theorem ok152:SuOK Tryz.prog 152 s152 :=
 fl (ac ok185 (ac ok205 an)) [.d 2 (.bool)] [(0,⟨[.d 16 (.sl 178 kk178),.d 17 (.int .i64),.d 18 (.int .i64),.box 1 [(false,.str),(false,.sl 178 kk178)]],loopF (un4 r152_0)⟩)] [] Tryz.f152 (lp [0] (sc lp0 sn))
def g153 (p0:List UInt8):Option Y17 :=
 some ((),(((cond (cond (eqS p0 [48,49,48,48]) true (eqS p0 [48,50,48,48])) true (eqS p0 [48,50,50,48])),()),()))
def s153:Su:=⟨[.c false [.str]],[(false,[.bool])],true,.inl fun x=>g153 x.1.1⟩
theorem ok153:SuOK Tryz.prog 153 s153 :=
 fq an Tryz.f153
def r154_0 (t1:Int) (t9:List R178) (t10 t11:Int):Rd (Int×(List R178)×Int×Int×Unit) ((List UInt8)×Bool×Unit) :=
 cond (ltI t11 t10) (
 cond (inB t11 t9) (
 let u1:=(gt d178 t9 t11)
 cond (eqI u1.1 t1) (
 some (.inr (.inr (u1.2.1,true,())))
 ) (
 some (.inl (t1,t9,t10,(addW .i64 t11 1),()))
 )
 ) none
 ) (
 some (.inr (.inl (t1,t9,t10,t11,())))
 )
def l154_0:=cu4 (loopF (un4 r154_0))
def g154 (p0:(List UInt8)×(List R178)×Unit) (p1:Int):Option (Unit×(Y6×Y1×Unit)) :=
 (l154_0 p1 p0.2.1 (lenI p0.2.1) 0).bind (Sum.elim (fun y1 =>
 some ((),(([],()),(false,()),()))
 ) (fun y1 =>
 some ((),((y1.1,()),(y1.2.1,()),()))
 ))
def s154:Su:=⟨[.c true [.str,.sl 178 kk178],.c false kk3],[(false,[.str]),(false,[.bool])],true,.inl fun x=>g154 x.1 x.2.1.1⟩
theorem ok154:SuOK Tryz.prog 154 s154 :=
 fl an [.d 4 (.str),.d 5 (.bool)] [(0,⟨[.d 1 (.int .i64),.d 9 (.sl 178 kk178),.d 10 (.int .i64),.d 11 (.int .i64)],loopF (un4 r154_0)⟩)] [] Tryz.f154 (lp [0] (sc lp0 sn))
def g208 (p0:Int):Option Y17 :=
 (g44 p0 1 8).bind fun y1 =>
 some ((),(y1.2.1,()))
def s208:Su:=⟨[.c false kk3],[(false,[.bool])],true,.inl fun x=>g208 x.1.1⟩
theorem ok208:SuOK Tryz.prog 208 s208 :=
 fq (ac ok44 an) Tryz.f208
def g241  : Option Y23 :=
 some ((),(([([],()),([48,49,48,48],()),([48,49,48,48],()),([48,50,50,48],()),([48,50,50,48],()),([48,50,50,48],()),([48,50,48,48],()),([48,49,48,48],()),([48,50,48,48],())],()),()))
def s241:Su:=⟨[],[(false,[.sl 9 kk9])],true,.inl fun x=>g241 ⟩
theorem ok241:SuOK Tryz.prog 241 s241 :=
 fq an Tryz.f241
def g206 (p0:Int):Option Y28 :=
 (g208 p0).bind fun y1 =>
 cond (!y1.2.1.1) (
 some ((),(([],()),()))
 ) (
 (g241).bind fun y2 =>
 cond (inB p0 y2.2.1.1) (
 some ((),((gt d9 y2.2.1.1 p0),()))
 ) none
 )
def s206:Su:=⟨[.c false kk3],[(false,[.str])],true,.inl fun x=>g206 x.1.1⟩
theorem ok206:SuOK Tryz.prog 206 s206 :=
 fq (ac ok208 (ac ok241 an)) Tryz.f206
def g242  : Option Y23 :=
 some ((),(([([],()),([48,48],()),([48,50],()),([48,49],()),([48,48],()),([50,48],()),([52,48],()),([51,49],()),([57,48],())],()),()))
def s242:Su:=⟨[],[(false,[.sl 9 kk9])],true,.inl fun x=>g242 ⟩
theorem ok242:SuOK Tryz.prog 242 s242 :=
 fq an Tryz.f242
def g207 (p0:Int):Option Y28 :=
 (g208 p0).bind fun y1 =>
 cond (!y1.2.1.1) (
 some ((),(([],()),()))
 ) (
 (g242).bind fun y2 =>
 cond (inB p0 y2.2.1.1) (
 some ((),((gt d9 y2.2.1.1 p0),()))
 ) none
 )
def s207:Su:=⟨[.c false kk3],[(false,[.str])],true,.inl fun x=>g207 x.1.1⟩
theorem ok207:SuOK Tryz.prog 207 s207 :=
 fq (ac ok208 (ac ok242 an)) Tryz.f207
def r155_0 (t0 t1:List UInt8) (t5:Int):Rd ((List UInt8)×(List UInt8)×Int×Unit) Y0 :=
 cond (leI t5 8) (
 (g206 t5).bind fun y1 =>
 cond (eqS y1.2.1.1 t0) (
 (g207 t5).bind fun y2 =>
 cond (cutB 0 2 t1) (
 cond (eqS y2.2.1.1 (sub t1 0 2)) (
 some (.inr (.inr (t5,())))
 ) (
 some (.inl (t0,t1,(addW .i64 t5 1),()))
 )
 ) none
 ) (
 some (.inl (t0,t1,(addW .i64 t5 1),()))
 )
 ) (
 some (.inr (.inl (t0,t1,t5,())))
 )
def l155_0:=cu3 (loopF (un3 r155_0))
def g155 (p0 p1:List UInt8):Option Y15 :=
 (l155_0 p0 p1 1).bind (Sum.elim (fun y1 =>
 some ((),((0,()),()))
 ) (fun y1 =>
 some ((),(y1,()))
 ))
def s155:Su:=⟨[.c false [.str],.c false [.str]],[(false,kk3)],true,.inl fun x=>g155 x.1.1 x.2.1.1⟩
theorem ok155:SuOK Tryz.prog 155 s155 :=
 fl (ac ok206 (ac ok207 an)) [.d 4 (.int .i64)] [(0,⟨[.d 0 (.str),.d 1 (.str),.d 5 (.int .i64)],loopF (un3 r155_0)⟩)] [] Tryz.f155 (lp [0] (sc lp0 sn))
def g156 (p0:Int):Option Y17 :=
 (g208 p0).bind fun y1 =>
 some ((),(((cond y1.2.1.1 (ltI p0 7) false),()),()))
def s156:Su:=⟨[.c false kk3],[(false,[.bool])],true,.inl fun x=>g156 x.1.1⟩
theorem ok156:SuOK Tryz.prog 156 s156 :=
 fq (ac ok208 an) Tryz.f156
def r157_0 (t0:List UInt8) (t3:Int):Rd Y11 Unit :=
 cond (ltI 0 t3) (
 let u1:=(subW .i64 t3 1)
 cond (inB u1 t0) (
 cond (eqI (bytI t0 u1) 32) (
 some (.inl (t0,u1,()))
 ) (
 some (.inr (.inl (t0,t3,())))
 )
 ) none
 ) (
 some (.inr (.inl (t0,t3,())))
 )
def l157_0:=cu2 (loopF (un2 r157_0))
def g157 (p0:List UInt8):Option Y28 :=
 (l157_0 p0 (lenI p0)).bind (Sum.elim (fun y1 =>
 cond (cutB 0 y1.2.1 y1.1) (
 some ((),(((sub y1.1 0 y1.2.1),()),()))
 ) none
 ) (fun y1 =>
 none
 ))
def s157:Su:=⟨[.c false [.str]],[(false,[.str])],true,.inl fun x=>g157 x.1.1⟩
theorem ok157:SuOK Tryz.prog 157 s157 :=
 fl an [] [(0,⟨[.d 0 (.str),.d 3 (.int .i64)],loopF (un2 r157_0)⟩)] [] Tryz.f157 (lp [0] (sc lp0 sn))
def g158 (p0:Int):Option Y17 :=
 (g44 p0 1 4).bind fun y1 =>
 some ((),(y1.2.1,()))
def s158:Su:=⟨[.c false kk3],[(false,[.bool])],true,.inl fun x=>g158 x.1.1⟩
theorem ok158:SuOK Tryz.prog 158 s158 :=
 fq (ac ok44 an) Tryz.f158
def g160 (p0:Int×(List UInt8)×(List UInt8)×(List UInt8)×(List UInt8)×(List UInt8)×Int×Int×Unit):Option Y17 :=
 (g208 p0.1).bind fun y1 =>
 cond (!y1.2.1.1) (
 some ((),((false,()),()))
 ) (
 (g206 p0.1).bind fun y2 =>
 cond (!(eqS p0.2.2.2.2.2.1 y2.2.1.1)) (
 some ((),((false,()),()))
 ) (
 (g98 p0.2.1).bind fun y3 =>
 cond (!y3.2.1.1) (
 some ((),((false,()),()))
 ) (
 (g185 p0.2.2.2.2.1).bind fun y4 =>
 cond (cond (!y4.2.1.1) true (!(eqI (lenI p0.2.2.2.2.1) 6))) (
 some ((),((false,()),()))
 ) (
 let u1:=(g156 p0.1)
 Option.bind u1 fun y5 =>
 cond y5.2.1.1 (
 (g187 p0.2.2.2.1).bind fun y6 =>
 cond (!y6.2.1.1) (
 some ((),((false,()),()))
 ) (
 Option.bind u1 fun y7 =>
 cond (cond (!y7.2.1.1) (!(eqS p0.2.2.2.1 [])) false) (
 some ((),((false,()),()))
 ) (
 let u2:=(g158 p0.1)
 Option.bind u2 fun y8 =>
 cond y8.2.1.1 (
 let u3:=(g44 p0.2.2.2.2.2.2.1 0 999999999999)
 Option.bind u3 fun y9 =>
 cond (!y9.2.1.1) (
 some ((),((false,()),()))
 ) (
 Option.bind u2 fun y10 =>
 cond (cond (!y10.2.1.1) (!(eqI p0.2.2.2.2.2.2.1 0)) false) (
 some ((),((false,()),()))
 ) (
 cond (eqI p0.1 1) (
 let u4:=(g44 p0.2.2.2.2.2.2.2.1 0 9999)
 Option.bind u4 fun y11 =>
 cond (!y11.2.1.1) (
 some ((),((false,()),()))
 ) (
 let u5:=(cond (!(eqI p0.1 1)) (!(eqI p0.2.2.2.2.2.2.2.1 0)) false)
 cond u5 (
 some ((),((false,()),()))
 ) (
 cond (eqI p0.1 6) (
 let u6:=(g98 p0.2.2.1)
 Option.bind u6 fun y12 =>
 cond y12.2.1.1 (
 some ((),((true,()),()))
 ) (
 some ((),(((cond (!(eqI p0.1 6)) (eqS p0.2.2.1 []) false),()),()))
 )
 ) (
 some ((),(((cond (!(eqI p0.1 6)) (eqS p0.2.2.1 []) false),()),()))
 )
 )
 )
 ) (
 let u4:=(cond (!(eqI p0.1 1)) (!(eqI p0.2.2.2.2.2.2.2.1 0)) false)
 cond u4 (
 some ((),((false,()),()))
 ) (
 cond (eqI p0.1 6) (
 let u5:=(g98 p0.2.2.1)
 Option.bind u5 fun y11 =>
 cond y11.2.1.1 (
 some ((),((true,()),()))
 ) (
 some ((),(((cond (!(eqI p0.1 6)) (eqS p0.2.2.1 []) false),()),()))
 )
 ) (
 some ((),(((cond (!(eqI p0.1 6)) (eqS p0.2.2.1 []) false),()),()))
 )
 )
 )
 )
 )
 ) (
 Option.bind u2 fun y9 =>
 let u3:=(cond (!y9.2.1.1) (!(eqI p0.2.2.2.2.2.2.1 0)) false)
 cond u3 (
 some ((),((false,()),()))
 ) (
 cond (eqI p0.1 1) (
 let u4:=(g44 p0.2.2.2.2.2.2.2.1 0 9999)
 Option.bind u4 fun y10 =>
 cond (!y10.2.1.1) (
 some ((),((false,()),()))
 ) (
 let u5:=(cond (!(eqI p0.1 1)) (!(eqI p0.2.2.2.2.2.2.2.1 0)) false)
 cond u5 (
 some ((),((false,()),()))
 ) (
 cond (eqI p0.1 6) (
 let u6:=(g98 p0.2.2.1)
 Option.bind u6 fun y11 =>
 cond y11.2.1.1 (
 some ((),((true,()),()))
 ) (
 some ((),(((cond (!(eqI p0.1 6)) (eqS p0.2.2.1 []) false),()),()))
 )
 ) (
 some ((),(((cond (!(eqI p0.1 6)) (eqS p0.2.2.1 []) false),()),()))
 )
 )
 )
 ) (
 let u4:=(cond (!(eqI p0.1 1)) (!(eqI p0.2.2.2.2.2.2.2.1 0)) false)
 cond u4 (
 some ((),((false,()),()))
 ) (
 cond (eqI p0.1 6) (
 let u5:=(g98 p0.2.2.1)
 Option.bind u5 fun y10 =>
 cond y10.2.1.1 (
 some ((),((true,()),()))
 ) (
 some ((),(((cond (!(eqI p0.1 6)) (eqS p0.2.2.1 []) false),()),()))
 )
 ) (
 some ((),(((cond (!(eqI p0.1 6)) (eqS p0.2.2.1 []) false),()),()))
 )
 )
 )
 )
 )
 )
 )
 ) (
 Option.bind u1 fun y6 =>
 cond (cond (!y6.2.1.1) (!(eqS p0.2.2.2.1 [])) false) (
 some ((),((false,()),()))
 ) (
 let u2:=(g158 p0.1)
 Option.bind u2 fun y7 =>
 cond y7.2.1.1 (
 let u3:=(g44 p0.2.2.2.2.2.2.1 0 999999999999)
 Option.bind u3 fun y8 =>
 cond (!y8.2.1.1) (
 some ((),((false,()),()))
 ) (
 Option.bind u2 fun y9 =>
 let u4:=(cond (!y9.2.1.1) (!(eqI p0.2.2.2.2.2.2.1 0)) false)
 cond u4 (
 some ((),((false,()),()))
 ) (
 cond (eqI p0.1 1) (
 let u5:=(g44 p0.2.2.2.2.2.2.2.1 0 9999)
 Option.bind u5 fun y10 =>
 cond (!y10.2.1.1) (
 some ((),((false,()),()))
 ) (
 let u6:=(cond (!(eqI p0.1 1)) (!(eqI p0.2.2.2.2.2.2.2.1 0)) false)
 cond u6 (
 some ((),((false,()),()))
 ) (
 cond (eqI p0.1 6) (
 let u7:=(g98 p0.2.2.1)
 Option.bind u7 fun y11 =>
 cond y11.2.1.1 (
 some ((),((true,()),()))
 ) (
 some ((),(((cond (!(eqI p0.1 6)) (eqS p0.2.2.1 []) false),()),()))
 )
 ) (
 some ((),(((cond (!(eqI p0.1 6)) (eqS p0.2.2.1 []) false),()),()))
 )
 )
 )
 ) (
 let u5:=(cond (!(eqI p0.1 1)) (!(eqI p0.2.2.2.2.2.2.2.1 0)) false)
 cond u5 (
 some ((),((false,()),()))
 ) (
 cond (eqI p0.1 6) (
 let u6:=(g98 p0.2.2.1)
 Option.bind u6 fun y10 =>
 cond y10.2.1.1 (
 some ((),((true,()),()))
 ) (
 some ((),(((cond (!(eqI p0.1 6)) (eqS p0.2.2.1 []) false),()),()))
 )
 ) (
 some ((),(((cond (!(eqI p0.1 6)) (eqS p0.2.2.1 []) false),()),()))
 )
 )
 )
 )
 )
 ) (
 Option.bind u2 fun y8 =>
 cond (cond (!y8.2.1.1) (!(eqI p0.2.2.2.2.2.2.1 0)) false) (
 some ((),((false,()),()))
 ) (
 cond (eqI p0.1 1) (
 let u3:=(g44 p0.2.2.2.2.2.2.2.1 0 9999)
 Option.bind u3 fun y9 =>
 cond (!y9.2.1.1) (
 some ((),((false,()),()))
 ) (
 let u4:=(cond (!(eqI p0.1 1)) (!(eqI p0.2.2.2.2.2.2.2.1 0)) false)
 cond u4 (
 some ((),((false,()),()))
 ) (
 cond (eqI p0.1 6) (
 let u5:=(g98 p0.2.2.1)
 Option.bind u5 fun y10 =>
 cond y10.2.1.1 (
 some ((),((true,()),()))
 ) (
 some ((),(((cond (!(eqI p0.1 6)) (eqS p0.2.2.1 []) false),()),()))
 )
 ) (
 some ((),(((cond (!(eqI p0.1 6)) (eqS p0.2.2.1 []) false),()),()))
 )
 )
 )
 ) (
 let u3:=(cond (!(eqI p0.1 1)) (!(eqI p0.2.2.2.2.2.2.2.1 0)) false)
 cond u3 (
 some ((),((false,()),()))
 ) (
 cond (eqI p0.1 6) (
 let u4:=(g98 p0.2.2.1)
 Option.bind u4 fun y9 =>
 cond y9.2.1.1 (
 some ((),((true,()),()))
 ) (
 some ((),(((cond (!(eqI p0.1 6)) (eqS p0.2.2.1 []) false),()),()))
 )
 ) (
 some ((),(((cond (!(eqI p0.1 6)) (eqS p0.2.2.1 []) false),()),()))
 )
 )
 )
 )
 )
 )
 )
 )
 )
 )
 )
def s160:Su:=⟨[.c true [.int .i64,.str,.str,.str,.str,.str,.int .i64,.int .i64]],[(false,[.bool])],true,.inl fun x=>g160 x.1⟩
theorem ok160:SuOK Tryz.prog 160 s160 :=
 fq (ac ok44 (ac ok185 (ac ok98 (ac ok187 (ac ok208 (ac ok206 (ac ok156 (ac ok158 an)))))))) Tryz.f160
def g120 (p0:(List UInt8)×(List R178)×Unit):Option (Unit×(Y51×Y0×Unit)) :=
 (g152 p0).bind fun y1 =>
 cond (!y1.2.1.1) (
 some ((),((0,[],[],[],[],[],0,0,()),(1,()),()))
 ) (
 (g153 p0.1).bind fun y2 =>
 cond (!y2.2.1.1) (
 some ((),((0,[],[],[],[],[],0,0,()),(2,()),()))
 ) (
 (g154 p0 3).bind fun y3 =>
 cond (!y3.2.2.1.1) (
 some ((),((0,[],[],[],[],[],0,0,()),(1,()),()))
 ) (
 (g155 p0.1 y3.2.1.1).bind fun y4 =>
 (g154 p0 2).bind fun y5 =>
 (g154 p0 11).bind fun y6 =>
 (g156 y4.2.1.1).bind fun y7 =>
 cond y7.2.1.1 (
 (g154 p0 38).bind fun y8 =>
 (g157 y8.2.1.1).bind fun y9 =>
 let u1:=(g158 y4.2.1.1)
 Option.bind u1 fun y10 =>
 cond y10.2.1.1 (
 let u2:=(g154 p0 4)
 Option.bind u2 fun y11 =>
 let u3:=(g159 y11.2.1.1)
 Option.bind u3 fun y12 =>
 cond (eqI y4.2.1.1 1) (
 let u4:=(g154 p0 14)
 Option.bind u4 fun y13 =>
 (g159 y13.2.1.1).bind fun y14 =>
 cond (eqI y4.2.1.1 6) (
 let u5:=(g154 p0 103)
 Option.bind u5 fun y15 =>
 let u6:=(cond y3.2.2.1.1 y11.2.2.1.1 false)
 cond (!(cond u6 y13.2.2.1.1 false)) (
 some ((),((0,[],[],[],[],[],0,0,()),(1,()),()))
 ) (
 (g160 (y4.2.1.1,y5.2.1.1,y15.2.1.1,y9.2.1.1,y6.2.1.1,p0.1,y12.2.1.1,y14.2.1.1,())).bind fun y16 =>
 cond (!y16.2.1.1) (
 some ((),((0,[],[],[],[],[],0,0,()),(1,()),()))
 ) (
 some ((),((y4.2.1.1,y5.2.1.1,y15.2.1.1,y9.2.1.1,y6.2.1.1,p0.1,y12.2.1.1,y14.2.1.1,()),(0,()),()))
 )
 )
 ) (
 let u5:=(cond y3.2.2.1.1 y11.2.2.1.1 false)
 cond (!(cond u5 y13.2.2.1.1 false)) (
 some ((),((0,[],[],[],[],[],0,0,()),(1,()),()))
 ) (
 (g160 (y4.2.1.1,y5.2.1.1,[],y9.2.1.1,y6.2.1.1,p0.1,y12.2.1.1,y14.2.1.1,())).bind fun y15 =>
 cond (!y15.2.1.1) (
 some ((),((0,[],[],[],[],[],0,0,()),(1,()),()))
 ) (
 some ((),((y4.2.1.1,y5.2.1.1,[],y9.2.1.1,y6.2.1.1,p0.1,y12.2.1.1,y14.2.1.1,()),(0,()),()))
 )
 )
 )
 ) (
 cond (eqI y4.2.1.1 6) (
 let u4:=(g154 p0 103)
 Option.bind u4 fun y13 =>
 let u5:=(cond y3.2.2.1.1 y11.2.2.1.1 false)
 cond (!u5) (
 some ((),((0,[],[],[],[],[],0,0,()),(1,()),()))
 ) (
 (g160 (y4.2.1.1,y5.2.1.1,y13.2.1.1,y9.2.1.1,y6.2.1.1,p0.1,y12.2.1.1,0,())).bind fun y14 =>
 cond (!y14.2.1.1) (
 some ((),((0,[],[],[],[],[],0,0,()),(1,()),()))
 ) (
 some ((),((y4.2.1.1,y5.2.1.1,y13.2.1.1,y9.2.1.1,y6.2.1.1,p0.1,y12.2.1.1,0,()),(0,()),()))
 )
 )
 ) (
 let u4:=(cond y3.2.2.1.1 y11.2.2.1.1 false)
 cond (!u4) (
 some ((),((0,[],[],[],[],[],0,0,()),(1,()),()))
 ) (
 (g160 (y4.2.1.1,y5.2.1.1,[],y9.2.1.1,y6.2.1.1,p0.1,y12.2.1.1,0,())).bind fun y13 =>
 cond (!y13.2.1.1) (
 some ((),((0,[],[],[],[],[],0,0,()),(1,()),()))
 ) (
 some ((),((y4.2.1.1,y5.2.1.1,[],y9.2.1.1,y6.2.1.1,p0.1,y12.2.1.1,0,()),(0,()),()))
 )
 )
 )
 )
 ) (
 cond (eqI y4.2.1.1 1) (
 let u2:=(g154 p0 14)
 Option.bind u2 fun y11 =>
 let u3:=(g159 y11.2.1.1)
 Option.bind u3 fun y12 =>
 cond (eqI y4.2.1.1 6) (
 let u4:=(g154 p0 103)
 Option.bind u4 fun y13 =>
 let u5:=(cond y3.2.2.1.1 y11.2.2.1.1 false)
 cond (!u5) (
 some ((),((0,[],[],[],[],[],0,0,()),(1,()),()))
 ) (
 (g160 (y4.2.1.1,y5.2.1.1,y13.2.1.1,y9.2.1.1,y6.2.1.1,p0.1,0,y12.2.1.1,())).bind fun y14 =>
 cond (!y14.2.1.1) (
 some ((),((0,[],[],[],[],[],0,0,()),(1,()),()))
 ) (
 some ((),((y4.2.1.1,y5.2.1.1,y13.2.1.1,y9.2.1.1,y6.2.1.1,p0.1,0,y12.2.1.1,()),(0,()),()))
 )
 )
 ) (
 let u4:=(cond y3.2.2.1.1 y11.2.2.1.1 false)
 cond (!u4) (
 some ((),((0,[],[],[],[],[],0,0,()),(1,()),()))
 ) (
 (g160 (y4.2.1.1,y5.2.1.1,[],y9.2.1.1,y6.2.1.1,p0.1,0,y12.2.1.1,())).bind fun y13 =>
 cond (!y13.2.1.1) (
 some ((),((0,[],[],[],[],[],0,0,()),(1,()),()))
 ) (
 some ((),((y4.2.1.1,y5.2.1.1,[],y9.2.1.1,y6.2.1.1,p0.1,0,y12.2.1.1,()),(0,()),()))
 )
 )
 )
 ) (
 cond (eqI y4.2.1.1 6) (
 let u2:=(g154 p0 103)
 Option.bind u2 fun y11 =>
 cond (!y3.2.2.1.1) (
 some ((),((0,[],[],[],[],[],0,0,()),(1,()),()))
 ) (
 (g160 (y4.2.1.1,y5.2.1.1,y11.2.1.1,y9.2.1.1,y6.2.1.1,p0.1,0,0,())).bind fun y12 =>
 cond (!y12.2.1.1) (
 some ((),((0,[],[],[],[],[],0,0,()),(1,()),()))
 ) (
 some ((),((y4.2.1.1,y5.2.1.1,y11.2.1.1,y9.2.1.1,y6.2.1.1,p0.1,0,0,()),(0,()),()))
 )
 )
 ) (
 cond (!y3.2.2.1.1) (
 some ((),((0,[],[],[],[],[],0,0,()),(1,()),()))
 ) (
 (g160 (y4.2.1.1,y5.2.1.1,[],y9.2.1.1,y6.2.1.1,p0.1,0,0,())).bind fun y11 =>
 cond (!y11.2.1.1) (
 some ((),((0,[],[],[],[],[],0,0,()),(1,()),()))
 ) (
 some ((),((y4.2.1.1,y5.2.1.1,[],y9.2.1.1,y6.2.1.1,p0.1,0,0,()),(0,()),()))
 )
 )
 )
 )
 )
 ) (
 let u1:=(g158 y4.2.1.1)
 Option.bind u1 fun y8 =>
 cond y8.2.1.1 (
 let u2:=(g154 p0 4)
 Option.bind u2 fun y9 =>
 let u3:=(g159 y9.2.1.1)
 Option.bind u3 fun y10 =>
 cond (eqI y4.2.1.1 1) (
 let u4:=(g154 p0 14)
 Option.bind u4 fun y11 =>
 let u5:=(g159 y11.2.1.1)
 Option.bind u5 fun y12 =>
 cond (eqI y4.2.1.1 6) (
 let u6:=(g154 p0 103)
 Option.bind u6 fun y13 =>
 let u7:=(cond y3.2.2.1.1 y9.2.2.1.1 false)
 cond (!(cond u7 y11.2.2.1.1 false)) (
 some ((),((0,[],[],[],[],[],0,0,()),(1,()),()))
 ) (
 (g160 (y4.2.1.1,y5.2.1.1,y13.2.1.1,[],y6.2.1.1,p0.1,y10.2.1.1,y12.2.1.1,())).bind fun y14 =>
 cond (!y14.2.1.1) (
 some ((),((0,[],[],[],[],[],0,0,()),(1,()),()))
 ) (
 some ((),((y4.2.1.1,y5.2.1.1,y13.2.1.1,[],y6.2.1.1,p0.1,y10.2.1.1,y12.2.1.1,()),(0,()),()))
 )
 )
 ) (
 let u6:=(cond y3.2.2.1.1 y9.2.2.1.1 false)
 cond (!(cond u6 y11.2.2.1.1 false)) (
 some ((),((0,[],[],[],[],[],0,0,()),(1,()),()))
 ) (
 (g160 (y4.2.1.1,y5.2.1.1,[],[],y6.2.1.1,p0.1,y10.2.1.1,y12.2.1.1,())).bind fun y13 =>
 cond (!y13.2.1.1) (
 some ((),((0,[],[],[],[],[],0,0,()),(1,()),()))
 ) (
 some ((),((y4.2.1.1,y5.2.1.1,[],[],y6.2.1.1,p0.1,y10.2.1.1,y12.2.1.1,()),(0,()),()))
 )
 )
 )
 ) (
 cond (eqI y4.2.1.1 6) (
 let u4:=(g154 p0 103)
 Option.bind u4 fun y11 =>
 let u5:=(cond y3.2.2.1.1 y9.2.2.1.1 false)
 cond (!u5) (
 some ((),((0,[],[],[],[],[],0,0,()),(1,()),()))
 ) (
 (g160 (y4.2.1.1,y5.2.1.1,y11.2.1.1,[],y6.2.1.1,p0.1,y10.2.1.1,0,())).bind fun y12 =>
 cond (!y12.2.1.1) (
 some ((),((0,[],[],[],[],[],0,0,()),(1,()),()))
 ) (
 some ((),((y4.2.1.1,y5.2.1.1,y11.2.1.1,[],y6.2.1.1,p0.1,y10.2.1.1,0,()),(0,()),()))
 )
 )
 ) (
 let u4:=(cond y3.2.2.1.1 y9.2.2.1.1 false)
 cond (!u4) (
 some ((),((0,[],[],[],[],[],0,0,()),(1,()),()))
 ) (
 (g160 (y4.2.1.1,y5.2.1.1,[],[],y6.2.1.1,p0.1,y10.2.1.1,0,())).bind fun y11 =>
 cond (!y11.2.1.1) (
 some ((),((0,[],[],[],[],[],0,0,()),(1,()),()))
 ) (
 some ((),((y4.2.1.1,y5.2.1.1,[],[],y6.2.1.1,p0.1,y10.2.1.1,0,()),(0,()),()))
 )
 )
 )
 )
 ) (
 cond (eqI y4.2.1.1 1) (
 let u2:=(g154 p0 14)
 Option.bind u2 fun y9 =>
 let u3:=(g159 y9.2.1.1)
 Option.bind u3 fun y10 =>
 cond (eqI y4.2.1.1 6) (
 let u4:=(g154 p0 103)
 Option.bind u4 fun y11 =>
 let u5:=(cond y3.2.2.1.1 y9.2.2.1.1 false)
 cond (!u5) (
 some ((),((0,[],[],[],[],[],0,0,()),(1,()),()))
 ) (
 (g160 (y4.2.1.1,y5.2.1.1,y11.2.1.1,[],y6.2.1.1,p0.1,0,y10.2.1.1,())).bind fun y12 =>
 cond (!y12.2.1.1) (
 some ((),((0,[],[],[],[],[],0,0,()),(1,()),()))
 ) (
 some ((),((y4.2.1.1,y5.2.1.1,y11.2.1.1,[],y6.2.1.1,p0.1,0,y10.2.1.1,()),(0,()),()))
 )
 )
 ) (
 let u4:=(cond y3.2.2.1.1 y9.2.2.1.1 false)
 cond (!u4) (
 some ((),((0,[],[],[],[],[],0,0,()),(1,()),()))
 ) (
 (g160 (y4.2.1.1,y5.2.1.1,[],[],y6.2.1.1,p0.1,0,y10.2.1.1,())).bind fun y11 =>
 cond (!y11.2.1.1) (
 some ((),((0,[],[],[],[],[],0,0,()),(1,()),()))
 ) (
 some ((),((y4.2.1.1,y5.2.1.1,[],[],y6.2.1.1,p0.1,0,y10.2.1.1,()),(0,()),()))
 )
 )
 )
 ) (
 cond (eqI y4.2.1.1 6) (
 let u2:=(g154 p0 103)
 Option.bind u2 fun y9 =>
 cond (!y3.2.2.1.1) (
 some ((),((0,[],[],[],[],[],0,0,()),(1,()),()))
 ) (
 (g160 (y4.2.1.1,y5.2.1.1,y9.2.1.1,[],y6.2.1.1,p0.1,0,0,())).bind fun y10 =>
 cond (!y10.2.1.1) (
 some ((),((0,[],[],[],[],[],0,0,()),(1,()),()))
 ) (
 some ((),((y4.2.1.1,y5.2.1.1,y9.2.1.1,[],y6.2.1.1,p0.1,0,0,()),(0,()),()))
 )
 )
 ) (
 cond (!y3.2.2.1.1) (
 some ((),((0,[],[],[],[],[],0,0,()),(1,()),()))
 ) (
 (g160 (y4.2.1.1,y5.2.1.1,[],[],y6.2.1.1,p0.1,0,0,())).bind fun y9 =>
 cond (!y9.2.1.1) (
 some ((),((0,[],[],[],[],[],0,0,()),(1,()),()))
 ) (
 some ((),((y4.2.1.1,y5.2.1.1,[],[],y6.2.1.1,p0.1,0,0,()),(0,()),()))
 )
 )
 )
 )
 )
 )
 )
 )
 )
def s120:Su:=⟨[.c true [.str,.sl 178 kk178]],[(true,[.int .i64,.str,.str,.str,.str,.str,.int .i64,.int .i64]),(false,kk3)],true,.inl fun x=>g120 x.1⟩
theorem ok120:SuOK Tryz.prog 120 s120 :=
 fq (ac ok159 (ac ok152 (ac ok153 (ac ok154 (ac ok155 (ac ok156 (ac ok157 (ac ok158 (ac ok160 an))))))))) Tryz.f120
def g87 (p0:List R5):Option Y23 :=
 (g119 p0).bind fun y1 =>
 cond (!(eqI y1.2.2.1.1 0)) (
 some ((),(([],()),()))
 ) (
 (g120 y1.2.1).bind fun y2 =>
 cond (!(eqI y2.2.2.1.1 0)) (
 some ((),(([],()),()))
 ) (
 cond (cond (!(eqI y2.2.1.1 6)) true (eqS y2.2.1.2.2.1 y2.2.1.2.1)) (
 some ((),(([(y2.2.1.2.1,())],()),()))
 ) (
 cond (ltS y2.2.1.2.2.1 y2.2.1.2.1) (
 some ((),(([(y2.2.1.2.2.1,()),(y2.2.1.2.1,())],()),()))
 ) (
 some ((),(([(y2.2.1.2.1,()),(y2.2.1.2.2.1,())],()),()))
 )
 )
 )
 )
def s87:Su:=⟨[.c false [.sl 5 kk5]],[(false,[.sl 9 kk9])],true,.inl fun x=>g87 x.1.1⟩
theorem ok87:SuOK Tryz.prog 87 s87 :=
 fq (ac ok119 (ac ok120 an)) Tryz.f87
def r86_2 (t1:Int) (t5:List R3) (t8 t9:Int) (t12:List R9) (t13 t14:Int):Rd (Int×(List R3)×Int×Int×(List R9)×Int×Int×Unit) Unit :=
 cond (ltI t9 (lenI t5)) (
 cond (inB t9 t5) (
 cond (ltI (gt d3 t5 t9).1 t8) (
 some (.inl (t1,t5,t8,(addW .i64 t9 1),t12,t13,t14,()))
 ) (
 some (.inr (.inl (t1,t5,t8,t9,t12,t13,t14,())))
 )
 ) none
 ) (
 some (.inr (.inl (t1,t5,t8,t9,t12,t13,t14,())))
 )
def l86_2:=cu7 (loopF (un7 r86_2))
def r86_0 (t1:Int) (t5:List R3) (t12:List R9) (t13 t14:Int):Rd (Int×(List R3)×(List R9)×Int×Int×Unit) Unit :=
 cond (ltI t14 t13) (
 cond (inB t14 t12) (
 (g59 (gt d9 t12 t14).1 t1).bind fun y1 =>
 (l86_2 t1 t5 y1.2.1.1 0 t12 t13 t14).bind (Sum.elim (fun y2 =>
 let u1:=(lenI y2.2.1)
 cond (ltI y2.2.2.2.1 u1) (
 cond (inB y2.2.2.2.1 y2.2.1) (
 cond (eqI (gt d3 y2.2.1 y2.2.2.2.1).1 y2.2.2.1) (
 let u2:=(addW .i64 y2.2.2.2.2.2.2.1 1)
 some (.inl (y2.1,y2.2.1,y2.2.2.2.2.1,y2.2.2.2.2.2.1,u2,()))
 ) (
 let u2:=(cutB 0 y2.2.2.2.1 y2.2.1)
 cond u2 (
 let u3:=(tkI y2.2.1 y2.2.2.2.1)
 let u4:=(fitB 8 [] u3)
 cond u4 (
 let u5:=(apL [] u3)
 let u6:=(fitB 8 u5 [(y2.2.2.1,())])
 cond u6 (
 let u7:=(cutB y2.2.2.2.1 u1 y2.2.1)
 cond u7 (
 let u8:=(apL u5 [(y2.2.2.1,())])
 let u9:=(sub y2.2.1 y2.2.2.2.1 u1)
 let u10:=(fitB 8 u8 u9)
 cond u10 (
 let u11:=(addW .i64 y2.2.2.2.2.2.2.1 1)
 some (.inl (y2.1,(apL u8 u9),y2.2.2.2.2.1,y2.2.2.2.2.2.1,u11,()))
 ) none
 ) none
 ) none
 ) none
 ) none
 )
 ) none
 ) (
 let u2:=(cutB 0 y2.2.2.2.1 y2.2.1)
 cond u2 (
 let u3:=(tkI y2.2.1 y2.2.2.2.1)
 let u4:=(fitB 8 [] u3)
 cond u4 (
 let u5:=(apL [] u3)
 let u6:=(fitB 8 u5 [(y2.2.2.1,())])
 cond u6 (
 let u7:=(cutB y2.2.2.2.1 u1 y2.2.1)
 cond u7 (
 let u8:=(apL u5 [(y2.2.2.1,())])
 let u9:=(sub y2.2.1 y2.2.2.2.1 u1)
 let u10:=(fitB 8 u8 u9)
 cond u10 (
 let u11:=(addW .i64 y2.2.2.2.2.2.2.1 1)
 some (.inl (y2.1,(apL u8 u9),y2.2.2.2.2.1,y2.2.2.2.2.2.1,u11,()))
 ) none
 ) none
 ) none
 ) none
 ) none
 )
 ) (fun y2 =>
 some (.inr (.inr ()))
 ))
 ) none
 ) (
 some (.inr (.inl (t1,t5,t12,t13,t14,())))
 )
def l86_0:=cu5 (loopF (un5 r86_0))
def g86 (p0:List R9) (p1:Int):Option Y22 :=
 (l86_0 p1 [] p0 (lenI p0) 0).bind (Sum.elim (fun y1 =>
 some ((),((y1.2.1,()),()))
 ) (fun y1 =>
 none
 ))
def s86:Su:=⟨[.c false [.sl 9 kk9],.c false kk3],[(false,kk53)],true,.inl fun x=>g86 x.1.1 x.2.1.1⟩
theorem ok86:SuOK Tryz.prog 86 s86 :=
 fl (ac ok59 an) [] [(2,⟨[.d 1 (.int .i64),.own 5 (.sl 3 kk3),.d 8 (.int .i64),.d 9 (.int .i64),.d 12 (.sl 9 kk9),.d 13 (.int .i64),.d 14 (.int .i64)],loopF (un7 r86_2)⟩),(0,⟨[.d 1 (.int .i64),.own 5 (.sl 3 kk3),.d 12 (.sl 9 kk9),.d 13 (.int .i64),.d 14 (.int .i64)],loopF (un5 r86_0)⟩)] [] Tryz.f86 (lp [0] (sc (lp [2] (sc lp0 sn)) sn))
def g64 (p0:(List R5)×Int×(List R3)×Int×Int×Int×Int×Int×(List R5)×Unit) (p1:Int):Option Y22 :=
 (g87 p0.1).bind fun y1 =>
 (g86 y1.2.1.1 p1).bind fun y2 =>
 some ((),(y2.2.1,()))
def s64:Su:=⟨[.c true kk86,.c false kk3],[(false,kk53)],true,.inl fun x=>g64 x.1 x.2.1.1⟩
theorem ok64:SuOK Tryz.prog 64 s64 :=
 fq (ac ok87 (ac ok86 an)) Tryz.f64
def r63_0 (t0 t1:List R3) (t12 t13:Int):Rd ((List R3)×(List R3)×Int×Int×Unit) Y1 :=
 cond (ltI t13 t12) (
 cond (inB t13 t0) (
 cond (inB t13 t1) (
 cond (!(eqI (gt d3 t0 t13).1 (gt d3 t1 t13).1)) (
 some (.inr (.inr (false,())))
 ) (
 some (.inl (t0,t1,t12,(addW .i64 t13 1),()))
 )
 ) none
 ) none
 ) (
 some (.inr (.inl (t0,t1,t12,t13,())))
 )
def l63_0:=cu4 (loopF (un4 r63_0))
def g63 (p0 p1:List R3):Option Y17 :=
 let u1:=(lenI p0)
 cond (!(eqI u1 (lenI p1))) (
 some ((),((false,()),()))
 ) (
 (l63_0 p0 p1 u1 0).bind (Sum.elim (fun y1 =>
 some ((),((true,()),()))
 ) (fun y1 =>
 some ((),(y1,()))
 ))
 )
def s63:Su:=⟨[.c false kk53,.c false kk53],[(false,[.bool])],true,.inl fun x=>g63 x.1.1 x.2.1.1⟩
theorem ok63:SuOK Tryz.prog 63 s63 :=
 fl an [.d 4 (.bool)] [(0,⟨[.d 0 (.sl 3 kk3),.d 1 (.sl 3 kk3),.d 12 (.int .i64),.d 13 (.int .i64)],loopF (un4 r63_0)⟩)] [] Tryz.f63 (lp [0] (sc lp0 sn))
def g33 (p0:(List R5)×Int×(List R3)×Int×Int×Int×Int×Int×(List R5)×Unit) (p1:Int):Option Y17 :=
 (g44 p1 1 5).bind fun y1 =>
 let u1:=(lenI p0.2.2.2.2.2.2.2.2.1)
 cond (cond (cond (!y1.2.1.1) true (ltI 300 (lenI p0.1))) true (ltI 200 u1)) (
 some ((),((false,()),()))
 ) (
 (g31 p0.2.2.2.2.1).bind fun y2 =>
 cond (!y2.2.1.1) (
 some ((),((false,()),()))
 ) (
 (g31 p0.2.2.2.2.2.2.2.1).bind fun y3 =>
 cond (!y3.2.1.1) (
 some ((),((false,()),()))
 ) (
 (g44 p0.2.1 0 5).bind fun y4 =>
 cond (!y4.2.1.1) (
 some ((),((false,()),()))
 ) (
 (g62 p0).bind fun y5 =>
 cond (!y5.2.1.1) (
 some ((),((false,()),()))
 ) (
 cond (cond (eqI p0.2.1 0) (ltI 0 (lenI p0.2.2.1)) false) (
 some ((),((false,()),()))
 ) (
 cond (!(eqI p0.2.1 0)) (
 (g64 p0 p1).bind fun y6 =>
 (g63 p0.2.2.1 y6.2.1.1).bind fun y7 =>
 cond (!y7.2.1.1) (
 some ((),((false,()),()))
 ) (
 cond (leI p0.2.1 2) (
 some ((),(((cond (cond (cond (eqI p0.2.2.2.2.2.1 (-1)) (eqI p0.2.2.2.2.2.2.1 (-1)) false) (eqI p0.2.2.2.2.2.2.2.1 0) false) (eqI u1 0) false),()),()))
 ) (
 let u2:=(g31 p0.2.2.2.2.2.1)
 Option.bind u2 fun y8 =>
 cond (cond (!y8.2.1.1) true (ltI p0.2.2.2.2.2.1 p0.2.2.2.2.1)) (
 some ((),((false,()),()))
 ) (
 cond (eqI p0.2.1 5) (
 let u3:=(g31 p0.2.2.2.2.2.2.1)
 Option.bind u3 fun y9 =>
 some ((),(((cond y9.2.1.1 (leI p0.2.2.2.2.2.1 p0.2.2.2.2.2.2.1) false),()),()))
 ) (
 some ((),(((eqI p0.2.2.2.2.2.2.1 (-1)),()),()))
 )
 )
 )
 )
 ) (
 cond (leI p0.2.1 2) (
 some ((),(((cond (cond (cond (eqI p0.2.2.2.2.2.1 (-1)) (eqI p0.2.2.2.2.2.2.1 (-1)) false) (eqI p0.2.2.2.2.2.2.2.1 0) false) (eqI u1 0) false),()),()))
 ) (
 let u2:=(g31 p0.2.2.2.2.2.1)
 Option.bind u2 fun y6 =>
 cond (cond (!y6.2.1.1) true (ltI p0.2.2.2.2.2.1 p0.2.2.2.2.1)) (
 some ((),((false,()),()))
 ) (
 cond (eqI p0.2.1 5) (
 let u3:=(g31 p0.2.2.2.2.2.2.1)
 Option.bind u3 fun y7 =>
 some ((),(((cond y7.2.1.1 (leI p0.2.2.2.2.2.1 p0.2.2.2.2.2.2.1) false),()),()))
 ) (
 some ((),(((eqI p0.2.2.2.2.2.2.1 (-1)),()),()))
 )
 )
 )
 )
 )
 )
 )
 )
 )
 )
def s33:Su:=⟨[.c true kk86,.c false kk3],[(false,[.bool])],true,.inl fun x=>g33 x.1 x.2.1.1⟩
theorem ok33:SuOK Tryz.prog 33 s33 :=
 fq (ac ok44 (ac ok31 (ac ok62 (ac ok64 (ac ok63 an))))) Tryz.f33
def r34_0 (t1 t5:Int) (b2:(List R5)×Int×(List R3)×Int×Int×Int×Int×Int×(List R5)×Unit):Rd (Int×Int×R86×Unit) Y1 :=
 cond (cond (ltI t5 b2.2.2.2.1) (ltI t5 (lenI b2.2.2.1)) false) (
 cond (inB t5 b2.2.2.1) (
 cond (eqI (gt d3 b2.2.2.1 t5).1 t1) (
 some (.inr (.inr (true,())))
 ) (
 some (.inl (t1,(addW .i64 t5 1),b2,()))
 )
 ) none
 ) (
 some (.inr (.inl (t1,t5,b2,())))
 )
def l34_0:=cu3 (loopF (un3 r34_0))
def g34 (p0:(List R5)×Int×(List R3)×Int×Int×Int×Int×Int×(List R5)×Unit) (p1:Int):Option Y17 :=
 (l34_0 p1 0 p0).bind (Sum.elim (fun y1 =>
 some ((),((false,()),()))
 ) (fun y1 =>
 some ((),(y1,()))
 ))
def s34:Su:=⟨[.c true kk86,.c false kk3],[(false,[.bool])],true,.inl fun x=>g34 x.1 x.2.1.1⟩
theorem ok34:SuOK Tryz.prog 34 s34 :=
 fl an [.d 4 (.bool)] [(0,⟨[.d 1 (.int .i64),.d 5 (.int .i64),.box 2 [(false,.sl 5 kk5),(false,.int .i64),(false,.sl 3 kk3),(false,.int .i64),(false,.int .i64),(false,.int .i64),(false,.int .i64),(false,.int .i64),(false,.sl 5 kk5)]],loopF (un3 r34_0)⟩)] [] Tryz.f34 (lp [0] (sc lp0 sn))
def r9_0 (t40:List R64) (t41 t42:Int) (b1:(List R67)×Int×Int×(List R64)×Unit):Rd ((List R64)×Int×Int×Y30×Unit) Y1 :=
 cond (ltI t42 t41) (
 cond (inB t42 t40) (
 let u1:=(gt d64 t40 t42)
 (g33 u1 (lenI b1.1)).bind fun y1 =>
 cond (cond (!y1.2.1.1) true (ltI b1.2.1 u1.2.2.2.2.2.2.2.1)) (
 some (.inr (.inr (false,())))
 ) (
 some (.inl (t40,t41,(addW .i64 t42 1),b1,()))
 )
 ) none
 ) (
 some (.inr (.inl (t40,t41,t42,b1,())))
 )
def l9_0:=cu4 (loopF (un4 r9_0))
def r9_4 (t5:Int) (t61:List R67) (t62 t63:Int) (t75:List R64) (t76 t77:Int) (b1:(List R67)×Int×Int×(List R64)×Unit) (b6:Int×(List R92)×Unit):Rd (Int×(List R67)×Int×Int×(List R64)×Int×Int×Y30×Y8×Unit) Y1 :=
 cond (ltI t77 t76) (
 cond (inB t77 t75) (
 (g34 (gt d64 t75 t77) t5).bind fun y1 =>
 cond (!(eqB y1.2.1.1 (eqI b6.1 t77))) (
 some (.inr (.inr (false,())))
 ) (
 some (.inl (t5,t61,t62,t63,t75,t76,(addW .i64 t77 1),b1,b6,()))
 )
 ) none
 ) (
 some (.inr (.inl (t5,t61,t62,t63,t75,t76,t77,b1,b6,())))
 )
def l9_4:=cu9 (loopF (un9 r9_4))
def r9_2 (t61:List R67) (t62 t63:Int) (b1:(List R67)×Int×Int×(List R64)×Unit):Rd ((List R67)×Int×Int×Y30×Unit) Y1 :=
 cond (ltI t63 t62) (
 cond (inB t63 t61) (
 let u1:=(lenI b1.2.2.2.1)
 let u2:=(gt d67 t61 t63)
 cond (leI u1 u2.1) (
 some (.inr (.inr (false,())))
 ) (
 (l9_4 t63 t61 t62 t63 b1.2.2.2.1 u1 0 b1 u2).bind (Sum.elim (fun y1 =>
 some (.inl (y1.2.1,y1.2.2.1,(addW .i64 y1.2.2.2.1 1),y1.2.2.2.2.2.2.2.1,()))
 ) (fun y1 =>
 some (.inr (.inr (y1.1,())))
 ))
 )
 ) none
 ) (
 some (.inr (.inl (t61,t62,t63,b1,())))
 )
def l9_2:=cu4 (loopF (un4 r9_2))
def g9 (p0:(List R67)×Int×Int×(List R64)×Unit):Option Y17 :=
 (g30 p0.1).bind fun y1 =>
 cond (!y1.2.1.1) (
 some ((),((false,()),()))
 ) (
 (g31 p0.2.1).bind fun y2 =>
 cond (!y2.2.1.1) (
 some ((),((false,()),()))
 ) (
 (g31 p0.2.2.1).bind fun y3 =>
 let u1:=(lenI p0.2.2.2.1)
 cond (cond (!y3.2.1.1) true (ltI 12 u1)) (
 some ((),((false,()),()))
 ) (
 (g32 p0.2.2.2.1 p0.2.2.1).bind fun y4 =>
 cond (!y4.2.1.1) (
 some ((),((false,()),()))
 ) (
 (l9_0 p0.2.2.2.1 u1 0 p0).bind (Sum.elim (fun y5 =>
 (l9_2 y5.2.2.2.1.1 (lenI y5.2.2.2.1.1) 0 y5.2.2.2.1).bind (Sum.elim (fun y6 =>
 some ((),((true,()),()))
 ) (fun y6 =>
 some ((),(y6,()))
 ))
 ) (fun y5 =>
 some ((),(y5,()))
 ))
 )
 )
 )
 )
def s9:Su:=⟨[.c true [.sl 67 kk67,.int .i64,.int .i64,.sl 64 kk64]],[(false,[.bool])],true,.inl fun x=>g9 x.1⟩
theorem ok9:SuOK Tryz.prog 9 s9 :=
 fl (ac ok31 (ac ok30 (ac ok32 (ac ok33 (ac ok34 an))))) [.d 2 (.bool)] [(0,⟨[.d 40 (.sl 64 kk64),.d 41 (.int .i64),.d 42 (.int .i64),.box 1 [(false,.sl 67 kk67),(false,.int .i64),(false,.int .i64),(false,.sl 64 kk64)]],loopF (un4 r9_0)⟩),(4,⟨[.d 5 (.int .i64),.d 61 (.sl 67 kk67),.d 62 (.int .i64),.d 63 (.int .i64),.d 75 (.sl 64 kk64),.d 76 (.int .i64),.d 77 (.int .i64),.box 1 [(false,.sl 67 kk67),(false,.int .i64),(false,.int .i64),(false,.sl 64 kk64)],.box 6 [(false,.int .i64),(false,.sl 92 kk92)]],loopF (un9 r9_4)⟩),(2,⟨[.d 61 (.sl 67 kk67),.d 62 (.int .i64),.d 63 (.int .i64),.box 1 [(false,.sl 67 kk67),(false,.int .i64),(false,.int .i64),(false,.sl 64 kk64)]],loopF (un4 r9_2)⟩)] [] Tryz.f9 (lp [0,2] (sc lp0 (sc (lp [4] (sc lp0 sn)) sn)))
def g45 (p0:(List R5)×Int×(List R3)×Int×Int×Int×Int×Int×(List R5)×Unit):Option Y15 :=
 cond (!(eqI p0.2.1 1)) (
 some ((),(((-1),()),()))
 ) (
 (g44 p0.2.2.2.1 0 (subW .i64 (lenI p0.2.2.1) 1)).bind fun y1 =>
 cond (!y1.2.1.1) (
 some ((),(((-1),()),()))
 ) (
 cond (inB p0.2.2.2.1 p0.2.2.1) (
 some ((),((gt d3 p0.2.2.1 p0.2.2.2.1),()))
 ) none
 )
 )
def s45:Su:=⟨[.c true kk86],[(false,kk3)],true,.inl fun x=>g45 x.1⟩
theorem ok45:SuOK Tryz.prog 45 s45 :=
 fq (ac ok44 an) Tryz.f45
def g13 (p0:(List R67)×Int×Int×(List R64)×Unit) (p1:Int):Option Y15 :=
 (g9 p0).bind fun y1 =>
 cond (!y1.2.1.1) (
 some ((),(((-1),()),()))
 ) (
 (g44 p1 0 (subW .i64 (lenI p0.2.2.2.1) 1)).bind fun y2 =>
 cond (!y2.2.1.1) (
 some ((),(((-1),()),()))
 ) (
 cond (inB p1 p0.2.2.2.1) (
 (g45 (gt d64 p0.2.2.2.1 p1)).bind fun y3 =>
 cond (ltI y3.2.1.1 0) (
 some ((),(((-1),()),()))
 ) (
 cond (inB y3.2.1.1 p0.1) (
 some ((),(((gt d67 p0.1 y3.2.1.1).1,()),()))
 ) none
 )
 ) none
 )
 )
def s13:Su:=⟨[.c true [.sl 67 kk67,.int .i64,.int .i64,.sl 64 kk64],.c false kk3],[(false,kk3)],true,.inl fun x=>g13 x.1 x.2.1.1⟩
theorem ok13:SuOK Tryz.prog 13 s13 :=
 fq (ac ok44 (ac ok9 (ac ok45 an))) Tryz.f13
def g46 (p0 p1 p2:Int):Option Y17 :=
 some ((),(((cond (leI p1 p0) (leI p0 p2) false),()),()))
def s46:Su:=⟨[.c false kk3,.c false kk3,.c false kk3],[(false,[.bool])],true,.inl fun x=>g46 x.1.1 x.2.1.1 x.2.2.1.1⟩
theorem ok46:SuOK Tryz.prog 46 s46 :=
 fq an Tryz.f46
def g93 (p0 p1:(List UInt8)×Int×Int×Int×Int×(List R157)×Int×Int×(List R3)×(List R3)×(List R160)×Unit):Option Y15 :=
 cond (ltS p0.1 p1.1) (
 some ((),(((-1),()),()))
 ) (
 cond (!(leS p0.1 p1.1)) (
 some ((),((1,()),()))
 ) (
 some ((),((0,()),()))
 )
 )
def s93:Su:=⟨[.c true kk92,.c true kk92],[(false,kk3)],true,.inl fun x=>g93 x.1 x.2.1⟩
theorem ok93:SuOK Tryz.prog 93 s93 :=
 fq an Tryz.f93
def r164_2 (t0:List R92) (t1 t2:Int) (f3:Unit) (t8 t9:Int):Rd ((List R92)×Int×Int×Unit×Int×Int×Unit) Unit :=
 cond (ltI t1 t9) (
 cond (inB t9 t0) (
 let u1:=(subW .i64 t9 1)
 cond (inB u1 t0) (
 (g93 (gt d92 t0 t9) (gt d92 t0 u1)).bind fun y1 =>
 cond (ltI y1.2.1.1 0) (
 cond (inB u1 t0) (
 cond (inB t9 t0) (
 cond (atB t9 t0 t9) (
 cond (atB u1 t0 u1) (
 some (.inl ((swI d92 t0 t9 u1),t1,t2,(),t8,u1,()))
 ) none
 ) none
 ) none
 ) none
 ) (
 some (.inr (.inl (t0,t1,t2,(),t8,t9,())))
 )
 ) none
 ) none
 ) (
 some (.inr (.inl (t0,t1,t2,(),t8,t9,())))
 )
def l164_2:=cu6 (loopF (un6 r164_2))
def r164_0 (t0:List R92) (t1 t2:Int) (f3:Unit) (t8:Int):Rd ((List R92)×Int×Int×Unit×Int×Unit) Unit :=
 cond (ltI t8 t2) (
 (l164_2 t0 t1 t2 () t8 t8).bind (Sum.elim (fun y1 =>
 some (.inl (y1.1,y1.2.1,y1.2.2.1,(),(addW .i64 y1.2.2.2.2.1 1),()))
 ) (fun y1 =>
 some (.inr (.inr ()))
 ))
 ) (
 some (.inr (.inl (t0,t1,t2,(),t8,())))
 )
def l164_0:=cu5 (loopF (un5 r164_0))
def g164 (p0:List R92) (p1 p2:Int):Option Y24 :=
 (l164_0 p0 p1 p2 () (addW .i64 p1 1)).bind (Sum.elim (fun y1 =>
 some (((y1.1,()),()),())
 ) (fun y1 =>
 none
 ))
def s164:Su:=⟨[.io false [.sl 92 kk92],.c false kk3,.c false kk3,.fn 93 []],[],true,.inl fun x=>g164 x.1.1 x.2.1.1 x.2.2.1.1⟩
def sg164_2:List SE:=[.own 0 (.sl 92 kk92),.d 1 (.int .i64),.d 2 (.int .i64),.fn 3 93 [],.d 8 (.int .i64),.d 9 (.int .i64)]
def sg164_0:List SE:=[.own 0 (.sl 92 kk92),.d 1 (.int .i64),.d 2 (.int .i64),.fn 3 93 [],.d 8 (.int .i64)]
def rh164:List SE:=[]
def lo164:Nat->Option (Lo rh164)
 | 2=>some ⟨sg164_2,un6 l164_2⟩
 | 0=>some ⟨sg164_0,un5 l164_0⟩
 | _=>none
def ga164:List (Nat×Su):=[(93,s93)]
def EL164:En:=⟨53,tt,gaOf ga164,rh164,lo164,[0],fun _=>none⟩
def rg164:Nat->Option (St->Tr St)
 | 6=>some (swapT EL164 (opsOf (regOf 6 (bodyOf Tryz.f164))) [9] [(14,2),(14,3),(14,4)] 14 9 13)
 | _=>none
def E164:En:=⟨53,tt,gaOf ga164,rh164,lo164,[0],rg164⟩
theorem t164_2 (x:SigT sg164_2):(roundT E164 2 sg164_2 (loopOf 2 (bodyOf Tryz.f164)) x).run=un6 r164_2 x:=by kernel_rfl
theorem t164_0 (x:SigT sg164_0):(roundT E164 0 sg164_0 (loopOf 0 (bodyOf Tryz.f164)) x).run=un5 r164_0 x:=by kernel_rfl
theorem t164 (x:PT s164.ps):(fnT E164 (bodyOf Tryz.f164) Tryz.f164.results.toList s164.ps s164.rs true x).run=g164 x.1.1 x.2.1.1 x.2.2.1.1:=by kernel_rfl
theorem hga164:GAok Tryz.prog E164:=gaok_of (l:=ga164) ⟨ok93,trivial⟩
theorem hgaL164_6:GAok Tryz.prog EL164:=gaok_of (l:=ga164) ⟨ok93,trivial⟩
theorem R164_6:RegSem Tryz.prog E164 (regOf 6 (bodyOf Tryz.f164)) (swapT EL164 (opsOf (regOf 6 (bodyOf Tryz.f164))) [9] [(14,2),(14,3),(14,4)] 14 9 13) :=
 regSem_rg rfl rfl (swap_of (E:=EL164) (hTT hT) hgaL164_6 hmix (c:=(regOf 6 (bodyOf Tryz.f164))) (id:=6) (by kernel_rfl))
theorem L164_2:LoopSem Tryz.prog E164 2 (.loop (loopOf 2 (bodyOf Tryz.f164))) ⟨sg164_2,un6 l164_2⟩ :=
 sem_of (hTT hT) hga164 hmix (step:=fun (x:SigT sg164_2)=>r164_2 x.1 x.2.1 x.2.2.1 x.2.2.2.1 x.2.2.2.2.1 x.2.2.2.2.2.1) t164_2 (loopsOK_reg [] (by kernel_rfl) trivial [(6,regOf 6 (bodyOf Tryz.f164))] (by kernel_rfl) ⟨regL rfl R164_6,trivial⟩)
theorem L164_0:LoopSem Tryz.prog E164 0 (.loop (loopOf 0 (bodyOf Tryz.f164))) ⟨sg164_0,un5 l164_0⟩ :=
 sem_of (hTT hT) hga164 hmix (step:=fun (x:SigT sg164_0)=>r164_0 x.1 x.2.1 x.2.2.1 x.2.2.2.1 x.2.2.2.2.1) t164_0 (loopsOK_reg [(2,.loop (loopOf 2 (bodyOf Tryz.f164)))] (by kernel_rfl) ⟨semL rfl L164_2,trivial⟩ [] (by kernel_rfl) trivial)
theorem ok164:SuOK Tryz.prog 164 s164 :=
 fn_ok (E:=E164) (hTT hT) hga164 hmix (fn:=Tryz.f164) (c:=(bodyOf Tryz.f164)) (by kernel_rfl) (by kernel_rfl) (by kernel_rfl) rfl (loopsOK_reg [(0,.loop (loopOf 0 (bodyOf Tryz.f164)))] (by kernel_rfl) ⟨semL rfl L164_0,trivial⟩ [] (by kernel_rfl) trivial) fun x y h=>⟨y.1,fun _=>rfl,(t164 x).trans h⟩
def r243_0 (t0:List R92) (t1 t2 t3 t10:Int):Rd ((List R92)×Int×Int×Int×Int×Unit) Unit :=
 cond (ltI t10 t3) (
 let u1:=(addW .i64 t2 t10)
 cond (inB u1 t0) (
 let u2:=(addW .i64 t1 t10)
 cond (inB u2 t0) (
 cond (atB u2 t0 u2) (
 cond (atB u1 t0 u1) (
 some (.inl ((swI d92 t0 u2 u1),t1,t2,t3,(addW .i64 t10 1),()))
 ) none
 ) none
 ) none
 ) none
 ) (
 some (.inr (.inl (t0,t1,t2,t3,t10,())))
 )
def l243_0:=cu5 (loopF (un5 r243_0))
def g243 (p0:List R92) (p1 p2 p3:Int):Option Y24 :=
 (l243_0 p0 p1 p2 p3 0).bind (Sum.elim (fun y1 =>
 some (((y1.1,()),()),())
 ) (fun y1 =>
 none
 ))
def s243:Su:=⟨[.io false [.sl 92 kk92],.c false kk3,.c false kk3,.c false kk3,.fn 93 []],[],true,.inl fun x=>g243 x.1.1 x.2.1.1 x.2.2.1.1 x.2.2.2.1.1⟩
def sg243_0:List SE:=[.own 0 (.sl 92 kk92),.d 1 (.int .i64),.d 2 (.int .i64),.d 3 (.int .i64),.d 10 (.int .i64)]
def rh243:List SE:=[]
def lo243:Nat->Option (Lo rh243)
 | 0=>some ⟨sg243_0,un5 l243_0⟩
 | _=>none
def ga243:List (Nat×Su):=[]
def EL243:En:=⟨38,tt,gaOf ga243,rh243,lo243,[0],fun _=>none⟩
def rg243:Nat->Option (St->Tr St)
 | 3=>some (swapT EL243 (opsOf (regOf 3 (bodyOf Tryz.f243))) [2,10] [(20,4),(20,5),(20,6),(20,7)] 20 13 19)
 | _=>none
def E243:En:=⟨38,tt,gaOf ga243,rh243,lo243,[0],rg243⟩
theorem t243_0 (x:SigT sg243_0):(roundT E243 0 sg243_0 (loopOf 0 (bodyOf Tryz.f243)) x).run=un5 r243_0 x:=by kernel_rfl
theorem t243 (x:PT s243.ps):(fnT E243 (bodyOf Tryz.f243) Tryz.f243.results.toList s243.ps s243.rs true x).run=g243 x.1.1 x.2.1.1 x.2.2.1.1 x.2.2.2.1.1:=by kernel_rfl
theorem hga243:GAok Tryz.prog E243:=gaok_of (l:=ga243) trivial
theorem hgaL243_3:GAok Tryz.prog EL243:=gaok_of (l:=ga243) trivial
theorem R243_3:RegSem Tryz.prog E243 (regOf 3 (bodyOf Tryz.f243)) (swapT EL243 (opsOf (regOf 3 (bodyOf Tryz.f243))) [2,10] [(20,4),(20,5),(20,6),(20,7)] 20 13 19) :=
 regSem_rg rfl rfl (swap_of (E:=EL243) (hTT hT) hgaL243_3 hmix (c:=(regOf 3 (bodyOf Tryz.f243))) (id:=3) (by kernel_rfl))
theorem L243_0:LoopSem Tryz.prog E243 0 (.loop (loopOf 0 (bodyOf Tryz.f243))) ⟨sg243_0,un5 l243_0⟩ :=
 sem_of (hTT hT) hga243 hmix (step:=fun (x:SigT sg243_0)=>r243_0 x.1 x.2.1 x.2.2.1 x.2.2.2.1 x.2.2.2.2.1) t243_0 (loopsOK_reg [] (by kernel_rfl) trivial [(3,regOf 3 (bodyOf Tryz.f243))] (by kernel_rfl) ⟨regL rfl R243_3,trivial⟩)
theorem ok243:SuOK Tryz.prog 243 s243 :=
 fn_ok (E:=E243) (hTT hT) hga243 hmix (fn:=Tryz.f243) (c:=(bodyOf Tryz.f243)) (by kernel_rfl) (by kernel_rfl) (by kernel_rfl) rfl (loopsOK_reg [(0,.loop (loopOf 0 (bodyOf Tryz.f243)))] (by kernel_rfl) ⟨semL rfl L243_0,trivial⟩ [] (by kernel_rfl) trivial) fun x y h=>⟨y.1,fun _=>rfl,(t243 x).trans h⟩
def r211_0 (t0:List R92) (t2:Int) (f4:Unit) (t10 t11:Int):Rd Y31 Unit :=
 cond (!(eqI t10 t11)) (
 cond (ltI t11 t10) (
 let u1:=(subW .i64 t2 t10)
 (g243 t0 u1 t2 t11).bind fun y1 =>
 some (.inl (y1.1.1.1,t2,(),(subW .i64 t10 t11),t11,()))
 ) (
 let u1:=(subW .i64 t2 t10)
 (g243 t0 u1 (subW .i64 (addW .i64 t2 t11) t10) t10).bind fun y1 =>
 some (.inl (y1.1.1.1,t2,(),t10,(subW .i64 t11 t10),()))
 )
 ) (
 some (.inr (.inl (t0,t2,(),t10,t11,())))
 )
def l211_0:=cu5 (loopF (un5 r211_0))
def g211 (p0:List R92) (p1 p2 p3:Int):Option Y24 :=
 (l211_0 p0 p2 () (subW .i64 p2 p1) (subW .i64 p3 p2)).bind (Sum.elim (fun y1 =>
 (g243 y1.1 (subW .i64 y1.2.1 y1.2.2.2.1) y1.2.1 y1.2.2.2.1).bind fun y2 =>
 some ((y2.1.1,()),())
 ) (fun y1 =>
 none
 ))
def s211:Su:=⟨[.io false [.sl 92 kk92],.c false kk3,.c false kk3,.c false kk3,.fn 93 []],[],true,.inl fun x=>g211 x.1.1 x.2.1.1 x.2.2.1.1 x.2.2.2.1.1⟩
theorem ok211:SuOK Tryz.prog 211 s211 :=
 fl (ac ok243 an) [] [(0,⟨[.own 0 (.sl 92 kk92),.d 2 (.int .i64),.fn 4 93 [],.d 10 (.int .i64),.d 11 (.int .i64)],loopF (un5 r211_0)⟩)] [0] Tryz.f211 (lp [0] (sc lp0 sn))
-- REC 165
def r165_0 (t0:List R92) (t1:Int) (f4:Unit) (t10 t11:Int):Rd Y31 Unit :=
 cond (ltI t10 t11) (
 let u1:=(cvtW .i64 (shrW .u64 (cvtW .u64 (addW .i64 t10 t11)) 1))
 cond (inB u1 t0) (
 cond (inB t1 t0) (
 (g93 (gt d92 t0 u1) (gt d92 t0 t1)).bind fun y1 =>
 cond (ltI y1.2.1.1 0) (
 some (.inl (t0,t1,(),(addW .i64 u1 1),t11,()))
 ) (
 some (.inl (t0,t1,(),t10,u1,()))
 )
 ) none
 ) none
 ) (
 some (.inr (.inl (t0,t1,(),t10,t11,())))
 )
def l165_0:=cu5 (loopF (un5 r165_0))
def r165_2 (t0:List R92) (t10 t13:Int):Rd ((List R92)×Int×Int×Unit) Unit :=
 cond (ltI t13 (subW .i64 t10 1)) (
 let u1:=(addW .i64 t13 1)
 cond (inB u1 t0) (
 cond (inB t13 t0) (
 cond (atB t13 t0 t13) (
 cond (atB u1 t0 u1) (
 some (.inl ((swI d92 t0 t13 u1),t10,u1,()))
 ) none
 ) none
 ) none
 ) none
 ) (
 some (.inr (.inl (t0,t10,t13,())))
 )
def l165_2:=cu3 (loopF (un3 r165_2))
def r165_4 (t0:List R92) (t2:Int) (f4:Unit) (t14 t15:Int):Rd Y31 Unit :=
 cond (ltI t14 t15) (
 cond (inB t2 t0) (
 let u1:=(cvtW .i64 (shrW .u64 (cvtW .u64 (addW .i64 t14 t15)) 1))
 cond (inB u1 t0) (
 (g93 (gt d92 t0 t2) (gt d92 t0 u1)).bind fun y1 =>
 cond (!(ltI y1.2.1.1 0)) (
 some (.inl (t0,t2,(),(addW .i64 u1 1),t15,()))
 ) (
 some (.inl (t0,t2,(),t14,u1,()))
 )
 ) none
 ) none
 ) (
 some (.inr (.inl (t0,t2,(),t14,t15,())))
 )
def l165_4:=cu5 (loopF (un5 r165_4))
def r165_6 (t0:List R92) (t14 t17:Int):Rd ((List R92)×Int×Int×Unit) Unit :=
 cond (ltI t14 t17) (
 let u1:=(subW .i64 t17 1)
 cond (inB u1 t0) (
 cond (inB t17 t0) (
 cond (atB t17 t0 t17) (
 cond (atB u1 t0 u1) (
 some (.inl ((swI d92 t0 t17 u1),t14,u1,()))
 ) none
 ) none
 ) none
 ) none
 ) (
 some (.inr (.inl (t0,t14,t17,())))
 )
def l165_6:=cu3 (loopF (un3 r165_6))
def r165_8 (t0:List R92) (t1 t2 t3:Int) (f4:Unit) (t18 t19 t20 t21 t22:Int):Rd ((List R92)×Int×Int×Int×Unit×Int×Int×Int×Int×Int×Unit) Unit :=
 cond (ltI t20 t21) (
 let u1:=(cvtW .i64 (shrW .u64 (cvtW .u64 (addW .i64 t20 t21)) 1))
 let u2:=(subW .i64 t22 u1)
 cond (inB u2 t0) (
 cond (inB u1 t0) (
 (g93 (gt d92 t0 u2) (gt d92 t0 u1)).bind fun y1 =>
 cond (!(ltI y1.2.1.1 0)) (
 some (.inl (t0,t1,t2,t3,(),t18,t19,(addW .i64 u1 1),t21,t22,()))
 ) (
 some (.inl (t0,t1,t2,t3,(),t18,t19,t20,u1,t22,()))
 )
 ) none
 ) none
 ) (
 some (.inr (.inl (t0,t1,t2,t3,(),t18,t19,t20,t21,t22,())))
 )
def l165_8:=cu10 (loopF (un10 r165_8))
def g165n (n:Nat):(List R92)->Int->Int->Int->Option Y24:=Nat.rec (motive:=fun _=>(List R92)->Int->Int->Int->Option Y24) (fun _ _ _ _=>none) (fun _ g165=>fun p0 p1 p2 p3 =>
 cond (eqI (subW .i64 p2 p1) 1) (
 (l165_0 p0 p1 () p2 p3).bind (Sum.elim (fun y1 =>
 (l165_2 y1.1 y1.2.2.2.1 y1.2.1).bind (Sum.elim (fun y2 =>
 some (((y2.1,()),()),())
 ) (fun y2 =>
 none
 ))
 ) (fun y1 =>
 none
 ))
 ) (
 cond (eqI (subW .i64 p3 p2) 1) (
 (l165_4 p0 p2 () p1 p2).bind (Sum.elim (fun y1 =>
 (l165_6 y1.1 y1.2.2.2.1 y1.2.1).bind (Sum.elim (fun y2 =>
 some (((y2.1,()),()),())
 ) (fun y2 =>
 none
 ))
 ) (fun y1 =>
 none
 ))
 ) (
 let u1:=(cvtW .i64 (shrW .u64 (cvtW .u64 (addW .i64 p1 p3)) 1))
 cond (ltI u1 p2) (
 let u2:=(addW .i64 u1 p2)
 let u3:=(subW .i64 u2 1)
 (l165_8 p0 p1 p2 p3 () u1 u2 (subW .i64 u2 p3) u1 u3).bind (Sum.elim (fun y1 =>
 let u4:=(subW .i64 y1.2.2.2.2.2.2.1 y1.2.2.2.2.2.2.2.1)
 let u5:=(cond (ltI y1.2.2.2.2.2.2.2.1 y1.2.2.1) (ltI y1.2.2.1 u4) false)
 cond u5 (
 let u6:=(g211 y1.1 y1.2.2.2.2.2.2.2.1 y1.2.2.1 u4)
 Option.bind u6 fun y2 =>
 let u7:=(cond (ltI y1.2.1 y1.2.2.2.2.2.2.2.1) (ltI y1.2.2.2.2.2.2.2.1 y1.2.2.2.2.2.1) false)
 cond u7 (
 let u8:=(g165 y2.1.1.1 y1.2.1 y1.2.2.2.2.2.2.2.1 y1.2.2.2.2.2.1)
 Option.bind u8 fun y3 =>
 let u9:=(cond (ltI y1.2.2.2.2.2.1 u4) (ltI u4 y1.2.2.2.1) false)
 cond u9 (
 let u10:=(g165 y3.1.1.1 y1.2.2.2.2.2.1 u4 y1.2.2.2.1)
 Option.bind u10 fun y4 =>
 some ((y4.1.1,()),())
 ) (
 some ((y3.1.1,()),())
 )
 ) (
 let u8:=(cond (ltI y1.2.2.2.2.2.1 u4) (ltI u4 y1.2.2.2.1) false)
 cond u8 (
 let u9:=(g165 y2.1.1.1 y1.2.2.2.2.2.1 u4 y1.2.2.2.1)
 Option.bind u9 fun y3 =>
 some ((y3.1.1,()),())
 ) (
 some ((y2.1.1,()),())
 )
 )
 ) (
 let u6:=(cond (ltI y1.2.1 y1.2.2.2.2.2.2.2.1) (ltI y1.2.2.2.2.2.2.2.1 y1.2.2.2.2.2.1) false)
 cond u6 (
 let u7:=(g165 y1.1 y1.2.1 y1.2.2.2.2.2.2.2.1 y1.2.2.2.2.2.1)
 Option.bind u7 fun y2 =>
 let u8:=(cond (ltI y1.2.2.2.2.2.1 u4) (ltI u4 y1.2.2.2.1) false)
 cond u8 (
 let u9:=(g165 y2.1.1.1 y1.2.2.2.2.2.1 u4 y1.2.2.2.1)
 Option.bind u9 fun y3 =>
 some ((y3.1.1,()),())
 ) (
 some ((y2.1.1,()),())
 )
 ) (
 let u7:=(cond (ltI y1.2.2.2.2.2.1 u4) (ltI u4 y1.2.2.2.1) false)
 cond u7 (
 let u8:=(g165 y1.1 y1.2.2.2.2.2.1 u4 y1.2.2.2.1)
 Option.bind u8 fun y2 =>
 some ((y2.1.1,()),())
 ) (
 some (((y1.1,()),()),())
 )
 )
 )
 ) (fun y1 =>
 none
 ))
 ) (
 let u2:=(addW .i64 u1 p2)
 let u3:=(subW .i64 u2 1)
 (l165_8 p0 p1 p2 p3 () u1 u2 p1 p2 u3).bind (Sum.elim (fun y1 =>
 let u4:=(subW .i64 y1.2.2.2.2.2.2.1 y1.2.2.2.2.2.2.2.1)
 let u5:=(cond (ltI y1.2.2.2.2.2.2.2.1 y1.2.2.1) (ltI y1.2.2.1 u4) false)
 cond u5 (
 let u6:=(g211 y1.1 y1.2.2.2.2.2.2.2.1 y1.2.2.1 u4)
 Option.bind u6 fun y2 =>
 let u7:=(cond (ltI y1.2.1 y1.2.2.2.2.2.2.2.1) (ltI y1.2.2.2.2.2.2.2.1 y1.2.2.2.2.2.1) false)
 cond u7 (
 let u8:=(g165 y2.1.1.1 y1.2.1 y1.2.2.2.2.2.2.2.1 y1.2.2.2.2.2.1)
 Option.bind u8 fun y3 =>
 let u9:=(cond (ltI y1.2.2.2.2.2.1 u4) (ltI u4 y1.2.2.2.1) false)
 cond u9 (
 let u10:=(g165 y3.1.1.1 y1.2.2.2.2.2.1 u4 y1.2.2.2.1)
 Option.bind u10 fun y4 =>
 some ((y4.1.1,()),())
 ) (
 some ((y3.1.1,()),())
 )
 ) (
 let u8:=(cond (ltI y1.2.2.2.2.2.1 u4) (ltI u4 y1.2.2.2.1) false)
 cond u8 (
 let u9:=(g165 y2.1.1.1 y1.2.2.2.2.2.1 u4 y1.2.2.2.1)
 Option.bind u9 fun y3 =>
 some ((y3.1.1,()),())
 ) (
 some ((y2.1.1,()),())
 )
 )
 ) (
 let u6:=(cond (ltI y1.2.1 y1.2.2.2.2.2.2.2.1) (ltI y1.2.2.2.2.2.2.2.1 y1.2.2.2.2.2.1) false)
 cond u6 (
 let u7:=(g165 y1.1 y1.2.1 y1.2.2.2.2.2.2.2.1 y1.2.2.2.2.2.1)
 Option.bind u7 fun y2 =>
 let u8:=(cond (ltI y1.2.2.2.2.2.1 u4) (ltI u4 y1.2.2.2.1) false)
 cond u8 (
 let u9:=(g165 y2.1.1.1 y1.2.2.2.2.2.1 u4 y1.2.2.2.1)
 Option.bind u9 fun y3 =>
 some ((y3.1.1,()),())
 ) (
 some ((y2.1.1,()),())
 )
 ) (
 let u7:=(cond (ltI y1.2.2.2.2.2.1 u4) (ltI u4 y1.2.2.2.1) false)
 cond u7 (
 let u8:=(g165 y1.1 y1.2.2.2.2.2.1 u4 y1.2.2.2.1)
 Option.bind u8 fun y2 =>
 some ((y2.1.1,()),())
 ) (
 some (((y1.1,()),()),())
 )
 )
 )
 ) (fun y1 =>
 none
 ))
 )
 )
 )) n
theorem g165n_succ (n:Nat) (p0:(List R92)) (p1:Int) (p2:Int) (p3:Int):g165n (n + 1) p0 p1 p2 p3 =
 cond (eqI (subW .i64 p2 p1) 1) (
  (l165_0 p0 p1 () p2 p3).bind (Sum.elim (fun y1 =>
    (l165_2 y1.1 y1.2.2.2.1 y1.2.1).bind (Sum.elim (fun y2 =>
      some (((y2.1,()),()),())
    ) (fun y2 =>
     none
    ))
  ) (fun y1 =>
   none
  ))
 ) (
  cond (eqI (subW .i64 p3 p2) 1) (
   (l165_4 p0 p2 () p1 p2).bind (Sum.elim (fun y1 =>
     (l165_6 y1.1 y1.2.2.2.1 y1.2.1).bind (Sum.elim (fun y2 =>
       some (((y2.1,()),()),())
     ) (fun y2 =>
      none
     ))
   ) (fun y1 =>
    none
   ))
  ) (
   let u1:=(cvtW .i64 (shrW .u64 (cvtW .u64 (addW .i64 p1 p3)) 1))
   cond (ltI u1 p2) (
    let u2:=(addW .i64 u1 p2)
    let u3:=(subW .i64 u2 1)
    (l165_8 p0 p1 p2 p3 () u1 u2 (subW .i64 u2 p3) u1 u3).bind (Sum.elim (fun y1 =>
      let u4:=(subW .i64 y1.2.2.2.2.2.2.1 y1.2.2.2.2.2.2.2.1)
      let u5:=(cond (ltI y1.2.2.2.2.2.2.2.1 y1.2.2.1) (ltI y1.2.2.1 u4) false)
      cond u5 (
       let u6:=(g211 y1.1 y1.2.2.2.2.2.2.2.1 y1.2.2.1 u4)
       Option.bind u6 fun y2 =>
       let u7:=(cond (ltI y1.2.1 y1.2.2.2.2.2.2.2.1) (ltI y1.2.2.2.2.2.2.2.1 y1.2.2.2.2.2.1) false)
       cond u7 (
        let u8:=(g165n n y2.1.1.1 y1.2.1 y1.2.2.2.2.2.2.2.1 y1.2.2.2.2.2.1)
        Option.bind u8 fun y3 =>
        let u9:=(cond (ltI y1.2.2.2.2.2.1 u4) (ltI u4 y1.2.2.2.1) false)
        cond u9 (
         let u10:=(g165n n y3.1.1.1 y1.2.2.2.2.2.1 u4 y1.2.2.2.1)
         Option.bind u10 fun y4 =>
         some ((y4.1.1,()),())
        ) (
         some ((y3.1.1,()),())
        )
       ) (
        let u8:=(cond (ltI y1.2.2.2.2.2.1 u4) (ltI u4 y1.2.2.2.1) false)
        cond u8 (
         let u9:=(g165n n y2.1.1.1 y1.2.2.2.2.2.1 u4 y1.2.2.2.1)
         Option.bind u9 fun y3 =>
         some ((y3.1.1,()),())
        ) (
         some ((y2.1.1,()),())
        )
       )
      ) (
       let u6:=(cond (ltI y1.2.1 y1.2.2.2.2.2.2.2.1) (ltI y1.2.2.2.2.2.2.2.1 y1.2.2.2.2.2.1) false)
       cond u6 (
        let u7:=(g165n n y1.1 y1.2.1 y1.2.2.2.2.2.2.2.1 y1.2.2.2.2.2.1)
        Option.bind u7 fun y2 =>
        let u8:=(cond (ltI y1.2.2.2.2.2.1 u4) (ltI u4 y1.2.2.2.1) false)
        cond u8 (
         let u9:=(g165n n y2.1.1.1 y1.2.2.2.2.2.1 u4 y1.2.2.2.1)
         Option.bind u9 fun y3 =>
         some ((y3.1.1,()),())
        ) (
         some ((y2.1.1,()),())
        )
       ) (
        let u7:=(cond (ltI y1.2.2.2.2.2.1 u4) (ltI u4 y1.2.2.2.1) false)
        cond u7 (
         let u8:=(g165n n y1.1 y1.2.2.2.2.2.1 u4 y1.2.2.2.1)
         Option.bind u8 fun y2 =>
         some ((y2.1.1,()),())
        ) (
         some (((y1.1,()),()),())
        )
       )
      )
    ) (fun y1 =>
     none
    ))
   ) (
    let u2:=(addW .i64 u1 p2)
    let u3:=(subW .i64 u2 1)
    (l165_8 p0 p1 p2 p3 () u1 u2 p1 p2 u3).bind (Sum.elim (fun y1 =>
      let u4:=(subW .i64 y1.2.2.2.2.2.2.1 y1.2.2.2.2.2.2.2.1)
      let u5:=(cond (ltI y1.2.2.2.2.2.2.2.1 y1.2.2.1) (ltI y1.2.2.1 u4) false)
      cond u5 (
       let u6:=(g211 y1.1 y1.2.2.2.2.2.2.2.1 y1.2.2.1 u4)
       Option.bind u6 fun y2 =>
       let u7:=(cond (ltI y1.2.1 y1.2.2.2.2.2.2.2.1) (ltI y1.2.2.2.2.2.2.2.1 y1.2.2.2.2.2.1) false)
       cond u7 (
        let u8:=(g165n n y2.1.1.1 y1.2.1 y1.2.2.2.2.2.2.2.1 y1.2.2.2.2.2.1)
        Option.bind u8 fun y3 =>
        let u9:=(cond (ltI y1.2.2.2.2.2.1 u4) (ltI u4 y1.2.2.2.1) false)
        cond u9 (
         let u10:=(g165n n y3.1.1.1 y1.2.2.2.2.2.1 u4 y1.2.2.2.1)
         Option.bind u10 fun y4 =>
         some ((y4.1.1,()),())
        ) (
         some ((y3.1.1,()),())
        )
       ) (
        let u8:=(cond (ltI y1.2.2.2.2.2.1 u4) (ltI u4 y1.2.2.2.1) false)
        cond u8 (
         let u9:=(g165n n y2.1.1.1 y1.2.2.2.2.2.1 u4 y1.2.2.2.1)
         Option.bind u9 fun y3 =>
         some ((y3.1.1,()),())
        ) (
         some ((y2.1.1,()),())
        )
       )
      ) (
       let u6:=(cond (ltI y1.2.1 y1.2.2.2.2.2.2.2.1) (ltI y1.2.2.2.2.2.2.2.1 y1.2.2.2.2.2.1) false)
       cond u6 (
        let u7:=(g165n n y1.1 y1.2.1 y1.2.2.2.2.2.2.2.1 y1.2.2.2.2.2.1)
        Option.bind u7 fun y2 =>
        let u8:=(cond (ltI y1.2.2.2.2.2.1 u4) (ltI u4 y1.2.2.2.1) false)
        cond u8 (
         let u9:=(g165n n y2.1.1.1 y1.2.2.2.2.2.1 u4 y1.2.2.2.1)
         Option.bind u9 fun y3 =>
         some ((y3.1.1,()),())
        ) (
         some ((y2.1.1,()),())
        )
       ) (
        let u7:=(cond (ltI y1.2.2.2.2.2.1 u4) (ltI u4 y1.2.2.2.1) false)
        cond u7 (
         let u8:=(g165n n y1.1 y1.2.2.2.2.2.1 u4 y1.2.2.2.1)
         Option.bind u8 fun y2 =>
         some ((y2.1.1,()),())
        ) (
         some (((y1.1,()),()),())
        )
       )
      )
    ) (fun y1 =>
     none
    ))
   )
  )
 ):=rfl
def g165 (p0:List R92) (p1 p2 p3:Int):Option Y24:=fixG fun n=>g165n n p0 p1 p2 p3
def s165n (n:Nat):Su:=⟨[.io false [.sl 92 kk92],.c false kk3,.c false kk3,.c false kk3,.fn 93 []],[],true,.inl fun x=>g165n n x.1.1 x.2.1.1 x.2.2.1.1 x.2.2.2.1.1⟩
def s165:Su:=⟨[.io false [.sl 92 kk92],.c false kk3,.c false kk3,.c false kk3,.fn 93 []],[],true,.inl fun x=>g165 x.1.1 x.2.1.1 x.2.2.1.1 x.2.2.2.1.1⟩
def sg165_0:List SE:=[.own 0 (.sl 92 kk92),.d 1 (.int .i64),.fn 4 93 [],.d 10 (.int .i64),.d 11 (.int .i64)]
def sg165_2:List SE:=[.own 0 (.sl 92 kk92),.d 10 (.int .i64),.d 13 (.int .i64)]
def sg165_4:List SE:=[.own 0 (.sl 92 kk92),.d 2 (.int .i64),.fn 4 93 [],.d 14 (.int .i64),.d 15 (.int .i64)]
def sg165_6:List SE:=[.own 0 (.sl 92 kk92),.d 14 (.int .i64),.d 17 (.int .i64)]
def sg165_8:List SE:=[.own 0 (.sl 92 kk92),.d 1 (.int .i64),.d 2 (.int .i64),.d 3 (.int .i64),.fn 4 93 [],.d 18 (.int .i64),.d 19 (.int .i64),.d 20 (.int .i64),.d 21 (.int .i64),.d 22 (.int .i64)]
def rh165:List SE:=[]
def lo165:Nat->Option (Lo rh165)
 | 0=>some ⟨sg165_0,un5 l165_0⟩
 | 2=>some ⟨sg165_2,un3 l165_2⟩
 | 4=>some ⟨sg165_4,un5 l165_4⟩
 | 6=>some ⟨sg165_6,un3 l165_6⟩
 | 8=>some ⟨sg165_8,un10 l165_8⟩
 | _=>none
def ga165 (n:Nat):List (Nat×Su):=[(93,s93),(165,(s165n n)),(211,s211)]
def EL165 (n:Nat):En:=⟨220,tt,gaOf (ga165 n),rh165,lo165,[0],fun _=>none⟩
def rg165 (n:Nat):Nat->Option (St->Tr St)
 | 11=>some (swapT (EL165 n) (opsOf (regOf 11 (bodyOf Tryz.f165))) [13] [(14,2),(14,3),(14,4)] 14 9 13)
 | 23=>some (swapT (EL165 n) (opsOf (regOf 23 (bodyOf Tryz.f165))) [17] [(14,2),(14,3),(14,4)] 14 9 13)
 | _=>none
def E165 (n:Nat):En:=⟨220,tt,gaOf (ga165 n),rh165,lo165,[0],(rg165 n)⟩
theorem t165_0 (n:Nat) (x:SigT sg165_0):(roundT (E165 n) 0 sg165_0 (loopOf 0 (bodyOf Tryz.f165)) x).run=un5 r165_0 x:=by kernel_rfl
theorem t165_2 (n:Nat) (x:SigT sg165_2):(roundT (E165 n) 2 sg165_2 (loopOf 2 (bodyOf Tryz.f165)) x).run=un3 r165_2 x:=by kernel_rfl
theorem t165_4 (n:Nat) (x:SigT sg165_4):(roundT (E165 n) 4 sg165_4 (loopOf 4 (bodyOf Tryz.f165)) x).run=un5 r165_4 x:=by kernel_rfl
theorem t165_6 (n:Nat) (x:SigT sg165_6):(roundT (E165 n) 6 sg165_6 (loopOf 6 (bodyOf Tryz.f165)) x).run=un3 r165_6 x:=by kernel_rfl
theorem t165_8 (n:Nat) (x:SigT sg165_8):(roundT (E165 n) 8 sg165_8 (loopOf 8 (bodyOf Tryz.f165)) x).run=un10 r165_8 x:=by kernel_rfl
theorem t165 (n:Nat) (x:PT (s165n (n + 1)).ps):(fnT (E165 n) (bodyOf Tryz.f165) Tryz.f165.results.toList (s165n (n + 1)).ps (s165n (n + 1)).rs true x).run=g165n (n + 1) x.1.1 x.2.1.1 x.2.2.1.1 x.2.2.2.1.1:=by kernel_rfl
theorem hga165 (n:Nat) (hn:SuOK Tryz.prog 165 (s165n n)):GAok Tryz.prog (E165 n):=gaok_of (l:=(ga165 n)) ⟨ok93,hn,ok211,trivial⟩
theorem hgaL165_11 (n:Nat) (hn:SuOK Tryz.prog 165 (s165n n)):GAok Tryz.prog (EL165 n):=gaok_of (l:=(ga165 n)) ⟨ok93,hn,ok211,trivial⟩
theorem R165_11 (n:Nat) (hn:SuOK Tryz.prog 165 (s165n n)):RegSem Tryz.prog (E165 n) (regOf 11 (bodyOf Tryz.f165)) (swapT (EL165 n) (opsOf (regOf 11 (bodyOf Tryz.f165))) [13] [(14,2),(14,3),(14,4)] 14 9 13) :=
 regSem_rg rfl rfl (swap_of (E:=(EL165 n)) (hTT hT) (hgaL165_11 n hn) hmix (c:=(regOf 11 (bodyOf Tryz.f165))) (id:=11) (by kernel_rfl))
theorem hgaL165_23 (n:Nat) (hn:SuOK Tryz.prog 165 (s165n n)):GAok Tryz.prog (EL165 n):=gaok_of (l:=(ga165 n)) ⟨ok93,hn,ok211,trivial⟩
theorem R165_23 (n:Nat) (hn:SuOK Tryz.prog 165 (s165n n)):RegSem Tryz.prog (E165 n) (regOf 23 (bodyOf Tryz.f165)) (swapT (EL165 n) (opsOf (regOf 23 (bodyOf Tryz.f165))) [17] [(14,2),(14,3),(14,4)] 14 9 13) :=
 regSem_rg rfl rfl (swap_of (E:=(EL165 n)) (hTT hT) (hgaL165_23 n hn) hmix (c:=(regOf 23 (bodyOf Tryz.f165))) (id:=23) (by kernel_rfl))
theorem L165_0 (n:Nat) (hn:SuOK Tryz.prog 165 (s165n n)):LoopSem Tryz.prog (E165 n) 0 (.loop (loopOf 0 (bodyOf Tryz.f165))) ⟨sg165_0,un5 l165_0⟩ :=
 sem_of (hTT hT) (hga165 n hn) hmix (step:=fun (x:SigT sg165_0)=>r165_0 x.1 x.2.1 x.2.2.1 x.2.2.2.1 x.2.2.2.2.1) (t165_0 n) (loopsOK_reg [] (by kernel_rfl) trivial [] (by kernel_rfl) trivial)
theorem L165_2 (n:Nat) (hn:SuOK Tryz.prog 165 (s165n n)):LoopSem Tryz.prog (E165 n) 2 (.loop (loopOf 2 (bodyOf Tryz.f165))) ⟨sg165_2,un3 l165_2⟩ :=
 sem_of (hTT hT) (hga165 n hn) hmix (step:=fun (x:SigT sg165_2)=>r165_2 x.1 x.2.1 x.2.2.1) (t165_2 n) (loopsOK_reg [] (by kernel_rfl) trivial [(11,regOf 11 (bodyOf Tryz.f165))] (by kernel_rfl) ⟨regL rfl (R165_11 n hn),trivial⟩)
theorem L165_4 (n:Nat) (hn:SuOK Tryz.prog 165 (s165n n)):LoopSem Tryz.prog (E165 n) 4 (.loop (loopOf 4 (bodyOf Tryz.f165))) ⟨sg165_4,un5 l165_4⟩ :=
 sem_of (hTT hT) (hga165 n hn) hmix (step:=fun (x:SigT sg165_4)=>r165_4 x.1 x.2.1 x.2.2.1 x.2.2.2.1 x.2.2.2.2.1) (t165_4 n) (loopsOK_reg [] (by kernel_rfl) trivial [] (by kernel_rfl) trivial)
theorem L165_6 (n:Nat) (hn:SuOK Tryz.prog 165 (s165n n)):LoopSem Tryz.prog (E165 n) 6 (.loop (loopOf 6 (bodyOf Tryz.f165))) ⟨sg165_6,un3 l165_6⟩ :=
 sem_of (hTT hT) (hga165 n hn) hmix (step:=fun (x:SigT sg165_6)=>r165_6 x.1 x.2.1 x.2.2.1) (t165_6 n) (loopsOK_reg [] (by kernel_rfl) trivial [(23,regOf 23 (bodyOf Tryz.f165))] (by kernel_rfl) ⟨regL rfl (R165_23 n hn),trivial⟩)
theorem L165_8 (n:Nat) (hn:SuOK Tryz.prog 165 (s165n n)):LoopSem Tryz.prog (E165 n) 8 (.loop (loopOf 8 (bodyOf Tryz.f165))) ⟨sg165_8,un10 l165_8⟩ :=
 sem_of (hTT hT) (hga165 n hn) hmix (step:=fun (x:SigT sg165_8)=>r165_8 x.1 x.2.1 x.2.2.1 x.2.2.2.1 x.2.2.2.2.1 x.2.2.2.2.2.1 x.2.2.2.2.2.2.1 x.2.2.2.2.2.2.2.1 x.2.2.2.2.2.2.2.2.1 x.2.2.2.2.2.2.2.2.2.1) (t165_8 n) (loopsOK_reg [] (by kernel_rfl) trivial [] (by kernel_rfl) trivial)
theorem ok165n:∀ n,SuOK Tryz.prog 165 (s165n n)
 | 0=>SuOK.zero fun _=>rfl
 | n + 1=>have hn:=ok165n n
 fn_ok (E:=(E165 n)) (hTT hT) (hga165 n hn) hmix (fn:=Tryz.f165) (c:=(bodyOf Tryz.f165)) (by kernel_rfl) (by kernel_rfl) (by kernel_rfl) rfl (loopsOK_reg [(0,.loop (loopOf 0 (bodyOf Tryz.f165))),(2,.loop (loopOf 2 (bodyOf Tryz.f165))),(4,.loop (loopOf 4 (bodyOf Tryz.f165))),(6,.loop (loopOf 6 (bodyOf Tryz.f165))),(8,.loop (loopOf 8 (bodyOf Tryz.f165)))] (by kernel_rfl) ⟨semL rfl (L165_0 n hn),semL rfl (L165_2 n hn),semL rfl (L165_4 n hn),semL rfl (L165_6 n hn),semL rfl (L165_8 n hn),trivial⟩ [] (by kernel_rfl) trivial) fun x y h=>⟨y.1,fun _=>rfl,((t165 n) x).trans h⟩
theorem ok165:SuOK Tryz.prog 165 s165:=SuOK.fix (ps:=s165.ps) (rs:=s165.rs) (fr:=s165.fresh) (G:=fun n (x:PT s165.ps)=>g165n n x.1.1 x.2.1.1 x.2.2.1.1 x.2.2.2.1.1) ok165n
def r123_0 (t0:List R92) (t1:Int) (f2:Unit) (t6 t7 t8:Int):Rd ((List R92)×Int×Unit×Int×Int×Int×Unit) Unit :=
 cond (leI t8 t1) (
 (g164 t0 t7 t8).bind fun y1 =>
 some (.inl (y1.1.1.1,t1,(),t6,t8,(addW .i64 t8 t6),()))
 ) (
 some (.inr (.inl (t0,t1,(),t6,t7,t8,())))
 )
def l123_0:=cu6 (loopF (un6 r123_0))
def r123_4 (t0:List R92) (t1:Int) (f2:Unit) (t6 t7 t8:Int):Rd ((List R92)×Int×Unit×Int×Int×Int×Unit) Unit :=
 cond (leI t8 t1) (
 (g165 t0 t7 (addW .i64 t7 t6) t8).bind fun y1 =>
 some (.inl (y1.1.1.1,t1,(),t6,t8,(addW .i64 t8 (mulW .i64 2 t6)),()))
 ) (
 some (.inr (.inl (t0,t1,(),t6,t7,t8,())))
 )
def l123_4:=cu6 (loopF (un6 r123_4))
def r123_2 (t0:List R92) (t1:Int) (f2:Unit) (t6:Int):Rd ((List R92)×Int×Unit×Int×Unit) Unit :=
 cond (ltI t6 t1) (
 (l123_4 t0 t1 () t6 0 (mulW .i64 2 t6)).bind (Sum.elim (fun y1 =>
 let u1:=(addW .i64 y1.2.2.2.2.1 y1.2.2.2.1)
 cond (ltI u1 y1.2.1) (
 (g165 y1.1 y1.2.2.2.2.1 u1 y1.2.1).bind fun y2 =>
 let u2:=(mulW .i64 y1.2.2.2.1 2)
 some (.inl (y2.1.1.1,y1.2.1,(),u2,()))
 ) (
 let u2:=(mulW .i64 y1.2.2.2.1 2)
 some (.inl (y1.1,y1.2.1,(),u2,()))
 )
 ) (fun y1 =>
 some (.inr (.inr ()))
 ))
 ) (
 some (.inr (.inl (t0,t1,(),t6,())))
 )
def l123_2:=cu4 (loopF (un4 r123_2))
def g123 (p0:List R92) (p1:Int):Option Y24 :=
 (l123_0 p0 p1 () 20 0 20).bind (Sum.elim (fun y1 =>
 (g164 y1.1 y1.2.2.2.2.1 y1.2.1).bind fun y2 =>
 (l123_2 y2.1.1.1 y1.2.1 () y1.2.2.2.1).bind (Sum.elim (fun y3 =>
 some (((y3.1,()),()),())
 ) (fun y3 =>
 none
 ))
 ) (fun y1 =>
 none
 ))
def s123:Su:=⟨[.io false [.sl 92 kk92],.c false kk3,.fn 93 []],[],true,.inl fun x=>g123 x.1.1 x.2.1.1⟩
theorem ok123:SuOK Tryz.prog 123 s123 :=
 fl (ac ok164 (ac ok165 an)) [] [(0,⟨[.own 0 (.sl 92 kk92),.d 1 (.int .i64),.fn 2 93 [],.d 6 (.int .i64),.d 7 (.int .i64),.d 8 (.int .i64)],loopF (un6 r123_0)⟩),(4,⟨[.own 0 (.sl 92 kk92),.d 1 (.int .i64),.fn 2 93 [],.d 6 (.int .i64),.d 7 (.int .i64),.d 8 (.int .i64)],loopF (un6 r123_4)⟩),(2,⟨[.own 0 (.sl 92 kk92),.d 1 (.int .i64),.fn 2 93 [],.d 6 (.int .i64)],loopF (un4 r123_2)⟩)] [0] Tryz.f123 (lp [0,2] (sc lp0 (sc (lp [4] (sc lp0 sn)) sn)))
def g92 (p0:List R92):Option Y24 :=
 (g123 p0 (lenI p0)).bind fun y1 =>
 some ((y1.1.1,()),())
def s92:Su:=⟨[.io false [.sl 92 kk92],.fn 93 []],[],true,.inl fun x=>g92 x.1.1⟩
theorem ok92:SuOK Tryz.prog 92 s92 :=
 fl (ac ok123 an) [] [] [0] Tryz.f92 lp0
def g161 (p0:List R157):Option (Unit×((List R157)×Unit)×Unit):=cond (fitB 32 ([]:List R157) p0) (some ((),((p0,()),()))) none
def s161:Su:=⟨[.c false [.sl 157 kk157]],[(false,[.sl 157 kk157])],true,.inl fun x=>g161 x.1.1⟩
def E161:En:=⟨8,tt,gaOf [],[],fun _=>none,[],fun _=>none⟩
def st161 (x:PT s161.ps):St:=⟨[(2,.v .nil),(0,.v (.d (.sl 157 kk157) x.1.1))],[]⟩
theorem t161 (x:PT s161.ps) (b:Bool):((codeT E161 (.seq (codeR (codeL (codeR (bodyOf Tryz.f161)))) (codeR (codeR (bodyOf Tryz.f161)))) (((st161 x).bindT 3 (.v (.d (.sl 157 kk157) x.1.1),none)).bindT 4 (.v (.d .bool b),none))).bind (finT E161 Tryz.f161.results.toList s161.ps s161.rs s161.fresh)).run =
 cond b (some ((),(([],()),()))) (g161 x.1.1):=by kernel_rfl
theorem ok161:SuOK Tryz.prog 161 s161 :=
 fn_nil (E:=E161) (hTT hT) (gaok_of (l:=[]) trivial) hmix (fn:=Tryz.f161) (c0:=codeL (bodyOf Tryz.f161)) (cc:=codeR (codeL (codeR (bodyOf Tryz.f161)))) (c3:=codeR (codeR (bodyOf Tryz.f161))) (id:=regId (codeL (codeL (codeR (bodyOf Tryz.f161)))))
  (o1:=opAt (codeL (codeL (codeR (bodyOf Tryz.f161)))) 0) (o2:=opAt (codeL (codeL (codeR (bodyOf Tryz.f161)))) 1) (by kernel_rfl) (by kernel_rfl) (by kernel_rfl) rfl
  (loopsOK_free (fun _=>rfl) _ (by kernel_rfl)) (loopsOK_free (fun _=>rfl) _ (by kernel_rfl)) (loopsOK_free (fun _=>rfl) _ (by kernel_rfl)) (t0:=0) (t3:=3) (t4:=4) (ty:=87) (ty':=87) (e:=157) (e':=157) (by':=24) (fl:=[]) (ks:=kk157) (by kernel_rfl) (by kernel_rfl) (by kernel_rfl) (by kernel_rfl) (by kernel_rfl) (by kernel_rfl) (by kernel_rfl) (by kernel_rfl) (by kernel_rfl)
  st161 (fun x=>x.1.1) (fun x=>by kernel_rfl) (fun x=>by kernel_rfl) fun x y hy b hb=>by
   refine ⟨y.1,fun _=>rfl,?_⟩
   rw [t161]
   have hy:g161 x.1.1=some y:=hy
   cases b with
   | false=>exact hy
   | true =>
     have he:x.1.1=([]:List R157):=hb rfl
     rw [he] at hy
     exact hy
def g209 (p0:List R3):Option (Unit×R53×Unit):=cond (fitB 8 ([]:List R3) p0) (some ((),((p0,()),()))) none
def s209:Su:=⟨[.c false kk53],[(false,kk53)],true,.inl fun x=>g209 x.1.1⟩
def E209:En:=⟨8,tt,gaOf [],[],fun _=>none,[],fun _=>none⟩
def st209 (x:PT s209.ps):St:=⟨[(2,.v .nil),(0,.v (.d (.sl 3 kk3) x.1.1))],[]⟩
theorem t209 (x:PT s209.ps) (b:Bool):((codeT E209 (.seq (codeR (codeL (codeR (bodyOf Tryz.f209)))) (codeR (codeR (bodyOf Tryz.f209)))) (((st209 x).bindT 3 (.v (.d (.sl 3 kk3) x.1.1),none)).bindT 4 (.v (.d .bool b),none))).bind (finT E209 Tryz.f209.results.toList s209.ps s209.rs s209.fresh)).run =
 cond b (some ((),(([],()),()))) (g209 x.1.1):=by kernel_rfl
theorem ok209:SuOK Tryz.prog 209 s209 :=
 fn_nil (E:=E209) (hTT hT) (gaok_of (l:=[]) trivial) hmix (fn:=Tryz.f209) (c0:=codeL (bodyOf Tryz.f209)) (cc:=codeR (codeL (codeR (bodyOf Tryz.f209)))) (c3:=codeR (codeR (bodyOf Tryz.f209))) (id:=regId (codeL (codeL (codeR (bodyOf Tryz.f209)))))
  (o1:=opAt (codeL (codeL (codeR (bodyOf Tryz.f209)))) 0) (o2:=opAt (codeL (codeL (codeR (bodyOf Tryz.f209)))) 1) (by kernel_rfl) (by kernel_rfl) (by kernel_rfl) rfl
  (loopsOK_free (fun _=>rfl) _ (by kernel_rfl)) (loopsOK_free (fun _=>rfl) _ (by kernel_rfl)) (loopsOK_free (fun _=>rfl) _ (by kernel_rfl)) (t0:=0) (t3:=3) (t4:=4) (ty:=53) (ty':=53) (e:=3) (e':=3) (by':=24) (fl:=[]) (ks:=kk3) (by kernel_rfl) (by kernel_rfl) (by kernel_rfl) (by kernel_rfl) (by kernel_rfl) (by kernel_rfl) (by kernel_rfl) (by kernel_rfl) (by kernel_rfl)
  st209 (fun x=>x.1.1) (fun x=>by kernel_rfl) (fun x=>by kernel_rfl) fun x y hy b hb=>by
   refine ⟨y.1,fun _=>rfl,?_⟩
   rw [t209]
   have hy:g209 x.1.1=some y:=hy
   cases b with
   | false=>exact hy
   | true =>
     have he:x.1.1=([]:List R3):=hb rfl
     rw [he] at hy
     exact hy
def g162 (p0:Int×Int×(List R3)×(List R3)×Unit):Option Y42 :=
 (g209 p0.2.2.1).bind fun y1 =>
 (g209 p0.2.2.2.1).bind fun y2 =>
 some ((),((p0.1,p0.2.1,y1.2.1.1,y2.2.1.1,()),()))
def s162:Su:=⟨[.c true [.int .i64,.int .i64,.sl 3 kk3,.sl 3 kk3]],[(true,[.int .i64,.int .i64,.sl 3 kk3,.sl 3 kk3])],true,.inl fun x=>g162 x.1⟩
theorem ok162:SuOK Tryz.prog 162 s162 :=
 fq (ac ok209 an) Tryz.f162
def g210 (p0:List R5):Option (Unit×((List R5)×Unit)×Unit):=cond (fitB 1 ([]:List R5) p0) (some ((),((p0,()),()))) none
def s210:Su:=⟨[.c false [.sl 5 kk5]],[(false,[.sl 5 kk5])],true,.inl fun x=>g210 x.1.1⟩
def E210:En:=⟨8,tt,gaOf [],[],fun _=>none,[],fun _=>none⟩
def st210 (x:PT s210.ps):St:=⟨[(2,.v .nil),(0,.v (.d (.sl 5 kk5) x.1.1))],[]⟩
theorem t210 (x:PT s210.ps) (b:Bool):((codeT E210 (.seq (codeR (codeL (codeR (bodyOf Tryz.f210)))) (codeR (codeR (bodyOf Tryz.f210)))) (((st210 x).bindT 3 (.v (.d (.sl 5 kk5) x.1.1),none)).bindT 4 (.v (.d .bool b),none))).bind (finT E210 Tryz.f210.results.toList s210.ps s210.rs s210.fresh)).run =
 cond b (some ((),(([],()),()))) (g210 x.1.1):=by kernel_rfl
theorem ok210:SuOK Tryz.prog 210 s210 :=
 fn_nil (E:=E210) (hTT hT) (gaok_of (l:=[]) trivial) hmix (fn:=Tryz.f210) (c0:=codeL (bodyOf Tryz.f210)) (cc:=codeR (codeL (codeR (bodyOf Tryz.f210)))) (c3:=codeR (codeR (bodyOf Tryz.f210))) (id:=regId (codeL (codeL (codeR (bodyOf Tryz.f210)))))
  (o1:=opAt (codeL (codeL (codeR (bodyOf Tryz.f210)))) 0) (o2:=opAt (codeL (codeL (codeR (bodyOf Tryz.f210)))) 1) (by kernel_rfl) (by kernel_rfl) (by kernel_rfl) rfl
  (loopsOK_free (fun _=>rfl) _ (by kernel_rfl)) (loopsOK_free (fun _=>rfl) _ (by kernel_rfl)) (loopsOK_free (fun _=>rfl) _ (by kernel_rfl)) (t0:=0) (t3:=3) (t4:=4) (ty:=62) (ty':=62) (e:=5) (e':=5) (by':=24) (fl:=[]) (ks:=kk5) (by kernel_rfl) (by kernel_rfl) (by kernel_rfl) (by kernel_rfl) (by kernel_rfl) (by kernel_rfl) (by kernel_rfl) (by kernel_rfl) (by kernel_rfl)
  st210 (fun x=>x.1.1) (fun x=>by kernel_rfl) (fun x=>by kernel_rfl) fun x y hy b hb=>by
   refine ⟨y.1,fun _=>rfl,?_⟩
   rw [t210]
   have hy:g210 x.1.1=some y:=hy
   cases b with
   | false=>exact hy
   | true =>
     have he:x.1.1=([]:List R5):=hb rfl
     rw [he] at hy
     exact hy
def r163_0 (t3 t7:List R160) (t8 t9:Int):Rd Y32 Unit :=
 cond (ltI t9 t8) (
 cond (inB t9 t7) (
 let u1:=(gt d160 t7 t9)
 (g210 u1.2.2.1).bind fun y1 =>
 cond (fitB 56 t3 [(u1.1,u1.2.1,y1.2.1.1,())]) (
 some (.inl ((apL t3 [(u1.1,u1.2.1,y1.2.1.1,())]),t7,t8,(addW .i64 t9 1),()))
 ) none
 ) none
 ) (
 some (.inr (.inl (t3,t7,t8,t9,())))
 )
def l163_0:=cu4 (loopF (un4 r163_0))
def g163 (p0:List R160):Option Y27 :=
 (l163_0 [] p0 (lenI p0) 0).bind (Sum.elim (fun y1 =>
 some ((),((y1.1,()),()))
 ) (fun y1 =>
 none
 ))
def s163:Su:=⟨[.c false [.sl 160 kk160]],[(false,[.sl 160 kk160])],true,.inl fun x=>g163 x.1.1⟩
theorem ok163:SuOK Tryz.prog 163 s163 :=
 fl (ac ok210 an) [] [(0,⟨[.own 3 (.sl 160 kk160),.d 7 (.sl 160 kk160),.d 8 (.int .i64),.d 9 (.int .i64)],loopF (un4 r163_0)⟩)] [] Tryz.f163 (lp [0] (sc lp0 sn))
def g122 (p0:(List UInt8)×Int×Int×Int×Int×(List R157)×Int×Int×(List R3)×(List R3)×(List R160)×Unit):Option Y57 :=
 (g161 p0.2.2.2.2.2.1).bind fun y1 =>
 (g162 (p0.2.2.2.2.2.2.1,p0.2.2.2.2.2.2.2.1,p0.2.2.2.2.2.2.2.2.1,p0.2.2.2.2.2.2.2.2.2.1,())).bind fun y2 =>
 (g163 p0.2.2.2.2.2.2.2.2.2.2.1).bind fun y3 =>
 some ((),((p0.1,p0.2.1,p0.2.2.1,p0.2.2.2.1,p0.2.2.2.2.1,y1.2.1.1,y2.2.1.1,y2.2.1.2.1,y2.2.1.2.2.1,y2.2.1.2.2.2.1,y3.2.1.1,()),()))
def s122:Su:=⟨[.c true kk92],[(true,kk92)],true,.inl fun x=>g122 x.1⟩
theorem ok122:SuOK Tryz.prog 122 s122 :=
 fq (ac ok161 (ac ok162 (ac ok163 an))) Tryz.f122
def r121_0 (f1:Unit) (t10:List R92) (t11 t12:Int) (b4 b5:(List R92)×Unit):Rd (Unit×(List R92)×Int×Int×Y4×Y4×Unit) Unit :=
 cond (ltI t12 t11) (
 cond (inB t12 t10) (
 (g122 (gt d92 t10 t12)).bind fun y1 =>
 cond (fitB 160 b5.1 [y1.2.1]) (
 some (.inl ((),t10,t11,(addW .i64 t12 1),b4,((apL b5.1 [y1.2.1]),()),()))
 ) none
 ) none
 ) (
 some (.inr (.inl ((),t10,t11,t12,b4,b5,())))
 )
def l121_0:=cu6 (loopF (un6 r121_0))
def g121 (p0:(List R92)×Unit):Option Y26 :=
 (l121_0 () p0.1 (lenI p0.1) 0 ([],()) ([],())).bind (Sum.elim (fun y1 =>
 some ((),(y1.2.2.2.2.2.1,()))
 ) (fun y1 =>
 none
 ))
def s121:Su:=⟨[.c true [.sl 92 kk92],.fn 122 []],[(true,[.sl 92 kk92])],true,.inl fun x=>g121 x.1⟩
theorem ok121:SuOK Tryz.prog 121 s121 :=
 fl (ac ok122 an) [] [(0,⟨[.fn 1 122 [],.d 10 (.sl 92 kk92),.d 11 (.int .i64),.d 12 (.int .i64),.box 4 [(true,.sl 92 kk92)],.box 5 [(true,.sl 92 kk92)]],loopF (un6 r121_0)⟩)] [] Tryz.f121 (lp [0] (sc lp0 sn))
def g91 (p0:(List R92)×Unit):Option Y26 :=
 (g121 p0).bind fun y1 =>
 some ((),(y1.2.1,()))
def s91:Su:=⟨[.c true [.sl 92 kk92]],[(true,[.sl 92 kk92])],true,.inl fun x=>g91 x.1⟩
theorem ok91:SuOK Tryz.prog 91 s91 :=
 fq (ac ok121 an) Tryz.f91
def r68_0 (t7:List R67) (t8 t9:Int) (b2 b3:(List R92)×Unit):Rd ((List R67)×Int×Int×Y4×Y4×Unit) Unit :=
 cond (ltI t9 t8) (
 cond (inB t9 t7) (
 (g91 ((gt d67 t7 t9).2.1,())).bind fun y1 =>
 cond (fitB 160 b3.1 y1.2.1.1) (
 some (.inl (t7,t8,(addW .i64 t9 1),b2,((apL b3.1 y1.2.1.1),()),()))
 ) none
 ) none
 ) (
 some (.inr (.inl (t7,t8,t9,b2,b3,())))
 )
def l68_0:=cu5 (loopF (un5 r68_0))
def g68 (p0:List R67):Option Y26 :=
 (l68_0 p0 (lenI p0) 0 ([],()) ([],())).bind (Sum.elim (fun y1 =>
 (g92 y1.2.2.2.2.1.1).bind fun y2 =>
 some ((),(y2.1.1,()))
 ) (fun y1 =>
 none
 ))
def s68:Su:=⟨[.c false [.sl 67 kk67]],[(true,[.sl 92 kk92])],true,.inl fun x=>g68 x.1.1⟩
theorem ok68:SuOK Tryz.prog 68 s68 :=
 fl (ac ok92 (ac ok91 an)) [] [(0,⟨[.d 7 (.sl 67 kk67),.d 8 (.int .i64),.d 9 (.int .i64),.box 2 [(true,.sl 92 kk92)],.box 3 [(true,.sl 92 kk92)]],loopF (un5 r68_0)⟩)] [] Tryz.f68 (lp [0] (sc lp0 sn))
def r190_0 (t0:List UInt8) (t5 t6:Int):Rd Y18 Y1 :=
 cond (ltI t6 t5) (
 cond (inB t6 t0) (
 let u1:=(bytI t0 t6)
 cond (ltI u1 48) (
 some (.inr (.inr (false,())))
 ) (
 cond (inB t6 t0) (
 cond (ltI 57 u1) (
 some (.inr (.inr (false,())))
 ) (
 some (.inl (t0,t5,(addW .i64 t6 1),()))
 )
 ) none
 )
 ) none
 ) (
 some (.inr (.inl (t0,t5,t6,())))
 )
def l190_0:=cu3 (loopF (un3 r190_0))
def g190 (p0:List UInt8):Option Y17 :=
 (l190_0 p0 (lenI p0) 0).bind (Sum.elim (fun y1 =>
 some ((),(((!(eqS y1.1 [])),()),()))
 ) (fun y1 =>
 some ((),(y1,()))
 ))
def s190:Su:=⟨[.c false [.str]],[(false,[.bool])],true,.inl fun x=>g190 x.1.1⟩
theorem ok190:SuOK Tryz.prog 190 s190 :=
 fl an [.d 2 (.bool)] [(0,⟨[.d 0 (.str),.d 5 (.int .i64),.d 6 (.int .i64)],loopF (un3 r190_0)⟩)] [] Tryz.f190 (lp [0] (sc lp0 sn))
def r191_0 (t0:List UInt8) (t3:Int) (t4:Bool) (t5:Int):Rd ((List UInt8)×Int×Bool×Int×Unit) Unit :=
 cond (leI 0 t5) (
 cond (inB t5 t0) (
 cond t4 (
 let u1:=(cvtW .i64 (subW .u8 (bytI t0 t5) 48))
 let u2:=(mulW .i64 u1 2)
 cond (ltI 9 u2) (
 let u3:=(subW .i64 t5 1)
 some (.inl (t0,(addW .i64 t3 (subW .i64 u2 9)),(!t4),u3,()))
 ) (
 let u3:=(subW .i64 t5 1)
 some (.inl (t0,(addW .i64 t3 u2),(!t4),u3,()))
 )
 ) (
 let u1:=(cvtW .i64 (subW .u8 (bytI t0 t5) 48))
 let u2:=(subW .i64 t5 1)
 some (.inl (t0,(addW .i64 t3 u1),(!t4),u2,()))
 )
 ) none
 ) (
 some (.inr (.inl (t0,t3,t4,t5,())))
 )
def l191_0:=cu4 (loopF (un4 r191_0))
def g191 (p0:List UInt8):Option Y15 :=
 (g190 p0).bind fun y1 =>
 cond (!y1.2.1.1) (
 some ((),(((-1),()),()))
 ) (
 (l191_0 p0 0 true (subW .i64 (lenI p0) 1)).bind (Sum.elim (fun y2 =>
 some ((),(((remI (subW .i64 10 (remI y2.2.1 10)) 10),()),()))
 ) (fun y2 =>
 none
 ))
 )
def s191:Su:=⟨[.c false [.str]],[(false,kk3)],true,.inl fun x=>g191 x.1.1⟩
theorem ok191:SuOK Tryz.prog 191 s191 :=
 fl (ac ok190 an) [] [(0,⟨[.d 0 (.str),.d 3 (.int .i64),.d 4 (.bool),.d 5 (.int .i64)],loopF (un4 r191_0)⟩)] [] Tryz.f191 (lp [0] (sc lp0 sn))
def g141 (p0:List UInt8):Option Y17 :=
 let u1:=(subW .i64 (lenI p0) 1)
 cond (leI 1 u1) (
 (g190 p0).bind fun y1 =>
 cond y1.2.1.1 (
 cond (cutB 0 u1 p0) (
 (g191 (sub p0 0 u1)).bind fun y2 =>
 cond (inB u1 p0) (
 some ((),(((eqI y2.2.1.1 (cvtW .i64 (subW .u8 (bytI p0 u1) 48))),()),()))
 ) none
 ) none
 ) (
 some ((),((false,()),()))
 )
 ) (
 some ((),((false,()),()))
 )
def s141:Su:=⟨[.c false [.str]],[(false,[.bool])],true,.inl fun x=>g141 x.1.1⟩
theorem ok141:SuOK Tryz.prog 141 s141 :=
 fq (ac ok190 (ac ok191 an)) Tryz.f141
def g106 (p0:List UInt8):Option Y17 :=
 cond (leI (lenI p0) 19) (
 (g141 p0).bind fun y1 =>
 some ((),(y1.2.1,()))
 ) (
 some ((),((false,()),()))
 )
def s106:Su:=⟨[.c false [.str]],[(false,[.bool])],true,.inl fun x=>g106 x.1.1⟩
theorem ok106:SuOK Tryz.prog 106 s106 :=
 fq (ac ok141 an) Tryz.f106
def g107 (p0:Int):Option Y17 :=
 (g46 p0 0 4611686018427387904).bind fun y1 =>
 some ((),(y1.2.1,()))
def s107:Su:=⟨[.c false kk3],[(false,[.bool])],true,.inl fun x=>g107 x.1.1⟩
theorem ok107:SuOK Tryz.prog 107 s107 :=
 fq (ac ok46 an) Tryz.f107
def r192_0 (t0:List UInt8) (t5 t6:Int):Rd Y18 Y1 :=
 cond (ltI t6 t5) (
 cond (inB t6 t0) (
 let u1:=(bytI t0 t6)
 cond (ltI u1 48) (
 cond (inB t6 t0) (
 cond (ltI u1 97) (
 some (.inr (.inr (false,())))
 ) (
 cond (inB t6 t0) (
 cond (ltI 122 u1) (
 some (.inr (.inr (false,())))
 ) (
 some (.inl (t0,t5,(addW .i64 t6 1),()))
 )
 ) none
 )
 ) none
 ) (
 cond (inB t6 t0) (
 cond (ltI 57 u1) (
 cond (inB t6 t0) (
 cond (ltI u1 97) (
 some (.inr (.inr (false,())))
 ) (
 cond (inB t6 t0) (
 cond (ltI 122 u1) (
 some (.inr (.inr (false,())))
 ) (
 some (.inl (t0,t5,(addW .i64 t6 1),()))
 )
 ) none
 )
 ) none
 ) (
 some (.inl (t0,t5,(addW .i64 t6 1),()))
 )
 ) none
 )
 ) none
 ) (
 some (.inr (.inl (t0,t5,t6,())))
 )
def l192_0:=cu3 (loopF (un3 r192_0))
def g192 (p0:List UInt8):Option Y17 :=
 (l192_0 p0 (lenI p0) 0).bind (Sum.elim (fun y1 =>
 (g46 (lenI y1.1) 1 6).bind fun y2 =>
 some ((),(y2.2.1,()))
 ) (fun y1 =>
 some ((),(y1,()))
 ))
def s192:Su:=⟨[.c false [.str]],[(false,[.bool])],true,.inl fun x=>g192 x.1.1⟩
theorem ok192:SuOK Tryz.prog 192 s192 :=
 fl (ac ok46 an) [.d 2 (.bool)] [(0,⟨[.d 0 (.str),.d 5 (.int .i64),.d 6 (.int .i64)],loopF (un3 r192_0)⟩)] [] Tryz.f192 (lp [0] (sc lp0 sn))
def g38 (p0:Int):Option Y17 :=
 (g46 p0 0 1000000000).bind fun y1 =>
 some ((),(y1.2.1,()))
def s38:Su:=⟨[.c false kk3],[(false,[.bool])],true,.inl fun x=>g38 x.1.1⟩
theorem ok38:SuOK Tryz.prog 38 s38 :=
 fq (ac ok46 an) Tryz.f38
def g142 (p0:(List UInt8)×Int×Int×Unit):Option Y17 :=
 (g192 p0.1).bind fun y1 =>
 cond y1.2.1.1 (
 (g46 p0.2.1 1 9007199254740992).bind fun y2 =>
 cond y2.2.1.1 (
 (g38 p0.2.2.1).bind fun y3 =>
 some ((),(y3.2.1,()))
 ) (
 some ((),((false,()),()))
 )
 ) (
 some ((),((false,()),()))
 )
def s142:Su:=⟨[.c true kk204],[(false,[.bool])],true,.inl fun x=>g142 x.1⟩
theorem ok142:SuOK Tryz.prog 142 s142 :=
 fq (ac ok46 (ac ok192 (ac ok38 an))) Tryz.f142
def r108_0 (t0 t5:List R157) (t6 t7:Int):Rd ((List R157)×(List R157)×Int×Int×Unit) Y1 :=
 cond (ltI t7 t6) (
 cond (inB t7 t5) (
 let u1:=(gt d157 t5 t7)
 (g142 u1).bind fun y1 =>
 cond (!y1.2.1.1) (
 some (.inr (.inr (false,())))
 ) (
 cond (ltI 0 t7) (
 let u2:=(subW .i64 t7 1)
 cond (inB u2 t0) (
 cond (leS u1.1 (gt d157 t0 u2).1) (
 some (.inr (.inr (false,())))
 ) (
 some (.inl (t0,t5,t6,(addW .i64 t7 1),()))
 )
 ) none
 ) (
 some (.inl (t0,t5,t6,(addW .i64 t7 1),()))
 )
 )
 ) none
 ) (
 some (.inr (.inl (t0,t5,t6,t7,())))
 )
def l108_0:=cu4 (loopF (un4 r108_0))
def g108 (p0:List R157):Option Y17 :=
 (l108_0 p0 p0 (lenI p0) 0).bind (Sum.elim (fun y1 =>
 some ((),(((leI (lenI y1.1) 4),()),()))
 ) (fun y1 =>
 some ((),(y1,()))
 ))
def s108:Su:=⟨[.c false [.sl 157 kk157]],[(false,[.bool])],true,.inl fun x=>g108 x.1.1⟩
theorem ok108:SuOK Tryz.prog 108 s108 :=
 fl (ac ok142 an) [.d 2 (.bool)] [(0,⟨[.d 0 (.sl 157 kk157),.d 5 (.sl 157 kk157),.d 6 (.int .i64),.d 7 (.int .i64)],loopF (un4 r108_0)⟩)] [] Tryz.f108 (lp [0] (sc lp0 sn))
def g193 (p1:Int):Option Y22 :=
 cond (ltI p1 0) (
 none
 ) (
 let u1:=(subW .i64 p1 (subW .i64 0 0))
 cond (ltI 0 u1) (
 cond (cutB0 0 0) (
 cond (mzB 8 u1) (
 let u2:=(repI d3 u1)
 cond (cutB 0 0 u2) (
 some ((),(((tkI u2 0),()),()))
 ) none
 ) none
 ) none
 ) (
 some ((),(([],()),()))
 )
 )
def s193:Su:=⟨[.nil,.c false kk3],[(false,kk53)],true,.inl fun x=>g193 x.1.1⟩
theorem ok193:SuOK Tryz.prog 193 s193 :=
 fq an Tryz.f193
def r143_0 (t0:List R53) (t3:Int) (t9:List R53) (t10 t11:Int):Rd ((List R53)×Int×(List R53)×Int×Int×Unit) Unit :=
 cond (ltI t11 t10) (
 cond (inB t11 t9) (
 let u1:=(addW .i64 t3 (lenI (gt d53 t9 t11).1))
 cond (ltI u1 0) (
 none
 ) (
 some (.inl (t0,u1,t9,t10,(addW .i64 t11 1),()))
 )
 ) none
 ) (
 some (.inr (.inl (t0,t3,t9,t10,t11,())))
 )
def l143_0:=cu5 (loopF (un5 r143_0))
def r143_2 (t6:List R3) (t25:List R53) (t26 t27:Int):Rd ((List R3)×(List R53)×Int×Int×Unit) Unit :=
 cond (ltI t27 t26) (
 cond (inB t27 t25) (
 cond (fitB 8 t6 (gt d53 t25 t27).1) (
 some (.inl ((apL t6 (gt d53 t25 t27).1),t25,t26,(addW .i64 t27 1),()))
 ) none
 ) none
 ) (
 some (.inr (.inl (t6,t25,t26,t27,())))
 )
def l143_2:=cu4 (loopF (un4 r143_2))
def g143 (p0:List R53):Option Y22 :=
 (l143_0 p0 0 p0 (lenI p0) 0).bind (Sum.elim (fun y1 =>
 (g193 y1.2.1).bind fun y2 =>
 (l143_2 y2.2.1.1 y1.1 (lenI y1.1) 0).bind (Sum.elim (fun y3 =>
 some ((),((y3.1,()),()))
 ) (fun y3 =>
 none
 ))
 ) (fun y1 =>
 none
 ))
def s143:Su:=⟨[.c false [.sl 53 kk53]],[(false,kk53)],true,.inl fun x=>g143 x.1.1⟩
theorem ok143:SuOK Tryz.prog 143 s143 :=
 fl (ac ok193 an) [] [(0,⟨[.d 0 (.sl 53 kk53),.d 3 (.int .i64),.d 9 (.sl 53 kk53),.d 10 (.int .i64),.d 11 (.int .i64)],loopF (un5 r143_0)⟩),(2,⟨[.own 6 (.sl 3 kk3),.d 25 (.sl 53 kk53),.d 26 (.int .i64),.d 27 (.int .i64)],loopF (un4 r143_2)⟩)] [] Tryz.f143 (lp [0,2] (sc lp0 (sc lp0 sn)))
def r109_0 (t3:Int) (t14:List R3) (t15 t16:Int) (b1:Int×Int×(List R3)×(List R3)×Unit):Rd (Int×(List R3)×Int×Int×(Int×Int×(List R3)×(List R3)×Unit)×Unit) Y1 :=
 cond (ltI t16 t15) (
 cond (inB t16 t14) (
 (g107 (gt d3 t14 t16).1).bind fun y1 =>
 cond (!y1.2.1.1) (
 some (.inr (.inr (false,())))
 ) (
 some (.inl (t3,t14,t15,(addW .i64 t16 1),b1,()))
 )
 ) none
 ) (
 some (.inr (.inl (t3,t14,t15,t16,b1,())))
 )
def l109_0:=cu5 (loopF (un5 r109_0))
def g109 (p0:Int×Int×(List R3)×(List R3)×Unit):Option Y17 :=
 (g143 [(p0.2.2.1,()),(p0.2.2.2.1,())]).bind fun y1 =>
 (l109_0 (lenI p0.2.2.1) y1.2.1.1 (lenI y1.2.1.1) 0 p0).bind (Sum.elim (fun y2 =>
 (g46 y2.2.2.2.2.1.1 1 1000).bind fun y3 =>
 cond y3.2.1.1 (
 (g46 y2.1 1 8).bind fun y4 =>
 cond (cond y4.2.1.1 (eqI (lenI y2.2.2.2.2.1.2.2.2.1) y2.1) false) (
 (g38 y2.2.2.2.2.1.2.1).bind fun y5 =>
 some ((),(y5.2.1,()))
 ) (
 some ((),((false,()),()))
 )
 ) (
 some ((),((false,()),()))
 )
 ) (fun y2 =>
 some ((),(y2,()))
 ))
def s109:Su:=⟨[.c true [.int .i64,.int .i64,.sl 3 kk3,.sl 3 kk3]],[(false,[.bool])],true,.inl fun x=>g109 x.1⟩
theorem ok109:SuOK Tryz.prog 109 s109 :=
 fl (ac ok46 (ac ok107 (ac ok38 (ac ok143 an)))) [.d 2 (.bool)] [(0,⟨[.d 3 (.int .i64),.own 14 (.sl 3 kk3),.d 15 (.int .i64),.d 16 (.int .i64),.box 1 [(false,.int .i64),(false,.int .i64),(false,.sl 3 kk3),(false,.sl 3 kk3)]],loopF (un5 r109_0)⟩)] [] Tryz.f109 (lp [0] (sc lp0 sn))
def g194 (p0:List UInt8) (p1:Int):Option Y17 :=
 (g190 p0).bind fun y1 =>
 some ((),(((cond y1.2.1.1 (eqI (lenI p0) p1) false),()),()))
def s194:Su:=⟨[.c false [.str],.c false kk3],[(false,[.bool])],true,.inl fun x=>g194 x.1.1 x.2.1.1⟩
theorem ok194:SuOK Tryz.prog 194 s194 :=
 fq (ac ok190 an) Tryz.f194
def g144 (p0:(List UInt8)×(List UInt8)×(List R5)×Unit):Option Y17 :=
 (g194 p0.1 6).bind fun y1 =>
 cond y1.2.1.1 (
 (g194 p0.2.1 4).bind fun y2 =>
 cond y2.2.1.1 (
 (g46 (lenI p0.2.2.1) 1 200).bind fun y3 =>
 some ((),(y3.2.1,()))
 ) (
 some ((),((false,()),()))
 )
 ) (
 some ((),((false,()),()))
 )
def s144:Su:=⟨[.c true kk206],[(false,[.bool])],true,.inl fun x=>g144 x.1⟩
theorem ok144:SuOK Tryz.prog 144 s144 :=
 fq (ac ok46 (ac ok194 an)) Tryz.f144
def g196 (p0:(List UInt8)×(List UInt8)×(List R5)×Unit) (p1 p2:(List UInt8)×Unit):Option Y17 :=
 some ((),(((cond (eqS p0.1 p1.1) (eqS p0.2.1 p2.1) false),()),()))
def s196:Su:=⟨[.c true kk206,.pt [.str],.pt [.str]],[(false,[.bool])],true,.inl fun x=>g196 x.1 x.2.1 x.2.2.1⟩
theorem ok196:SuOK Tryz.prog 196 s196 :=
 fq an Tryz.f196
def r195_0 (t0:List R160) (f1:Y6×Y6×Unit) (t7 t8:Int):Rd ((List R160)×(Y6×Y6×Unit)×Int×Int×Unit) Y0 :=
 cond (ltI t8 t7) (
 cond (inB t8 t0) (
 (g196 (gt d160 t0 t8) f1.1 f1.2.1).bind fun y1 =>
 cond y1.2.1.1 (
 some (.inr (.inr (t8,())))
 ) (
 some (.inl (t0,f1,t7,(addW .i64 t8 1),()))
 )
 ) none
 ) (
 some (.inr (.inl (t0,f1,t7,t8,())))
 )
def l195_0:=cu4 (loopF (un4 r195_0))
def g195 (p0:List R160) (c1_0 c1_1:(List UInt8)×Unit):Option Y15 :=
 (l195_0 p0 (c1_0,c1_1,()) (lenI p0) 0).bind (Sum.elim (fun y1 =>
 some ((),(((-1),()),()))
 ) (fun y1 =>
 some ((),(y1,()))
 ))
def s195:Su:=⟨[.c false [.sl 160 kk160],.fn 196 [.p [.str],.p [.str]]],[(false,kk3)],true,.inl fun x=>g195 x.1.1 x.2.1.1 x.2.1.2.1⟩
theorem ok195:SuOK Tryz.prog 195 s195 :=
 fl (ac ok196 an) [.d 4 (.int .i64)] [(0,⟨[.d 0 (.sl 160 kk160),.fn 1 196 [.p [.str],.p [.str]],.d 7 (.int .i64),.d 8 (.int .i64)],loopF (un4 r195_0)⟩)] [] Tryz.f195 (lp [0] (sc lp0 sn))
def g145 (p0:List R160) (p1 p2:List UInt8):Option Y15 :=
 (g195 p0 (p1,()) (p2,())).bind fun y1 =>
 some ((),(y1.2.1,()))
def s145:Su:=⟨[.c false [.sl 160 kk160],.c false [.str],.c false [.str]],[(false,kk3)],true,.inl fun x=>g145 x.1.1 x.2.1.1 x.2.2.1.1⟩
theorem ok145:SuOK Tryz.prog 145 s145 :=
 fq (ac ok195 an) Tryz.f145
def r110_0 (t0 t5:List R160) (t6 t7:Int):Rd Y32 Y1 :=
 cond (ltI t7 t6) (
 cond (inB t7 t5) (
 let u1:=(gt d160 t5 t7)
 (g144 u1).bind fun y1 =>
 cond (!y1.2.1.1) (
 some (.inr (.inr (false,())))
 ) (
 (g145 t0 u1.1 u1.2.1).bind fun y2 =>
 cond (!(eqI y2.2.1.1 t7)) (
 some (.inr (.inr (false,())))
 ) (
 some (.inl (t0,t5,t6,(addW .i64 t7 1),()))
 )
 )
 ) none
 ) (
 some (.inr (.inl (t0,t5,t6,t7,())))
 )
def l110_0:=cu4 (loopF (un4 r110_0))
def g110 (p0:List R160):Option Y17 :=
 (l110_0 p0 p0 (lenI p0) 0).bind (Sum.elim (fun y1 =>
 some ((),(((leI (lenI y1.1) 6),()),()))
 ) (fun y1 =>
 some ((),(y1,()))
 ))
def s110:Su:=⟨[.c false [.sl 160 kk160]],[(false,[.bool])],true,.inl fun x=>g110 x.1.1⟩
theorem ok110:SuOK Tryz.prog 110 s110 :=
 fl (ac ok144 (ac ok145 an)) [.d 2 (.bool)] [(0,⟨[.d 0 (.sl 160 kk160),.d 5 (.sl 160 kk160),.d 6 (.int .i64),.d 7 (.int .i64)],loopF (un4 r110_0)⟩)] [] Tryz.f110 (lp [0] (sc lp0 sn))
def g111 (p0 p1:Int):Option Y15 :=
 let u1:=(mxI 0 (mnI p1 4611686018427387904))
 let u2:=(mxI 0 (mnI p0 4611686018427387904))
 cond (ltI (subW .i64 4611686018427387904 u1) u2) (
 some ((),((4611686018427387904,()),()))
 ) (
 some ((),(((addW .i64 u2 u1),()),()))
 )
def s111:Su:=⟨[.c false kk3,.c false kk3],[(false,kk3)],true,.inl fun x=>g111 x.1.1 x.2.1.1⟩
theorem ok111:SuOK Tryz.prog 111 s111 :=
 fq an Tryz.f111
def r112_0 (t3:Int) (t6:List R157) (t7 t8:Int):Rd (Int×(List R157)×Int×Int×Unit) Unit :=
 cond (ltI t8 t7) (
 cond (inB t8 t6) (
 (g111 t3 (gt d157 t6 t8).2.1).bind fun y1 =>
 some (.inl (y1.2.1.1,t6,t7,(addW .i64 t8 1),()))
 ) none
 ) (
 some (.inr (.inl (t3,t6,t7,t8,())))
 )
def l112_0:=cu4 (loopF (un4 r112_0))
def g112 (p0:List R157):Option Y15 :=
 (l112_0 0 p0 (lenI p0) 0).bind (Sum.elim (fun y1 =>
 some ((),((y1.1,()),()))
 ) (fun y1 =>
 none
 ))
def s112:Su:=⟨[.c false [.sl 157 kk157]],[(false,kk3)],true,.inl fun x=>g112 x.1.1⟩
theorem ok112:SuOK Tryz.prog 112 s112 :=
 fl (ac ok111 an) [] [(0,⟨[.d 3 (.int .i64),.d 6 (.sl 157 kk157),.d 7 (.int .i64),.d 8 (.int .i64)],loopF (un4 r112_0)⟩)] [] Tryz.f112 (lp [0] (sc lp0 sn))
def g78 (p0:(List UInt8)×Int×Int×Int×Int×(List R157)×Int×Int×(List R3)×(List R3)×(List R160)×Unit):Option Y17 :=
 (g106 p0.1).bind fun y1 =>
 cond y1.2.1.1 (
 (g46 p0.2.1 0 9007199254740992).bind fun y2 =>
 cond y2.2.1.1 (
 (g46 p0.2.2.2.1 0 1000).bind fun y3 =>
 cond y3.2.1.1 (
 (g46 p0.2.2.2.2.1 0 9007199254740992).bind fun y4 =>
 cond y4.2.1.1 (
 (g107 p0.2.2.1).bind fun y5 =>
 cond y5.2.1.1 (
 (g108 p0.2.2.2.2.2.1).bind fun y6 =>
 cond y6.2.1.1 (
 (g109 (p0.2.2.2.2.2.2.1,p0.2.2.2.2.2.2.2.1,p0.2.2.2.2.2.2.2.2.1,p0.2.2.2.2.2.2.2.2.2.1,())).bind fun y7 =>
 cond y7.2.1.1 (
 (g110 p0.2.2.2.2.2.2.2.2.2.2.1).bind fun y8 =>
 cond y8.2.1.1 (
 (g112 p0.2.2.2.2.2.1).bind fun y9 =>
 (g111 p0.2.2.1 y9.2.1.1).bind fun y10 =>
 some ((),(((leI y10.2.1.1 p0.2.1),()),()))
 ) (
 some ((),((false,()),()))
 )
 ) (
 some ((),((false,()),()))
 )
 ) (
 some ((),((false,()),()))
 )
 ) (
 some ((),((false,()),()))
 )
 ) (
 some ((),((false,()),()))
 )
 ) (
 some ((),((false,()),()))
 )
 ) (
 some ((),((false,()),()))
 )
 ) (
 some ((),((false,()),()))
 )
def s78:Su:=⟨[.c true kk92],[(false,[.bool])],true,.inl fun x=>g78 x.1⟩
theorem ok78:SuOK Tryz.prog 78 s78 :=
 fq (ac ok46 (ac ok106 (ac ok107 (ac ok108 (ac ok109 (ac ok110 (ac ok111 (ac ok112 an)))))))) Tryz.f78
def r51_0 (t6:List R92) (t7 t8:Int) (b1:(List R92)×Unit):Rd ((List R92)×Int×Int×Y4×Unit) Y1 :=
 cond (ltI t8 t7) (
 cond (inB t8 t6) (
 let u1:=(gt d92 t6 t8)
 (g78 u1).bind fun y1 =>
 cond (!y1.2.1.1) (
 some (.inr (.inr (false,())))
 ) (
 cond (ltI 0 t8) (
 let u2:=(subW .i64 t8 1)
 cond (inB u2 b1.1) (
 cond (leS u1.1 (gt d92 b1.1 u2).1) (
 some (.inr (.inr (false,())))
 ) (
 some (.inl (t6,t7,(addW .i64 t8 1),b1,()))
 )
 ) none
 ) (
 some (.inl (t6,t7,(addW .i64 t8 1),b1,()))
 )
 )
 ) none
 ) (
 some (.inr (.inl (t6,t7,t8,b1,())))
 )
def l51_0:=cu4 (loopF (un4 r51_0))
def g51 (p0:(List R92)×Unit):Option Y17 :=
 (l51_0 p0.1 (lenI p0.1) 0 p0).bind (Sum.elim (fun y1 =>
 some ((),(((leI (lenI y1.2.2.2.1.1) 6),()),()))
 ) (fun y1 =>
 some ((),(y1,()))
 ))
def s51:Su:=⟨[.c true [.sl 92 kk92]],[(false,[.bool])],true,.inl fun x=>g51 x.1⟩
theorem ok51:SuOK Tryz.prog 51 s51 :=
 fl (ac ok78 an) [.d 2 (.bool)] [(0,⟨[.d 6 (.sl 92 kk92),.d 7 (.int .i64),.d 8 (.int .i64),.box 1 [(false,.sl 92 kk92)]],loopF (un4 r51_0)⟩)] [] Tryz.f51 (lp [0] (sc lp0 sn))
def r90_0 (t0:List UInt8) (t3 t6 t7:Int):Rd ((List UInt8)×Int×Int×Int×Unit) Unit :=
 cond (ltI t7 t6) (
 cond (inB t7 t0) (
 some (.inl (t0,(mulW .u32 (xorW .u32 t3 (cvtW .u32 (bytI t0 t7))) 16777619),t6,(addW .i64 t7 1),()))
 ) none
 ) (
 some (.inr (.inl (t0,t3,t6,t7,())))
 )
def l90_0:=cu4 (loopF (un4 r90_0))
def g90 (p0:List UInt8):Option Y15 :=
 (l90_0 p0 2166136261 (lenI p0) 0).bind (Sum.elim (fun y1 =>
 some ((),(((cvtW .i64 y1.2.1),()),()))
 ) (fun y1 =>
 none
 ))
def s90:Su:=⟨[.c false [.str]],[(false,kk3)],true,.inl fun x=>g90 x.1.1⟩
theorem ok90:SuOK Tryz.prog 90 s90 :=
 fl an [] [(0,⟨[.d 0 (.str),.d 3 (.int .u32),.d 6 (.int .i64),.d 7 (.int .i64)],loopF (un4 r90_0)⟩)] [] Tryz.f90 (lp [0] (sc lp0 sn))
def g67 (p0:List UInt8) (p1:Int):Option Y15 :=
 cond (ltI p1 1) (
 some ((),((0,()),()))
 ) (
 (g90 p0).bind fun y1 =>
 cond (!(eqI p1 0)) (
 some ((),(((remI y1.2.1.1 p1),()),()))
 ) none
 )
def s67:Su:=⟨[.c false [.str],.c false kk3],[(false,kk3)],true,.inl fun x=>g67 x.1.1 x.2.1.1⟩
theorem ok67:SuOK Tryz.prog 67 s67 :=
 fq (ac ok90 an) Tryz.f67
def r37_2 (t0:List R67) (t3:Int) (t7:List R67) (t8 t9:Int) (t19:List R92) (t20 t21:Int) (b4:Int×(List R92)×Unit):Rd ((List R67)×Int×(List R67)×Int×Int×(List R92)×Int×Int×Y8×Unit) Y1 :=
 cond (ltI t21 t20) (
 cond (inB t21 t19) (
 (g67 (gt d92 t19 t21).1 (lenI t0)).bind fun y1 =>
 cond (!(eqI y1.2.1.1 t3)) (
 some (.inr (.inr (false,())))
 ) (
 cond (ltI 0 t21) (
 let u1:=(subW .i64 t21 1)
 cond (inB u1 b4.2.1) (
 cond (leS (gt d92 t19 t21).1 (gt d92 b4.2.1 u1).1) (
 some (.inr (.inr (false,())))
 ) (
 some (.inl (t0,t3,t7,t8,t9,t19,t20,(addW .i64 t21 1),b4,()))
 )
 ) none
 ) (
 some (.inl (t0,t3,t7,t8,t9,t19,t20,(addW .i64 t21 1),b4,()))
 )
 )
 ) none
 ) (
 some (.inr (.inl (t0,t3,t7,t8,t9,t19,t20,t21,b4,())))
 )
def l37_2:=cu9 (loopF (un9 r37_2))
def r37_0 (t0 t7:List R67) (t8 t9:Int):Rd ((List R67)×(List R67)×Int×Int×Unit) Y1 :=
 cond (ltI t9 t8) (
 cond (inB t9 t7) (
 let u1:=(gt d67 t7 t9)
 (g46 u1.1 (-1) 11).bind fun y1 =>
 cond (!y1.2.1.1) (
 some (.inr (.inr (false,())))
 ) (
 (l37_2 t0 t9 t7 t8 t9 u1.2.1 (lenI u1.2.1) 0 u1).bind (Sum.elim (fun y2 =>
 some (.inl (y2.1,y2.2.2.1,y2.2.2.2.1,(addW .i64 y2.2.2.2.2.1 1),()))
 ) (fun y2 =>
 some (.inr (.inr (y2.1,())))
 ))
 )
 ) none
 ) (
 some (.inr (.inl (t0,t7,t8,t9,())))
 )
def l37_0:=cu4 (loopF (un4 r37_0))
def g37 (p0:List R67):Option Y17 :=
 (l37_0 p0 p0 (lenI p0) 0).bind (Sum.elim (fun y1 =>
 (g46 (lenI y1.1) 1 5).bind fun y2 =>
 cond y2.2.1.1 (
 (g68 y1.1).bind fun y3 =>
 (g51 y3.2.1).bind fun y4 =>
 some ((),(y4.2.1,()))
 ) (
 some ((),((false,()),()))
 )
 ) (fun y1 =>
 some ((),(y1,()))
 ))
def s37:Su:=⟨[.c false [.sl 67 kk67]],[(false,[.bool])],true,.inl fun x=>g37 x.1.1⟩
theorem ok37:SuOK Tryz.prog 37 s37 :=
 fl (ac ok46 (ac ok68 (ac ok51 (ac ok67 an)))) [.d 2 (.bool)] [(2,⟨[.d 0 (.sl 67 kk67),.d 3 (.int .i64),.d 7 (.sl 67 kk67),.d 8 (.int .i64),.d 9 (.int .i64),.d 19 (.sl 92 kk92),.d 20 (.int .i64),.d 21 (.int .i64),.box 4 [(false,.int .i64),(false,.sl 92 kk92)]],loopF (un9 r37_2)⟩),(0,⟨[.d 0 (.sl 67 kk67),.d 7 (.sl 67 kk67),.d 8 (.int .i64),.d 9 (.int .i64)],loopF (un4 r37_0)⟩)] [] Tryz.f37 (lp [0] (sc (lp [2] (sc lp0 sn)) sn))
def g69 (p0:Int):Option Y28 :=
 (g46 p0 0 5).bind fun y1 =>
 cond (!y1.2.1.1) (
 some ((),(([],()),()))
 ) (
 cond (inB p0 [([114,101,97,100],()),([108,111,99,107],()),([119,111,114,107],()),([102,114,101,101],()),([115,101,110,100],()),([100,111,110,101],())]) (
 some ((),((gt d9 [([114,101,97,100],()),([108,111,99,107],()),([119,111,114,107],()),([102,114,101,101],()),([115,101,110,100],()),([100,111,110,101],())] p0),()))
 ) none
 )
def s69:Su:=⟨[.c false kk3],[(false,[.str])],true,.inl fun x=>g69 x.1.1⟩
theorem ok69:SuOK Tryz.prog 69 s69 :=
 fq (ac ok46 an) Tryz.f69
def g223 (p0:List R5) (p1 p2:Int):Option (Unit×(((List R5)×Unit)×Y1×Unit)) :=
 let u1:=(lenI p0)
 (g46 p1 0 u1).bind fun y1 =>
 cond (cond (cond (!y1.2.1.1) true (ltI p2 0)) true (ltI (subW .i64 u1 p1) p2)) (
 some ((),(([],()),(false,()),()))
 ) (
 let u2:=(addW .i64 p1 p2)
 cond (cutB p1 u2 p0) (
 some ((),(((sub p0 p1 u2),()),(true,()),()))
 ) none
 )
def s223:Su:=⟨[.c false [.sl 5 kk5],.c false kk3,.c false kk3],[(false,[.sl 5 kk5]),(false,[.bool])],false,.inl fun x=>g223 x.1.1 x.2.1.1 x.2.2.1.1⟩
theorem ok223:SuOK Tryz.prog 223 s223 :=
 fq (ac ok46 an) Tryz.f223
def r168_0 (t1 t2:Int) (t9:List R5) (t10:Bool) (t11 t27:List R5) (t28 t29:Int):Rd (Int×Int×(List R5)×Bool×(List R5)×(List R5)×Int×Int×Unit) Unit :=
 cond (ltI t29 t28) (
 cond (inB t29 t27) (
 cond (fitB 1 t11 [((addW .u8 48 (shrW .u8 (gt d5 t27 t29).1 4)),()),((addW .u8 48 (andW .u8 (gt d5 t27 t29).1 15)),())]) (
 some (.inl (t1,t2,t9,t10,(apL t11 [((addW .u8 48 (shrW .u8 (gt d5 t27 t29).1 4)),()),((addW .u8 48 (andW .u8 (gt d5 t27 t29).1 15)),())]),t27,t28,(addW .i64 t29 1),()))
 ) none
 ) none
 ) (
 some (.inr (.inl (t1,t2,t9,t10,t11,t27,t28,t29,())))
 )
def l168_0:=cu8 (loopF (un8 r168_0))
def g168 (p0:List R5) (p1 p2:Int):Option Y48 :=
 (g46 p2 1 38).bind fun y1 =>
 cond (!y1.2.1.1) (
 some ((),(([],()),(0,()),(false,()),()))
 ) (
 (g223 p0 p1 (quoW .i64 (addW .i64 p2 1) 2)).bind fun y2 =>
 (l168_0 p1 p2 y2.2.1.1 y2.2.2.1.1 [] y2.2.1.1 (lenI y2.2.1.1) 0).bind (Sum.elim (fun y3 =>
 cond (!y3.2.2.2.1) (
 some ((),(([],()),(0,()),(false,()),()))
 ) (
 (g190 (strOf y3.2.2.2.2.1)).bind fun y4 =>
 cond (!y4.2.1.1) (
 some ((),(([],()),(0,()),(false,()),()))
 ) (
 cond (eqI (remI y3.2.1 2) 1) (
 cond (inB 0 y3.2.2.2.2.1) (
 cond (!(eqI (gt d5 y3.2.2.2.2.1 0).1 48)) (
 some ((),(([],()),(0,()),(false,()),()))
 ) (
 let u1:=(lenI y3.2.2.2.2.1)
 let u2:=(subW .i64 u1 y3.2.1)
 let u3:=(cutB u2 u1 y3.2.2.2.2.1)
 cond u3 (
 some ((),(((strOf (sub y3.2.2.2.2.1 u2 u1)),()),((addW .i64 y3.1 (lenI y3.2.2.1)),()),(true,()),()))
 ) none
 )
 ) none
 ) (
 let u1:=(lenI y3.2.2.2.2.1)
 let u2:=(subW .i64 u1 y3.2.1)
 let u3:=(cutB u2 u1 y3.2.2.2.2.1)
 cond u3 (
 some ((),(((strOf (sub y3.2.2.2.2.1 u2 u1)),()),((addW .i64 y3.1 (lenI y3.2.2.1)),()),(true,()),()))
 ) none
 )
 )
 )
 ) (fun y3 =>
 none
 ))
 )
def s168:Su:=⟨[.c false [.sl 5 kk5],.c false kk3,.c false kk3],[(false,[.str]),(false,kk3),(false,[.bool])],true,.inl fun x=>g168 x.1.1 x.2.1.1 x.2.2.1.1⟩
theorem ok168:SuOK Tryz.prog 168 s168 :=
 fl (ac ok46 (ac ok190 (ac ok223 an))) [] [(0,⟨[.d 1 (.int .i64),.d 2 (.int .i64),.d 9 (.sl 5 kk5),.d 10 (.bool),.own 11 (.sl 5 kk5),.d 27 (.sl 5 kk5),.d 28 (.int .i64),.d 29 (.int .i64)],loopF (un8 r168_0)⟩)] [] Tryz.f168 (lp [0] (sc lp0 sn))
def r169_0 (t1:Int) (t7:List R5) (t9:List R3) (t10:Int):Rd (Int×(List R5)×(List R3)×Int×Unit) Unit :=
 cond (leI t10 64) (
 let u1:=(subW .i64 t10 1)
 let u2:=(quoW .i64 u1 8)
 cond (inB u2 t7) (
 let u3:=(remI u1 8)
 cond (leI 0 u3) (
 cond (!(eqI (andW .u8 (gt d5 t7 u2).1 (shrW .u8 128 u3)) 0)) (
 cond (fitB 8 t9 [(t10,())]) (
 let u4:=(addW .i64 t10 1)
 some (.inl (t1,t7,(apL t9 [(t10,())]),u4,()))
 ) none
 ) (
 let u4:=(addW .i64 t10 1)
 some (.inl (t1,t7,t9,u4,()))
 )
 ) none
 ) none
 ) (
 some (.inr (.inl (t1,t7,t9,t10,())))
 )
def l169_0:=cu4 (loopF (un4 r169_0))
def g169 (p0:List R5) (p1:Int):Option Y45 :=
 (g223 p0 p1 8).bind fun y1 =>
 cond (!y1.2.2.1.1) (
 some ((),(([],()),(0,()),(false,()),()))
 ) (
 (l169_0 p1 y1.2.1.1 [] 1).bind (Sum.elim (fun y2 =>
 some ((),((y2.2.2.1,()),((addW .i64 y2.1 8),()),(true,()),()))
 ) (fun y2 =>
 none
 ))
 )
def s169:Su:=⟨[.c false [.sl 5 kk5],.c false kk3],[(false,kk53),(false,kk3),(false,[.bool])],true,.inl fun x=>g169 x.1.1 x.2.1.1⟩
theorem ok169:SuOK Tryz.prog 169 s169 :=
 fl (ac ok223 an) [] [(0,⟨[.d 1 (.int .i64),.d 7 (.sl 5 kk5),.own 9 (.sl 3 kk3),.d 10 (.int .i64)],loopF (un4 r169_0)⟩)] [] Tryz.f169 (lp [0] (sc lp0 sn))
def g250  : Option (Unit×(((List R232)×Unit)×Unit)) :=
 some ((),(([(2,3,19,()),(3,1,6,()),(4,1,12,()),(7,1,10,()),(11,1,6,()),(14,1,4,()),(37,2,12,()),(38,2,6,()),(39,2,2,()),(41,2,8,()),(48,5,60,()),(49,1,3,()),(54,5,60,()),(95,2,12,()),(102,4,20,()),(103,4,20,())],()),()))
def s250:Su:=⟨[],[(false,[.sl 232 kk232])],true,.inl fun x=>g250 ⟩
theorem ok250:SuOK Tryz.prog 250 s250 :=
 fq an Tryz.f250
def r224_0 (t0:Int) (t5:List R232) (t6 t7:Int) (b2:Int×Int×Int×Unit):Rd (Int×(List R232)×Int×Int×R232×Unit) (R232×Unit) :=
 cond (ltI t7 t6) (
 cond (inB t7 t5) (
 let u1:=(gt d232 t5 t7)
 cond (eqI u1.1 t0) (
 some (.inr (.inr (u1,())))
 ) (
 some (.inl (t0,t5,t6,(addW .i64 t7 1),b2,()))
 )
 ) none
 ) (
 some (.inr (.inl (t0,t5,t6,t7,b2,())))
 )
def l224_0:=cu5 (loopF (un5 r224_0))
def g224 (p0:Int):Option (Unit×(R232×Unit)) :=
 (g250).bind fun y1 =>
 (l224_0 p0 y1.2.1.1 (lenI y1.2.1.1) 0 (0,0,0,())).bind (Sum.elim (fun y2 =>
 some ((),((0,0,0,()),()))
 ) (fun y2 =>
 some ((),(y2.1,()))
 ))
def s224:Su:=⟨[.c false kk3],[(true,kk232)],true,.inl fun x=>g224 x.1.1⟩
theorem ok224:SuOK Tryz.prog 224 s224 :=
 fl (ac ok250 an) [.box 2 [(false,.int .i64),(false,.int .i64),(false,.int .i64)]] [(0,⟨[.d 0 (.int .i64),.own 5 (.sl 232 kk232),.d 6 (.int .i64),.d 7 (.int .i64),.box 2 [(false,.int .i64),(false,.int .i64),(false,.int .i64)]],loopF (un5 r224_0)⟩)] [] Tryz.f224 (lp [0] (sc lp0 sn))
def g170 (p0:Int):Option Y15 :=
 (g224 p0).bind fun y1 =>
 some ((),((y1.2.1.2.1,()),()))
def s170:Su:=⟨[.c false kk3],[(false,kk3)],true,.inl fun x=>g170 x.1.1⟩
theorem ok170:SuOK Tryz.prog 170 s170 :=
 fq (ac ok224 an) Tryz.f170
def g225 (p0:Int):Option Y15 :=
 (g224 p0).bind fun y1 =>
 some ((),((y1.2.1.2.2.1,()),()))
def s225:Su:=⟨[.c false kk3],[(false,kk3)],true,.inl fun x=>g225 x.1.1⟩
theorem ok225:SuOK Tryz.prog 225 s225 :=
 fq (ac ok224 an) Tryz.f225
def g227 (p0:Int):Option Y15 :=
 (g170 p0).bind fun y1 =>
 cond (eqI y1.2.1.1 5) (
 some ((),((3,()),()))
 ) (
 some ((),((2,()),()))
 )
def s227:Su:=⟨[.c false kk3],[(false,kk3)],true,.inl fun x=>g227 x.1.1⟩
theorem ok227:SuOK Tryz.prog 227 s227 :=
 fq (ac ok170 an) Tryz.f227
section
open Go.RowKit Go.Lib
theorem w179:NarWalk Tryz.prog 179 190 229:=by
 intro s b v w R R2 hd ha
 have e1:Enters Tryz.prog 190:=enters_of (fn:=Tryz.f190) (c:=bodyOf Tryz.f190) (by kernel_rfl) (by kernel_rfl) (by kernel_rfl)
 have e2:Enters Tryz.prog 229:=enters_of (fn:=Tryz.f229) (c:=bodyOf Tryz.f229) (by kernel_rfl) (by kernel_rfl) (by kernel_rfl)
 have hsz:s.size < 9223372036854775808∨9223372036854775808<=s.size:=Nat.lt_or_ge _ _
 cases b with
 | false =>
   go_enter Tryz.func179,Tryz.ntmps179
   go_wp2_with (go_at_call 190; refine hd.mono ?_; rintro e W1 ⟨rfl,hW⟩)
   go_ret2
   exact .inr ⟨by simp,rfl,hW⟩
 | true =>
   by_cases hs:s.size<=18
   . have hb:=ha rfl hs
     have h1:¬ (18:Int) < (s.size:Int):=by omega
     go_enter Tryz.func179,Tryz.ntmps179
     go_wp2_with (first
      | (go_at_call 190; refine hd.mono ?_; rintro e W1 ⟨rfl,hW⟩)
      | (go_at_call 229; refine (hb _ hW).mono ?_; rintro e W2 ⟨rfl,hW2⟩))
     go_ret2
     exact .inl ⟨by trivial,hs,rfl,hW2⟩
   . have h1:(18:Int) < (s.size:Int):=by omega
     go_enter Tryz.func179,Tryz.ntmps179
     go_wp2_with (go_at_call 190; refine hd.mono ?_; rintro e W1 ⟨rfl,hW⟩)
     go_ret2
     exact .inr ⟨by simp [hs],rfl,hW⟩
end
def g179 (p0:List UInt8):Option Y33:=narrowG g190 p0
def s179:Su:=⟨[.c false [.str]],[(false,kk3),(false,[.bool])],true,.inl fun x=>g179 x.1.1⟩
theorem ok179:SuOK Tryz.prog 179 s179:=narrow_ok lay_LaysC_n172 (gd:=g190) ok190 (fnd:=Tryz.f190) (cd:=bodyOf Tryz.f190) (by kernel_rfl) (by kernel_rfl) (by kernel_rfl) rfl w179 (fn:=Tryz.f179) (c:=bodyOf Tryz.f179) (by kernel_rfl) (by kernel_rfl) (by kernel_rfl)
def g226 (p0:List R5) (p1 p2:Int):Option (Unit×(Y0×Y0×Y1×Unit)) :=
 (g46 p2 2 3).bind fun y1 =>
 cond (!y1.2.1.1) (
 some ((),((0,()),(0,()),(false,()),()))
 ) (
 (g168 p0 p1 p2).bind fun y2 =>
 cond (!y2.2.2.2.1.1) (
 some ((),((0,()),(0,()),(false,()),()))
 ) (
 (g179 y2.2.1.1).bind fun y3 =>
 some ((),(y3.2.1,y2.2.2.1,(true,()),()))
 )
 )
def s226:Su:=⟨[.c false [.sl 5 kk5],.c false kk3,.c false kk3],[(false,kk3),(false,kk3),(false,[.bool])],true,.inl fun x=>g226 x.1.1 x.2.1.1 x.2.2.1.1⟩
theorem ok226:SuOK Tryz.prog 226 s226 :=
 fq (ac ok46 (ac ok168 (ac ok179 an))) Tryz.f226
def r251_0 (t0:List UInt8) (t5 t6:Int):Rd Y18 Y1 :=
 cond (ltI t6 t5) (
 cond (inB t6 t0) (
 let u1:=(bytI t0 t6)
 cond (ltI u1 32) (
 some (.inr (.inr (false,())))
 ) (
 cond (inB t6 t0) (
 cond (ltI 126 u1) (
 some (.inr (.inr (false,())))
 ) (
 some (.inl (t0,t5,(addW .i64 t6 1),()))
 )
 ) none
 )
 ) none
 ) (
 some (.inr (.inl (t0,t5,t6,())))
 )
def l251_0:=cu3 (loopF (un3 r251_0))
def g251 (p0:List UInt8):Option Y17 :=
 (l251_0 p0 (lenI p0) 0).bind (Sum.elim (fun y1 =>
 some ((),((true,()),()))
 ) (fun y1 =>
 some ((),(y1,()))
 ))
def s251:Su:=⟨[.c false [.str]],[(false,[.bool])],true,.inl fun x=>g251 x.1.1⟩
theorem ok251:SuOK Tryz.prog 251 s251 :=
 fl an [.d 2 (.bool)] [(0,⟨[.d 0 (.str),.d 5 (.int .i64),.d 6 (.int .i64)],loopF (un3 r251_0)⟩)] [] Tryz.f251 (lp [0] (sc lp0 sn))
def g228 (p0:Int) (p1:List UInt8):Option Y17 :=
 (g224 p0).bind fun y1 =>
 cond (eqI y1.2.1.2.1 1) (
 let u1:=(g190 p1)
 Option.bind u1 fun y2 =>
 let u2:=(lenI p1)
 some ((),(((cond y2.2.1.1 (eqI u2 y1.2.1.2.2.1) false),()),()))
 ) (
 cond (eqI y1.2.1.2.1 2) (
 let u1:=(g251 p1)
 Option.bind u1 fun y2 =>
 let u2:=(lenI p1)
 some ((),(((cond y2.2.1.1 (eqI u2 y1.2.1.2.2.1) false),()),()))
 ) (
 cond (eqI y1.2.1.2.1 3) (
 let u1:=(g190 p1)
 Option.bind u1 fun y2 =>
 cond y2.2.1.1 (
 let u2:=(lenI p1)
 let u3:=(g46 u2 1 y1.2.1.2.2.1)
 Option.bind u3 fun y3 =>
 some ((),(y3.2.1,()))
 ) (
 some ((),((false,()),()))
 )
 ) (
 cond (eqI y1.2.1.2.1 4) (
 let u1:=(g251 p1)
 Option.bind u1 fun y2 =>
 cond y2.2.1.1 (
 let u2:=(lenI p1)
 let u3:=(g46 u2 1 y1.2.1.2.2.1)
 Option.bind u3 fun y3 =>
 some ((),(y3.2.1,()))
 ) (
 some ((),((false,()),()))
 )
 ) (
 cond (eqI y1.2.1.2.1 5) (
 let u1:=(g251 p1)
 Option.bind u1 fun y2 =>
 cond y2.2.1.1 (
 let u2:=(lenI p1)
 let u3:=(g46 u2 1 y1.2.1.2.2.1)
 Option.bind u3 fun y3 =>
 some ((),(y3.2.1,()))
 ) (
 some ((),((false,()),()))
 )
 ) (
 some ((),((false,()),()))
 )
 )
 )
 )
 )
def s228:Su:=⟨[.c false kk3,.c false [.str]],[(false,[.bool])],true,.inl fun x=>g228 x.1.1 x.2.1.1⟩
theorem ok228:SuOK Tryz.prog 228 s228 :=
 fq (ac ok46 (ac ok190 (ac ok224 (ac ok251 an)))) Tryz.f228
def g171 (p0:List R5) (p1 p2:Int):Option Y48 :=
 (g225 p2).bind fun y1 =>
 (g170 p2).bind fun y2 =>
 cond (cond (cond (eqI y2.2.1.1 3) true (eqI y2.2.1.1 4)) true (eqI y2.2.1.1 5)) (
 (g227 p2).bind fun y3 =>
 (g226 p0 p1 y3.2.1.1).bind fun y4 =>
 cond (!y4.2.2.2.1.1) (
 some ((),(([],()),(0,()),(false,()),()))
 ) (
 let u1:=(cond (eqI y2.2.1.1 1) true (eqI y2.2.1.1 3))
 cond u1 (
 (g168 p0 y4.2.2.1.1 y4.2.1.1).bind fun y5 =>
 cond (!y5.2.2.2.1.1) (
 some ((),(([],()),(0,()),(false,()),()))
 ) (
 (g228 p2 y5.2.1.1).bind fun y6 =>
 cond (!y6.2.1.1) (
 some ((),(([],()),(0,()),(false,()),()))
 ) (
 some ((),(y5.2.1,y5.2.2.1,(true,()),()))
 )
 )
 ) (
 (g223 p0 y4.2.2.1.1 y4.2.1.1).bind fun y5 =>
 cond (!y5.2.2.1.1) (
 some ((),(([],()),(0,()),(false,()),()))
 ) (
 let u2:=(strOf y5.2.1.1)
 (g228 p2 u2).bind fun y6 =>
 cond (!y6.2.1.1) (
 some ((),(([],()),(0,()),(false,()),()))
 ) (
 some ((),((u2,()),((addW .i64 y4.2.2.1.1 y4.2.1.1),()),(true,()),()))
 )
 )
 )
 )
 ) (
 let u1:=(cond (eqI y2.2.1.1 1) true (eqI y2.2.1.1 3))
 cond u1 (
 (g168 p0 p1 y1.2.1.1).bind fun y3 =>
 cond (!y3.2.2.2.1.1) (
 some ((),(([],()),(0,()),(false,()),()))
 ) (
 (g228 p2 y3.2.1.1).bind fun y4 =>
 cond (!y4.2.1.1) (
 some ((),(([],()),(0,()),(false,()),()))
 ) (
 some ((),(y3.2.1,y3.2.2.1,(true,()),()))
 )
 )
 ) (
 (g223 p0 p1 y1.2.1.1).bind fun y3 =>
 cond (!y3.2.2.1.1) (
 some ((),(([],()),(0,()),(false,()),()))
 ) (
 let u2:=(strOf y3.2.1.1)
 (g228 p2 u2).bind fun y4 =>
 cond (!y4.2.1.1) (
 some ((),(([],()),(0,()),(false,()),()))
 ) (
 some ((),((u2,()),((addW .i64 p1 y1.2.1.1),()),(true,()),()))
 )
 )
 )
 )
def s171:Su:=⟨[.c false [.sl 5 kk5],.c false kk3,.c false kk3],[(false,[.str]),(false,kk3),(false,[.bool])],true,.inl fun x=>g171 x.1.1 x.2.1.1 x.2.2.1.1⟩
theorem ok171:SuOK Tryz.prog 171 s171 :=
 fq (ac ok223 (ac ok168 (ac ok170 (ac ok225 (ac ok227 (ac ok226 (ac ok228 an))))))) Tryz.f171
def r126_0 (t0:List R5) (t4:List UInt8) (t5:Int) (t8:List R3) (t9:Bool) (t41:List R3) (t42 t43:Int) (b2:(List UInt8)×(List R178)×Unit):Rd ((List R5)×(List UInt8)×Int×(List R3)×Bool×(List R3)×Int×Int×Y19×Unit) Y35 :=
 cond (ltI t43 t42) (
 cond (inB t43 t41) (
 let u1:=(gt d3 t41 t43)
 cond (eqI u1.1 1) (
 let u2:=(addW .i64 t43 1)
 some (.inl (t0,t4,t5,t8,true,t41,t42,u2,b2,()))
 ) (
 (g170 u1.1).bind fun y1 =>
 cond (eqI y1.2.1.1 0) (
 some (.inr (.inr (2,([],[],()),())))
 ) (
 cond (fitB 8 t8 [u1]) (
 let u2:=(addW .i64 t43 1)
 some (.inl (t0,t4,t5,(apL t8 [u1]),t9,t41,t42,u2,b2,()))
 ) none
 )
 )
 ) none
 ) (
 some (.inr (.inl (t0,t4,t5,t8,t9,t41,t42,t43,b2,())))
 )
def l126_0:=cu9 (loopF (un9 r126_0))
def r126_3 (t0:List R5) (t4:List UInt8) (t5:Int) (t8 t76:List R3) (t77 t78:Int) (b2:(List UInt8)×(List R178)×Unit):Rd ((List R5)×(List UInt8)×Int×(List R3)×(List R3)×Int×Int×Y19×Unit) Y35 :=
 cond (ltI t78 t77) (
 cond (inB t78 t76) (
 let u1:=(addW .i64 (gt d3 t76 t78).1 64)
 (g170 u1).bind fun y1 =>
 cond (eqI y1.2.1.1 0) (
 some (.inr (.inr (2,([],[],()),())))
 ) (
 cond (fitB 8 t8 [(u1,())]) (
 some (.inl (t0,t4,t5,(apL t8 [(u1,())]),t76,t77,(addW .i64 t78 1),b2,()))
 ) none
 )
 ) none
 ) (
 some (.inr (.inl (t0,t4,t5,t8,t76,t77,t78,b2,())))
 )
def l126_3:=cu8 (loopF (un8 r126_3))
def r126_5 (t0:List R5) (t5:Int) (t95:List R3) (t96 t97:Int) (b2 b15:(List UInt8)×(List R178)×Unit):Rd ((List R5)×Int×(List R3)×Int×Int×Y19×Y19×Unit) Y35 :=
 cond (ltI t97 t96) (
 cond (inB t97 t95) (
 (g171 t0 t5 (gt d3 t95 t97).1).bind fun y1 =>
 cond (!y1.2.2.2.1.1) (
 some (.inr (.inr (3,([],[],()),())))
 ) (
 cond (fitB 24 b15.2.1 [((gt d3 t95 t97).1,y1.2.1.1,())]) (
 some (.inl (t0,y1.2.2.1.1,t95,t96,(addW .i64 t97 1),b2,(b15.1,(apL b15.2.1 [((gt d3 t95 t97).1,y1.2.1.1,())]),()),()))
 ) none
 )
 ) none
 ) (
 some (.inr (.inl (t0,t5,t95,t96,t97,b2,b15,())))
 )
def l126_5:=cu7 (loopF (un7 r126_5))
def g126 (p0:List R5):Option (Unit×(Y19×Y0×Unit)) :=
 (g168 p0 0 4).bind fun y1 =>
 cond (!y1.2.2.2.1.1) (
 some ((),(([],[],()),(1,()),()))
 ) (
 (g169 p0 y1.2.2.1.1).bind fun y2 =>
 cond (!y2.2.2.2.1.1) (
 some ((),(([],[],()),(2,()),()))
 ) (
 (l126_0 p0 y1.2.1.1 y2.2.2.1.1 [] false y2.2.1.1 (lenI y2.2.1.1) 0 ([],[],())).bind (Sum.elim (fun y3 =>
 cond y3.2.2.2.2.1 (
 (g169 y3.1 y3.2.2.1).bind fun y4 =>
 let u1:=(lenI y4.2.1.1)
 cond (cond (!y4.2.2.2.1.1) true (eqI u1 0)) (
 some ((),(([],[],()),(2,()),()))
 ) (
 (l126_3 y3.1 y3.2.1 y4.2.2.1.1 y3.2.2.2.1 y4.2.1.1 u1 0 y3.2.2.2.2.2.2.2.2.1).bind (Sum.elim (fun y5 =>
 (l126_5 y5.1 y5.2.2.1 y5.2.2.2.1 (lenI y5.2.2.2.1) 0 y5.2.2.2.2.2.2.2.1 (y5.2.1,[],())).bind (Sum.elim (fun y6 =>
 cond (!(eqI y6.2.1 (lenI y6.1))) (
 some ((),(([],[],()),(4,()),()))
 ) (
 some ((),(y6.2.2.2.2.2.2.1,(0,()),()))
 )
 ) (fun y6 =>
 some ((),(y6.2.1,(y6.1,()),()))
 ))
 ) (fun y5 =>
 some ((),(y5.2.1,(y5.1,()),()))
 ))
 )
 ) (
 (l126_5 y3.1 y3.2.2.1 y3.2.2.2.1 (lenI y3.2.2.2.1) 0 y3.2.2.2.2.2.2.2.2.1 (y3.2.1,[],())).bind (Sum.elim (fun y4 =>
 cond (!(eqI y4.2.1 (lenI y4.1))) (
 some ((),(([],[],()),(4,()),()))
 ) (
 some ((),(y4.2.2.2.2.2.2.1,(0,()),()))
 )
 ) (fun y4 =>
 some ((),(y4.2.1,(y4.1,()),()))
 ))
 )
 ) (fun y3 =>
 some ((),(y3.2.1,(y3.1,()),()))
 ))
 )
 )
def s126:Su:=⟨[.c false [.sl 5 kk5]],[(true,[.str,.sl 178 kk178]),(false,kk3)],true,.inl fun x=>g126 x.1.1⟩
theorem ok126:SuOK Tryz.prog 126 s126 :=
 fl (ac ok168 (ac ok169 (ac ok170 (ac ok171 an)))) [.d 3 (.int .i64),.box 2 [(false,.str),(true,.sl 178 kk178)]] [(0,⟨[.d 0 (.sl 5 kk5),.d 4 (.str),.d 5 (.int .i64),.own 8 (.sl 3 kk3),.d 9 (.bool),.own 41 (.sl 3 kk3),.d 42 (.int .i64),.d 43 (.int .i64),.box 2 [(false,.str),(true,.sl 178 kk178)]],loopF (un9 r126_0)⟩),(3,⟨[.d 0 (.sl 5 kk5),.d 4 (.str),.d 5 (.int .i64),.own 8 (.sl 3 kk3),.own 76 (.sl 3 kk3),.d 77 (.int .i64),.d 78 (.int .i64),.box 2 [(false,.str),(true,.sl 178 kk178)]],loopF (un8 r126_3)⟩),(5,⟨[.d 0 (.sl 5 kk5),.d 5 (.int .i64),.own 95 (.sl 3 kk3),.d 96 (.int .i64),.d 97 (.int .i64),.box 2 [(false,.str),(true,.sl 178 kk178)],.box 15 [(false,.str),(true,.sl 178 kk178)]],loopF (un7 r126_5)⟩)] [] Tryz.f126 (lp [0,3,5] (sc lp0 (sc lp0 (sc lp0 sn))))
def r172_0 (t6:List R178) (t7 t8:Int) (b1:(List UInt8)×(List R178)×Unit):Rd ((List R178)×Int×Int×Y19×Unit) Y1 :=
 cond (ltI t8 t7) (
 cond (inB t8 t6) (
 let u1:=(gt d178 t6 t8)
 (g228 u1.1 u1.2.1).bind fun y1 =>
 cond (!y1.2.1.1) (
 some (.inr (.inr (false,())))
 ) (
 cond (ltI 0 t8) (
 let u2:=(subW .i64 t8 1)
 cond (inB u2 b1.2.1) (
 cond (leI u1.1 (gt d178 b1.2.1 u2).1) (
 some (.inr (.inr (false,())))
 ) (
 some (.inl (t6,t7,(addW .i64 t8 1),b1,()))
 )
 ) none
 ) (
 some (.inl (t6,t7,(addW .i64 t8 1),b1,()))
 )
 )
 ) none
 ) (
 some (.inr (.inl (t6,t7,t8,b1,())))
 )
def l172_0:=cu4 (loopF (un4 r172_0))
def g172 (p0:(List UInt8)×(List R178)×Unit):Option Y17 :=
 (l172_0 p0.2.1 (lenI p0.2.1) 0 p0).bind (Sum.elim (fun y1 =>
 (g194 y1.2.2.2.1.1 4).bind fun y2 =>
 some ((),(y2.2.1,()))
 ) (fun y1 =>
 some ((),(y1,()))
 ))
def s172:Su:=⟨[.c true [.str,.sl 178 kk178]],[(false,[.bool])],true,.inl fun x=>g172 x.1⟩
theorem ok172:SuOK Tryz.prog 172 s172 :=
 fl (ac ok194 (ac ok228 an)) [.d 2 (.bool)] [(0,⟨[.d 6 (.sl 178 kk178),.d 7 (.int .i64),.d 8 (.int .i64),.box 1 [(false,.str),(false,.sl 178 kk178)]],loopF (un4 r172_0)⟩)] [] Tryz.f172 (lp [0] (sc lp0 sn))
def g173 (p0:List UInt8):Option Y17 :=
 some ((),(((cond (cond (eqS p0 [48,49,48,48]) true (eqS p0 [48,50,48,48])) true (eqS p0 [48,50,50,48])),()),()))
def s173:Su:=⟨[.c false [.str]],[(false,[.bool])],true,.inl fun x=>g173 x.1.1⟩
theorem ok173:SuOK Tryz.prog 173 s173 :=
 fq an Tryz.f173
end
end Go.Av
